/- Rows of one's own that are written element by element: their block, told by name (g). -/
import Derived.Test.YtebnodldfddbnaaF1
import Derived.Test.YtebnodldfddbnaaLit
import Derived.Shelf.Abstract
import Derived.Lib.SmallJoins
namespace Go.Proofs.Ytebnodldfddbnaa.Own
open Go.RowKit Go.Proofs.Ytebnodldfddbnaa.PAll Go.Proofs.YtebnodldfddbnaaW.PrintWords Go.Proofs.YtebnodldfddbnaaW.PrintLast Go.Proofs.YtebnodldfddbnaaW.PrintMore
set_option linter.unusedVariables false
set_option linter.unusedSimpArgs false
/-- The block g holds the list l (of whole numbers of kind ik) and no more is known of it than that it is as large as k; it came behind B. -/
def OW (ik : IntKind) (e : Nat) (w : World) (B g n k : Nat) (l : List Int) : Prop :=
  l.length = n ∧ Kd.R (Kd.int ik) e w B (fun q => q = g) (.slice (some ⟨g, 0, none⟩) n k) l ∧ B ≤ g ∧ g < w.heap.size ∧ (∃ cells, w.heap[g]? = some (.cells cells e (0, 0))) ∧ n ≤ k
section
variable {ik : IntKind} {e : Nat} {w w1 : World} {B g n k : Nat} {l : List Int}
theorem OW.of {v : Value} {ok : Nat → Prop} {W : World} (hR : Kd.R (Kd.int ik) e w B ok v l) (hn : l.length = n) (hp : 0 < n) (hat : ∃ b, v.ownBlock = some b ∧ W.heap.size ≤ b) : ∃ g k, v = .slice (some ⟨g, 0, none⟩) n k ∧ OW ik e w B g n k l ∧ W.heap.size ≤ g := by
  subst hn
  obtain ⟨g, k, rfl, h1, h2, hb⟩ := Kd.R_form hR hp
  obtain ⟨A, c, e1, hc, -⟩ := Kd.R_reads hR
  injection e1 with _ _ e1
  have ht := Kd.R_tight rfl hR
  obtain ⟨b, hb1, hb2⟩ := hat
  have hgb : g = b := by simpa [Value.ownBlock] using hb1
  refine ⟨g, k, rfl, ⟨rfl, Kd.R_mono ht (fun q hq => by simpa [Value.ownBlock] using hq), h1, h2, hb, by omega⟩, by omega⟩
theorem OW.below (h : OW ik e w B g n k l) (hb : Below w.heap.size w w1) : OW ik e w1 B g n k l := by
  obtain ⟨hn, hR, h1, h2, ⟨cs, hc⟩, hk⟩ := h
  exact ⟨hn, Kd.R_below hR hb, h1, Nat.lt_of_lt_of_le h2 hb.size, ⟨cs, (hb.block g h2).trans hc⟩, hk⟩
theorem OW.alloc (h : OW ik e w B g n k l) (o : Obj) : OW ik e (w.alloc o) B g n k l := h.below (below_alloc (Below.refl _ _) o)
theorem OW.drew (h : OW ik e w B g n k l) : OW ik e w.drew B g n k l := h.below (below_drew1 (Below.refl _ _))
theorem OW.drewN (h : OW ik e w B g n k l) (m : Nat) : OW ik e (w.drewN m) B g n k l := h.below (pw_below_drewN (Below.refl _ _) m)
theorem OW.C (h : OW ik e w B g n k l) : Kd.C (Kd.int ik) w (some ⟨g, 0, none⟩) n l := by
  obtain ⟨hn, hR, -⟩ := h
  obtain ⟨A, c, e1, -, hC⟩ := Kd.R_reads hR
  injection e1 with e1 _ _
  subst e1
  rw [hn] at hC; exact hC
theorem OW.cell (h : OW ik e w B g n k l) (i : Int) (h0 : 0 ≤ i) (h1 : i < n) : w.cell? ⟨g, i.toNat, none⟩ = some (.int ik (rd l i)) ∧ w.frozen? ⟨g, i.toNat, none⟩ = false := Kd.R_celln (enc := Value.int ik) (0 : Int) h.2.1 i h0 h1
theorem OW.put (h : OW ik e w B g n k l) (i : Int) (x : Int) : OW ik e (w.setCell ⟨g, i.toNat, none⟩ (.int ik x)) B g n k (l.set i.toNat x) := by
  obtain ⟨hn, hR, h1, h2, ⟨cs, hc⟩, hk⟩ := h
  exact ⟨by rw [List.length_set]; exact hn, Kd.R_putn (enc := Value.int ik) hR i x, h1, by simpa using h2, ⟨_, Go.Joins.block_setCell hc (i := i.toNat) _⟩, hk⟩
theorem OW.far (h : OW ik e w B g n k l) {q : Nat} (hq : q ≠ g) (j : Nat) (u : Value) : OW ik e (w.setCell ⟨q, j, none⟩ u) B g n k l := by
  obtain ⟨hn, hR, h1, h2, ⟨cs, hc⟩, hk⟩ := h
  exact ⟨hn, Kd.R_far hR (fun z hz => by subst hz; exact fun e => hq e.symm) u, h1, by simpa using h2, ⟨cs, (Below.heap_setCell w ⟨q, j, none⟩ u g (fun e => hq e.symm)).trans hc⟩, hk⟩
theorem OW.R_over {α : Type} {d : Kd α} {e' b : Nat} {ok : Nat → Prop} {v : Value} {xs : List α} (h : OW ik e w B g n k l) (hR : d.R e' w b ok v xs) (ht : ∀ q, q ∈ e' :: d.E → q ≠ e) (j : Nat) (u : Value) : d.R e' (w.setCell ⟨g, j, none⟩ u) b ok v xs := by
  obtain ⟨-, -, -, -, ⟨cs, hc⟩, -⟩ := h
  exact Kd.R_set hR hc ht j u
end
theorem rd_set {l : List Int} {n : Nat} (hn : l.length = n) (a x : Int) (h0 : 0 ≤ a) (h1 : a < (n : Int)) (i : Int) (i0 : 0 ≤ i) : rd (l.set a.toNat x) i = if i = a then x else rd l i := by
  subst hn
  unfold rd
  rw [List.getD_eq_getElem?_getD, List.getD_eq_getElem?_getD, List.getElem?_set]
  by_cases e : i = a
  · subst e; rw [if_pos rfl, if_pos (by omega), if_pos rfl]; rfl
  · rw [if_neg (by omega), if_neg e]
end Go.Proofs.Ytebnodldfddbnaa.Own
