/- A whole value stored over a known block, as an event that tells what it leaves; no function of the program in sight. -/
import Derived.Test.YtgaajaddaecejaaRow
namespace Go.Proofs.Ytgaajaddaecejaa.Row
open Go.RowKit Go.Proofs.Ytgaajaddaecejaa.PAll Go.Proofs.YtgaajaddaecejaaW.PrintWords Go.Proofs.YtgaajaddaecejaaW.PrintLast Go.Proofs.YtgaajaddaecejaaW.PrintMore
set_option linter.unusedVariables false
theorem store_row_g {P : Program} {ops : Array Oper} {rest : List Oper} {o : Oper} {a : Act} {W : World} {Q : Exit → Act → World → Prop} (hgd : o.guard = none) (ty : TypeId) (x v : Operand) (ho : o.op = .store ty x v)
    (g : Nat) (hx : a.eval x = .pointer (some ⟨g, 0, none⟩)) (t : TypeId) (cs cs' : Array Value) (hv : a.eval v = .agg cs') (hg : W.heap[g]? = some (.cells cs t (0, 0)))
    (hi : (P.info? ty).map (·.size) = some cs'.size) (hs : cs.size = cs'.size) (h1 : cs'.all (·.oneCell') = true)
    (h : ∀ w1, w1.heap[g]? = some (.cells cs' t (0, 0)) → (∀ k, k ≠ g → w1.heap[k]? = W.heap[k]?) → (∀ B w0, Below B w0 W → B ≤ g → Below B w0 w1) → KeepBut W w1 g none → wpList P ops Q rest (a.put o.dst undef) w1) : wpList P ops Q (o :: rest) a W :=
  store_row_ hgd ty x v ho g hx t cs cs' hv hg hi hs h1 (h _ (setRow_heap _ g _ _ t (0, 0) hg) (fun k hk => setRow_other W g k _ hk)
    (fun B w0 hb hB => ⟨hb.os, hb.tape, hb.output, by rw [size_setRow]; exact hb.size, fun k hk => (setRow_other W g k cs' (by omega)).trans (hb.block k hk)⟩) ⟨by rw [size_setRow]; exact Nat.le_refl _, fun i _ hne _ => setRow_other W g i cs' hne⟩)
theorem drawn_below_ {w W : World} {nd : Nat} (h : W = w.drewN nd) : Below w.heap.size w W := by rw [h]; exact pw_below_drewN (Below.refl _ _) _
end Go.Proofs.Ytgaajaddaecejaa.Row
