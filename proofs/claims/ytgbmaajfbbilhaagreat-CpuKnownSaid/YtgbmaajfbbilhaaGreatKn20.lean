/- Chapter 5: a part of its proof (cut by program out of Sq2); no condition. -/
import Derived.Test.YtgbmaajfbbilhaaGreatKn15
import Derived.Test.YtgbmaajfbbilhaaGreatKn19
set_option linter.unusedVariables false
set_option linter.unusedSimpArgs false
set_option linter.unusedSectionVars false
set_option maxRecDepth 100000
set_option maxHeartbeats 8000000
section
namespace Go.Proofs.YtgbmaajfbbilhaaGreatW.PrintLast
open Go.RowKit Go.Proofs.YtgbmaajfbbilhaaGreat.Row Go.Proofs.YtgbmaajfbbilhaaGreatW.PrintWords Go.Proofs.YtgbmaajfbbilhaaGreatW.PrintMore
theorem kbb_ {w w1 : World} {g : Nat} {o : Obj} (K : Aside0 (w.heap[g]? = some o)) (hb : Below w.heap.size w w1) : Aside0 (w1.heap[g]? = some o) := ⟨blk_below K.out hb⟩
theorem nkb_ {w : World} {g g' : Nat} {o : Obj} (K : Aside0 (w.heap[g]? = some o)) (hg : g' = w.heap.size) : Aside0 (g ≠ g') := ⟨by have := blk_lt K.out; omega⟩
theorem lkb_ {w W : World} {g : Nat} (HB : Aside0 (Below w.heap.size w W)) (hg : g = W.heap.size) : Aside0 (w.heap.size ≤ g) := ⟨by rw [hg]; exact HB.out.size⟩
theorem hbs_ {w W w2 : World} (HB : Aside0 (Below w.heap.size w W)) (hb : Below W.heap.size W w2) : Aside0 (Below w.heap.size w w2) := ⟨below_step HB.out hb⟩
theorem hfr_ {W w1 : World} {g k : Nat} {o : Obj} (hfar : ∀ k, k ≠ g → w1.heap[k]? = W.heap[k]?) (K : Aside0 (W.heap[k]? = some o)) (h : k ≠ g) : Aside0 (w1.heap[k]? = some o) := ⟨(hfar _ h).trans K.out⟩
section
variable {P : Program} {ops : Array Oper} {rest : List Oper} {o : Oper} {a : Act} {W : World} {Q : Exit → Act → World → Prop}
theorem boxq_ (N : Tmp) (cs : Array Value) (t : TypeId) (h : ∀ g, g = W.heap.size → ∀ w1, w1.heap[g]? = some (.cells cs t (0, 0)) → Below W.heap.size W w1 → wpList P ops Q rest (a.put o.dst (.pointer (some ⟨g, 0, none⟩))) w1) (hd : o.dst = some N := by with_reducible rfl) (hgd : o.guard = none := by rfl)
    (hr : (execOp a.eval o).run P W = .ok (.value (.pointer (some ⟨W.heap.size, 0, none⟩))) (W.alloc (.cells cs t (0, 0))) := by first | kernel_rfl | (go_simp; done) | (go_simp; rfl)) : wpList P ops Q (o :: rest) a W := box_event hgd hd hr h
theorem strq_ (ty : TypeId) (x v : Tmp) (g : Nat) (cs' : Array Value) {cs : Array Value} (hg : Aside0 (W.heap[g]? = some (.cells cs ty (0, 0))))
    (h : ∀ w1, w1.heap[g]? = some (.cells cs' ty (0, 0)) → (∀ k, k ≠ g → w1.heap[k]? = W.heap[k]?) → (∀ B w0, Below B w0 W → B ≤ g → Below B w0 w1) → KeepBut W w1 g none → wpList P ops Q rest (a.put o.dst undef) w1) (ho : o.op = .store ty (.tmp x) (.tmp v) := by with_reducible rfl) (hgd : o.guard = none := by rfl)
    (hx : a.eval (.tmp x) = .pointer (some ⟨g, 0, none⟩) := by rfl) (hv : a.eval (.tmp v) = .agg cs' := by rfl) (hi : (P.info? ty).map (·.size) = some cs'.size := by kernel_rfl) (hs : cs.size = cs'.size := by rfl) (h1 : cs'.all (·.oneCell') = true := by kernel_rfl) : wpList P ops Q (o :: rest) a W := store_row_g hgd ty _ _ ho g hx ty cs cs' hv hg.out hi hs h1 h
end
end Go.Proofs.YtgbmaajfbbilhaaGreatW.PrintLast
end
