/- Chapter 5: a part of its proof (cut by program out of Row, Row2); no condition. -/
import Derived.Deep.WholeRow
import Derived.Shelf.RegionOpen
import Derived.Test.YtgbmaajfbbilhaaGreatKn10
set_option linter.unusedVariables false
set_option linter.unusedSimpArgs false
set_option linter.unusedSectionVars false
set_option maxRecDepth 100000
set_option maxHeartbeats 8000000
section
namespace Go.Proofs.YtgbmaajfbbilhaaGreat.Row
open Go.RowKit Go.Proofs.YtgbmaajfbbilhaaGreat.PAll Go.Proofs.YtgbmaajfbbilhaaGreatW.PrintWords Go.Proofs.YtgbmaajfbbilhaaGreatW.PrintLast Go.Proofs.YtgbmaajfbbilhaaGreatW.PrintMore
set_option linter.unusedVariables false
theorem run_store_row {P : Program} {o : Oper} {a : Act} {W : World} (ty : TypeId) (x v : Operand) (ho : o.op = .store ty x v)
    (g : Nat) (hx : a.eval x = .pointer (some ⟨g, 0, none⟩)) (t : TypeId) (cs cs' : Array Value) (hv : a.eval v = .agg cs') (hg : W.heap[g]? = some (.cells cs t (0, 0)))
    (hi : (P.info? ty).map (·.size) = some cs'.size) (hs : cs.size = cs'.size) (h1 : cs'.all (·.oneCell') = true) : (execOp a.eval o).run P W = .ok .skip (W.setRow g cs') := by
  unfold execOp
  simp only [ho, hx, hv, Instr.storeAt, Instr.sureAddr, Sem.run_bind, Sem.run_pure, Result.andThen_ok, run_storeVar_row W g t ty cs cs' hg hi hs h1]
theorem store_row_ {P : Program} {ops : Array Oper} {rest : List Oper} {o : Oper} {a : Act} {W : World} {Q : Exit → Act → World → Prop} (hgd : o.guard = none) (ty : TypeId) (x v : Operand) (ho : o.op = .store ty x v)
    (g : Nat) (hx : a.eval x = .pointer (some ⟨g, 0, none⟩)) (t : TypeId) (cs cs' : Array Value) (hv : a.eval v = .agg cs') (hg : W.heap[g]? = some (.cells cs t (0, 0)))
    (hi : (P.info? ty).map (·.size) = some cs'.size) (hs : cs.size = cs'.size) (h1 : cs'.all (·.oneCell') = true)
    (h : wpList P ops Q rest (a.put o.dst undef) (W.setRow g cs')) : wpList P ops Q (o :: rest) a W := by
  refine wpList_plain hgd fun K hK => ?_
  unfold Oper.wp
  rw [run_store_row ty x v ho g hx t cs cs' hv hg hi hs h1]
  exact hK _ _ h
theorem run_index_op {P : Program} {o : Oper} {a : Act} {W : World} {v X I : Value} (ty : TypeId) (x i : Operand) (ho : o.op = .index ty x i) (hx : a.eval x = X) (hi : a.eval i = I)
    (h : (Instr.index ty X I).run P W = .ok v W) : (execOp a.eval o).run P W = .ok (.value v) W := by
  unfold execOp
  simp only [ho, hx, hi, Sem.run_bind, h, Sem.run_pure, Result.andThen_ok]
theorem below_setRow {B : Nat} {w W : World} (h : Below B w W) {g : Nat} (hg : B ≤ g) (cs : Array Value) : Below B w (W.setRow g cs) :=
  ⟨h.os, h.tape, h.output, by rw [size_setRow]; exact h.size, fun k hk => (setRow_other W g k cs (by omega)).trans (h.block k hk)⟩
theorem blk_row {w : World} {g : Nat} {t : TypeId} {cs : Array Value} (h : w.heap[g]? = some (.cells cs t (0, 0))) (cs' : Array Value) : (w.setRow g cs').heap[g]? = some (.cells cs' t (0, 0)) := setRow_heap _ g _ _ t (0, 0) h
theorem blk_row_far {w : World} {g g' : Nat} {x : Option Obj} (h : w.heap[g']? = x) (hne : g' ≠ g) (cs : Array Value) : (w.setRow g cs).heap[g']? = x := (setRow_other w g g' cs hne).trans h
end Go.Proofs.YtgbmaajfbbilhaaGreat.Row
end
section
namespace Go.Proofs.YtgbmaajfbbilhaaGreat.Row
open Go.RowKit Go.Proofs.YtgbmaajfbbilhaaGreat.PAll Go.Proofs.YtgbmaajfbbilhaaGreatW.PrintWords Go.Proofs.YtgbmaajfbbilhaaGreatW.PrintLast Go.Proofs.YtgbmaajfbbilhaaGreatW.PrintMore
set_option linter.unusedVariables false
theorem store_row_g {P : Program} {ops : Array Oper} {rest : List Oper} {o : Oper} {a : Act} {W : World} {Q : Exit → Act → World → Prop} (hgd : o.guard = none) (ty : TypeId) (x v : Operand) (ho : o.op = .store ty x v)
    (g : Nat) (hx : a.eval x = .pointer (some ⟨g, 0, none⟩)) (t : TypeId) (cs cs' : Array Value) (hv : a.eval v = .agg cs') (hg : W.heap[g]? = some (.cells cs t (0, 0)))
    (hi : (P.info? ty).map (·.size) = some cs'.size) (hs : cs.size = cs'.size) (h1 : cs'.all (·.oneCell') = true)
    (h : ∀ w1, w1.heap[g]? = some (.cells cs' t (0, 0)) → (∀ k, k ≠ g → w1.heap[k]? = W.heap[k]?) → (∀ B w0, Below B w0 W → B ≤ g → Below B w0 w1) → KeepBut W w1 g none → wpList P ops Q rest (a.put o.dst undef) w1) : wpList P ops Q (o :: rest) a W :=
  store_row_ hgd ty x v ho g hx t cs cs' hv hg hi hs h1 (h _ (setRow_heap _ g _ _ t (0, 0) hg) (fun k hk => setRow_other W g k _ hk)
    (fun B w0 hb hB => ⟨hb.os, hb.tape, hb.output, by rw [size_setRow]; exact hb.size, fun k hk => (setRow_other W g k cs' (by omega)).trans (hb.block k hk)⟩) ⟨by rw [size_setRow]; exact Nat.le_refl _, fun i _ hne _ => setRow_other W g i cs' hne⟩)
theorem drawn_below_ {w W : World} {nd : Nat} (h : W = w.drewN nd) : Below w.heap.size w W := by rw [h]; exact pw_below_drewN (Below.refl _ _) _
end Go.Proofs.YtgbmaajfbbilhaaGreat.Row
end
