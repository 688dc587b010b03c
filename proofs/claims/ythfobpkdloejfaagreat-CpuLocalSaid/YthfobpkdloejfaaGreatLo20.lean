/- Chapter 5: a part of its proof (cut by program out of Lit); no condition. -/
import Derived.Test.YthfobpkdloejfaaGreatLo9
set_option linter.unusedVariables false
set_option linter.unusedSimpArgs false
set_option linter.unusedSectionVars false
set_option maxRecDepth 100000
set_option maxHeartbeats 8000000
section
namespace Go.Proofs.YthfobpkdloejfaaGreat.Lit
open Go.RowKit Go.Deep Go.Proofs.YthfobpkdloejfaaGreatW.PrintWords
theorem take_run {P : Program} (t e : TypeId) (kl : IntKind) {i : TypeInfo} (ht : P.underlying t = some (.slice e)) (hi : P.info? e = some i) (A : Option Addr) (len c : Nat) (j : Int) (h0 : 0 ≤ j) (hm : j ≤ c) (W : World) :
 (Instr.slice t (.slice A len c) none (some (.int kl j)) none).run P W = .ok (.slice A j.toNat c) W := by
 have hel : P.elem t = e := by simp [Program.elem, ht]
 have hu : P.underlying t = some (.slice (P.elem t)) := by rw [hel]; exact ht
 have ha : (A.map fun x => x.add 0) = A := by cases A <;> simp [Addr.add]
 rw [run_slice_h W t A len c hu kl j h0 (by omega), hel]
 simp [sizeOf, typeInfo, hi, sliced, Result.andThen, ha]
theorem cut_any {α : Type} (d : Kd α) {P : Program} (t e : TypeId) {i : TypeInfo} (ht : P.underlying t = some (.slice e)) (hi : P.info? e = some i) (A : Option Addr) (c : Nat) (l : List α) (hc : l.length ≤ c) (n : Int) (hn : 0 ≤ n) (w : World) (hr : Kd.C d w A l.length l) :
 ∃ (j : Int) (m : List α), (if n < (l.length : Int) then n else (l.length : Int)) = j ∧ 0 ≤ j ∧ j ≤ l.length ∧ m.length ≤ n ∧ m.length ≤ c ∧ m = l.take n.toNat ∧
  (∀ W : World, (Instr.slice t (.slice A l.length c) none (some (.int .i64 j)) none).run P W = .ok (.slice A m.length c) W) ∧ Kd.C d w A m.length m := by
 obtain ⟨j, hj⟩ : ∃ j : Int, (if n < (l.length : Int) then n else (l.length : Int)) = j := ⟨_, rfl⟩
 have j0 : 0 ≤ j := by rw [← hj]; split <;> omega
 have j1 : j ≤ l.length := by rw [← hj]; split <;> omega
 have j2 : j ≤ n := by rw [← hj]; split <;> omega
 have hlen : (l.take j.toNat).length = j.toNat := by rw [List.length_take]; omega
 refine ⟨j, l.take j.toNat, hj, j0, j1, by omega, by omega, ?_, fun W => by rw [hlen]; exact take_run t e .i64 ht hi A l.length c j j0 (by omega) W, Kd.C_take hr (by omega)⟩
 rw [← hj]
 split
 · rfl
 · rw [Int.toNat_natCast, List.take_length, List.take_of_length_le (by omega)]
theorem info_some {P : Program} {t : TypeId} {x : Option Value × Nat × Nat} (h : (P.info? t).map (fun i => (i.zero, i.size, i.bytes)) = some x) : ∃ i, P.info? t = some i := by
 cases hi : P.info? t with
 | none => rw [hi] at h; cases h
 | some i => exact ⟨i, rfl⟩
end Go.Proofs.YthfobpkdloejfaaGreat.Lit
end
