/- Chapter 5: a part of its proof (cut by program out of Lit); no condition. -/
import Derived.Test.YthfobpkdloejfaaGreatIr9
set_option linter.unusedVariables false
set_option linter.unusedSimpArgs false
set_option linter.unusedSectionVars false
set_option maxRecDepth 100000
set_option maxHeartbeats 8000000
section
namespace Go.Proofs.YthfobpkdloejfaaGreat.Lit
open Go.RowKit Go.Deep Go.Proofs.YthfobpkdloejfaaGreatW.PrintWords
theorem flat_get {α : Type} (f : α → List Value) (s : Nat) (hs : ∀ x, (f x).length = s) : ∀ (xs : List α) (j : Nat) (x : α), xs[j]? = some x → ∀ i, i < s → (xs.flatMap f)[j * s + i]? = (f x)[i]?
 | [], j, x, h, i, hi => by simp at h
 | y :: ys, 0, x, h, i, hi => by
  simp at h; subst h
  rw [List.flatMap_cons, List.getElem?_append_left (by rw [hs]; omega)]; simp
 | y :: ys, j + 1, x, h, i, hi => by
  rw [List.getElem?_cons_succ] at h
  rw [List.flatMap_cons, List.getElem?_append_right (by rw [hs, Nat.add_mul]; omega), hs]
  rw [show (j + 1) * s + i - s = j * s + i by rw [Nat.add_mul]; omega]
  exact flat_get f s hs ys j x h i hi
theorem lit_any {α : Type} (d : Kd α) (f : α → List Value) (hf : ∀ w x, d.K w x (f x)) (W : World) (e : TypeId) (xs : List α) (a n : Nat) (ha : a = W.heap.size) (hn : n = xs.length) (hm : xs.length ≤ 9223372036854775807) :
 Kd.C d (W.alloc (.cells (xs.flatMap f).toArray e)) (some ⟨a, 0, none⟩) n xs := by
 subst ha; subst hn
 refine ⟨rfl, hm, fun _ => ⟨_, rfl, fun j p hp => ⟨f p, d.K_len (hf W p), hf _ p, fun i u hu => ?_⟩⟩⟩
 have hi : i < d.sz := by
  have := (List.getElem?_eq_some_iff.1 hu).1
  rwa [d.K_len (hf W p)] at this
 rw [show (⟨W.heap.size, 0, none⟩ : Addr).add (j * d.sz + i) = ⟨W.heap.size, j * d.sz + i, none⟩ by unfold Addr.add; split <;> simp_all]
 rw [World.cell?_alloc_mark]
 show (xs.flatMap f).toArray[j * d.sz + i]? = some u
 rw [List.getElem?_toArray, flat_get f d.sz (fun x => d.K_len (hf W x)) xs j p hp i hi]
 exact hu
theorem take_run {P : Program} (t e : TypeId) (kl : IntKind) {i : TypeInfo} (ht : P.underlying t = some (.slice e)) (hi : P.info? e = some i) (A : Option Addr) (len c : Nat) (j : Int) (h0 : 0 ≤ j) (hm : j ≤ c) (W : World) :
 (Instr.slice t (.slice A len c) none (some (.int kl j)) none).run P W = .ok (.slice A j.toNat c) W := by
 have hel : P.elem t = e := by simp [Program.elem, ht]
 have hu : P.underlying t = some (.slice (P.elem t)) := by rw [hel]; exact ht
 have ha : (A.map fun x => x.add 0) = A := by cases A <;> simp [Addr.add]
 rw [run_slice_h W t A len c hu kl j h0 (by omega), hel]
 simp [sizeOf, typeInfo, hi, sliced, Result.andThen, ha]
theorem cut_any {α : Type} (d : Kd α) {P : Program} (t e : TypeId) {i : TypeInfo} (ht : P.underlying t = some (.slice e)) (hi : P.info? e = some i) (A : Option Addr) (c : Nat) (l : List α) (hc : l.length ≤ c) (n : Int) (hn : 0 ≤ n) (w : World) (hr : Kd.C d w A l.length l) :
 ∃ (j : Int) (m : List α), (if n < (l.length : Int) then n else (l.length : Int)) = j ∧ 0 ≤ j ∧ j ≤ l.length ∧ m.length ≤ n ∧ m.length ≤ c ∧ m = l.take n.toNat ∧
  (∀ W : World, (Instr.slice t (.slice A l.length c) none (some (.int .i64 j)) none).run P W = .ok (.slice A m.length c) W) ∧ Kd.C d w A m.length m := by
 obtain ⟨j, hj⟩ : ∃ j : Int, (if n < (l.length : Int) then n else (l.length : Int)) = j := ⟨_, rfl⟩
 have j0 : 0 ≤ j := by rw [← hj]; split <;> omega
 have j1 : j ≤ l.length := by rw [← hj]; split <;> omega
 have j2 : j ≤ n := by rw [← hj]; split <;> omega
 have hlen : (l.take j.toNat).length = j.toNat := by rw [List.length_take]; omega
 refine ⟨j, l.take j.toNat, hj, j0, j1, by omega, by omega, ?_, fun W => by rw [hlen]; exact take_run t e .i64 ht hi A l.length c j j0 (by omega) W, Kd.C_take hr (by omega)⟩
 rw [← hj]
 split
 · rfl
 · rw [Int.toNat_natCast, List.take_length, List.take_of_length_le (by omega)]
theorem info_some {P : Program} {t : TypeId} {x : Option Value × Nat × Nat} (h : (P.info? t).map (fun i => (i.zero, i.size, i.bytes)) = some x) : ∃ i, P.info? t = some i := by
 cases hi : P.info? t with
 | none => rw [hi] at h; cases h
 | some i => exact ⟨i, rfl⟩
end Go.Proofs.YthfobpkdloejfaaGreat.Lit
end
