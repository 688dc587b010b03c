/- The law InterruptReturns: for every input the call returns true, and each argument reads afterwards as it read before; no condition. -/
import Derived.Below
import Derived.ChangeOld
import Derived.OpenShut
import Derived.ProofKit
import Derived.ShutString
import Derived.SizedLaws
import Derived.Test.YthfobpkdloejfaaGreatRows
import Derived.WalkKit
import Derived.Test.YthfobpkdloejfaaGreatIr46
import Derived.Test.YthfobpkdloejfaaGreatIr47
import Derived.Test.YthfobpkdloejfaaGreatIr48
set_option linter.unusedVariables false
set_option maxRecDepth 100000
namespace Go.Proofs.YthfobpkdloejfaaGreat.interruptReturns
open Go.ChangeShapes Go.WideShapes Go.ChangeAt Go.RowKit
open Go.ChangeMaps (open_string shut_string)
theorem own : ownKnob Tryz.prog.godebug = none := by kernel_rfl
theorem laidOut : laidOutB Tryz.prog = true := by kernel_rfl
def IsRow (k : IntKind) (w : World) (a : Option Addr) (len cap : Nat) (zs : List Int) : Prop :=
 (a = none ∧ len = 0 ∧ cap = 0 ∧ zs = []) ∨
 ∃ x, a = some x ∧ len ≤ cap ∧ cap ≤ maxLen ∧ zs.length = cap ∧ (∀ i, i < zs.length → w.cell? (x.add i) = some (.int k (zs.getD i 0))) ∧ ∀ n ∈ zs, (Lit.int k n).wf = true
theorem lifted (os : Os) (started : os.Started) (H : Type) (enc : TypeId × Value → H) :
 ReturnsInHanded {} Tryz.checked os 12 .any (Rows.interruptReturnsSpec.pre6 enc Tryz.prog Tryz.f12 Rows.interruptReturnsRow.domain false) (Rows.interruptReturnsSpec.post enc Tryz.prog Tryz.f12 false true false false) := by
 refine returnsInHanded_of_change_sized (C := Tryz.checked) own started (by kernel_rfl) Tryz.func12
  (ChangeSpec.witness6 (enc := enc) (C := Tryz.checked) false ⟨#[], #[.agg #[.int .u16 0, .int .u16 0, .int .u16 0, .int .i64 0, .int .i64 0, .int .i64 0, .int .i64 0, .bool false, .int .u16 0, .bool false, .int .u16 0, .bool false, .bool false], .agg #[.slice none 0 0, .slice none 0 0, .slice none 0 0], .agg #[.int .u16 0]], []⟩ 8 (by kernel_rfl) (by kernel_rfl) (by kernel_rfl) (by kernel_rfl)) ?_
 intro W base args ds gs before hval0 hW hcnd hsz0 _
 have hsz : (DataW.weightsEach Tryz.prog (Tryz.f12.params.toList ++ Rows.interruptReturnsSpec.plain.varTypes Tryz.prog) (ds ++ gs)).all (· ≤ reachBytes) = true := hsz0
 have hval : ∀ (j : Nat) t v, Tryz.f12.params[j]? = some t → args[j]? = some v → Value.okWide Tryz.prog W .any base t v := hval0
 have hW' := hW
 obtain ⟨p, q, hA0, hV, rfl, hfz, hnd⟩ := hW
 have hA : DataW.TrodAll enc Tryz.prog W 0 (fun _ => true) true Tryz.f12.params.toList args.toList ds p := hA0
 rw [Tryz.params12] at hA hval hsz
 obtain ⟨v0, vs0, d0, ds0, p0, q0, hargs, rfl, rfl, h0, r0⟩ := trodAll_cons hA
 obtain ⟨v1, vs1, d1, ds1, p1, q1, rfl, rfl, rfl, h1, r1⟩ := trodAll_cons r0
 obtain ⟨v2, vs2, d2, ds2, p2, q2, rfl, rfl, rfl, h2, r2⟩ := trodAll_cons r1
 obtain ⟨rfl, rfl, rfl⟩ := trodAll_nil r2
 obtain rfl : args = #[v0, v1, v2] := by cases args; simp_all
 obtain ⟨rfl, rfl⟩ := trodVars_none hV
 have k0 := h0
 have lt0 : ∀ x ∈ p0, x.block < W.heap.size := by obtain ⟨m, hm⟩ := k0; exact DataW.trod_lt m _ _ _ hm
 obtain ⟨z0, cs0, rfl, w0, b0⟩ := Opens.open_agg (d := PAll.k25) Tryz.underlying26 (Opens.opens_iso (fun x : PAll.S25 => (x.f0, x.f1, x.f2, x.f3, x.f4, x.f5, x.f6, x.f7, x.f8, x.f9, x.f10, x.f11, x.f12)) (fun y => ⟨y.1, y.2.1, y.2.2.1, y.2.2.2.1, y.2.2.2.2.1, y.2.2.2.2.2.1, y.2.2.2.2.2.2.1, y.2.2.2.2.2.2.2.1, y.2.2.2.2.2.2.2.2.1, y.2.2.2.2.2.2.2.2.2.1, y.2.2.2.2.2.2.2.2.2.2.1, y.2.2.2.2.2.2.2.2.2.2.2.1, y.2.2.2.2.2.2.2.2.2.2.2.2⟩) (fun _ => rfl) (Opens.opens_struct Tryz.underlying26 (by kernel_rfl) (Opens.opensF_cons rfl (by kernel_rfl) (Opens.opens_int Tryz.underlying23) (Opens.opensF_cons rfl (by kernel_rfl) (Opens.opens_int Tryz.underlying24) (Opens.opensF_cons rfl (by kernel_rfl) (Opens.opens_int Tryz.underlying24) (Opens.opensF_cons rfl (by kernel_rfl) (Opens.opens_int Tryz.underlying3) (Opens.opensF_cons rfl (by kernel_rfl) (Opens.opens_int Tryz.underlying3) (Opens.opensF_cons rfl (by kernel_rfl) (Opens.opens_int Tryz.underlying3) (Opens.opensF_cons rfl (by kernel_rfl) (Opens.opens_int Tryz.underlying3) (Opens.opensF_cons rfl (by kernel_rfl) (Opens.opens_bool Tryz.underlying4) (Opens.opensF_cons rfl (by kernel_rfl) (Opens.opens_int Tryz.underlying24) (Opens.opensF_cons rfl (by kernel_rfl) (Opens.opens_bool Tryz.underlying4) (Opens.opensF_cons rfl (by kernel_rfl) (Opens.opens_int Tryz.underlying24) (Opens.opensF_cons rfl (by kernel_rfl) (Opens.opens_bool Tryz.underlying4) (Opens.opensF_one rfl (by kernel_rfl) (Opens.opens_bool Tryz.underlying4)))))))))))))))) (hval 0 26 v0 rfl rfl) h0
 obtain ⟨_, _, rfl, rfl, ⟨_, _, rfl, rfl, ⟨_, _, rfl, rfl, ⟨_, _, rfl, rfl, ⟨_, _, rfl, rfl, ⟨_, _, rfl, rfl, ⟨_, _, rfl, rfl, ⟨_, _, rfl, rfl, ⟨_, _, rfl, rfl, ⟨_, _, rfl, rfl, ⟨_, _, rfl, rfl, ⟨_, _, rfl, rfl, rfl⟩⟩⟩⟩⟩⟩⟩⟩⟩⟩⟩⟩ := w0
 have k1 := h1
 have lt1 : ∀ x ∈ p1, x.block < W.heap.size := by obtain ⟨m, hm⟩ := k1; exact DataW.trod_lt m _ _ _ hm
 obtain ⟨z1, cs1, rfl, w1, b1⟩ := Opens.open_agg (d := PAll.k28) Tryz.underlying29 (Opens.opens_iso (fun x : PAll.S28 => (x.f0, x.f1, x.f2)) (fun y => ⟨y.1, y.2.1, y.2.2⟩) (fun _ => rfl) (Opens.opens_struct Tryz.underlying29 (by kernel_rfl) (Opens.opensF_cons rfl (by kernel_rfl) (Opens.opens_slice Tryz.underlying27 (by kernel_rfl) (Opens.opens_int Tryz.underlying24)) (Opens.opensF_cons rfl (by kernel_rfl) (Opens.opens_slice Tryz.underlying27 (by kernel_rfl) (Opens.opens_int Tryz.underlying24)) (Opens.opensF_one rfl (by kernel_rfl) (Opens.opens_slice Tryz.underlying27 (by kernel_rfl) (Opens.opens_int Tryz.underlying24))))))) (hval 1 29 v1 rfl rfl) h1
 obtain ⟨_, _, rfl, ⟨A1_0, c1_0, rfl, hl1_0, hC1_0⟩, ⟨_, _, rfl, ⟨A1_1, c1_1, rfl, hl1_1, hC1_1⟩, ⟨A1_2, c1_2, rfl, hl1_2, hC1_2⟩⟩⟩ := w1
 have k2 := h2
 have lt2 : ∀ x ∈ p2, x.block < W.heap.size := by obtain ⟨m, hm⟩ := k2; exact DataW.trod_lt m _ _ _ hm
 obtain ⟨z2, cs2, rfl, w2, b2⟩ := Opens.open_agg (d := PAll.k77) Tryz.underlying78 (Opens.opens_iso (fun x : PAll.S77 => x.f0) (fun y => ⟨y⟩) (fun _ => rfl) (Opens.opens_struct Tryz.underlying78 (by kernel_rfl) (Opens.opensF_one rfl (by kernel_rfl) (Opens.opens_int Tryz.underlying22)))) (hval 2 78 v2 rfl rfl) h2
 obtain rfl := w2
 clear hA0 hval0 hsz0 hsz
 refine (Go.Proofs.YthfobpkdloejfaaGreat.Cpu.ir_law2 z0 z1 A1_0 c1_0 A1_1 c1_1 A1_2 c1_2 z2 W b0 hl1_0 hC1_0 hl1_1 hC1_1 hl1_2 hC1_2 b1 b2).mono fun e W' ⟨he, bel⟩ => ?_
 subst he
 exact ⟨_, rfl, _, _, _, [], _, [], hW', trodAll_mk1 (shut_bool Tryz.underlying4 _), (trodAll_cons_mk (Below.trod laidOut (by kernel_rfl) (of_decide_eq_true (by kernel_rfl)) k0 bel lt0) (trodAll_cons_mk (Below.trod laidOut (by kernel_rfl) (of_decide_eq_true (by kernel_rfl)) k1 bel lt1) (trodAll_cons_mk (Below.trod laidOut (by kernel_rfl) (of_decide_eq_true (by kernel_rfl)) k2 bel lt2) trodAll_mk0))), rfl, bel.frame _, fun h => by cases h⟩
theorem over : Rows.interruptReturnsRow.holds Tryz.pinned (OpenSpec.ofChange Rows.interruptReturnsSpec) :=
 OpenClaim.holds_of_wide 12 Tryz.f12 rfl rfl rfl rfl rfl rfl rfl ⟨rfl, rfl, rfl, rfl, rfl⟩ rfl rfl rfl rfl rfl (by kernel_rfl) Tryz.func12 (by kernel_rfl)
  (of_decide_eq_true (by kernel_rfl)) (by unfold Func.isWrapper; first | (rw [if_pos (by decide +kernel)]; kernel_rfl) | (rw [if_neg (by decide +kernel)]; exact ⟨rfl, rfl⟩))
  (fun os started H enc _ => lifted os started H enc)
theorem proved : Rows.InterruptReturnsSaid := over
end Go.Proofs.YthfobpkdloejfaaGreat.interruptReturns
namespace Go.Proofs.YthfobpkdloejfaaGreat
/-- The row, under a short name, for the claim. -/
theorem interruptReturns_holds : Rows.InterruptReturnsSaid := interruptReturns.proved
end Go.Proofs.YthfobpkdloejfaaGreat
