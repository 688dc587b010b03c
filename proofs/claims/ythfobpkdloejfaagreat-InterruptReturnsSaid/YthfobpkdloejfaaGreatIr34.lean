/- Chapter 5: a part of its proof (cut by program out of CpuV); no condition. -/
import Derived.Test.YthfobpkdloejfaaGreatIr12
import Derived.Test.YthfobpkdloejfaaGreatIr21
import Derived.Test.YthfobpkdloejfaaGreatIr31
set_option linter.unusedVariables false
set_option linter.unusedSimpArgs false
set_option linter.unusedSectionVars false
set_option maxRecDepth 100000
set_option maxHeartbeats 8000000
section
namespace Go.Proofs.YthfobpkdloejfaaGreat.Cpu
open Go.RowKit Go.Proofs.YthfobpkdloejfaaGreat.PAll Go.Proofs.YthfobpkdloejfaaGreat.One Go.Proofs.YthfobpkdloejfaaGreat.Mem Go.Proofs.YthfobpkdloejfaaGreat.Row Go.Proofs.YthfobpkdloejfaaGreatW.PrintWords Go.Proofs.YthfobpkdloejfaaGreatW.PrintLast Go.Proofs.YthfobpkdloejfaaGreatW.PrintMore Go.Proofs.YthfobpkdloejfaaGreat.Plain
theorem set_b {l : List Int} (hl : ∀ i, 0 ≤ rd l i ∧ rd l i < 65536) (n : Nat) {x : Int} (h0 : 0 ≤ x) (h1 : x < 65536) : ∀ i, 0 ≤ rd (l.set n x) i ∧ rd (l.set n x) i < 65536 := by
 intro i
 have h := hl i
 unfold rd at *
 simp only [List.getD_eq_getElem?_getD, List.getElem?_set] at *
 split
 · rename_i h2; subst h2
   split
   · exact ⟨h0, h1⟩
   · exact ⟨by decide, by decide⟩
 · exact h
theorem eqA26 (d : Nat) (w : World) (x0 y0 : Int) (x1 y1 : Int) (x2 y2 : Int) (x3 y3 : Int) (x4 y4 : Int) (x5 y5 : Int) (x6 y6 : Int) (x7 y7 : Bool) (x8 y8 : Int) (x9 y9 : Bool) (x10 y10 : Int) (x11 y11 : Bool) (x12 y12 : Bool) :
 (Op.equalIn (d + 2) 26 (.agg #[.int .u16 x0, .int .u16 x1, .int .u16 x2, .int .i64 x3, .int .i64 x4, .int .i64 x5, .int .i64 x6, .bool x7, .int .u16 x8, .bool x9, .int .u16 x10, .bool x11, .bool x12]) (.agg #[.int .u16 y0, .int .u16 y1, .int .u16 y2, .int .i64 y3, .int .i64 y4, .int .i64 y5, .int .i64 y6, .bool y7, .int .u16 y8, .bool y9, .int .u16 y10, .bool y11, .bool y12])).run Tryz.prog w = .ok (x0 == y0 && (x1 == y1 && (x2 == y2 && (x3 == y3 && (x4 == y4 && (x5 == y5 && (x6 == y6 && (x7 == y7 && (x8 == y8 && (x9 == y9 && (x10 == y10 && (x11 == y11 && (x12 == y12))))))))))))) w := by
 refine eqA_of Tryz.underlying26 (by kernel_rfl) ?_
 refine eqf_cons (by rfl) (by go_simp; rfl) (by go_simp; rfl) (by go_simp) ?_
 refine eqf_cons (by rfl) (by go_simp; rfl) (by go_simp; rfl) (by go_simp) ?_
 refine eqf_cons (by rfl) (by go_simp; rfl) (by go_simp; rfl) (by go_simp) ?_
 refine eqf_cons (by rfl) (by go_simp; rfl) (by go_simp; rfl) (by go_simp) ?_
 refine eqf_cons (by rfl) (by go_simp; rfl) (by go_simp; rfl) (by go_simp) ?_
 refine eqf_cons (by rfl) (by go_simp; rfl) (by go_simp; rfl) (by go_simp) ?_
 refine eqf_cons (by rfl) (by go_simp; rfl) (by go_simp; rfl) (by go_simp) ?_
 refine eqf_cons (by rfl) (by go_simp; rfl) (by go_simp; rfl) (by go_simp) ?_
 refine eqf_cons (by rfl) (by go_simp; rfl) (by go_simp; rfl) (by go_simp) ?_
 refine eqf_cons (by rfl) (by go_simp; rfl) (by go_simp; rfl) (by go_simp) ?_
 refine eqf_cons (by rfl) (by go_simp; rfl) (by go_simp; rfl) (by go_simp) ?_
 refine eqf_cons (by rfl) (by go_simp; rfl) (by go_simp; rfl) (by go_simp) ?_
 exact eqf_last (by rfl) (by go_simp; rfl) (by go_simp; rfl) (by go_simp)
theorem eqS26 (d : Nat) (w : World) (x0 : Int) (x1 : Int) (x2 : Int) (x3 : Int) (x4 : Int) (x5 : Int) (x6 : Int) (x7 : Bool) (x8 : Int) (x9 : Bool) (x10 : Int) (x11 : Bool) (x12 : Bool) :
 (Op.equalIn (d + 2) 26 (.agg #[.int .u16 x0, .int .u16 x1, .int .u16 x2, .int .i64 x3, .int .i64 x4, .int .i64 x5, .int .i64 x6, .bool x7, .int .u16 x8, .bool x9, .int .u16 x10, .bool x11, .bool x12]) (.agg #[.int .u16 x0, .int .u16 x1, .int .u16 x2, .int .i64 x3, .int .i64 x4, .int .i64 x5, .int .i64 x6, .bool x7, .int .u16 x8, .bool x9, .int .u16 x10, .bool x11, .bool x12])).run Tryz.prog w = .ok true w := by
 rw [eqA26]; simp
end Go.Proofs.YthfobpkdloejfaaGreat.Cpu
end
