/- Chapter 5: a part of its proof (cut by program out of IrL); no condition. -/
import Derived.Test.YthfobpkdloejfaaGreatIr45
set_option linter.unusedVariables false
set_option linter.unusedSimpArgs false
set_option linter.unusedSectionVars false
set_option maxRecDepth 100000
set_option maxHeartbeats 8000000
section
namespace Go.Proofs.YthfobpkdloejfaaGreat.PAll
open Go.RowKit Go.Proofs.YthfobpkdloejfaaGreatW.PrintWords Go.Proofs.YthfobpkdloejfaaGreatW.PrintLast Go.Proofs.YthfobpkdloejfaaGreatW.PrintMore
structure S77 where
 f0 : Int
def k77 : Kd S77 := Kd.iso (Kd.int .u16) (fun x : S77 => x.f0)
end Go.Proofs.YthfobpkdloejfaaGreat.PAll
namespace Go.Proofs.YthfobpkdloejfaaGreat.Cpu
open Go.RowKit Go.Proofs.YthfobpkdloejfaaGreat.PAll Go.Proofs.YthfobpkdloejfaaGreat.One Go.Proofs.YthfobpkdloejfaaGreat.Mem Go.Proofs.YthfobpkdloejfaaGreat.Row Go.Proofs.YthfobpkdloejfaaGreatW.PrintWords Go.Proofs.YthfobpkdloejfaaGreatW.PrintLast Go.Proofs.YthfobpkdloejfaaGreatW.PrintMore Go.Proofs.YthfobpkdloejfaaGreat.Plain
theorem ir_law2 (z0 : S25) (z1 : S28) (A0 : Option Addr) (c0 : Nat) (A1 : Option Addr) (c1 : Nat) (A2 : Option Addr) (c2 : Nat) (z2 : S77) (w : World) (b0 : RgW z0) (l0 : z1.f0.length ≤ c0) (C0 : Kd.C (Kd.int .u16) w A0 z1.f0.length z1.f0) (l1 : z1.f1.length ≤ c1) (C1 : Kd.C (Kd.int .u16) w A1 z1.f1.length z1.f1) (l2 : z1.f2.length ≤ c2) (C2 : Kd.C (Kd.int .u16) w A2 z1.f2.length z1.f2) (b1 : VwW z1) (wy : (Lit.int .u16 z2.f0).wf = true) :
 Calls Tryz.prog 12 #[.agg #[.int .u16 z0.f0, .int .u16 z0.f1, .int .u16 z0.f2, .int .i64 z0.f3, .int .i64 z0.f4, .int .i64 z0.f5, .int .i64 z0.f6, .bool z0.f7, .int .u16 z0.f8, .bool z0.f9, .int .u16 z0.f10, .bool z0.f11, .bool z0.f12], .agg #[.slice A0 z1.f0.length c0, .slice A1 z1.f1.length c1, .slice A2 z1.f2.length c2], .agg #[.int .u16 z2.f0]] w fun e w' => e = .returned (.bool true) ∧ Below w.heap.size w w' := ir_law z0 z1 A0 c0 A1 c1 A2 c2 z2.f0 w b0 l0 C0 l1 C1 l2 C2 b1 wy
end Go.Proofs.YthfobpkdloejfaaGreat.Cpu
end
