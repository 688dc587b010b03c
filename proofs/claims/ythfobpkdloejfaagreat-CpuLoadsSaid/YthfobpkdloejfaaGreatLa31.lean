/- Chapter 5: a part of its proof (cut by program out of Isa); no condition. -/
import Derived.Lib.Hide
import Derived.Test.YthfobpkdloejfaaGreatLa12
import Derived.Test.YthfobpkdloejfaaGreatLa22
set_option linter.unusedVariables false
set_option linter.unusedSimpArgs false
set_option linter.unusedSectionVars false
set_option maxRecDepth 100000
set_option maxHeartbeats 8000000
section
namespace Go.Proofs.YthfobpkdloejfaaGreat.PAll
open Go.RowKit Go.Proofs.YthfobpkdloejfaaGreat.PAll Go.Proofs.YthfobpkdloejfaaGreat.Row Go.Proofs.YthfobpkdloejfaaGreatW.PrintWords Go.Proofs.YthfobpkdloejfaaGreatW.PrintLast Go.Proofs.YthfobpkdloejfaaGreatW.PrintMore
def basicV : Array Value := #[.string (⟨#[84, 67]⟩ : ByteArray), .int .u8 3, .int .i64 0, .int .i64 1, .string (⟨#[69, 88, 84, 69, 78, 68]⟩ : ByteArray), .int .u8 0, .int .i64 6, .int .i64 1, .string (⟨#[73, 78, 72, 73, 78, 84]⟩ : ByteArray), .int .u8 0, .int .i64 4, .int .i64 1, .string (⟨#[82, 69, 76, 73, 78, 84]⟩ : ByteArray), .int .u8 0, .int .i64 3, .int .i64 1, .string (⟨#[67, 67, 83]⟩ : ByteArray), .int .u8 1, .int .i64 4096, .int .i64 2, .string (⟨#[84, 67, 70]⟩ : ByteArray), .int .u8 2, .int .i64 4096, .int .i64 1, .string (⟨#[68, 65, 83]⟩ : ByteArray), .int .u8 1, .int .i64 8192, .int .i64 3, .string (⟨#[76, 88, 67, 72]⟩ : ByteArray), .int .u8 1, .int .i64 9216, .int .i64 2, .string (⟨#[73, 78, 67, 82]⟩ : ByteArray), .int .u8 1, .int .i64 10240, .int .i64 2, .string (⟨#[65, 68, 83]⟩ : ByteArray), .int .u8 1, .int .i64 11264, .int .i64 2, .string (⟨#[67, 65]⟩ : ByteArray), .int .u8 3, .int .i64 12288, .int .i64 2, .string (⟨#[67, 83]⟩ : ByteArray), .int .u8 3, .int .i64 16384, .int .i64 2, .string (⟨#[73, 78, 68, 69, 88]⟩ : ByteArray), .int .u8 1, .int .i64 20480, .int .i64 2, .string (⟨#[82, 69, 83, 85, 77, 69]⟩ : ByteArray), .int .u8 0, .int .i64 20495, .int .i64 2, .string (⟨#[68, 88, 67, 72]⟩ : ByteArray), .int .u8 1, .int .i64 21504, .int .i64 3, .string (⟨#[84, 83]⟩ : ByteArray), .int .u8 1, .int .i64 22528, .int .i64 2, .string (⟨#[88, 67, 72]⟩ : ByteArray), .int .u8 1, .int .i64 23552, .int .i64 2, .string (⟨#[65, 68]⟩ : ByteArray), .int .u8 3, .int .i64 24576, .int .i64 2, .string (⟨#[77, 65, 83, 75]⟩ : ByteArray), .int .u8 3, .int .i64 28672, .int .i64 2]
def extendedV : Array Value := #[.string (⟨#[82, 69, 65, 68]⟩ : ByteArray), .int .u8 4, .int .i64 0, .int .i64 2, .string (⟨#[87, 82, 73, 84, 69]⟩ : ByteArray), .int .u8 4, .int .i64 512, .int .i64 2, .string (⟨#[82, 65, 78, 68]⟩ : ByteArray), .int .u8 4, .int .i64 1024, .int .i64 2, .string (⟨#[87, 65, 78, 68]⟩ : ByteArray), .int .u8 4, .int .i64 1536, .int .i64 2, .string (⟨#[82, 79, 82]⟩ : ByteArray), .int .u8 4, .int .i64 2048, .int .i64 2, .string (⟨#[87, 79, 82]⟩ : ByteArray), .int .u8 4, .int .i64 2560, .int .i64 2, .string (⟨#[82, 88, 79, 82]⟩ : ByteArray), .int .u8 4, .int .i64 3072, .int .i64 2, .string (⟨#[69, 68, 82, 85, 80, 84]⟩ : ByteArray), .int .u8 4, .int .i64 3584, .int .i64 3, .string (⟨#[68, 86]⟩ : ByteArray), .int .u8 1, .int .i64 4096, .int .i64 6, .string (⟨#[66, 90, 70]⟩ : ByteArray), .int .u8 2, .int .i64 4096, .int .i64 2, .string (⟨#[77, 83, 85]⟩ : ByteArray), .int .u8 1, .int .i64 8192, .int .i64 2, .string (⟨#[81, 88, 67, 72]⟩ : ByteArray), .int .u8 1, .int .i64 9216, .int .i64 2, .string (⟨#[65, 85, 71]⟩ : ByteArray), .int .u8 1, .int .i64 10240, .int .i64 2, .string (⟨#[68, 73, 77]⟩ : ByteArray), .int .u8 1, .int .i64 11264, .int .i64 2, .string (⟨#[68, 67, 65]⟩ : ByteArray), .int .u8 3, .int .i64 12288, .int .i64 3, .string (⟨#[68, 67, 83]⟩ : ByteArray), .int .u8 3, .int .i64 16384, .int .i64 3, .string (⟨#[88, 73, 78, 68, 69, 88]⟩ : ByteArray), .int .u8 3, .int .i64 20480, .int .i64 2, .string (⟨#[83, 85]⟩ : ByteArray), .int .u8 1, .int .i64 24576, .int .i64 2, .string (⟨#[66, 90, 77, 70]⟩ : ByteArray), .int .u8 2, .int .i64 24576, .int .i64 2, .string (⟨#[77, 80]⟩ : ByteArray), .int .u8 3, .int .i64 28672, .int .i64 3]
theorem basic_c (w : World) : Calls Tryz.prog 158 #[] w fun e w' => e = .returned (.agg basicV) ∧ Below w.heap.size w w' := by
 have HB := Aside0.mk (Below.refl w.heap.size w)
 go_enter Tryz.func158, Tryz.ntmps158
 go_wp2_with (first | ((with_reducible refine gate_dst (N := 0) rfl ?_); refine box_event ?hg (N := 0) ?hd (cs := #[.string (⟨#[]⟩ : ByteArray), .int .u8 0, .int .i64 0, .int .i64 0, .string (⟨#[]⟩ : ByteArray), .int .u8 0, .int .i64 0, .int .i64 0, .string (⟨#[]⟩ : ByteArray), .int .u8 0, .int .i64 0, .int .i64 0, .string (⟨#[]⟩ : ByteArray), .int .u8 0, .int .i64 0, .int .i64 0, .string (⟨#[]⟩ : ByteArray), .int .u8 0, .int .i64 0, .int .i64 0, .string (⟨#[]⟩ : ByteArray), .int .u8 0, .int .i64 0, .int .i64 0, .string (⟨#[]⟩ : ByteArray), .int .u8 0, .int .i64 0, .int .i64 0, .string (⟨#[]⟩ : ByteArray), .int .u8 0, .int .i64 0, .int .i64 0, .string (⟨#[]⟩ : ByteArray), .int .u8 0, .int .i64 0, .int .i64 0, .string (⟨#[]⟩ : ByteArray), .int .u8 0, .int .i64 0, .int .i64 0, .string (⟨#[]⟩ : ByteArray), .int .u8 0, .int .i64 0, .int .i64 0, .string (⟨#[]⟩ : ByteArray), .int .u8 0, .int .i64 0, .int .i64 0, .string (⟨#[]⟩ : ByteArray), .int .u8 0, .int .i64 0, .int .i64 0, .string (⟨#[]⟩ : ByteArray), .int .u8 0, .int .i64 0, .int .i64 0, .string (⟨#[]⟩ : ByteArray), .int .u8 0, .int .i64 0, .int .i64 0, .string (⟨#[]⟩ : ByteArray), .int .u8 0, .int .i64 0, .int .i64 0, .string (⟨#[]⟩ : ByteArray), .int .u8 0, .int .i64 0, .int .i64 0, .string (⟨#[]⟩ : ByteArray), .int .u8 0, .int .i64 0, .int .i64 0, .string (⟨#[]⟩ : ByteArray), .int .u8 0, .int .i64 0, .int .i64 0]) (t := 158) ?hr ?_; (case hd => rfl); (case hg => rfl); (case hr => kernel_rfl); intro g hg w1 K hb; have Hg := Aside0.mk hg; clear hg) | ((with_reducible refine gate_dst (N := 20) rfl ?_); refine Kd.event_run (v := .agg basicV) (w1 := w1) rfl ?hr2 ?_; (case hr2 => kernel_rfl)) | (refine store_row_ rfl 158 (.tmp 0) (.tmp 20) rfl g rfl 158 _ basicV rfl K ?hi ?hs ?h1 ?_; (case hi => kernel_rfl); (case hs => kernel_rfl); (case h1 => kernel_rfl)))
 refine bodyPost_ret (results_cell_row rfl _ _ g 158 basicV (0, 0) _ rfl (setRow_heap _ g _ _ 158 (0, 0) K) Tryz.underlying158 rfl (by kernel_rfl)) rfl ⟨rfl, below_setRow (below_step HB.out hb) (Nat.le_of_eq Hg.out.symm) _⟩
theorem extended_c (w : World) : Calls Tryz.prog 159 #[] w fun e w' => e = .returned (.agg extendedV) ∧ Below w.heap.size w w' := by
 have HB := Aside0.mk (Below.refl w.heap.size w)
 go_enter Tryz.func159, Tryz.ntmps159
 go_wp2_with (first | ((with_reducible refine gate_dst (N := 0) rfl ?_); refine box_event ?hg (N := 0) ?hd (cs := #[.string (⟨#[]⟩ : ByteArray), .int .u8 0, .int .i64 0, .int .i64 0, .string (⟨#[]⟩ : ByteArray), .int .u8 0, .int .i64 0, .int .i64 0, .string (⟨#[]⟩ : ByteArray), .int .u8 0, .int .i64 0, .int .i64 0, .string (⟨#[]⟩ : ByteArray), .int .u8 0, .int .i64 0, .int .i64 0, .string (⟨#[]⟩ : ByteArray), .int .u8 0, .int .i64 0, .int .i64 0, .string (⟨#[]⟩ : ByteArray), .int .u8 0, .int .i64 0, .int .i64 0, .string (⟨#[]⟩ : ByteArray), .int .u8 0, .int .i64 0, .int .i64 0, .string (⟨#[]⟩ : ByteArray), .int .u8 0, .int .i64 0, .int .i64 0, .string (⟨#[]⟩ : ByteArray), .int .u8 0, .int .i64 0, .int .i64 0, .string (⟨#[]⟩ : ByteArray), .int .u8 0, .int .i64 0, .int .i64 0, .string (⟨#[]⟩ : ByteArray), .int .u8 0, .int .i64 0, .int .i64 0, .string (⟨#[]⟩ : ByteArray), .int .u8 0, .int .i64 0, .int .i64 0, .string (⟨#[]⟩ : ByteArray), .int .u8 0, .int .i64 0, .int .i64 0, .string (⟨#[]⟩ : ByteArray), .int .u8 0, .int .i64 0, .int .i64 0, .string (⟨#[]⟩ : ByteArray), .int .u8 0, .int .i64 0, .int .i64 0, .string (⟨#[]⟩ : ByteArray), .int .u8 0, .int .i64 0, .int .i64 0, .string (⟨#[]⟩ : ByteArray), .int .u8 0, .int .i64 0, .int .i64 0, .string (⟨#[]⟩ : ByteArray), .int .u8 0, .int .i64 0, .int .i64 0, .string (⟨#[]⟩ : ByteArray), .int .u8 0, .int .i64 0, .int .i64 0, .string (⟨#[]⟩ : ByteArray), .int .u8 0, .int .i64 0, .int .i64 0]) (t := 160) ?hr ?_; (case hd => rfl); (case hg => rfl); (case hr => kernel_rfl); intro g hg w1 K hb; have Hg := Aside0.mk hg; clear hg) | ((with_reducible refine gate_dst (N := 21) rfl ?_); refine Kd.event_run (v := .agg extendedV) (w1 := w1) rfl ?hr2 ?_; (case hr2 => kernel_rfl)) | (refine store_row_ rfl 160 (.tmp 0) (.tmp 21) rfl g rfl 160 _ extendedV rfl K ?hi ?hs ?h1 ?_; (case hi => kernel_rfl); (case hs => kernel_rfl); (case h1 => kernel_rfl)))
 refine bodyPost_ret (results_cell_row rfl _ _ g 160 extendedV (0, 0) _ rfl (setRow_heap _ g _ _ 160 (0, 0) K) Tryz.underlying160 rfl (by kernel_rfl)) rfl ⟨rfl, below_setRow (below_step HB.out hb) (Nat.le_of_eq Hg.out.symm) _⟩
def ENT : List (ByteArray × Int × Int × Int) := [((⟨#[84, 67]⟩ : ByteArray), 3, 0, 1), ((⟨#[69, 88, 84, 69, 78, 68]⟩ : ByteArray), 0, 6, 1), ((⟨#[73, 78, 72, 73, 78, 84]⟩ : ByteArray), 0, 4, 1), ((⟨#[82, 69, 76, 73, 78, 84]⟩ : ByteArray), 0, 3, 1), ((⟨#[67, 67, 83]⟩ : ByteArray), 1, 4096, 2), ((⟨#[84, 67, 70]⟩ : ByteArray), 2, 4096, 1), ((⟨#[68, 65, 83]⟩ : ByteArray), 1, 8192, 3), ((⟨#[76, 88, 67, 72]⟩ : ByteArray), 1, 9216, 2), ((⟨#[73, 78, 67, 82]⟩ : ByteArray), 1, 10240, 2), ((⟨#[65, 68, 83]⟩ : ByteArray), 1, 11264, 2), ((⟨#[67, 65]⟩ : ByteArray), 3, 12288, 2), ((⟨#[67, 83]⟩ : ByteArray), 3, 16384, 2), ((⟨#[73, 78, 68, 69, 88]⟩ : ByteArray), 1, 20480, 2), ((⟨#[82, 69, 83, 85, 77, 69]⟩ : ByteArray), 0, 20495, 2), ((⟨#[68, 88, 67, 72]⟩ : ByteArray), 1, 21504, 3), ((⟨#[84, 83]⟩ : ByteArray), 1, 22528, 2), ((⟨#[88, 67, 72]⟩ : ByteArray), 1, 23552, 2), ((⟨#[65, 68]⟩ : ByteArray), 3, 24576, 2), ((⟨#[77, 65, 83, 75]⟩ : ByteArray), 3, 28672, 2), ((⟨#[82, 69, 65, 68]⟩ : ByteArray), 4, 0, 2), ((⟨#[87, 82, 73, 84, 69]⟩ : ByteArray), 4, 512, 2), ((⟨#[82, 65, 78, 68]⟩ : ByteArray), 4, 1024, 2), ((⟨#[87, 65, 78, 68]⟩ : ByteArray), 4, 1536, 2), ((⟨#[82, 79, 82]⟩ : ByteArray), 4, 2048, 2), ((⟨#[87, 79, 82]⟩ : ByteArray), 4, 2560, 2), ((⟨#[82, 88, 79, 82]⟩ : ByteArray), 4, 3072, 2), ((⟨#[69, 68, 82, 85, 80, 84]⟩ : ByteArray), 4, 3584, 3), ((⟨#[68, 86]⟩ : ByteArray), 1, 4096, 6), ((⟨#[66, 90, 70]⟩ : ByteArray), 2, 4096, 2), ((⟨#[77, 83, 85]⟩ : ByteArray), 1, 8192, 2), ((⟨#[81, 88, 67, 72]⟩ : ByteArray), 1, 9216, 2), ((⟨#[65, 85, 71]⟩ : ByteArray), 1, 10240, 2), ((⟨#[68, 73, 77]⟩ : ByteArray), 1, 11264, 2), ((⟨#[68, 67, 65]⟩ : ByteArray), 3, 12288, 3), ((⟨#[68, 67, 83]⟩ : ByteArray), 3, 16384, 3), ((⟨#[88, 73, 78, 68, 69, 88]⟩ : ByteArray), 3, 20480, 2), ((⟨#[83, 85]⟩ : ByteArray), 1, 24576, 2), ((⟨#[66, 90, 77, 70]⟩ : ByteArray), 2, 24576, 2), ((⟨#[77, 80]⟩ : ByteArray), 3, 28672, 3)]
def entOf (c : Int) : ByteArray × Int × Int × Int := ENT.getD (c - 1).toNat (⟨#[]⟩, 0, 0, 0)
def isa_row.f (a0 : Int) : Option (ByteArray × Int × Int × Int) := if 1 ≤ a0 ∧ a0 ≤ 39 then some (entOf a0) else none
theorem ix_basic_1 (W : World) : (Instr.index 158 (.agg basicV) (.int .u8 (1 - 1))).run Tryz.prog W = .ok (.agg #[.string (entOf 1).1, .int .u8 (entOf 1).2.1, .int .i64 (entOf 1).2.2.1, .int .i64 (entOf 1).2.2.2]) W := by kernel_rfl
theorem ix_basic_2 (W : World) : (Instr.index 158 (.agg basicV) (.int .u8 (2 - 1))).run Tryz.prog W = .ok (.agg #[.string (entOf 2).1, .int .u8 (entOf 2).2.1, .int .i64 (entOf 2).2.2.1, .int .i64 (entOf 2).2.2.2]) W := by kernel_rfl
theorem ix_basic_3 (W : World) : (Instr.index 158 (.agg basicV) (.int .u8 (3 - 1))).run Tryz.prog W = .ok (.agg #[.string (entOf 3).1, .int .u8 (entOf 3).2.1, .int .i64 (entOf 3).2.2.1, .int .i64 (entOf 3).2.2.2]) W := by kernel_rfl
theorem ix_basic_4 (W : World) : (Instr.index 158 (.agg basicV) (.int .u8 (4 - 1))).run Tryz.prog W = .ok (.agg #[.string (entOf 4).1, .int .u8 (entOf 4).2.1, .int .i64 (entOf 4).2.2.1, .int .i64 (entOf 4).2.2.2]) W := by kernel_rfl
theorem ix_basic_5 (W : World) : (Instr.index 158 (.agg basicV) (.int .u8 (5 - 1))).run Tryz.prog W = .ok (.agg #[.string (entOf 5).1, .int .u8 (entOf 5).2.1, .int .i64 (entOf 5).2.2.1, .int .i64 (entOf 5).2.2.2]) W := by kernel_rfl
theorem ix_basic_6 (W : World) : (Instr.index 158 (.agg basicV) (.int .u8 (6 - 1))).run Tryz.prog W = .ok (.agg #[.string (entOf 6).1, .int .u8 (entOf 6).2.1, .int .i64 (entOf 6).2.2.1, .int .i64 (entOf 6).2.2.2]) W := by kernel_rfl
theorem ix_basic_7 (W : World) : (Instr.index 158 (.agg basicV) (.int .u8 (7 - 1))).run Tryz.prog W = .ok (.agg #[.string (entOf 7).1, .int .u8 (entOf 7).2.1, .int .i64 (entOf 7).2.2.1, .int .i64 (entOf 7).2.2.2]) W := by kernel_rfl
theorem ix_basic_8 (W : World) : (Instr.index 158 (.agg basicV) (.int .u8 (8 - 1))).run Tryz.prog W = .ok (.agg #[.string (entOf 8).1, .int .u8 (entOf 8).2.1, .int .i64 (entOf 8).2.2.1, .int .i64 (entOf 8).2.2.2]) W := by kernel_rfl
theorem ix_basic_9 (W : World) : (Instr.index 158 (.agg basicV) (.int .u8 (9 - 1))).run Tryz.prog W = .ok (.agg #[.string (entOf 9).1, .int .u8 (entOf 9).2.1, .int .i64 (entOf 9).2.2.1, .int .i64 (entOf 9).2.2.2]) W := by kernel_rfl
theorem ix_basic_10 (W : World) : (Instr.index 158 (.agg basicV) (.int .u8 (10 - 1))).run Tryz.prog W = .ok (.agg #[.string (entOf 10).1, .int .u8 (entOf 10).2.1, .int .i64 (entOf 10).2.2.1, .int .i64 (entOf 10).2.2.2]) W := by kernel_rfl
theorem ix_basic_11 (W : World) : (Instr.index 158 (.agg basicV) (.int .u8 (11 - 1))).run Tryz.prog W = .ok (.agg #[.string (entOf 11).1, .int .u8 (entOf 11).2.1, .int .i64 (entOf 11).2.2.1, .int .i64 (entOf 11).2.2.2]) W := by kernel_rfl
theorem ix_basic_12 (W : World) : (Instr.index 158 (.agg basicV) (.int .u8 (12 - 1))).run Tryz.prog W = .ok (.agg #[.string (entOf 12).1, .int .u8 (entOf 12).2.1, .int .i64 (entOf 12).2.2.1, .int .i64 (entOf 12).2.2.2]) W := by kernel_rfl
theorem ix_basic_13 (W : World) : (Instr.index 158 (.agg basicV) (.int .u8 (13 - 1))).run Tryz.prog W = .ok (.agg #[.string (entOf 13).1, .int .u8 (entOf 13).2.1, .int .i64 (entOf 13).2.2.1, .int .i64 (entOf 13).2.2.2]) W := by kernel_rfl
theorem ix_basic_14 (W : World) : (Instr.index 158 (.agg basicV) (.int .u8 (14 - 1))).run Tryz.prog W = .ok (.agg #[.string (entOf 14).1, .int .u8 (entOf 14).2.1, .int .i64 (entOf 14).2.2.1, .int .i64 (entOf 14).2.2.2]) W := by kernel_rfl
theorem ix_basic_15 (W : World) : (Instr.index 158 (.agg basicV) (.int .u8 (15 - 1))).run Tryz.prog W = .ok (.agg #[.string (entOf 15).1, .int .u8 (entOf 15).2.1, .int .i64 (entOf 15).2.2.1, .int .i64 (entOf 15).2.2.2]) W := by kernel_rfl
theorem ix_basic_16 (W : World) : (Instr.index 158 (.agg basicV) (.int .u8 (16 - 1))).run Tryz.prog W = .ok (.agg #[.string (entOf 16).1, .int .u8 (entOf 16).2.1, .int .i64 (entOf 16).2.2.1, .int .i64 (entOf 16).2.2.2]) W := by kernel_rfl
theorem ix_basic_17 (W : World) : (Instr.index 158 (.agg basicV) (.int .u8 (17 - 1))).run Tryz.prog W = .ok (.agg #[.string (entOf 17).1, .int .u8 (entOf 17).2.1, .int .i64 (entOf 17).2.2.1, .int .i64 (entOf 17).2.2.2]) W := by kernel_rfl
theorem ix_basic_18 (W : World) : (Instr.index 158 (.agg basicV) (.int .u8 (18 - 1))).run Tryz.prog W = .ok (.agg #[.string (entOf 18).1, .int .u8 (entOf 18).2.1, .int .i64 (entOf 18).2.2.1, .int .i64 (entOf 18).2.2.2]) W := by kernel_rfl
theorem ix_basic_19 (W : World) : (Instr.index 158 (.agg basicV) (.int .u8 (19 - 1))).run Tryz.prog W = .ok (.agg #[.string (entOf 19).1, .int .u8 (entOf 19).2.1, .int .i64 (entOf 19).2.2.1, .int .i64 (entOf 19).2.2.2]) W := by kernel_rfl
theorem ix_basic (c : Int) (h0 : 1 ≤ c) (h1 : c ≤ 19) (W : World) : (Instr.index 158 (.agg basicV) (.int .u8 (c - 1))).run Tryz.prog W = .ok (.agg #[.string (entOf c).1, .int .u8 (entOf c).2.1, .int .i64 (entOf c).2.2.1, .int .i64 (entOf c).2.2.2]) W := by
 have h : c = 1 ∨ c = 2 ∨ c = 3 ∨ c = 4 ∨ c = 5 ∨ c = 6 ∨ c = 7 ∨ c = 8 ∨ c = 9 ∨ c = 10 ∨ c = 11 ∨ c = 12 ∨ c = 13 ∨ c = 14 ∨ c = 15 ∨ c = 16 ∨ c = 17 ∨ c = 18 ∨ c = 19 := by omega
 rcases h with rfl | rfl | rfl | rfl | rfl | rfl | rfl | rfl | rfl | rfl | rfl | rfl | rfl | rfl | rfl | rfl | rfl | rfl | rfl
 · exact ix_basic_1 W
 · exact ix_basic_2 W
 · exact ix_basic_3 W
 · exact ix_basic_4 W
 · exact ix_basic_5 W
 · exact ix_basic_6 W
 · exact ix_basic_7 W
 · exact ix_basic_8 W
 · exact ix_basic_9 W
 · exact ix_basic_10 W
 · exact ix_basic_11 W
 · exact ix_basic_12 W
 · exact ix_basic_13 W
 · exact ix_basic_14 W
 · exact ix_basic_15 W
 · exact ix_basic_16 W
 · exact ix_basic_17 W
 · exact ix_basic_18 W
 · exact ix_basic_19 W
theorem ix_extended_20 (W : World) : (Instr.index 160 (.agg extendedV) (.int .u8 (20 - 20))).run Tryz.prog W = .ok (.agg #[.string (entOf 20).1, .int .u8 (entOf 20).2.1, .int .i64 (entOf 20).2.2.1, .int .i64 (entOf 20).2.2.2]) W := by kernel_rfl
theorem ix_extended_21 (W : World) : (Instr.index 160 (.agg extendedV) (.int .u8 (21 - 20))).run Tryz.prog W = .ok (.agg #[.string (entOf 21).1, .int .u8 (entOf 21).2.1, .int .i64 (entOf 21).2.2.1, .int .i64 (entOf 21).2.2.2]) W := by kernel_rfl
theorem ix_extended_22 (W : World) : (Instr.index 160 (.agg extendedV) (.int .u8 (22 - 20))).run Tryz.prog W = .ok (.agg #[.string (entOf 22).1, .int .u8 (entOf 22).2.1, .int .i64 (entOf 22).2.2.1, .int .i64 (entOf 22).2.2.2]) W := by kernel_rfl
theorem ix_extended_23 (W : World) : (Instr.index 160 (.agg extendedV) (.int .u8 (23 - 20))).run Tryz.prog W = .ok (.agg #[.string (entOf 23).1, .int .u8 (entOf 23).2.1, .int .i64 (entOf 23).2.2.1, .int .i64 (entOf 23).2.2.2]) W := by kernel_rfl
theorem ix_extended_24 (W : World) : (Instr.index 160 (.agg extendedV) (.int .u8 (24 - 20))).run Tryz.prog W = .ok (.agg #[.string (entOf 24).1, .int .u8 (entOf 24).2.1, .int .i64 (entOf 24).2.2.1, .int .i64 (entOf 24).2.2.2]) W := by kernel_rfl
theorem ix_extended_25 (W : World) : (Instr.index 160 (.agg extendedV) (.int .u8 (25 - 20))).run Tryz.prog W = .ok (.agg #[.string (entOf 25).1, .int .u8 (entOf 25).2.1, .int .i64 (entOf 25).2.2.1, .int .i64 (entOf 25).2.2.2]) W := by kernel_rfl
theorem ix_extended_26 (W : World) : (Instr.index 160 (.agg extendedV) (.int .u8 (26 - 20))).run Tryz.prog W = .ok (.agg #[.string (entOf 26).1, .int .u8 (entOf 26).2.1, .int .i64 (entOf 26).2.2.1, .int .i64 (entOf 26).2.2.2]) W := by kernel_rfl
theorem ix_extended_27 (W : World) : (Instr.index 160 (.agg extendedV) (.int .u8 (27 - 20))).run Tryz.prog W = .ok (.agg #[.string (entOf 27).1, .int .u8 (entOf 27).2.1, .int .i64 (entOf 27).2.2.1, .int .i64 (entOf 27).2.2.2]) W := by kernel_rfl
theorem ix_extended_28 (W : World) : (Instr.index 160 (.agg extendedV) (.int .u8 (28 - 20))).run Tryz.prog W = .ok (.agg #[.string (entOf 28).1, .int .u8 (entOf 28).2.1, .int .i64 (entOf 28).2.2.1, .int .i64 (entOf 28).2.2.2]) W := by kernel_rfl
theorem ix_extended_29 (W : World) : (Instr.index 160 (.agg extendedV) (.int .u8 (29 - 20))).run Tryz.prog W = .ok (.agg #[.string (entOf 29).1, .int .u8 (entOf 29).2.1, .int .i64 (entOf 29).2.2.1, .int .i64 (entOf 29).2.2.2]) W := by kernel_rfl
theorem ix_extended_30 (W : World) : (Instr.index 160 (.agg extendedV) (.int .u8 (30 - 20))).run Tryz.prog W = .ok (.agg #[.string (entOf 30).1, .int .u8 (entOf 30).2.1, .int .i64 (entOf 30).2.2.1, .int .i64 (entOf 30).2.2.2]) W := by kernel_rfl
theorem ix_extended_31 (W : World) : (Instr.index 160 (.agg extendedV) (.int .u8 (31 - 20))).run Tryz.prog W = .ok (.agg #[.string (entOf 31).1, .int .u8 (entOf 31).2.1, .int .i64 (entOf 31).2.2.1, .int .i64 (entOf 31).2.2.2]) W := by kernel_rfl
theorem ix_extended_32 (W : World) : (Instr.index 160 (.agg extendedV) (.int .u8 (32 - 20))).run Tryz.prog W = .ok (.agg #[.string (entOf 32).1, .int .u8 (entOf 32).2.1, .int .i64 (entOf 32).2.2.1, .int .i64 (entOf 32).2.2.2]) W := by kernel_rfl
theorem ix_extended_33 (W : World) : (Instr.index 160 (.agg extendedV) (.int .u8 (33 - 20))).run Tryz.prog W = .ok (.agg #[.string (entOf 33).1, .int .u8 (entOf 33).2.1, .int .i64 (entOf 33).2.2.1, .int .i64 (entOf 33).2.2.2]) W := by kernel_rfl
theorem ix_extended_34 (W : World) : (Instr.index 160 (.agg extendedV) (.int .u8 (34 - 20))).run Tryz.prog W = .ok (.agg #[.string (entOf 34).1, .int .u8 (entOf 34).2.1, .int .i64 (entOf 34).2.2.1, .int .i64 (entOf 34).2.2.2]) W := by kernel_rfl
theorem ix_extended_35 (W : World) : (Instr.index 160 (.agg extendedV) (.int .u8 (35 - 20))).run Tryz.prog W = .ok (.agg #[.string (entOf 35).1, .int .u8 (entOf 35).2.1, .int .i64 (entOf 35).2.2.1, .int .i64 (entOf 35).2.2.2]) W := by kernel_rfl
theorem ix_extended_36 (W : World) : (Instr.index 160 (.agg extendedV) (.int .u8 (36 - 20))).run Tryz.prog W = .ok (.agg #[.string (entOf 36).1, .int .u8 (entOf 36).2.1, .int .i64 (entOf 36).2.2.1, .int .i64 (entOf 36).2.2.2]) W := by kernel_rfl
theorem ix_extended_37 (W : World) : (Instr.index 160 (.agg extendedV) (.int .u8 (37 - 20))).run Tryz.prog W = .ok (.agg #[.string (entOf 37).1, .int .u8 (entOf 37).2.1, .int .i64 (entOf 37).2.2.1, .int .i64 (entOf 37).2.2.2]) W := by kernel_rfl
theorem ix_extended_38 (W : World) : (Instr.index 160 (.agg extendedV) (.int .u8 (38 - 20))).run Tryz.prog W = .ok (.agg #[.string (entOf 38).1, .int .u8 (entOf 38).2.1, .int .i64 (entOf 38).2.2.1, .int .i64 (entOf 38).2.2.2]) W := by kernel_rfl
theorem ix_extended_39 (W : World) : (Instr.index 160 (.agg extendedV) (.int .u8 (39 - 20))).run Tryz.prog W = .ok (.agg #[.string (entOf 39).1, .int .u8 (entOf 39).2.1, .int .i64 (entOf 39).2.2.1, .int .i64 (entOf 39).2.2.2]) W := by kernel_rfl
theorem ix_extended (c : Int) (h0 : 20 ≤ c) (h1 : c ≤ 39) (W : World) : (Instr.index 160 (.agg extendedV) (.int .u8 (c - 20))).run Tryz.prog W = .ok (.agg #[.string (entOf c).1, .int .u8 (entOf c).2.1, .int .i64 (entOf c).2.2.1, .int .i64 (entOf c).2.2.2]) W := by
 have h : c = 20 ∨ c = 21 ∨ c = 22 ∨ c = 23 ∨ c = 24 ∨ c = 25 ∨ c = 26 ∨ c = 27 ∨ c = 28 ∨ c = 29 ∨ c = 30 ∨ c = 31 ∨ c = 32 ∨ c = 33 ∨ c = 34 ∨ c = 35 ∨ c = 36 ∨ c = 37 ∨ c = 38 ∨ c = 39 := by omega
 rcases h with rfl | rfl | rfl | rfl | rfl | rfl | rfl | rfl | rfl | rfl | rfl | rfl | rfl | rfl | rfl | rfl | rfl | rfl | rfl | rfl
 · exact ix_extended_20 W
 · exact ix_extended_21 W
 · exact ix_extended_22 W
 · exact ix_extended_23 W
 · exact ix_extended_24 W
 · exact ix_extended_25 W
 · exact ix_extended_26 W
 · exact ix_extended_27 W
 · exact ix_extended_28 W
 · exact ix_extended_29 W
 · exact ix_extended_30 W
 · exact ix_extended_31 W
 · exact ix_extended_32 W
 · exact ix_extended_33 W
 · exact ix_extended_34 W
 · exact ix_extended_35 W
 · exact ix_extended_36 W
 · exact ix_extended_37 W
 · exact ix_extended_38 W
 · exact ix_extended_39 W
theorem row_basic (c : Int) (h0 : 1 ≤ c) (h1 : c ≤ 19) (w : World) : Calls Tryz.prog 79 #[.int .u8 c] w fun e w' => e = .returned (.agg #[.string (entOf c).1, .int .u8 (entOf c).2.1, .int .i64 (entOf c).2.2.1, .int .i64 (entOf c).2.2.2]) ∧ Below w.heap.size w w' := by
 have HB := Aside0.mk (Below.refl w.heap.size w)
 have hix := Lib.hid (ix_basic c h0 h1)
 have b1 : decide (c ≤ 19) = true := decide_eq_true h1
 have e1 : IntKind.u8.wrap (c - 1) = c - 1 := by rw [IntKind.wrap_u8]; omega
 clear h0 h1
 go_enter Tryz.func79, Tryz.ntmps79
 go_wp2_with (first | ((with_reducible refine gate_dst (N := 2) rfl ?_); refine box_event ?hg (N := 2) ?hd (cs := #[.string (⟨#[]⟩ : ByteArray), .int .u8 0, .int .i64 0, .int .i64 0]) (t := 125) ?hr ?_; (case hd => rfl); (case hg => rfl); (case hr => kernel_rfl); intro g hg w1 K hb; have H1 := Aside0.mk (below_step HB.out hb); have HK := Aside0.mk K; have Hg := Aside0.mk hg; clear K hb hg) | (go_at_call 158; (with_reducible refine (basic_c _).mono ?_); rintro e w2 ⟨rfl, hb2⟩; have H2 := Aside0.mk (below_step H1.out hb2); have HK2 := Aside0.mk (blk_below HK.out hb2); clear hb2) | ((with_reducible refine gate_dst (N := 8) rfl ?_); refine Kd.event_run (v := .agg #[.string (entOf c).1, .int .u8 (entOf c).2.1, .int .i64 (entOf c).2.2.1, .int .i64 (entOf c).2.2.2]) (w1 := w2) rfl (run_index_op 158 (.tmp 5) (.tmp 7) rfl rfl rfl (hix.out _)) ?_) | (refine store_row_ rfl 125 (.tmp 2) (.tmp 8) rfl g rfl 125 _ #[.string (entOf c).1, .int .u8 (entOf c).2.1, .int .i64 (entOf c).2.2.1, .int .i64 (entOf c).2.2.2] rfl HK2.out ?hi ?hs ?h1 ?_; (case hi => kernel_rfl); (case hs => rfl); (case h1 => kernel_rfl)))
 refine bodyPost_ret (results_cell_row rfl _ _ g 125 #[.string (entOf c).1, .int .u8 (entOf c).2.1, .int .i64 (entOf c).2.2.1, .int .i64 (entOf c).2.2.2] (0, 0) _ rfl (setRow_heap _ g _ _ 125 (0, 0) HK2.out) Tryz.underlying125 rfl (by kernel_rfl)) rfl ⟨rfl, below_setRow H2.out (Nat.le_of_eq Hg.out.symm) _⟩
theorem row_extended (c : Int) (h0 : 20 ≤ c) (h1 : c ≤ 39) (w : World) : Calls Tryz.prog 79 #[.int .u8 c] w fun e w' => e = .returned (.agg #[.string (entOf c).1, .int .u8 (entOf c).2.1, .int .i64 (entOf c).2.2.1, .int .i64 (entOf c).2.2.2]) ∧ Below w.heap.size w w' := by
 have HB := Aside0.mk (Below.refl w.heap.size w)
 have hix := Lib.hid (ix_extended c h0 h1)
 have b1 : decide (c ≤ 19) = false := decide_eq_false (by omega)
 have e1 : IntKind.u8.wrap (c - 1) = c - 1 := by rw [IntKind.wrap_u8]; omega
 have e2 : IntKind.u8.wrap (c - 1 - 19) = c - 20 := by rw [IntKind.wrap_u8]; omega
 clear h0 h1
 go_enter Tryz.func79, Tryz.ntmps79
 go_wp2_with (first | ((with_reducible refine gate_dst (N := 2) rfl ?_); refine box_event ?hg (N := 2) ?hd (cs := #[.string (⟨#[]⟩ : ByteArray), .int .u8 0, .int .i64 0, .int .i64 0]) (t := 125) ?hr ?_; (case hd => rfl); (case hg => rfl); (case hr => kernel_rfl); intro g hg w1 K hb; have H1 := Aside0.mk (below_step HB.out hb); have HK := Aside0.mk K; have Hg := Aside0.mk hg; clear K hb hg) | (go_at_call 159; (with_reducible refine (extended_c _).mono ?_); rintro e w2 ⟨rfl, hb2⟩; have H2 := Aside0.mk (below_step H1.out hb2); have HK2 := Aside0.mk (blk_below HK.out hb2); clear hb2) | ((with_reducible refine gate_dst (N := 13) rfl ?_); refine Kd.event_run (v := .agg #[.string (entOf c).1, .int .u8 (entOf c).2.1, .int .i64 (entOf c).2.2.1, .int .i64 (entOf c).2.2.2]) (w1 := w2) rfl (run_index_op 160 (.tmp 9) (.tmp 12) rfl rfl rfl (hix.out _)) ?_) | (refine store_row_ rfl 125 (.tmp 2) (.tmp 13) rfl g rfl 125 _ #[.string (entOf c).1, .int .u8 (entOf c).2.1, .int .i64 (entOf c).2.2.1, .int .i64 (entOf c).2.2.2] rfl HK2.out ?hi ?hs ?h1 ?_; (case hi => kernel_rfl); (case hs => rfl); (case h1 => kernel_rfl)))
 refine bodyPost_ret (results_cell_row rfl _ _ g 125 #[.string (entOf c).1, .int .u8 (entOf c).2.1, .int .i64 (entOf c).2.2.1, .int .i64 (entOf c).2.2.2] (0, 0) _ rfl (setRow_heap _ g _ _ 125 (0, 0) HK2.out) Tryz.underlying125 rfl (by kernel_rfl)) rfl ⟨rfl, below_setRow H2.out (Nat.le_of_eq Hg.out.symm) _⟩
theorem fld57_0 (a : ByteArray) (b c d : Int) (W : World) : (Instr.field 125 (.agg #[.string a, .int .u8 b, .int .i64 c, .int .i64 d]) 0).run Tryz.prog W = .ok (.string a) W := by kernel_rfl
theorem fld57_2 (a : ByteArray) (b c d : Int) (W : World) : (Instr.field 125 (.agg #[.string a, .int .u8 b, .int .i64 c, .int .i64 d]) 2).run Tryz.prog W = .ok (.int .i64 c) W := by kernel_rfl
theorem isa_row.calls (a0 : Int) (r1 : ByteArray) (r2 : Int) (r3 : Int) (r4 : Int) (w : World) (h : isa_row.f a0 = some (r1, r2, r3, r4)) :
 Calls Tryz.prog 79 #[.int .u8 a0] w fun e w' => e = .returned (.agg #[.string r1, .int .u8 r2, .int .i64 r3, .int .i64 r4]) ∧ Below w.heap.size w w' := by
 unfold isa_row.f at h
 split at h
 · rename_i hc
   have e1 : entOf a0 = (r1, r2, r3, r4) := by simpa using h
   by_cases hb : a0 ≤ 19
   · have := row_basic a0 hc.1 hb w
     rwa [e1] at this
   · have := row_extended a0 (by omega) hc.2 w
     rwa [e1] at this
 · cases h
end Go.Proofs.YthfobpkdloejfaaGreat.PAll
end
