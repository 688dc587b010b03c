/- Chapter 5: a part of its proof (cut by program out of Isa, FX); no condition. -/
import Derived.Lib.Hide
import Derived.Test.YtgbmaajfbbilhaaGreatKn15
import Derived.Test.YtgbmaajfbbilhaaGreatKn19
import Derived.Test.YtgbmaajfbbilhaaGreatKn27
set_option linter.unusedVariables false
set_option linter.unusedSimpArgs false
set_option linter.unusedSectionVars false
set_option maxRecDepth 100000
set_option maxHeartbeats 8000000
section
namespace Go.Proofs.YtgbmaajfbbilhaaGreat.PAll
open Go.RowKit Go.Proofs.YtgbmaajfbbilhaaGreat.PAll Go.Proofs.YtgbmaajfbbilhaaGreat.Row Go.Proofs.YtgbmaajfbbilhaaGreatW.PrintWords Go.Proofs.YtgbmaajfbbilhaaGreatW.PrintLast Go.Proofs.YtgbmaajfbbilhaaGreatW.PrintMore
def basicV : Array Value := #[.string (⟨#[84, 67]⟩ : ByteArray), .int .u8 3, .int .i64 0, .int .i64 1, .string (⟨#[69, 88, 84, 69, 78, 68]⟩ : ByteArray), .int .u8 0, .int .i64 6, .int .i64 1, .string (⟨#[73, 78, 72, 73, 78, 84]⟩ : ByteArray), .int .u8 0, .int .i64 4, .int .i64 1, .string (⟨#[82, 69, 76, 73, 78, 84]⟩ : ByteArray), .int .u8 0, .int .i64 3, .int .i64 1, .string (⟨#[67, 67, 83]⟩ : ByteArray), .int .u8 1, .int .i64 4096, .int .i64 2, .string (⟨#[84, 67, 70]⟩ : ByteArray), .int .u8 2, .int .i64 4096, .int .i64 1, .string (⟨#[68, 65, 83]⟩ : ByteArray), .int .u8 1, .int .i64 8192, .int .i64 3, .string (⟨#[76, 88, 67, 72]⟩ : ByteArray), .int .u8 1, .int .i64 9216, .int .i64 2, .string (⟨#[73, 78, 67, 82]⟩ : ByteArray), .int .u8 1, .int .i64 10240, .int .i64 2, .string (⟨#[65, 68, 83]⟩ : ByteArray), .int .u8 1, .int .i64 11264, .int .i64 2, .string (⟨#[67, 65]⟩ : ByteArray), .int .u8 3, .int .i64 12288, .int .i64 2, .string (⟨#[67, 83]⟩ : ByteArray), .int .u8 3, .int .i64 16384, .int .i64 2, .string (⟨#[73, 78, 68, 69, 88]⟩ : ByteArray), .int .u8 1, .int .i64 20480, .int .i64 2, .string (⟨#[82, 69, 83, 85, 77, 69]⟩ : ByteArray), .int .u8 0, .int .i64 20495, .int .i64 2, .string (⟨#[68, 88, 67, 72]⟩ : ByteArray), .int .u8 1, .int .i64 21504, .int .i64 3, .string (⟨#[84, 83]⟩ : ByteArray), .int .u8 1, .int .i64 22528, .int .i64 2, .string (⟨#[88, 67, 72]⟩ : ByteArray), .int .u8 1, .int .i64 23552, .int .i64 2, .string (⟨#[65, 68]⟩ : ByteArray), .int .u8 3, .int .i64 24576, .int .i64 2, .string (⟨#[77, 65, 83, 75]⟩ : ByteArray), .int .u8 3, .int .i64 28672, .int .i64 2]
def extendedV : Array Value := #[.string (⟨#[82, 69, 65, 68]⟩ : ByteArray), .int .u8 4, .int .i64 0, .int .i64 2, .string (⟨#[87, 82, 73, 84, 69]⟩ : ByteArray), .int .u8 4, .int .i64 512, .int .i64 2, .string (⟨#[82, 65, 78, 68]⟩ : ByteArray), .int .u8 4, .int .i64 1024, .int .i64 2, .string (⟨#[87, 65, 78, 68]⟩ : ByteArray), .int .u8 4, .int .i64 1536, .int .i64 2, .string (⟨#[82, 79, 82]⟩ : ByteArray), .int .u8 4, .int .i64 2048, .int .i64 2, .string (⟨#[87, 79, 82]⟩ : ByteArray), .int .u8 4, .int .i64 2560, .int .i64 2, .string (⟨#[82, 88, 79, 82]⟩ : ByteArray), .int .u8 4, .int .i64 3072, .int .i64 2, .string (⟨#[69, 68, 82, 85, 80, 84]⟩ : ByteArray), .int .u8 4, .int .i64 3584, .int .i64 3, .string (⟨#[68, 86]⟩ : ByteArray), .int .u8 1, .int .i64 4096, .int .i64 6, .string (⟨#[66, 90, 70]⟩ : ByteArray), .int .u8 2, .int .i64 4096, .int .i64 2, .string (⟨#[77, 83, 85]⟩ : ByteArray), .int .u8 1, .int .i64 8192, .int .i64 2, .string (⟨#[81, 88, 67, 72]⟩ : ByteArray), .int .u8 1, .int .i64 9216, .int .i64 2, .string (⟨#[65, 85, 71]⟩ : ByteArray), .int .u8 1, .int .i64 10240, .int .i64 2, .string (⟨#[68, 73, 77]⟩ : ByteArray), .int .u8 1, .int .i64 11264, .int .i64 2, .string (⟨#[68, 67, 65]⟩ : ByteArray), .int .u8 3, .int .i64 12288, .int .i64 3, .string (⟨#[68, 67, 83]⟩ : ByteArray), .int .u8 3, .int .i64 16384, .int .i64 3, .string (⟨#[88, 73, 78, 68, 69, 88]⟩ : ByteArray), .int .u8 3, .int .i64 20480, .int .i64 2, .string (⟨#[83, 85]⟩ : ByteArray), .int .u8 1, .int .i64 24576, .int .i64 2, .string (⟨#[66, 90, 77, 70]⟩ : ByteArray), .int .u8 2, .int .i64 24576, .int .i64 2, .string (⟨#[77, 80]⟩ : ByteArray), .int .u8 3, .int .i64 28672, .int .i64 3]
theorem basic_c (w : World) : Calls Tryz.prog 233 #[] w fun e w' => e = .returned (.agg basicV) ∧ Below w.heap.size w w' := by
 have HB := Aside0.mk (Below.refl w.heap.size w)
 go_enter Tryz.func233, Tryz.ntmps233
 go_wp2_with (first | ((with_reducible refine gate_dst (N := 0) rfl ?_); refine box_event ?hg (N := 0) ?hd (cs := #[.string (⟨#[]⟩ : ByteArray), .int .u8 0, .int .i64 0, .int .i64 0, .string (⟨#[]⟩ : ByteArray), .int .u8 0, .int .i64 0, .int .i64 0, .string (⟨#[]⟩ : ByteArray), .int .u8 0, .int .i64 0, .int .i64 0, .string (⟨#[]⟩ : ByteArray), .int .u8 0, .int .i64 0, .int .i64 0, .string (⟨#[]⟩ : ByteArray), .int .u8 0, .int .i64 0, .int .i64 0, .string (⟨#[]⟩ : ByteArray), .int .u8 0, .int .i64 0, .int .i64 0, .string (⟨#[]⟩ : ByteArray), .int .u8 0, .int .i64 0, .int .i64 0, .string (⟨#[]⟩ : ByteArray), .int .u8 0, .int .i64 0, .int .i64 0, .string (⟨#[]⟩ : ByteArray), .int .u8 0, .int .i64 0, .int .i64 0, .string (⟨#[]⟩ : ByteArray), .int .u8 0, .int .i64 0, .int .i64 0, .string (⟨#[]⟩ : ByteArray), .int .u8 0, .int .i64 0, .int .i64 0, .string (⟨#[]⟩ : ByteArray), .int .u8 0, .int .i64 0, .int .i64 0, .string (⟨#[]⟩ : ByteArray), .int .u8 0, .int .i64 0, .int .i64 0, .string (⟨#[]⟩ : ByteArray), .int .u8 0, .int .i64 0, .int .i64 0, .string (⟨#[]⟩ : ByteArray), .int .u8 0, .int .i64 0, .int .i64 0, .string (⟨#[]⟩ : ByteArray), .int .u8 0, .int .i64 0, .int .i64 0, .string (⟨#[]⟩ : ByteArray), .int .u8 0, .int .i64 0, .int .i64 0, .string (⟨#[]⟩ : ByteArray), .int .u8 0, .int .i64 0, .int .i64 0, .string (⟨#[]⟩ : ByteArray), .int .u8 0, .int .i64 0, .int .i64 0]) (t := 238) ?hr ?_; (case hd => rfl); (case hg => rfl); (case hr => kernel_rfl); intro g hg w1 K hb; have Hg := Aside0.mk hg; clear hg) | ((with_reducible refine gate_dst (N := 20) rfl ?_); refine Kd.event_run (v := .agg basicV) (w1 := w1) rfl ?hr2 ?_; (case hr2 => kernel_rfl)) | (refine store_row_ rfl 238 (.tmp 0) (.tmp 20) rfl g rfl 238 _ basicV rfl K ?hi ?hs ?h1 ?_; (case hi => kernel_rfl); (case hs => kernel_rfl); (case h1 => kernel_rfl)))
 refine bodyPost_ret (results_cell_row rfl _ _ g 238 basicV (0, 0) _ rfl (setRow_heap _ g _ _ 238 (0, 0) K) Tryz.underlying238 rfl (by kernel_rfl)) rfl ⟨rfl, below_setRow (below_step HB.out hb) (Nat.le_of_eq Hg.out.symm) _⟩
theorem extended_c (w : World) : Calls Tryz.prog 234 #[] w fun e w' => e = .returned (.agg extendedV) ∧ Below w.heap.size w w' := by
 have HB := Aside0.mk (Below.refl w.heap.size w)
 go_enter Tryz.func234, Tryz.ntmps234
 go_wp2_with (first | ((with_reducible refine gate_dst (N := 0) rfl ?_); refine box_event ?hg (N := 0) ?hd (cs := #[.string (⟨#[]⟩ : ByteArray), .int .u8 0, .int .i64 0, .int .i64 0, .string (⟨#[]⟩ : ByteArray), .int .u8 0, .int .i64 0, .int .i64 0, .string (⟨#[]⟩ : ByteArray), .int .u8 0, .int .i64 0, .int .i64 0, .string (⟨#[]⟩ : ByteArray), .int .u8 0, .int .i64 0, .int .i64 0, .string (⟨#[]⟩ : ByteArray), .int .u8 0, .int .i64 0, .int .i64 0, .string (⟨#[]⟩ : ByteArray), .int .u8 0, .int .i64 0, .int .i64 0, .string (⟨#[]⟩ : ByteArray), .int .u8 0, .int .i64 0, .int .i64 0, .string (⟨#[]⟩ : ByteArray), .int .u8 0, .int .i64 0, .int .i64 0, .string (⟨#[]⟩ : ByteArray), .int .u8 0, .int .i64 0, .int .i64 0, .string (⟨#[]⟩ : ByteArray), .int .u8 0, .int .i64 0, .int .i64 0, .string (⟨#[]⟩ : ByteArray), .int .u8 0, .int .i64 0, .int .i64 0, .string (⟨#[]⟩ : ByteArray), .int .u8 0, .int .i64 0, .int .i64 0, .string (⟨#[]⟩ : ByteArray), .int .u8 0, .int .i64 0, .int .i64 0, .string (⟨#[]⟩ : ByteArray), .int .u8 0, .int .i64 0, .int .i64 0, .string (⟨#[]⟩ : ByteArray), .int .u8 0, .int .i64 0, .int .i64 0, .string (⟨#[]⟩ : ByteArray), .int .u8 0, .int .i64 0, .int .i64 0, .string (⟨#[]⟩ : ByteArray), .int .u8 0, .int .i64 0, .int .i64 0, .string (⟨#[]⟩ : ByteArray), .int .u8 0, .int .i64 0, .int .i64 0, .string (⟨#[]⟩ : ByteArray), .int .u8 0, .int .i64 0, .int .i64 0, .string (⟨#[]⟩ : ByteArray), .int .u8 0, .int .i64 0, .int .i64 0]) (t := 240) ?hr ?_; (case hd => rfl); (case hg => rfl); (case hr => kernel_rfl); intro g hg w1 K hb; have Hg := Aside0.mk hg; clear hg) | ((with_reducible refine gate_dst (N := 21) rfl ?_); refine Kd.event_run (v := .agg extendedV) (w1 := w1) rfl ?hr2 ?_; (case hr2 => kernel_rfl)) | (refine store_row_ rfl 240 (.tmp 0) (.tmp 21) rfl g rfl 240 _ extendedV rfl K ?hi ?hs ?h1 ?_; (case hi => kernel_rfl); (case hs => kernel_rfl); (case h1 => kernel_rfl)))
 refine bodyPost_ret (results_cell_row rfl _ _ g 240 extendedV (0, 0) _ rfl (setRow_heap _ g _ _ 240 (0, 0) K) Tryz.underlying240 rfl (by kernel_rfl)) rfl ⟨rfl, below_setRow (below_step HB.out hb) (Nat.le_of_eq Hg.out.symm) _⟩
def ENT : List (ByteArray × Int × Int × Int) := [((⟨#[84, 67]⟩ : ByteArray), 3, 0, 1), ((⟨#[69, 88, 84, 69, 78, 68]⟩ : ByteArray), 0, 6, 1), ((⟨#[73, 78, 72, 73, 78, 84]⟩ : ByteArray), 0, 4, 1), ((⟨#[82, 69, 76, 73, 78, 84]⟩ : ByteArray), 0, 3, 1), ((⟨#[67, 67, 83]⟩ : ByteArray), 1, 4096, 2), ((⟨#[84, 67, 70]⟩ : ByteArray), 2, 4096, 1), ((⟨#[68, 65, 83]⟩ : ByteArray), 1, 8192, 3), ((⟨#[76, 88, 67, 72]⟩ : ByteArray), 1, 9216, 2), ((⟨#[73, 78, 67, 82]⟩ : ByteArray), 1, 10240, 2), ((⟨#[65, 68, 83]⟩ : ByteArray), 1, 11264, 2), ((⟨#[67, 65]⟩ : ByteArray), 3, 12288, 2), ((⟨#[67, 83]⟩ : ByteArray), 3, 16384, 2), ((⟨#[73, 78, 68, 69, 88]⟩ : ByteArray), 1, 20480, 2), ((⟨#[82, 69, 83, 85, 77, 69]⟩ : ByteArray), 0, 20495, 2), ((⟨#[68, 88, 67, 72]⟩ : ByteArray), 1, 21504, 3), ((⟨#[84, 83]⟩ : ByteArray), 1, 22528, 2), ((⟨#[88, 67, 72]⟩ : ByteArray), 1, 23552, 2), ((⟨#[65, 68]⟩ : ByteArray), 3, 24576, 2), ((⟨#[77, 65, 83, 75]⟩ : ByteArray), 3, 28672, 2), ((⟨#[82, 69, 65, 68]⟩ : ByteArray), 4, 0, 2), ((⟨#[87, 82, 73, 84, 69]⟩ : ByteArray), 4, 512, 2), ((⟨#[82, 65, 78, 68]⟩ : ByteArray), 4, 1024, 2), ((⟨#[87, 65, 78, 68]⟩ : ByteArray), 4, 1536, 2), ((⟨#[82, 79, 82]⟩ : ByteArray), 4, 2048, 2), ((⟨#[87, 79, 82]⟩ : ByteArray), 4, 2560, 2), ((⟨#[82, 88, 79, 82]⟩ : ByteArray), 4, 3072, 2), ((⟨#[69, 68, 82, 85, 80, 84]⟩ : ByteArray), 4, 3584, 3), ((⟨#[68, 86]⟩ : ByteArray), 1, 4096, 6), ((⟨#[66, 90, 70]⟩ : ByteArray), 2, 4096, 2), ((⟨#[77, 83, 85]⟩ : ByteArray), 1, 8192, 2), ((⟨#[81, 88, 67, 72]⟩ : ByteArray), 1, 9216, 2), ((⟨#[65, 85, 71]⟩ : ByteArray), 1, 10240, 2), ((⟨#[68, 73, 77]⟩ : ByteArray), 1, 11264, 2), ((⟨#[68, 67, 65]⟩ : ByteArray), 3, 12288, 3), ((⟨#[68, 67, 83]⟩ : ByteArray), 3, 16384, 3), ((⟨#[88, 73, 78, 68, 69, 88]⟩ : ByteArray), 3, 20480, 2), ((⟨#[83, 85]⟩ : ByteArray), 1, 24576, 2), ((⟨#[66, 90, 77, 70]⟩ : ByteArray), 2, 24576, 2), ((⟨#[77, 80]⟩ : ByteArray), 3, 28672, 3)]
def entOf (c : Int) : ByteArray × Int × Int × Int := ENT.getD (c - 1).toNat (⟨#[]⟩, 0, 0, 0)
def isa_row.f (a0 : Int) : Option (ByteArray × Int × Int × Int) := if 1 ≤ a0 ∧ a0 ≤ 39 then some (entOf a0) else none
theorem ix_basic_1 (W : World) : (Instr.index 238 (.agg basicV) (.int .u8 (1 - 1))).run Tryz.prog W = .ok (.agg #[.string (entOf 1).1, .int .u8 (entOf 1).2.1, .int .i64 (entOf 1).2.2.1, .int .i64 (entOf 1).2.2.2]) W := by kernel_rfl
theorem ix_basic_2 (W : World) : (Instr.index 238 (.agg basicV) (.int .u8 (2 - 1))).run Tryz.prog W = .ok (.agg #[.string (entOf 2).1, .int .u8 (entOf 2).2.1, .int .i64 (entOf 2).2.2.1, .int .i64 (entOf 2).2.2.2]) W := by kernel_rfl
theorem ix_basic_3 (W : World) : (Instr.index 238 (.agg basicV) (.int .u8 (3 - 1))).run Tryz.prog W = .ok (.agg #[.string (entOf 3).1, .int .u8 (entOf 3).2.1, .int .i64 (entOf 3).2.2.1, .int .i64 (entOf 3).2.2.2]) W := by kernel_rfl
theorem ix_basic_4 (W : World) : (Instr.index 238 (.agg basicV) (.int .u8 (4 - 1))).run Tryz.prog W = .ok (.agg #[.string (entOf 4).1, .int .u8 (entOf 4).2.1, .int .i64 (entOf 4).2.2.1, .int .i64 (entOf 4).2.2.2]) W := by kernel_rfl
theorem ix_basic_5 (W : World) : (Instr.index 238 (.agg basicV) (.int .u8 (5 - 1))).run Tryz.prog W = .ok (.agg #[.string (entOf 5).1, .int .u8 (entOf 5).2.1, .int .i64 (entOf 5).2.2.1, .int .i64 (entOf 5).2.2.2]) W := by kernel_rfl
theorem ix_basic_6 (W : World) : (Instr.index 238 (.agg basicV) (.int .u8 (6 - 1))).run Tryz.prog W = .ok (.agg #[.string (entOf 6).1, .int .u8 (entOf 6).2.1, .int .i64 (entOf 6).2.2.1, .int .i64 (entOf 6).2.2.2]) W := by kernel_rfl
theorem ix_basic_7 (W : World) : (Instr.index 238 (.agg basicV) (.int .u8 (7 - 1))).run Tryz.prog W = .ok (.agg #[.string (entOf 7).1, .int .u8 (entOf 7).2.1, .int .i64 (entOf 7).2.2.1, .int .i64 (entOf 7).2.2.2]) W := by kernel_rfl
theorem ix_basic_8 (W : World) : (Instr.index 238 (.agg basicV) (.int .u8 (8 - 1))).run Tryz.prog W = .ok (.agg #[.string (entOf 8).1, .int .u8 (entOf 8).2.1, .int .i64 (entOf 8).2.2.1, .int .i64 (entOf 8).2.2.2]) W := by kernel_rfl
theorem ix_basic_9 (W : World) : (Instr.index 238 (.agg basicV) (.int .u8 (9 - 1))).run Tryz.prog W = .ok (.agg #[.string (entOf 9).1, .int .u8 (entOf 9).2.1, .int .i64 (entOf 9).2.2.1, .int .i64 (entOf 9).2.2.2]) W := by kernel_rfl
theorem ix_basic_10 (W : World) : (Instr.index 238 (.agg basicV) (.int .u8 (10 - 1))).run Tryz.prog W = .ok (.agg #[.string (entOf 10).1, .int .u8 (entOf 10).2.1, .int .i64 (entOf 10).2.2.1, .int .i64 (entOf 10).2.2.2]) W := by kernel_rfl
theorem ix_basic_11 (W : World) : (Instr.index 238 (.agg basicV) (.int .u8 (11 - 1))).run Tryz.prog W = .ok (.agg #[.string (entOf 11).1, .int .u8 (entOf 11).2.1, .int .i64 (entOf 11).2.2.1, .int .i64 (entOf 11).2.2.2]) W := by kernel_rfl
theorem ix_basic_12 (W : World) : (Instr.index 238 (.agg basicV) (.int .u8 (12 - 1))).run Tryz.prog W = .ok (.agg #[.string (entOf 12).1, .int .u8 (entOf 12).2.1, .int .i64 (entOf 12).2.2.1, .int .i64 (entOf 12).2.2.2]) W := by kernel_rfl
theorem ix_basic_13 (W : World) : (Instr.index 238 (.agg basicV) (.int .u8 (13 - 1))).run Tryz.prog W = .ok (.agg #[.string (entOf 13).1, .int .u8 (entOf 13).2.1, .int .i64 (entOf 13).2.2.1, .int .i64 (entOf 13).2.2.2]) W := by kernel_rfl
theorem ix_basic_14 (W : World) : (Instr.index 238 (.agg basicV) (.int .u8 (14 - 1))).run Tryz.prog W = .ok (.agg #[.string (entOf 14).1, .int .u8 (entOf 14).2.1, .int .i64 (entOf 14).2.2.1, .int .i64 (entOf 14).2.2.2]) W := by kernel_rfl
theorem ix_basic_15 (W : World) : (Instr.index 238 (.agg basicV) (.int .u8 (15 - 1))).run Tryz.prog W = .ok (.agg #[.string (entOf 15).1, .int .u8 (entOf 15).2.1, .int .i64 (entOf 15).2.2.1, .int .i64 (entOf 15).2.2.2]) W := by kernel_rfl
theorem ix_basic_16 (W : World) : (Instr.index 238 (.agg basicV) (.int .u8 (16 - 1))).run Tryz.prog W = .ok (.agg #[.string (entOf 16).1, .int .u8 (entOf 16).2.1, .int .i64 (entOf 16).2.2.1, .int .i64 (entOf 16).2.2.2]) W := by kernel_rfl
theorem ix_basic_17 (W : World) : (Instr.index 238 (.agg basicV) (.int .u8 (17 - 1))).run Tryz.prog W = .ok (.agg #[.string (entOf 17).1, .int .u8 (entOf 17).2.1, .int .i64 (entOf 17).2.2.1, .int .i64 (entOf 17).2.2.2]) W := by kernel_rfl
theorem ix_basic_18 (W : World) : (Instr.index 238 (.agg basicV) (.int .u8 (18 - 1))).run Tryz.prog W = .ok (.agg #[.string (entOf 18).1, .int .u8 (entOf 18).2.1, .int .i64 (entOf 18).2.2.1, .int .i64 (entOf 18).2.2.2]) W := by kernel_rfl
theorem ix_basic_19 (W : World) : (Instr.index 238 (.agg basicV) (.int .u8 (19 - 1))).run Tryz.prog W = .ok (.agg #[.string (entOf 19).1, .int .u8 (entOf 19).2.1, .int .i64 (entOf 19).2.2.1, .int .i64 (entOf 19).2.2.2]) W := by kernel_rfl
theorem ix_basic (c : Int) (h0 : 1 ≤ c) (h1 : c ≤ 19) (W : World) : (Instr.index 238 (.agg basicV) (.int .u8 (c - 1))).run Tryz.prog W = .ok (.agg #[.string (entOf c).1, .int .u8 (entOf c).2.1, .int .i64 (entOf c).2.2.1, .int .i64 (entOf c).2.2.2]) W := by
 have h : c = 1 ∨ c = 2 ∨ c = 3 ∨ c = 4 ∨ c = 5 ∨ c = 6 ∨ c = 7 ∨ c = 8 ∨ c = 9 ∨ c = 10 ∨ c = 11 ∨ c = 12 ∨ c = 13 ∨ c = 14 ∨ c = 15 ∨ c = 16 ∨ c = 17 ∨ c = 18 ∨ c = 19 := by omega
 rcases h with rfl | rfl | rfl | rfl | rfl | rfl | rfl | rfl | rfl | rfl | rfl | rfl | rfl | rfl | rfl | rfl | rfl | rfl | rfl
 · exact ix_basic_1 W
 · exact ix_basic_2 W
 · exact ix_basic_3 W
 · exact ix_basic_4 W
 · exact ix_basic_5 W
 · exact ix_basic_6 W
 · exact ix_basic_7 W
 · exact ix_basic_8 W
 · exact ix_basic_9 W
 · exact ix_basic_10 W
 · exact ix_basic_11 W
 · exact ix_basic_12 W
 · exact ix_basic_13 W
 · exact ix_basic_14 W
 · exact ix_basic_15 W
 · exact ix_basic_16 W
 · exact ix_basic_17 W
 · exact ix_basic_18 W
 · exact ix_basic_19 W
theorem ix_extended_20 (W : World) : (Instr.index 240 (.agg extendedV) (.int .u8 (20 - 20))).run Tryz.prog W = .ok (.agg #[.string (entOf 20).1, .int .u8 (entOf 20).2.1, .int .i64 (entOf 20).2.2.1, .int .i64 (entOf 20).2.2.2]) W := by kernel_rfl
theorem ix_extended_21 (W : World) : (Instr.index 240 (.agg extendedV) (.int .u8 (21 - 20))).run Tryz.prog W = .ok (.agg #[.string (entOf 21).1, .int .u8 (entOf 21).2.1, .int .i64 (entOf 21).2.2.1, .int .i64 (entOf 21).2.2.2]) W := by kernel_rfl
theorem ix_extended_22 (W : World) : (Instr.index 240 (.agg extendedV) (.int .u8 (22 - 20))).run Tryz.prog W = .ok (.agg #[.string (entOf 22).1, .int .u8 (entOf 22).2.1, .int .i64 (entOf 22).2.2.1, .int .i64 (entOf 22).2.2.2]) W := by kernel_rfl
theorem ix_extended_23 (W : World) : (Instr.index 240 (.agg extendedV) (.int .u8 (23 - 20))).run Tryz.prog W = .ok (.agg #[.string (entOf 23).1, .int .u8 (entOf 23).2.1, .int .i64 (entOf 23).2.2.1, .int .i64 (entOf 23).2.2.2]) W := by kernel_rfl
theorem ix_extended_24 (W : World) : (Instr.index 240 (.agg extendedV) (.int .u8 (24 - 20))).run Tryz.prog W = .ok (.agg #[.string (entOf 24).1, .int .u8 (entOf 24).2.1, .int .i64 (entOf 24).2.2.1, .int .i64 (entOf 24).2.2.2]) W := by kernel_rfl
theorem ix_extended_25 (W : World) : (Instr.index 240 (.agg extendedV) (.int .u8 (25 - 20))).run Tryz.prog W = .ok (.agg #[.string (entOf 25).1, .int .u8 (entOf 25).2.1, .int .i64 (entOf 25).2.2.1, .int .i64 (entOf 25).2.2.2]) W := by kernel_rfl
theorem ix_extended_26 (W : World) : (Instr.index 240 (.agg extendedV) (.int .u8 (26 - 20))).run Tryz.prog W = .ok (.agg #[.string (entOf 26).1, .int .u8 (entOf 26).2.1, .int .i64 (entOf 26).2.2.1, .int .i64 (entOf 26).2.2.2]) W := by kernel_rfl
theorem ix_extended_27 (W : World) : (Instr.index 240 (.agg extendedV) (.int .u8 (27 - 20))).run Tryz.prog W = .ok (.agg #[.string (entOf 27).1, .int .u8 (entOf 27).2.1, .int .i64 (entOf 27).2.2.1, .int .i64 (entOf 27).2.2.2]) W := by kernel_rfl
theorem ix_extended_28 (W : World) : (Instr.index 240 (.agg extendedV) (.int .u8 (28 - 20))).run Tryz.prog W = .ok (.agg #[.string (entOf 28).1, .int .u8 (entOf 28).2.1, .int .i64 (entOf 28).2.2.1, .int .i64 (entOf 28).2.2.2]) W := by kernel_rfl
theorem ix_extended_29 (W : World) : (Instr.index 240 (.agg extendedV) (.int .u8 (29 - 20))).run Tryz.prog W = .ok (.agg #[.string (entOf 29).1, .int .u8 (entOf 29).2.1, .int .i64 (entOf 29).2.2.1, .int .i64 (entOf 29).2.2.2]) W := by kernel_rfl
theorem ix_extended_30 (W : World) : (Instr.index 240 (.agg extendedV) (.int .u8 (30 - 20))).run Tryz.prog W = .ok (.agg #[.string (entOf 30).1, .int .u8 (entOf 30).2.1, .int .i64 (entOf 30).2.2.1, .int .i64 (entOf 30).2.2.2]) W := by kernel_rfl
theorem ix_extended_31 (W : World) : (Instr.index 240 (.agg extendedV) (.int .u8 (31 - 20))).run Tryz.prog W = .ok (.agg #[.string (entOf 31).1, .int .u8 (entOf 31).2.1, .int .i64 (entOf 31).2.2.1, .int .i64 (entOf 31).2.2.2]) W := by kernel_rfl
theorem ix_extended_32 (W : World) : (Instr.index 240 (.agg extendedV) (.int .u8 (32 - 20))).run Tryz.prog W = .ok (.agg #[.string (entOf 32).1, .int .u8 (entOf 32).2.1, .int .i64 (entOf 32).2.2.1, .int .i64 (entOf 32).2.2.2]) W := by kernel_rfl
theorem ix_extended_33 (W : World) : (Instr.index 240 (.agg extendedV) (.int .u8 (33 - 20))).run Tryz.prog W = .ok (.agg #[.string (entOf 33).1, .int .u8 (entOf 33).2.1, .int .i64 (entOf 33).2.2.1, .int .i64 (entOf 33).2.2.2]) W := by kernel_rfl
theorem ix_extended_34 (W : World) : (Instr.index 240 (.agg extendedV) (.int .u8 (34 - 20))).run Tryz.prog W = .ok (.agg #[.string (entOf 34).1, .int .u8 (entOf 34).2.1, .int .i64 (entOf 34).2.2.1, .int .i64 (entOf 34).2.2.2]) W := by kernel_rfl
theorem ix_extended_35 (W : World) : (Instr.index 240 (.agg extendedV) (.int .u8 (35 - 20))).run Tryz.prog W = .ok (.agg #[.string (entOf 35).1, .int .u8 (entOf 35).2.1, .int .i64 (entOf 35).2.2.1, .int .i64 (entOf 35).2.2.2]) W := by kernel_rfl
theorem ix_extended_36 (W : World) : (Instr.index 240 (.agg extendedV) (.int .u8 (36 - 20))).run Tryz.prog W = .ok (.agg #[.string (entOf 36).1, .int .u8 (entOf 36).2.1, .int .i64 (entOf 36).2.2.1, .int .i64 (entOf 36).2.2.2]) W := by kernel_rfl
theorem ix_extended_37 (W : World) : (Instr.index 240 (.agg extendedV) (.int .u8 (37 - 20))).run Tryz.prog W = .ok (.agg #[.string (entOf 37).1, .int .u8 (entOf 37).2.1, .int .i64 (entOf 37).2.2.1, .int .i64 (entOf 37).2.2.2]) W := by kernel_rfl
theorem ix_extended_38 (W : World) : (Instr.index 240 (.agg extendedV) (.int .u8 (38 - 20))).run Tryz.prog W = .ok (.agg #[.string (entOf 38).1, .int .u8 (entOf 38).2.1, .int .i64 (entOf 38).2.2.1, .int .i64 (entOf 38).2.2.2]) W := by kernel_rfl
theorem ix_extended_39 (W : World) : (Instr.index 240 (.agg extendedV) (.int .u8 (39 - 20))).run Tryz.prog W = .ok (.agg #[.string (entOf 39).1, .int .u8 (entOf 39).2.1, .int .i64 (entOf 39).2.2.1, .int .i64 (entOf 39).2.2.2]) W := by kernel_rfl
theorem ix_extended (c : Int) (h0 : 20 ≤ c) (h1 : c ≤ 39) (W : World) : (Instr.index 240 (.agg extendedV) (.int .u8 (c - 20))).run Tryz.prog W = .ok (.agg #[.string (entOf c).1, .int .u8 (entOf c).2.1, .int .i64 (entOf c).2.2.1, .int .i64 (entOf c).2.2.2]) W := by
 have h : c = 20 ∨ c = 21 ∨ c = 22 ∨ c = 23 ∨ c = 24 ∨ c = 25 ∨ c = 26 ∨ c = 27 ∨ c = 28 ∨ c = 29 ∨ c = 30 ∨ c = 31 ∨ c = 32 ∨ c = 33 ∨ c = 34 ∨ c = 35 ∨ c = 36 ∨ c = 37 ∨ c = 38 ∨ c = 39 := by omega
 rcases h with rfl | rfl | rfl | rfl | rfl | rfl | rfl | rfl | rfl | rfl | rfl | rfl | rfl | rfl | rfl | rfl | rfl | rfl | rfl | rfl
 · exact ix_extended_20 W
 · exact ix_extended_21 W
 · exact ix_extended_22 W
 · exact ix_extended_23 W
 · exact ix_extended_24 W
 · exact ix_extended_25 W
 · exact ix_extended_26 W
 · exact ix_extended_27 W
 · exact ix_extended_28 W
 · exact ix_extended_29 W
 · exact ix_extended_30 W
 · exact ix_extended_31 W
 · exact ix_extended_32 W
 · exact ix_extended_33 W
 · exact ix_extended_34 W
 · exact ix_extended_35 W
 · exact ix_extended_36 W
 · exact ix_extended_37 W
 · exact ix_extended_38 W
 · exact ix_extended_39 W
theorem row_basic (c : Int) (h0 : 1 ≤ c) (h1 : c ≤ 19) (w : World) : Calls Tryz.prog 184 #[.int .u8 c] w fun e w' => e = .returned (.agg #[.string (entOf c).1, .int .u8 (entOf c).2.1, .int .i64 (entOf c).2.2.1, .int .i64 (entOf c).2.2.2]) ∧ Below w.heap.size w w' := by
 have HB := Aside0.mk (Below.refl w.heap.size w)
 have hix := Lib.hid (ix_basic c h0 h1)
 have b1 : decide (c ≤ 19) = true := decide_eq_true h1
 have e1 : IntKind.u8.wrap (c - 1) = c - 1 := by rw [IntKind.wrap_u8]; omega
 clear h0 h1
 go_enter Tryz.func184, Tryz.ntmps184
 go_wp2_with (first | ((with_reducible refine gate_dst (N := 2) rfl ?_); refine box_event ?hg (N := 2) ?hd (cs := #[.string (⟨#[]⟩ : ByteArray), .int .u8 0, .int .i64 0, .int .i64 0]) (t := 203) ?hr ?_; (case hd => rfl); (case hg => rfl); (case hr => kernel_rfl); intro g hg w1 K hb; have H1 := Aside0.mk (below_step HB.out hb); have HK := Aside0.mk K; have Hg := Aside0.mk hg; clear K hb hg) | (go_at_call 233; (with_reducible refine (basic_c _).mono ?_); rintro e w2 ⟨rfl, hb2⟩; have H2 := Aside0.mk (below_step H1.out hb2); have HK2 := Aside0.mk (blk_below HK.out hb2); clear hb2) | ((with_reducible refine gate_dst (N := 8) rfl ?_); refine Kd.event_run (v := .agg #[.string (entOf c).1, .int .u8 (entOf c).2.1, .int .i64 (entOf c).2.2.1, .int .i64 (entOf c).2.2.2]) (w1 := w2) rfl (run_index_op 238 (.tmp 5) (.tmp 7) rfl rfl rfl (hix.out _)) ?_) | (refine store_row_ rfl 203 (.tmp 2) (.tmp 8) rfl g rfl 203 _ #[.string (entOf c).1, .int .u8 (entOf c).2.1, .int .i64 (entOf c).2.2.1, .int .i64 (entOf c).2.2.2] rfl HK2.out ?hi ?hs ?h1 ?_; (case hi => kernel_rfl); (case hs => rfl); (case h1 => kernel_rfl)))
 refine bodyPost_ret (results_cell_row rfl _ _ g 203 #[.string (entOf c).1, .int .u8 (entOf c).2.1, .int .i64 (entOf c).2.2.1, .int .i64 (entOf c).2.2.2] (0, 0) _ rfl (setRow_heap _ g _ _ 203 (0, 0) HK2.out) Tryz.underlying203 rfl (by kernel_rfl)) rfl ⟨rfl, below_setRow H2.out (Nat.le_of_eq Hg.out.symm) _⟩
theorem row_extended (c : Int) (h0 : 20 ≤ c) (h1 : c ≤ 39) (w : World) : Calls Tryz.prog 184 #[.int .u8 c] w fun e w' => e = .returned (.agg #[.string (entOf c).1, .int .u8 (entOf c).2.1, .int .i64 (entOf c).2.2.1, .int .i64 (entOf c).2.2.2]) ∧ Below w.heap.size w w' := by
 have HB := Aside0.mk (Below.refl w.heap.size w)
 have hix := Lib.hid (ix_extended c h0 h1)
 have b1 : decide (c ≤ 19) = false := decide_eq_false (by omega)
 have e1 : IntKind.u8.wrap (c - 1) = c - 1 := by rw [IntKind.wrap_u8]; omega
 have e2 : IntKind.u8.wrap (c - 1 - 19) = c - 20 := by rw [IntKind.wrap_u8]; omega
 clear h0 h1
 go_enter Tryz.func184, Tryz.ntmps184
 go_wp2_with (first | ((with_reducible refine gate_dst (N := 2) rfl ?_); refine box_event ?hg (N := 2) ?hd (cs := #[.string (⟨#[]⟩ : ByteArray), .int .u8 0, .int .i64 0, .int .i64 0]) (t := 203) ?hr ?_; (case hd => rfl); (case hg => rfl); (case hr => kernel_rfl); intro g hg w1 K hb; have H1 := Aside0.mk (below_step HB.out hb); have HK := Aside0.mk K; have Hg := Aside0.mk hg; clear K hb hg) | (go_at_call 234; (with_reducible refine (extended_c _).mono ?_); rintro e w2 ⟨rfl, hb2⟩; have H2 := Aside0.mk (below_step H1.out hb2); have HK2 := Aside0.mk (blk_below HK.out hb2); clear hb2) | ((with_reducible refine gate_dst (N := 13) rfl ?_); refine Kd.event_run (v := .agg #[.string (entOf c).1, .int .u8 (entOf c).2.1, .int .i64 (entOf c).2.2.1, .int .i64 (entOf c).2.2.2]) (w1 := w2) rfl (run_index_op 240 (.tmp 9) (.tmp 12) rfl rfl rfl (hix.out _)) ?_) | (refine store_row_ rfl 203 (.tmp 2) (.tmp 13) rfl g rfl 203 _ #[.string (entOf c).1, .int .u8 (entOf c).2.1, .int .i64 (entOf c).2.2.1, .int .i64 (entOf c).2.2.2] rfl HK2.out ?hi ?hs ?h1 ?_; (case hi => kernel_rfl); (case hs => rfl); (case h1 => kernel_rfl)))
 refine bodyPost_ret (results_cell_row rfl _ _ g 203 #[.string (entOf c).1, .int .u8 (entOf c).2.1, .int .i64 (entOf c).2.2.1, .int .i64 (entOf c).2.2.2] (0, 0) _ rfl (setRow_heap _ g _ _ 203 (0, 0) HK2.out) Tryz.underlying203 rfl (by kernel_rfl)) rfl ⟨rfl, below_setRow H2.out (Nat.le_of_eq Hg.out.symm) _⟩
theorem fld57_0 (a : ByteArray) (b c d : Int) (W : World) : (Instr.field 203 (.agg #[.string a, .int .u8 b, .int .i64 c, .int .i64 d]) 0).run Tryz.prog W = .ok (.string a) W := by kernel_rfl
theorem fld57_2 (a : ByteArray) (b c d : Int) (W : World) : (Instr.field 203 (.agg #[.string a, .int .u8 b, .int .i64 c, .int .i64 d]) 2).run Tryz.prog W = .ok (.int .i64 c) W := by kernel_rfl
theorem isa_row.calls (a0 : Int) (r1 : ByteArray) (r2 : Int) (r3 : Int) (r4 : Int) (w : World) (h : isa_row.f a0 = some (r1, r2, r3, r4)) :
 Calls Tryz.prog 184 #[.int .u8 a0] w fun e w' => e = .returned (.agg #[.string r1, .int .u8 r2, .int .i64 r3, .int .i64 r4]) ∧ Below w.heap.size w w' := by
 unfold isa_row.f at h
 split at h
 · rename_i hc
   have e1 : entOf a0 = (r1, r2, r3, r4) := by simpa using h
   by_cases hb : a0 ≤ 19
   · have := row_basic a0 hc.1 hb w
     rwa [e1] at this
   · have := row_extended a0 (by omega) hc.2 w
     rwa [e1] at this
 · cases h
end Go.Proofs.YtgbmaajfbbilhaaGreat.PAll
end
section
namespace Go.Proofs.YtgbmaajfbbilhaaGreat.PAll
open Go.RowKit Go.Proofs.YtgbmaajfbbilhaaGreatW.PrintWords Go.Proofs.YtgbmaajfbbilhaaGreatW.PrintLast Go.Proofs.YtgbmaajfbbilhaaGreatW.PrintMore
def isa_Names.l0 : Nat → List ByteArray → Int → Option (List ByteArray)
 | 0, _, _ => none
 | k + 1, x1, x2 => (isa_valid.f x2).bind fun t402 => (if t402 = true then ((isa_row.f x2).bind fun bt403 => (if x1.length < 8796093022208 then (isa_Names.l0 k (x1 ++ [bt403.1]) ((x2 + 1) % 256)) else (none))) else (some x1))
def isa_Names.f (k : Nat)  : Option (List ByteArray) := isa_Names.l0 k ([] : List ByteArray) 1
theorem isa_Names.calls (k : Nat)  (r : List ByteArray) (w : World) (h : isa_Names.f k  = some r) :
 Calls Tryz.prog 232 #[] w fun e w' => ∃ v0_ : Value, e = .returned (v0_) ∧ Kd.R Kd.string 9 w' w.heap.size (fun _ => True) v0_ r ∧ Below w.heap.size w w' := by
 have hlay_fld57_0 := fld57_0
 have HB := Aside0.mk (Below.refl w.heap.size w)
 have H : (isa_Names.l0 k ([] : List ByteArray) 1) = some r := h
 clear h
 have H' := Aside0.mk H
 clear H
 go_enter Tryz.func232, Tryz.ntmps232
 go_wp2
 go_loopg [1, 2] k (fun kq v1 v2 w' => ∃ (x1_1 : List ByteArray) (x2_1 : Int), v2 = .int .u8 x2_1 ∧ Aside0 (isa_Names.l0 kq x1_1 x2_1 = some r) ∧ Aside0 (kq ≤ k) ∧ Aside0 (Kd.R Kd.string 9 w' w.heap.size (fun _ => True) v1 x1_1) ∧ Aside0 (Below w.heap.size w w'))
 case atStart => exact ⟨(([] : List ByteArray)), (1), (by first | rfl | (simp; done) | (simp [*]; done)), H', ⟨Nat.le_refl _⟩, ⟨by first | exact Kd.R_nil _ _ _ _ _ | exact Kd.N_nil _ _ _ _ _ | exact Kd.V_nil _ _ _ _ _ | exact Kd.Q_nil _ _ _ _ _ | exact Kd.S_nil _ _ _ _ _⟩, ⟨by repeat (first | (with_reducible first | exact HB.out | apply below_alloc | apply pw_below_drewN | apply below_drew1) | exact HB.out)⟩⟩
 case round =>
  clear H'
  obtain ⟨x1_1, x2_1, rfl, HA, HK1, HO_1, HB⟩ := hrel
  cases gk with
  | zero => exact absurd HA.out (by simp [isa_Names.l0])
  | succ k1 =>
   have H := HA.out
   clear HA
   simp only [isa_Names.l0] at H
   replace H := Option.bind_eq_some_iff.mp H
   obtain ⟨t402, A10, H⟩ := H
   replace H : (if t402 = true then ((isa_row.f x2_1).bind fun bt403 => (if x1_1.length < 8796093022208 then (isa_Names.l0 k1 (x1_1 ++ [bt403.1]) ((x2_1 + 1) % 256)) else (none))) else (some x1_1)) = some r := H
   have A1 := Aside0.mk A10
   clear A10
   by_cases c2 : t402 = true
   · subst c2
     have H1 : ((isa_row.f x2_1).bind fun bt403 => (if x1_1.length < 8796093022208 then (isa_Names.l0 k1 (x1_1 ++ [bt403.1]) ((x2_1 + 1) % 256)) else (none))) = some r := by rw [if_pos rfl] at H; exact H
     clear H
     have H := H1
     clear H1
     replace H := Option.bind_eq_some_iff.mp H
     obtain ⟨⟨t403, t404, t405, t406⟩, A30, H⟩ := H
     replace H : (if x1_1.length < 8796093022208 then (isa_Names.l0 k1 (x1_1 ++ [t403]) ((x2_1 + 1) % 256)) else (none)) = some r := H
     have A3 := Aside0.mk A30
     clear A30
     by_cases c4 : x1_1.length < 8796093022208
     · rw [if_pos c4] at H
       have LMc4 := Aside0.mk c4
       clear c4
       obtain ⟨y407, hy407⟩ : ∃ y_ : List ByteArray, y_ = (x1_1 ++ [t403]) := ⟨_, rfl⟩
       replace H : (isa_Names.l0 k1 y407 ((x2_1 + 1) % 256)) = some r := by first | (rw [hy407]; with_reducible exact H) | (have H2_ := (Option.bind_some _ _).symm.trans H; rw [hy407]; with_reducible exact H2_) | (have H2_ := (Option.bind_some _ _).symm.trans H; with_reducible exact H2_) | with_reducible exact H | (rw [hy407]; exact H) | exact H
       have Ny407 := Aside0.mk hy407
       clear hy407
       have H' := Aside0.mk H
       clear H
       go_wp2_with (first | ((with_reducible refine gate_callee (f := 183) rfl ?_); refine goesL_ (some 4) rfl rfl Tryz.func183 (by kernel_rfl) rfl #[.int .u8 x2_1] rfl (by (try simp only [List.map_toArray, List.map_cons, List.map_nil]); first | done | rfl | (simp only [List.length_drop, List.length_take]; rfl)) ?_; (with_reducible refine (isa_valid.calls x2_1 true _ A1.out).mono ?_); rintro e w' ⟨rfl, ⟨nd, rfl⟩⟩; refine ⟨_, rfl, ?_⟩) | ((with_reducible refine gate_callee (f := 184) rfl ?_); refine goesL_ (some 9) rfl rfl Tryz.func184 (by kernel_rfl) rfl #[.int .u8 x2_1] rfl (by (try simp only [List.map_toArray, List.map_cons, List.map_nil]); first | done | rfl | (simp only [List.length_drop, List.length_take]; rfl)) ?_; (with_reducible refine (isa_row.calls x2_1 t403 t404 t405 t406 _ A3.out).mono ?_); rintro e w5 ⟨rfl, hb⟩; refine ⟨_, rfl, ?_⟩; have n0_ := Aside0.mk (Kd.R_below (by (with_reducible repeat (first | apply Kd.R_alloc | apply Kd.R_drewN | apply Kd.R_drew)); exact HO_1.out) hb); have n1_ := Aside0.mk (below_step (by repeat (first | (with_reducible first | exact HB.out | apply below_alloc | apply pw_below_drewN | apply below_drew1) | exact HB.out)) hb); clear HO_1; clear HB; have HO_1 := n0_; have HB := n1_; clear n0_ n1_; (try clear hb); (try clear hb2); (try clear hk); (try clear hi)) | ((with_reducible refine gate_builtin (b := .append) (xs := #[.tmp 7, .tmp 11]) rfl ?_); at_builtin; refine Kd.R_append Kd.string (w0 := w) w.heap.size rfl (.tmp 7) (.tmp 11) 236 9 (.string ⟨#[]⟩) 16 rfl Tryz.underlying236 info9 rfl (by decide) (by omega) u1 x1_1 t403 [.string t403] (fun _ => True) (fun _ => False) rfl rfl ?aP (fun _ hk => hk.elim) ?aF ?aO ?aB ?aS ?aL ?_; (case aP => exact rfl); (case aB => exact (by repeat (first | (with_reducible first | exact HB.out | apply below_alloc | apply pw_below_drewN | apply below_drew1) | exact HB.out))); (case aF => exact (fun _ _ => trivial)); (case aO => exact (by (with_reducible repeat (first | apply Kd.R_alloc | apply Kd.R_drewN | apply Kd.R_drew)); exact HO_1.out)); (case aS => exact (below_size (by repeat (first | (with_reducible first | exact HB.out | apply below_alloc | apply pw_below_drewN | apply below_drew1) | exact HB.out)))); (case aL => have := LMc4.out; omega); intro v408 w6 ho hb hg hat; rw [← Ny407.out] at ho; have n0_ := Aside0.mk (hb); have n1_ := Aside0.mk (ho); clear HB; clear HO_1; have HB := n0_; have HO409 := n1_; clear n0_ n1_; clear ho hb hg hat))
       go_roundg k1
       case measure => have := HK1.out; omega
       case rel => exact ⟨(y407), ((x2_1 + 1) % 256), (by first | rfl | (simp; done) | (simp [*]; done)), H', ⟨by have := HK1.out; omega⟩, ⟨by (with_reducible repeat (first | apply Kd.R_alloc | apply Kd.R_drewN | apply Kd.R_drew)); exact HO409.out⟩, ⟨by repeat (first | (with_reducible first | exact HB.out | apply below_alloc | apply pw_below_drewN | apply below_drew1) | exact HB.out)⟩⟩
     · rw [if_neg c4] at H
       exact absurd H (by simp)
   · replace c2 := Bool.eq_false_iff.mpr c2
     subst c2
     have H1 : (some x1_1) = some r := by rw [if_neg (show ¬ (false = true) by decide)] at H; exact H
     clear H
     have H := H1
     clear H1
     obtain rfl := Option.some.inj H
     go_wp2_with (first | ((with_reducible refine gate_callee (f := 183) rfl ?_); refine goesL_ (some 4) rfl rfl Tryz.func183 (by kernel_rfl) rfl #[.int .u8 x2_1] rfl (by (try simp only [List.map_toArray, List.map_cons, List.map_nil]); first | done | rfl | (simp only [List.length_drop, List.length_take]; rfl)) ?_; (with_reducible refine (isa_valid.calls x2_1 false _ A1.out).mono ?_); rintro e w' ⟨rfl, ⟨nd, rfl⟩⟩; refine ⟨_, rfl, ?_⟩))
     go_ret
     exact ⟨_, by first | rfl | (simp [errW_none, errW_some] <;> rfl) | (simp [*, errW_none, errW_some] <;> rfl), by (with_reducible repeat (first | apply Kd.R_alloc | apply Kd.R_drewN | apply Kd.R_drew)); exact HO_1.out, by repeat (first | (with_reducible first | exact HB.out | apply below_alloc | apply pw_below_drewN | apply below_drew1) | exact HB.out)⟩
def isa_Of.f (a0 : Int) : Option (Int × ByteArray × Bool × Int × Int × Int × Int) := (isa_valid.f a0).bind fun t212 => (if t212 = true then ((isa_row.f a0).bind fun bt213 => ((isa_width.f bt213.2.1).bind fun t218 => (some (a0, bt213.1, decide (a0 > 19), bt213.2.1, t218, bt213.2.2.2, 0)))) else (some (0, (⟨#[]⟩ : ByteArray), false, 0, 0, 0, 7)))
def isa_Of.T4 : Bool × List (List Nat × List Nat) := (true, [([], []), ([], []), ([1], [1]), ([], []), ([3], [3]), ([], []), ([5], [5]), ([], []), ([7], [7]), ([8], [8]), ([], []), ([10], [10]), ([0, 2, 4, 6, 9, 11], [0, 2, 4, 6, 9, 11]), ([12, 9, 0, 1, 2, 3, 4, 5, 6, 7, 8, 9, 10, 11, 12], [12]), ([13, 0, 1, 2, 3, 4, 5, 6, 7, 8, 9, 10, 11, 12, 13], [])])
def isa_Of.B4 : List Nat := [0, 0, 2, 0, 8, 0, 32, 0, 128, 384, 0, 1024, 4095, 8191, 16383]
theorem isa_Of.tab4 : rtab .any (opsOf Tryz.f181 4) = isa_Of.T4 := by kernel_rfl
theorem isa_Of.bits4 : waitsOk isa_Of.T4.2 isa_Of.B4 = true := by kernel_rfl
theorem isa_Of.calls (a0 : Int) (r1 : Int) (r2 : ByteArray) (r3 : Bool) (r4 : Int) (r5 : Int) (r6 : Int) (r7 : Int) (w : World) (h : isa_Of.f a0 = some (r1, r2, r3, r4, r5, r6, r7)) :
 Calls Tryz.prog 181 #[.int .u8 a0] w fun e w' => e = .returned (.tuple #[.agg #[.int .u8 r1, .string r2, .bool r3, .int .u8 r4, .int .i64 r5, .int .i64 r6], .int .i64 r7]) ∧ Below w.heap.size w w' := by
 have hu119 := Tryz.underlying119
 have hu203 := Tryz.underlying203
 have HB := Aside0.mk (Below.refl w.heap.size w)
 have H : ((isa_valid.f a0).bind fun t212 => (if t212 = true then ((isa_row.f a0).bind fun bt213 => ((isa_width.f bt213.2.1).bind fun t218 => (some (a0, bt213.1, decide (a0 > 19), bt213.2.1, t218, bt213.2.2.2, 0)))) else (some (0, (⟨#[]⟩ : ByteArray), false, 0, 0, 0, 7)))) = some (r1, r2, r3, r4, r5, r6, r7) := h
 clear h
 replace H := Option.bind_eq_some_iff.mp H
 obtain ⟨t212, A20, H⟩ := H
 replace H : (if t212 = true then ((isa_row.f a0).bind fun bt213 => ((isa_width.f bt213.2.1).bind fun t218 => (some (a0, bt213.1, decide (a0 > 19), bt213.2.1, t218, bt213.2.2.2, 0)))) else (some (0, (⟨#[]⟩ : ByteArray), false, 0, 0, 0, 7))) = some (r1, r2, r3, r4, r5, r6, r7) := H
 have A2 := Aside0.mk A20
 clear A20
 by_cases c3 : t212 = true
 · subst c3
   have H1 : ((isa_row.f a0).bind fun bt213 => ((isa_width.f bt213.2.1).bind fun t218 => (some (a0, bt213.1, decide (a0 > 19), bt213.2.1, t218, bt213.2.2.2, 0)))) = some (r1, r2, r3, r4, r5, r6, r7) := by rw [if_pos rfl] at H; exact H
   clear H
   have H := H1
   clear H1
   replace H := Option.bind_eq_some_iff.mp H
   obtain ⟨⟨t213, t214, t215, t216⟩, A40, H⟩ := H
   replace H : ((isa_width.f t214).bind fun t218 => (some (a0, t213, decide (a0 > 19), t214, t218, t216, 0))) = some (r1, r2, r3, r4, r5, r6, r7) := H
   have A4 := Aside0.mk A40
   clear A40
   replace H := Option.bind_eq_some_iff.mp H
   obtain ⟨t218, A50, H⟩ := H
   replace H : (some (a0, t213, decide (a0 > 19), t214, t218, t216, 0)) = some (r1, r2, r3, r4, r5, r6, r7) := H
   have A5 := Aside0.mk A50
   clear A50
   simp only [Option.some.injEq, Prod.mk.injEq] at H
   obtain ⟨rfl, rfl, rfl, rfl, rfl, rfl, rfl⟩ := H
   go_enter Tryz.func181, Tryz.ntmps181
   try go_wp2_with (first | ((with_reducible refine gate_dst (N := 2) rfl ?_); refine box_event ?hg (N := 2) ?hd (cs := #[.int .u8 0, .string (⟨#[]⟩ : ByteArray), .bool false, .int .u8 0, .int .i64 0, .int .i64 0]) (t := 119) ?hr ?_; (case hd => rfl); (case hg => rfl); (case hr => first | (go_simp; done) | (go_simp; rfl)); intro gb211 hg w6 hbox hb; have n0_ := Aside0.mk (below_step (by repeat (first | (with_reducible first | exact HB.out | apply below_alloc | apply pw_below_drewN | apply below_drew1) | exact HB.out)) hb); have n1_ := Aside0.mk (hbox); have n2_ := Aside0.mk ((by rw [hg]; exact (below_size (by repeat (first | (with_reducible first | exact HB.out | apply below_alloc | apply pw_below_drewN | apply below_drew1) | exact HB.out))) : w.heap.size ≤ gb211)); have n3_ := Aside0.mk ((by rw [hg]; exact (below_size (by repeat (first | (with_reducible first | exact HB.out | apply below_alloc | apply pw_below_drewN | apply below_drew1) | exact HB.out))) : w.heap.size ≤ gb211)); clear HB; have HB := n0_; have BK211 := n1_; have GW211 := n2_; have GE211 := n3_; clear n0_ n1_ n2_ n3_; clear hb hbox hg) | ((with_reducible refine gate_callee (f := 183) rfl ?_); refine goesL_ (some 6) rfl rfl Tryz.func183 (by kernel_rfl) rfl #[.int .u8 a0] rfl (by (try simp only [List.map_toArray, List.map_cons, List.map_nil]); first | done | rfl | (simp only [List.length_drop, List.length_take]; rfl)) ?_; (with_reducible refine (isa_valid.calls a0 true _ A2.out).mono ?_); rintro e w' ⟨rfl, ⟨nd, rfl⟩⟩; refine ⟨_, rfl, ?_⟩; (try (rw [drewN_self w6]; generalize hq_ : World.drewN w6 _ = w6; have n0_ : Aside0 (w6.heap[gb211]? = some (.cells #[.int .u8 0, .string (⟨#[]⟩ : ByteArray), .bool false, .int .u8 0, .int .i64 0, .int .i64 0] 119 (0, 0))) := ⟨by rw [← hq_]; exact (by (with_reducible repeat (first | refine blk_drewN ?_ _ | refine blk_drew ?_ | refine blk_alloc ?_ _)); exact BK211.out)⟩; have n1_ : Aside0 (Below w.heap.size w w6) := ⟨by rw [← hq_]; exact (by repeat (first | (with_reducible first | exact HB.out | apply below_alloc | apply pw_below_drewN | apply below_drew1 | refine below_set ?_ GE211.out) | exact HB.out))⟩; clear BK211 HB hq_; have BK211 := n0_; have HB := n1_; clear n0_ n1_; have hcr211_0 : w6.cell? ⟨gb211, 0, none⟩ = some (.int .u8 0) := (blk_cell BK211.out 0).trans rfl; have hfr211_0 := blk_frozen BK211.out 0; have hcr211_1 : w6.cell? ⟨gb211, 1, none⟩ = some (.string (⟨#[]⟩ : ByteArray)) := (blk_cell BK211.out 1).trans rfl; have hfr211_1 := blk_frozen BK211.out 1; have hcr211_2 : w6.cell? ⟨gb211, 2, none⟩ = some (.bool false) := (blk_cell BK211.out 2).trans rfl; have hfr211_2 := blk_frozen BK211.out 2; have hcr211_3 : w6.cell? ⟨gb211, 3, none⟩ = some (.int .u8 0) := (blk_cell BK211.out 3).trans rfl; have hfr211_3 := blk_frozen BK211.out 3; have hcr211_4 : w6.cell? ⟨gb211, 4, none⟩ = some (.int .i64 0) := (blk_cell BK211.out 4).trans rfl; have hfr211_4 := blk_frozen BK211.out 4; have hcr211_5 : w6.cell? ⟨gb211, 5, none⟩ = some (.int .i64 0) := (blk_cell BK211.out 5).trans rfl; have hfr211_5 := blk_frozen BK211.out 5))) | ((with_reducible refine gate_callee (f := 184) rfl ?_); refine goesL_ (some 10) rfl rfl Tryz.func184 (by kernel_rfl) rfl #[.int .u8 a0] rfl (by (try simp only [List.map_toArray, List.map_cons, List.map_nil]); first | done | rfl | (simp only [List.length_drop, List.length_take]; rfl)) ?_; (with_reducible refine (isa_row.calls a0 t213 t214 t215 t216 _ A4.out).mono ?_); rintro e w7 ⟨rfl, hb⟩; refine ⟨_, rfl, ?_⟩; have n0_ := Aside0.mk (blk_below (g := gb211) (o := .cells #[.int .u8 0, .string (⟨#[]⟩ : ByteArray), .bool false, .int .u8 0, .int .i64 0, .int .i64 0] 119 (0, 0)) (by (with_reducible repeat (first | refine blk_drewN ?_ _ | refine blk_drew ?_ | refine blk_alloc ?_ _)); exact BK211.out) hb); have n1_ := Aside0.mk (below_step (by repeat (first | (with_reducible first | exact HB.out | apply below_alloc | apply pw_below_drewN | apply below_drew1 | refine below_set ?_ GE211.out) | exact HB.out)) hb); clear BK211; clear HB; have BK211 := n0_; have HB := n1_; clear n0_ n1_; (try clear hb); (try clear hb2); (try clear hk); (try clear hi)) | ((with_reducible refine gate_dst (N := 4) rfl ?_); refine box_event ?hg (N := 4) ?hd (cs := #[.string (⟨#[]⟩ : ByteArray), .int .u8 0, .int .i64 0, .int .i64 0]) (t := 203) ?hr ?_; (case hd => rfl); (case hg => rfl); (case hr => first | (go_simp; done) | (go_simp; rfl)); intro gb217 hg w8 hbox hb; have n0_ := Aside0.mk (blk_below (g := gb211) (o := .cells #[.int .u8 0, .string (⟨#[]⟩ : ByteArray), .bool false, .int .u8 0, .int .i64 0, .int .i64 0] 119 (0, 0)) (by (with_reducible repeat (first | refine blk_drewN ?_ _ | refine blk_drew ?_ | refine blk_alloc ?_ _)); exact BK211.out) hb); have n1_ := Aside0.mk (below_step (by repeat (first | (with_reducible first | exact HB.out | apply below_alloc | apply pw_below_drewN | apply below_drew1 | refine below_set ?_ GE211.out) | exact HB.out)) hb); have n2_ := Aside0.mk (hbox); have n3_ := Aside0.mk ((by rw [hg]; exact (below_size (by repeat (first | (with_reducible first | exact HB.out | apply below_alloc | apply pw_below_drewN | apply below_drew1 | refine below_set ?_ GE211.out) | exact HB.out))) : w.heap.size ≤ gb217)); have n4_ := Aside0.mk ((by rw [hg]; exact (below_size (by repeat (first | (with_reducible first | exact HB.out | apply below_alloc | apply pw_below_drewN | apply below_drew1 | refine below_set ?_ GE211.out) | exact HB.out))) : w.heap.size ≤ gb217)); have n5_ := Aside0.mk ((by rw [hg]; exact Nat.ne_of_lt (blk_lt (g := gb211) (o := .cells #[.int .u8 0, .string (⟨#[]⟩ : ByteArray), .bool false, .int .u8 0, .int .i64 0, .int .i64 0] 119 (0, 0)) (by (with_reducible repeat (first | refine blk_drewN ?_ _ | refine blk_drew ?_ | refine blk_alloc ?_ _)); exact BK211.out)) : gb211 ≠ gb217)); have n6_ := Aside0.mk ((by rw [hg]; exact Nat.ne_of_gt (blk_lt (g := gb211) (o := .cells #[.int .u8 0, .string (⟨#[]⟩ : ByteArray), .bool false, .int .u8 0, .int .i64 0, .int .i64 0] 119 (0, 0)) (by (with_reducible repeat (first | refine blk_drewN ?_ _ | refine blk_drew ?_ | refine blk_alloc ?_ _)); exact BK211.out)) : gb217 ≠ gb211)); clear BK211; clear HB; have BK211 := n0_; have HB := n1_; have BK217 := n2_; have GW217 := n3_; have GE217 := n4_; have NB211_217 := n5_; have NB217_211 := n6_; clear n0_ n1_ n2_ n3_ n4_ n5_ n6_; clear hb hbox hg; have hnb9 := NB217_211.out; have hnc9 := NB211_217.out; have hcz10_0 : w8.cell? ⟨gb217, 0, none⟩ = some (.string (⟨#[]⟩ : ByteArray)) := (blk_cell BK217.out 0).trans rfl; have hcz10_1 : w8.cell? ⟨gb217, 1, none⟩ = some (.int .u8 0) := (blk_cell BK217.out 1).trans rfl; have hcz10_2 : w8.cell? ⟨gb217, 2, none⟩ = some (.int .i64 0) := (blk_cell BK217.out 2).trans rfl; have hcz10_3 : w8.cell? ⟨gb217, 3, none⟩ = some (.int .i64 0) := (blk_cell BK217.out 3).trans rfl; have hfz10_0 := blk_frozen BK217.out 0; have hfz10_1 := blk_frozen BK217.out 1; have hfz10_2 := blk_frozen BK217.out 2; have hfz10_3 := blk_frozen BK217.out 3))
   have n0_ : Aside0 (((((w8.setCell ⟨gb217, 0, none⟩ (.string t213)).setCell ⟨gb217, 1, none⟩ (.int .u8 t214)).setCell ⟨gb217, 2, none⟩ (.int .i64 t215)).setCell ⟨gb217, 3, none⟩ (.int .i64 t216)).heap[gb211]? = some (.cells #[.int .u8 0, .string (⟨#[]⟩ : ByteArray), .bool false, .int .u8 0, .int .i64 0, .int .i64 0] 119 (0, 0))) := ⟨by (with_reducible repeat (first | refine blk_drewN ?_ _ | refine blk_drew ?_ | refine blk_alloc ?_ _)); refine blk_far ?_ NB211_217.out _; (with_reducible repeat (first | refine blk_drewN ?_ _ | refine blk_drew ?_ | refine blk_alloc ?_ _)); refine blk_far ?_ NB211_217.out _; (with_reducible repeat (first | refine blk_drewN ?_ _ | refine blk_drew ?_ | refine blk_alloc ?_ _)); refine blk_far ?_ NB211_217.out _; (with_reducible repeat (first | refine blk_drewN ?_ _ | refine blk_drew ?_ | refine blk_alloc ?_ _)); refine blk_far ?_ NB211_217.out _; (with_reducible repeat (first | refine blk_drewN ?_ _ | refine blk_drew ?_ | refine blk_alloc ?_ _)); exact BK211.out⟩
   have n1_ : Aside0 (((((w8.setCell ⟨gb217, 0, none⟩ (.string t213)).setCell ⟨gb217, 1, none⟩ (.int .u8 t214)).setCell ⟨gb217, 2, none⟩ (.int .i64 t215)).setCell ⟨gb217, 3, none⟩ (.int .i64 t216)).heap[gb217]? = some (.cells #[.string t213, .int .u8 t214, .int .i64 t215, .int .i64 t216] 203 (0, 0))) := ⟨by (with_reducible repeat (first | refine blk_drewN ?_ _ | refine blk_drew ?_ | refine blk_alloc ?_ _)); refine blk_put (cs := #[.string t213, .int .u8 t214, .int .i64 t215, .int .i64 0]) ?_ 3 _ rfl; (with_reducible repeat (first | refine blk_drewN ?_ _ | refine blk_drew ?_ | refine blk_alloc ?_ _)); refine blk_put (cs := #[.string t213, .int .u8 t214, .int .i64 0, .int .i64 0]) ?_ 2 _ rfl; (with_reducible repeat (first | refine blk_drewN ?_ _ | refine blk_drew ?_ | refine blk_alloc ?_ _)); refine blk_put (cs := #[.string t213, .int .u8 0, .int .i64 0, .int .i64 0]) ?_ 1 _ rfl; (with_reducible repeat (first | refine blk_drewN ?_ _ | refine blk_drew ?_ | refine blk_alloc ?_ _)); refine blk_put (cs := #[.string (⟨#[]⟩ : ByteArray), .int .u8 0, .int .i64 0, .int .i64 0]) ?_ 0 _ rfl; (with_reducible repeat (first | refine blk_drewN ?_ _ | refine blk_drew ?_ | refine blk_alloc ?_ _)); exact BK217.out⟩
   have n2_ : Aside0 (Below w.heap.size w ((((w8.setCell ⟨gb217, 0, none⟩ (.string t213)).setCell ⟨gb217, 1, none⟩ (.int .u8 t214)).setCell ⟨gb217, 2, none⟩ (.int .i64 t215)).setCell ⟨gb217, 3, none⟩ (.int .i64 t216))) := ⟨by repeat (first | (with_reducible first | exact HB.out | apply below_alloc | apply pw_below_drewN | apply below_drew1 | refine below_set ?_ GE211.out | refine below_set ?_ GE217.out) | exact HB.out)⟩
   (try clear BK211)
   (try clear BK217)
   (try clear HB)
   generalize ((((w8.setCell ⟨gb217, 0, none⟩ (.string t213)).setCell ⟨gb217, 1, none⟩ (.int .u8 t214)).setCell ⟨gb217, 2, none⟩ (.int .i64 t215)).setCell ⟨gb217, 3, none⟩ (.int .i64 t216)) = w11 at n0_ n1_ n2_ ⊢
   have BK211 := n0_
   have BK217 := n1_
   have HB := n2_
   clear n0_ n1_ n2_
   have n0_ := Aside0.mk (blk_drew BK211.out)
   have n1_ := Aside0.mk (blk_drew BK217.out)
   have n2_ := Aside0.mk (below_drew1 HB.out)
   clear BK211
   clear BK217
   clear HB
   have BK211 := n0_
   have BK217 := n1_
   have HB := n2_
   clear n0_ n1_ n2_
   refine start_ (n := 15) (S := fun w' => w'.cell? ⟨gb217, 0, none⟩ = some (.string t213) ∧ w'.cell? ⟨gb217, 1, none⟩ = some (.int .u8 t214) ∧ w'.cell? ⟨gb217, 2, none⟩ = some (.int .i64 t215) ∧ w'.cell? ⟨gb217, 3, none⟩ = some (.int .i64 t216)) (ds := []) #[false, false, false, false, false, false, false, false, false, false, false, false, false, false, false] (by kernel_rfl) rfl rfl ⟨(blk_cell BK217.out 0).trans rfl, (blk_cell BK217.out 1).trans rfl, (blk_cell BK217.out 2).trans rfl, (blk_cell BK217.out 3).trans rfl⟩ (fun hHeld => ?_); refine with_tabW isa_Of.tab4 isa_Of.bits4 (fun HT_ HW_ => ?_)
   generalize w11.drew = w12 at BK211 BK217 HB hHeld ⊢
   refine pvq_ 0 (some 11) rfl rfl ?_ (any_of HT_.out (by kernel_rfl))
   refine pvq_ 1 (some 12) rfl rfl ?_ (any_of HT_.out (by kernel_rfl))
   refine pvq_ 3 (some 14) rfl rfl ?_ (any_of HT_.out (by kernel_rfl))
   refine pvq_ 4 (some 15) rfl rfl ?_ (any_of HT_.out (by kernel_rfl))
   refine pvq_ 5 (some 16) rfl rfl ?_ (any_of HT_.out (by kernel_rfl))
   refine pvq_ 7 (some 18) rfl rfl ?_ (any_of HT_.out (by kernel_rfl))
   refine pvq_ 10 (some 21) rfl rfl ?_ (any_of HT_.out (by kernel_rfl))
   refine take_ (i := 2) (N := some 13) (v := ?_) (a' := ?_) #[true, true, true, true, true, true, false, true, false, false, true, false, false, false, false] rfl rfl (take_ofW HT_.out HW_.out (by kernel_rfl)) (fun _ _ _ h => h) (Or.inl ⟨by rfl, ?_⟩) hHeld ?_ ?_
   rotate_left
   · rintro w' ⟨s0, s1, s2, s3⟩
     go_simp
     with_reducible rfl
   rotate_left
   · simp only [Act.put, List.setIfInBounds_toArray, List.set_cons_zero, List.set_cons_succ, i64_w, i32_w]
     rfl
   refine take_ (i := 6) (N := some 17) (v := ?_) (a' := ?_) #[true, true, true, true, true, true, true, true, false, false, true, false, false, false, false] rfl rfl (take_ofW HT_.out HW_.out (by kernel_rfl)) (fun _ _ _ h => h) (Or.inl ⟨by rfl, ?_⟩) hHeld ?_ ?_
   rotate_left
   · rintro w' ⟨s0, s1, s2, s3⟩
     go_simp
     with_reducible rfl
   rotate_left
   · simp only [Act.put, List.setIfInBounds_toArray, List.set_cons_zero, List.set_cons_succ, i64_w, i32_w]
     rfl
   refine take_ (i := 8) (N := some 19) (v := ?_) (a' := ?_) #[true, true, true, true, true, true, true, true, true, false, true, false, false, false, false] rfl rfl (take_ofW HT_.out HW_.out (by kernel_rfl)) (fun _ _ _ h => h) (Or.inl ⟨by rfl, ?_⟩) hHeld ?_ ?_
   rotate_left
   · rintro w' ⟨s0, s1, s2, s3⟩
     go_simp
     with_reducible rfl
   rotate_left
   · simp only [Act.put, List.setIfInBounds_toArray, List.set_cons_zero, List.set_cons_succ, i64_w, i32_w]
     rfl
   refine take_ (i := 11) (N := some 22) (v := ?_) (a' := ?_) #[true, true, true, true, true, true, true, true, true, false, true, true, false, false, false] rfl rfl (take_ofW HT_.out HW_.out (by kernel_rfl)) (fun _ _ _ h => h) (Or.inl ⟨by rfl, ?_⟩) hHeld ?_ ?_
   rotate_left
   · rintro w' ⟨s0, s1, s2, s3⟩
     go_simp
     with_reducible rfl
   rotate_left
   · simp only [Act.put, List.setIfInBounds_toArray, List.set_cons_zero, List.set_cons_succ, i64_w, i32_w]
     rfl
   refine onq_ 9 (some 20) rfl rfl (fun K hK => ?_) (one_of HT_.out (by kernel_rfl))
   refine goes_ Tryz.func231 (by kernel_rfl) rfl #[.int .u8 t214] (by rfl) rfl rfl (by (try simp only [List.map_toArray, List.map_cons, List.map_nil]); first | done | rfl | (simp only [List.length_drop, List.length_take]; rfl)) ?_
   with_reducible refine (isa_width.calls t214 t218 _ A5.out).mono ?_
   rintro e w' ⟨rfl, ⟨nd, rfl⟩⟩
   refine ⟨_, rfl, ?_⟩
   refine hK.out _ _ ⟨(blk_cell BK217.out 0).trans rfl, (blk_cell BK217.out 1).trans rfl, (blk_cell BK217.out 2).trans rfl, (blk_cell BK217.out 3).trans rfl⟩ (fun hHeld => ?_)
   clear hK K
   refine nmq_ (some 20) ?_
   refine pvq_ 12 (some 23) rfl rfl ?_ (any_of HT_.out (by kernel_rfl))
   refine onq_ 13 none rfl rfl (fun K hK => ?_) (one_of HT_.out (by kernel_rfl))
   have hs13 : w12.cell? ⟨gb211, 0, none⟩ = some (.int .u8 0) := (blk_cell BK211.out 0).trans rfl
   have hfs13 := blk_frozen BK211.out 0
   have hns13_1 := NB217_211.out
   have hms13_1 := NB211_217.out
   have hs14 : w12.cell? ⟨gb211, 1, none⟩ = some (.string (⟨#[]⟩ : ByteArray)) := (blk_cell BK211.out 1).trans rfl
   have hfs14 := blk_frozen BK211.out 1
   have hns14_1 := NB217_211.out
   have hms14_1 := NB211_217.out
   have hs15 : w12.cell? ⟨gb211, 2, none⟩ = some (.bool false) := (blk_cell BK211.out 2).trans rfl
   have hfs15 := blk_frozen BK211.out 2
   have hns15_1 := NB217_211.out
   have hms15_1 := NB211_217.out
   have hs16 : w12.cell? ⟨gb211, 3, none⟩ = some (.int .u8 0) := (blk_cell BK211.out 3).trans rfl
   have hfs16 := blk_frozen BK211.out 3
   have hns16_1 := NB217_211.out
   have hms16_1 := NB211_217.out
   have hs17 : w12.cell? ⟨gb211, 4, none⟩ = some (.int .i64 0) := (blk_cell BK211.out 4).trans rfl
   have hfs17 := blk_frozen BK211.out 4
   have hns17_1 := NB217_211.out
   have hms17_1 := NB211_217.out
   have hs18 : w12.cell? ⟨gb211, 5, none⟩ = some (.int .i64 0) := (blk_cell BK211.out 5).trans rfl
   have hfs18 := blk_frozen BK211.out 5
   have hns18_1 := NB217_211.out
   have hms18_1 := NB211_217.out
   refine skip_ (w1 := ?_) (by rfl) rfl ?_ ?_
   rotate_left
   · go_simp
     rfl
   refine hK.out _ _ ⟨((cell_far (p := ⟨gb211, _, none⟩) NB217_211.out _).trans (((cell_far (p := ⟨gb211, _, none⟩) NB217_211.out _).trans (((cell_far (p := ⟨gb211, _, none⟩) NB217_211.out _).trans (((cell_far (p := ⟨gb211, _, none⟩) NB217_211.out _).trans (((cell_far (p := ⟨gb211, _, none⟩) NB217_211.out _).trans (((cell_far (p := ⟨gb211, _, none⟩) NB217_211.out _).trans (hHeld.1)))))))))))), ((cell_far (p := ⟨gb211, _, none⟩) NB217_211.out _).trans (((cell_far (p := ⟨gb211, _, none⟩) NB217_211.out _).trans (((cell_far (p := ⟨gb211, _, none⟩) NB217_211.out _).trans (((cell_far (p := ⟨gb211, _, none⟩) NB217_211.out _).trans (((cell_far (p := ⟨gb211, _, none⟩) NB217_211.out _).trans (((cell_far (p := ⟨gb211, _, none⟩) NB217_211.out _).trans (hHeld.2.1)))))))))))), ((cell_far (p := ⟨gb211, _, none⟩) NB217_211.out _).trans (((cell_far (p := ⟨gb211, _, none⟩) NB217_211.out _).trans (((cell_far (p := ⟨gb211, _, none⟩) NB217_211.out _).trans (((cell_far (p := ⟨gb211, _, none⟩) NB217_211.out _).trans (((cell_far (p := ⟨gb211, _, none⟩) NB217_211.out _).trans (((cell_far (p := ⟨gb211, _, none⟩) NB217_211.out _).trans (hHeld.2.2.1)))))))))))), ((cell_far (p := ⟨gb211, _, none⟩) NB217_211.out _).trans (((cell_far (p := ⟨gb211, _, none⟩) NB217_211.out _).trans (((cell_far (p := ⟨gb211, _, none⟩) NB217_211.out _).trans (((cell_far (p := ⟨gb211, _, none⟩) NB217_211.out _).trans (((cell_far (p := ⟨gb211, _, none⟩) NB217_211.out _).trans (((cell_far (p := ⟨gb211, _, none⟩) NB217_211.out _).trans (hHeld.2.2.2))))))))))))⟩ (fun hHeld => ?_)
   clear hK K
   refine pvq_ 14 (some 3) rfl rfl ?_ (any_of HT_.out (by kernel_rfl))
   refine done_ (done_of HT_.out (by kernel_rfl)) ?_
   try go_wp2
   refine bodyPost_ret (results_ct rfl _ _ gb211 119 #[.int .u8 a0, .string t213, .bool (decide (a0 > 19)), .int .u8 t214, .int .i64 t218, .int .i64 t216] (0, 0) _ rfl (by (with_reducible repeat (first | refine blk_drewN ?_ _ | refine blk_drew ?_ | refine blk_alloc ?_ _)); refine blk_put (cs := #[.int .u8 a0, .string t213, .bool (decide (a0 > 19)), .int .u8 t214, .int .i64 t218, .int .i64 0]) ?_ 5 _ rfl; (with_reducible repeat (first | refine blk_drewN ?_ _ | refine blk_drew ?_ | refine blk_alloc ?_ _)); refine blk_put (cs := #[.int .u8 a0, .string t213, .bool (decide (a0 > 19)), .int .u8 t214, .int .i64 0, .int .i64 0]) ?_ 4 _ rfl; (with_reducible repeat (first | refine blk_drewN ?_ _ | refine blk_drew ?_ | refine blk_alloc ?_ _)); refine blk_put (cs := #[.int .u8 a0, .string t213, .bool (decide (a0 > 19)), .int .u8 0, .int .i64 0, .int .i64 0]) ?_ 3 _ rfl; (with_reducible repeat (first | refine blk_drewN ?_ _ | refine blk_drew ?_ | refine blk_alloc ?_ _)); refine blk_put (cs := #[.int .u8 a0, .string t213, .bool false, .int .u8 0, .int .i64 0, .int .i64 0]) ?_ 2 _ rfl; (with_reducible repeat (first | refine blk_drewN ?_ _ | refine blk_drew ?_ | refine blk_alloc ?_ _)); refine blk_put (cs := #[.int .u8 a0, .string (⟨#[]⟩ : ByteArray), .bool false, .int .u8 0, .int .i64 0, .int .i64 0]) ?_ 1 _ rfl; (with_reducible repeat (first | refine blk_drewN ?_ _ | refine blk_drew ?_ | refine blk_alloc ?_ _)); refine blk_put (cs := #[.int .u8 0, .string (⟨#[]⟩ : ByteArray), .bool false, .int .u8 0, .int .i64 0, .int .i64 0]) ?_ 0 _ rfl; (with_reducible repeat (first | refine blk_drewN ?_ _ | refine blk_drew ?_ | refine blk_alloc ?_ _)); exact BK211.out) Tryz.underlying119 rfl (by kernel_rfl)) rfl ?_
   exact ⟨by first | rfl | (simp [errW_none, errW_some] <;> rfl) | (simp [*, errW_none, errW_some] <;> rfl), by repeat (first | (with_reducible first | exact HB.out | apply below_alloc | apply pw_below_drewN | apply below_drew1 | refine below_set ?_ GE211.out | refine below_set ?_ GE217.out) | exact HB.out)⟩
 · replace c3 := Bool.eq_false_iff.mpr c3
   subst c3
   have H1 : (some (0, (⟨#[]⟩ : ByteArray), false, 0, 0, 0, 7)) = some (r1, r2, r3, r4, r5, r6, r7) := by rw [if_neg (show ¬ (false = true) by decide)] at H; exact H
   clear H
   have H := H1
   clear H1
   simp only [Option.some.injEq, Prod.mk.injEq] at H
   obtain ⟨rfl, rfl, rfl, rfl, rfl, rfl, rfl⟩ := H
   go_enter Tryz.func181, Tryz.ntmps181
   go_wp2_with (first | ((with_reducible refine gate_dst (N := 2) rfl ?_); refine box_event ?hg (N := 2) ?hd (cs := #[.int .u8 0, .string (⟨#[]⟩ : ByteArray), .bool false, .int .u8 0, .int .i64 0, .int .i64 0]) (t := 119) ?hr ?_; (case hd => rfl); (case hg => rfl); (case hr => first | (go_simp; done) | (go_simp; rfl)); intro gb211 hg w19 hbox hb; have n0_ := Aside0.mk (below_step (by repeat (first | (with_reducible first | exact HB.out | apply below_alloc | apply pw_below_drewN | apply below_drew1) | exact HB.out)) hb); have n1_ := Aside0.mk (hbox); have n2_ := Aside0.mk ((by rw [hg]; exact (below_size (by repeat (first | (with_reducible first | exact HB.out | apply below_alloc | apply pw_below_drewN | apply below_drew1) | exact HB.out))) : w.heap.size ≤ gb211)); have n3_ := Aside0.mk ((by rw [hg]; exact (below_size (by repeat (first | (with_reducible first | exact HB.out | apply below_alloc | apply pw_below_drewN | apply below_drew1) | exact HB.out))) : w.heap.size ≤ gb211)); clear HB; have HB := n0_; have BK211 := n1_; have GW211 := n2_; have GE211 := n3_; clear n0_ n1_ n2_ n3_; clear hb hbox hg) | ((with_reducible refine gate_callee (f := 183) rfl ?_); refine goesL_ (some 6) rfl rfl Tryz.func183 (by kernel_rfl) rfl #[.int .u8 a0] rfl (by (try simp only [List.map_toArray, List.map_cons, List.map_nil]); first | done | rfl | (simp only [List.length_drop, List.length_take]; rfl)) ?_; (with_reducible refine (isa_valid.calls a0 false _ A2.out).mono ?_); rintro e w' ⟨rfl, ⟨nd, rfl⟩⟩; refine ⟨_, rfl, ?_⟩; (try (rw [drewN_self w19]; generalize hq_ : World.drewN w19 _ = w19; have n0_ : Aside0 (w19.heap[gb211]? = some (.cells #[.int .u8 0, .string (⟨#[]⟩ : ByteArray), .bool false, .int .u8 0, .int .i64 0, .int .i64 0] 119 (0, 0))) := ⟨by rw [← hq_]; exact (by (with_reducible repeat (first | refine blk_drewN ?_ _ | refine blk_drew ?_ | refine blk_alloc ?_ _)); exact BK211.out)⟩; have n1_ : Aside0 (Below w.heap.size w w19) := ⟨by rw [← hq_]; exact (by repeat (first | (with_reducible first | exact HB.out | apply below_alloc | apply pw_below_drewN | apply below_drew1 | refine below_set ?_ GE211.out) | exact HB.out))⟩; clear BK211 HB hq_; have BK211 := n0_; have HB := n1_; clear n0_ n1_; have hcr211_0 : w19.cell? ⟨gb211, 0, none⟩ = some (.int .u8 0) := (blk_cell BK211.out 0).trans rfl; have hfr211_0 := blk_frozen BK211.out 0; have hcr211_1 : w19.cell? ⟨gb211, 1, none⟩ = some (.string (⟨#[]⟩ : ByteArray)) := (blk_cell BK211.out 1).trans rfl; have hfr211_1 := blk_frozen BK211.out 1; have hcr211_2 : w19.cell? ⟨gb211, 2, none⟩ = some (.bool false) := (blk_cell BK211.out 2).trans rfl; have hfr211_2 := blk_frozen BK211.out 2; have hcr211_3 : w19.cell? ⟨gb211, 3, none⟩ = some (.int .u8 0) := (blk_cell BK211.out 3).trans rfl; have hfr211_3 := blk_frozen BK211.out 3; have hcr211_4 : w19.cell? ⟨gb211, 4, none⟩ = some (.int .i64 0) := (blk_cell BK211.out 4).trans rfl; have hfr211_4 := blk_frozen BK211.out 4; have hcr211_5 : w19.cell? ⟨gb211, 5, none⟩ = some (.int .i64 0) := (blk_cell BK211.out 5).trans rfl; have hfr211_5 := blk_frozen BK211.out 5)); have hcz20_0 : w19.cell? ⟨gb211, 0, none⟩ = some (.int .u8 0) := (blk_cell BK211.out 0).trans rfl; have hcz20_1 : w19.cell? ⟨gb211, 1, none⟩ = some (.string (⟨#[]⟩ : ByteArray)) := (blk_cell BK211.out 1).trans rfl; have hcz20_2 : w19.cell? ⟨gb211, 2, none⟩ = some (.bool false) := (blk_cell BK211.out 2).trans rfl; have hcz20_3 : w19.cell? ⟨gb211, 3, none⟩ = some (.int .u8 0) := (blk_cell BK211.out 3).trans rfl; have hcz20_4 : w19.cell? ⟨gb211, 4, none⟩ = some (.int .i64 0) := (blk_cell BK211.out 4).trans rfl; have hcz20_5 : w19.cell? ⟨gb211, 5, none⟩ = some (.int .i64 0) := (blk_cell BK211.out 5).trans rfl; have hfz20_0 := blk_frozen BK211.out 0; have hfz20_1 := blk_frozen BK211.out 1; have hfz20_2 := blk_frozen BK211.out 2; have hfz20_3 := blk_frozen BK211.out 3; have hfz20_4 := blk_frozen BK211.out 4; have hfz20_5 := blk_frozen BK211.out 5))
   refine bodyPost_ret (results_ct rfl _ _ gb211 119 #[.int .u8 0, .string (⟨#[]⟩ : ByteArray), .bool false, .int .u8 0, .int .i64 0, .int .i64 0] (0, 0) _ rfl (by (with_reducible repeat (first | refine blk_drewN ?_ _ | refine blk_drew ?_ | refine blk_alloc ?_ _)); refine blk_put (cs := #[.int .u8 0, .string (⟨#[]⟩ : ByteArray), .bool false, .int .u8 0, .int .i64 0, .int .i64 0]) ?_ 5 _ rfl; (with_reducible repeat (first | refine blk_drewN ?_ _ | refine blk_drew ?_ | refine blk_alloc ?_ _)); refine blk_put (cs := #[.int .u8 0, .string (⟨#[]⟩ : ByteArray), .bool false, .int .u8 0, .int .i64 0, .int .i64 0]) ?_ 4 _ rfl; (with_reducible repeat (first | refine blk_drewN ?_ _ | refine blk_drew ?_ | refine blk_alloc ?_ _)); refine blk_put (cs := #[.int .u8 0, .string (⟨#[]⟩ : ByteArray), .bool false, .int .u8 0, .int .i64 0, .int .i64 0]) ?_ 3 _ rfl; (with_reducible repeat (first | refine blk_drewN ?_ _ | refine blk_drew ?_ | refine blk_alloc ?_ _)); refine blk_put (cs := #[.int .u8 0, .string (⟨#[]⟩ : ByteArray), .bool false, .int .u8 0, .int .i64 0, .int .i64 0]) ?_ 2 _ rfl; (with_reducible repeat (first | refine blk_drewN ?_ _ | refine blk_drew ?_ | refine blk_alloc ?_ _)); refine blk_put (cs := #[.int .u8 0, .string (⟨#[]⟩ : ByteArray), .bool false, .int .u8 0, .int .i64 0, .int .i64 0]) ?_ 1 _ rfl; (with_reducible repeat (first | refine blk_drewN ?_ _ | refine blk_drew ?_ | refine blk_alloc ?_ _)); refine blk_put (cs := #[.int .u8 0, .string (⟨#[]⟩ : ByteArray), .bool false, .int .u8 0, .int .i64 0, .int .i64 0]) ?_ 0 _ rfl; (with_reducible repeat (first | refine blk_drewN ?_ _ | refine blk_drew ?_ | refine blk_alloc ?_ _)); exact BK211.out) Tryz.underlying119 rfl (by kernel_rfl)) rfl ?_
   exact ⟨by first | rfl | (simp [errW_none, errW_some] <;> rfl) | (simp [*, errW_none, errW_some] <;> rfl), by repeat (first | (with_reducible first | exact HB.out | apply below_alloc | apply pw_below_drewN | apply below_drew1 | refine below_set ?_ GE211.out) | exact HB.out)⟩
def isa_find.l0 : Nat → Int → Int → Int → Option (Int)
 | 0, _, _, _ => none
 | k + 1, x0, x2, x7 => if x7 < x2 then ((isa_row.f x7).bind fun bt222 => ((isa_Range.f 0 (⟨#[]⟩ : ByteArray) false bt222.2.1 0 0).bind fun bt227 => (if (wrap64 (x0 - bt222.2.2.1)) ≥ bt227.1 then (if (wrap64 (x0 - bt222.2.2.1)) ≤ bt227.2 then (some x7) else (isa_find.l0 k x0 x2 ((x7 + 1) % 256))) else (isa_find.l0 k x0 x2 ((x7 + 1) % 256))))) else (some x2)
def isa_find.f (k : Nat) (a0 : Int) (a1 : Int) (a2 : Int) : Option (Int) := isa_find.l0 k a0 a2 a1
theorem isa_find.calls (k : Nat) (a0 : Int) (a1 : Int) (a2 : Int) (r : Int) (w : World) (h : isa_find.f k a0 a1 a2 = some r) :
 Calls Tryz.prog 209 #[.int .i64 a0, .int .u8 a1, .int .u8 a2] w fun e w' => e = .returned (.int .u8 r) ∧ Below w.heap.size w w' := by
 have hu203 := Tryz.underlying203
 have hu119 := Tryz.underlying119
 have HB := Aside0.mk (Below.refl w.heap.size w)
 have H : (isa_find.l0 k a0 a2 a1) = some r := h
 clear h
 have H' := Aside0.mk H
 clear H
 go_enter Tryz.func209, Tryz.ntmps209
 go_wp2
 go_loopg [7] k (fun kq v7 w' => ∃ (x7_1 : Int), v7 = .int .u8 x7_1 ∧ Aside0 (isa_find.l0 kq a0 a2 x7_1 = some r) ∧ Aside0 (kq ≤ k) ∧ Aside0 (Below w.heap.size w w'))
 case atStart => exact ⟨(a1), (by first | rfl | (simp; done) | (simp [*]; done)), H', ⟨Nat.le_refl _⟩, ⟨by repeat (first | (with_reducible first | exact HB.out | apply below_alloc | apply pw_below_drewN | apply below_drew1) | exact HB.out)⟩⟩
 case round =>
  clear H'
  try clear c2
  try clear p2
  obtain ⟨x7_1, rfl, HA, HK1, HB⟩ := hrel
  cases gk with
  | zero => exact absurd HA.out (by simp [isa_find.l0])
  | succ k1 =>
   have H := HA.out
   clear HA
   simp only [isa_find.l0] at H
   by_cases c4 : x7_1 < a2
   · rw [if_pos c4] at H
     have c4b0 : decide (x7_1 < a2) = true := decide_eq_true c4
     clear c4
     replace H := Option.bind_eq_some_iff.mp H
     obtain ⟨⟨t222, t223, t224, t225⟩, A50, H⟩ := H
     replace H : ((isa_Range.f 0 (⟨#[]⟩ : ByteArray) false t223 0 0).bind fun bt227 => (if (wrap64 (a0 - t224)) ≥ bt227.1 then (if (wrap64 (a0 - t224)) ≤ bt227.2 then (some x7_1) else (isa_find.l0 k1 a0 a2 ((x7_1 + 1) % 256))) else (isa_find.l0 k1 a0 a2 ((x7_1 + 1) % 256)))) = some r := H
     have A5 := Aside0.mk A50
     clear A50
     replace H := Option.bind_eq_some_iff.mp H
     obtain ⟨⟨t227, t228⟩, A60, H⟩ := H
     replace H : (if (wrap64 (a0 - t224)) ≥ t227 then (if (wrap64 (a0 - t224)) ≤ t228 then (some x7_1) else (isa_find.l0 k1 a0 a2 ((x7_1 + 1) % 256))) else (isa_find.l0 k1 a0 a2 ((x7_1 + 1) % 256))) = some r := H
     have A6 := Aside0.mk A60
     clear A60
     by_cases c7 : (wrap64 (a0 - t224)) ≥ t227
     · rw [if_pos c7] at H
       have c7b0 : decide (t227 ≤ (wrap64 (a0 - t224))) = true := decide_eq_true c7
       clear c7
       by_cases c8 : (wrap64 (a0 - t224)) ≤ t228
       · rw [if_pos c8] at H
         have c8b0 : decide ((wrap64 (a0 - t224)) ≤ t228) = true := decide_eq_true c8
         clear c8
         obtain rfl := Option.some.inj H
         go_wp2_with (first | ((with_reducible refine gate_callee (f := 184) rfl ?_); refine goesL_ (some 19) rfl rfl Tryz.func184 (by kernel_rfl) rfl #[.int .u8 x7_1] rfl (by (try simp only [List.map_toArray, List.map_cons, List.map_nil]); first | done | rfl | (simp only [List.length_drop, List.length_take]; rfl)) ?_; (with_reducible refine (isa_row.calls x7_1 t222 t223 t224 t225 _ A5.out).mono ?_); rintro e w9 ⟨rfl, hb⟩; refine ⟨_, rfl, ?_⟩; have n0_ := Aside0.mk (below_step (by repeat (first | (with_reducible first | exact HB.out | apply below_alloc | apply pw_below_drewN | apply below_drew1) | exact HB.out)) hb); clear HB; have HB := n0_; clear n0_; (try clear hb); (try clear hb2); (try clear hk); (try clear hi)) | ((with_reducible refine gate_dst (N := 8) rfl ?_); refine box_event ?hg (N := 8) ?hd (cs := #[.string (⟨#[]⟩ : ByteArray), .int .u8 0, .int .i64 0, .int .i64 0]) (t := 203) ?hr ?_; (case hd => rfl); (case hg => rfl); (case hr => first | (go_simp; done) | (go_simp; rfl)); intro gb226 hg w10 hbox hb; have n0_ := Aside0.mk (below_step (by repeat (first | (with_reducible first | exact HB.out | apply below_alloc | apply pw_below_drewN | apply below_drew1) | exact HB.out)) hb); have n1_ := Aside0.mk (hbox); have n2_ := Aside0.mk ((by rw [hg]; exact (below_size (by repeat (first | (with_reducible first | exact HB.out | apply below_alloc | apply pw_below_drewN | apply below_drew1) | exact HB.out))) : w.heap.size ≤ gb226)); have n3_ := Aside0.mk ((by rw [hg]; exact (below_size (by repeat (first | (with_reducible first | exact HB.out | apply below_alloc | apply pw_below_drewN | apply below_drew1) | exact HB.out))) : w.heap.size ≤ gb226)); clear HB; have HB := n0_; have BK226 := n1_; have GW226 := n2_; have GE226 := n3_; clear n0_ n1_ n2_ n3_; clear hb hbox hg; have hcz11_0 : w10.cell? ⟨gb226, 0, none⟩ = some (.string (⟨#[]⟩ : ByteArray)) := (blk_cell BK226.out 0).trans rfl; have hcz11_1 : w10.cell? ⟨gb226, 1, none⟩ = some (.int .u8 0) := (blk_cell BK226.out 1).trans rfl; have hcz11_2 : w10.cell? ⟨gb226, 2, none⟩ = some (.int .i64 0) := (blk_cell BK226.out 2).trans rfl; have hcz11_3 : w10.cell? ⟨gb226, 3, none⟩ = some (.int .i64 0) := (blk_cell BK226.out 3).trans rfl; have hfz11_0 := blk_frozen BK226.out 0; have hfz11_1 := blk_frozen BK226.out 1; have hfz11_2 := blk_frozen BK226.out 2; have hfz11_3 := blk_frozen BK226.out 3) | ((with_reducible refine gate_callee (f := 185) rfl ?_); refine goesL_ (some 24) rfl rfl Tryz.func185 (by kernel_rfl) rfl #[.agg #[.int .u8 0, .string (⟨#[]⟩ : ByteArray), .bool false, .int .u8 t223, .int .i64 0, .int .i64 0]] rfl (by (try simp only [List.map_toArray, List.map_cons, List.map_nil]); first | done | rfl | (simp only [List.length_drop, List.length_take]; rfl)) ?_; (with_reducible refine (isa_Range.calls 0 (⟨#[]⟩ : ByteArray) false t223 0 0 t227 t228 _ A6.out).mono ?_); rintro e w12 ⟨rfl, hb⟩; refine ⟨_, rfl, ?_⟩; have n0_ := Aside0.mk (blk_below (g := gb226) (o := .cells #[.string t222, .int .u8 t223, .int .i64 t224, .int .i64 t225] 203 (0, 0)) (by (with_reducible repeat (first | refine blk_drewN ?_ _ | refine blk_drew ?_ | refine blk_alloc ?_ _)); refine blk_put (cs := #[.string t222, .int .u8 t223, .int .i64 t224, .int .i64 0]) ?_ 3 _ rfl; (with_reducible repeat (first | refine blk_drewN ?_ _ | refine blk_drew ?_ | refine blk_alloc ?_ _)); refine blk_put (cs := #[.string t222, .int .u8 t223, .int .i64 0, .int .i64 0]) ?_ 2 _ rfl; (with_reducible repeat (first | refine blk_drewN ?_ _ | refine blk_drew ?_ | refine blk_alloc ?_ _)); refine blk_put (cs := #[.string t222, .int .u8 0, .int .i64 0, .int .i64 0]) ?_ 1 _ rfl; (with_reducible repeat (first | refine blk_drewN ?_ _ | refine blk_drew ?_ | refine blk_alloc ?_ _)); refine blk_put (cs := #[.string (⟨#[]⟩ : ByteArray), .int .u8 0, .int .i64 0, .int .i64 0]) ?_ 0 _ rfl; (with_reducible repeat (first | refine blk_drewN ?_ _ | refine blk_drew ?_ | refine blk_alloc ?_ _)); exact BK226.out) hb); have n1_ := Aside0.mk (below_step (by repeat (first | (with_reducible first | exact HB.out | apply below_alloc | apply pw_below_drewN | apply below_drew1 | refine below_set ?_ GE226.out) | exact HB.out)) hb); clear BK226; clear HB; have BK226 := n0_; have HB := n1_; clear n0_ n1_; (try clear hb); (try clear hb2); (try clear hk); (try clear hi); have hcz13_0 : w12.cell? ⟨gb226, 0, none⟩ = some (.string t222) := (blk_cell BK226.out 0).trans rfl; have hcz13_1 : w12.cell? ⟨gb226, 1, none⟩ = some (.int .u8 t223) := (blk_cell BK226.out 1).trans rfl; have hcz13_2 : w12.cell? ⟨gb226, 2, none⟩ = some (.int .i64 t224) := (blk_cell BK226.out 2).trans rfl; have hcz13_3 : w12.cell? ⟨gb226, 3, none⟩ = some (.int .i64 t225) := (blk_cell BK226.out 3).trans rfl; have hfz13_0 := blk_frozen BK226.out 0; have hfz13_1 := blk_frozen BK226.out 1; have hfz13_2 := blk_frozen BK226.out 2; have hfz13_3 := blk_frozen BK226.out 3))
         go_ret
         exact ⟨by first | rfl | (simp [errW_none, errW_some] <;> rfl) | (simp [*, errW_none, errW_some] <;> rfl), by repeat (first | (with_reducible first | exact HB.out | apply below_alloc | apply pw_below_drewN | apply below_drew1 | refine below_set ?_ GE226.out) | exact HB.out)⟩
       · rw [if_neg c8] at H
         have c8b0 : decide ((wrap64 (a0 - t224)) ≤ t228) = false := decide_eq_false c8
         clear c8
         have H' := Aside0.mk H
         clear H
         go_wp2_with (first | ((with_reducible refine gate_callee (f := 184) rfl ?_); refine goesL_ (some 19) rfl rfl Tryz.func184 (by kernel_rfl) rfl #[.int .u8 x7_1] rfl (by (try simp only [List.map_toArray, List.map_cons, List.map_nil]); first | done | rfl | (simp only [List.length_drop, List.length_take]; rfl)) ?_; (with_reducible refine (isa_row.calls x7_1 t222 t223 t224 t225 _ A5.out).mono ?_); rintro e w14 ⟨rfl, hb⟩; refine ⟨_, rfl, ?_⟩; have n0_ := Aside0.mk (below_step (by repeat (first | (with_reducible first | exact HB.out | apply below_alloc | apply pw_below_drewN | apply below_drew1) | exact HB.out)) hb); clear HB; have HB := n0_; clear n0_; (try clear hb); (try clear hb2); (try clear hk); (try clear hi)) | ((with_reducible refine gate_dst (N := 8) rfl ?_); refine box_event ?hg (N := 8) ?hd (cs := #[.string (⟨#[]⟩ : ByteArray), .int .u8 0, .int .i64 0, .int .i64 0]) (t := 203) ?hr ?_; (case hd => rfl); (case hg => rfl); (case hr => first | (go_simp; done) | (go_simp; rfl)); intro gb226 hg w15 hbox hb; have n0_ := Aside0.mk (below_step (by repeat (first | (with_reducible first | exact HB.out | apply below_alloc | apply pw_below_drewN | apply below_drew1) | exact HB.out)) hb); have n1_ := Aside0.mk (hbox); have n2_ := Aside0.mk ((by rw [hg]; exact (below_size (by repeat (first | (with_reducible first | exact HB.out | apply below_alloc | apply pw_below_drewN | apply below_drew1) | exact HB.out))) : w.heap.size ≤ gb226)); have n3_ := Aside0.mk ((by rw [hg]; exact (below_size (by repeat (first | (with_reducible first | exact HB.out | apply below_alloc | apply pw_below_drewN | apply below_drew1) | exact HB.out))) : w.heap.size ≤ gb226)); clear HB; have HB := n0_; have BK226 := n1_; have GW226 := n2_; have GE226 := n3_; clear n0_ n1_ n2_ n3_; clear hb hbox hg; have hcz16_0 : w15.cell? ⟨gb226, 0, none⟩ = some (.string (⟨#[]⟩ : ByteArray)) := (blk_cell BK226.out 0).trans rfl; have hcz16_1 : w15.cell? ⟨gb226, 1, none⟩ = some (.int .u8 0) := (blk_cell BK226.out 1).trans rfl; have hcz16_2 : w15.cell? ⟨gb226, 2, none⟩ = some (.int .i64 0) := (blk_cell BK226.out 2).trans rfl; have hcz16_3 : w15.cell? ⟨gb226, 3, none⟩ = some (.int .i64 0) := (blk_cell BK226.out 3).trans rfl; have hfz16_0 := blk_frozen BK226.out 0; have hfz16_1 := blk_frozen BK226.out 1; have hfz16_2 := blk_frozen BK226.out 2; have hfz16_3 := blk_frozen BK226.out 3) | ((with_reducible refine gate_callee (f := 185) rfl ?_); refine goesL_ (some 24) rfl rfl Tryz.func185 (by kernel_rfl) rfl #[.agg #[.int .u8 0, .string (⟨#[]⟩ : ByteArray), .bool false, .int .u8 t223, .int .i64 0, .int .i64 0]] rfl (by (try simp only [List.map_toArray, List.map_cons, List.map_nil]); first | done | rfl | (simp only [List.length_drop, List.length_take]; rfl)) ?_; (with_reducible refine (isa_Range.calls 0 (⟨#[]⟩ : ByteArray) false t223 0 0 t227 t228 _ A6.out).mono ?_); rintro e w17 ⟨rfl, hb⟩; refine ⟨_, rfl, ?_⟩; have n0_ := Aside0.mk (blk_below (g := gb226) (o := .cells #[.string t222, .int .u8 t223, .int .i64 t224, .int .i64 t225] 203 (0, 0)) (by (with_reducible repeat (first | refine blk_drewN ?_ _ | refine blk_drew ?_ | refine blk_alloc ?_ _)); refine blk_put (cs := #[.string t222, .int .u8 t223, .int .i64 t224, .int .i64 0]) ?_ 3 _ rfl; (with_reducible repeat (first | refine blk_drewN ?_ _ | refine blk_drew ?_ | refine blk_alloc ?_ _)); refine blk_put (cs := #[.string t222, .int .u8 t223, .int .i64 0, .int .i64 0]) ?_ 2 _ rfl; (with_reducible repeat (first | refine blk_drewN ?_ _ | refine blk_drew ?_ | refine blk_alloc ?_ _)); refine blk_put (cs := #[.string t222, .int .u8 0, .int .i64 0, .int .i64 0]) ?_ 1 _ rfl; (with_reducible repeat (first | refine blk_drewN ?_ _ | refine blk_drew ?_ | refine blk_alloc ?_ _)); refine blk_put (cs := #[.string (⟨#[]⟩ : ByteArray), .int .u8 0, .int .i64 0, .int .i64 0]) ?_ 0 _ rfl; (with_reducible repeat (first | refine blk_drewN ?_ _ | refine blk_drew ?_ | refine blk_alloc ?_ _)); exact BK226.out) hb); have n1_ := Aside0.mk (below_step (by repeat (first | (with_reducible first | exact HB.out | apply below_alloc | apply pw_below_drewN | apply below_drew1 | refine below_set ?_ GE226.out) | exact HB.out)) hb); clear BK226; clear HB; have BK226 := n0_; have HB := n1_; clear n0_ n1_; (try clear hb); (try clear hb2); (try clear hk); (try clear hi); have hcz18_0 : w17.cell? ⟨gb226, 0, none⟩ = some (.string t222) := (blk_cell BK226.out 0).trans rfl; have hcz18_1 : w17.cell? ⟨gb226, 1, none⟩ = some (.int .u8 t223) := (blk_cell BK226.out 1).trans rfl; have hcz18_2 : w17.cell? ⟨gb226, 2, none⟩ = some (.int .i64 t224) := (blk_cell BK226.out 2).trans rfl; have hcz18_3 : w17.cell? ⟨gb226, 3, none⟩ = some (.int .i64 t225) := (blk_cell BK226.out 3).trans rfl; have hfz18_0 := blk_frozen BK226.out 0; have hfz18_1 := blk_frozen BK226.out 1; have hfz18_2 := blk_frozen BK226.out 2; have hfz18_3 := blk_frozen BK226.out 3))
         go_roundg k1
         case measure => have := HK1.out; omega
         case rel => exact ⟨((x7_1 + 1) % 256), (by first | rfl | (simp; done) | (simp [*]; done)), H', ⟨by have := HK1.out; omega⟩, ⟨by repeat (first | (with_reducible first | exact HB.out | apply below_alloc | apply pw_below_drewN | apply below_drew1 | refine below_set ?_ GE226.out) | exact HB.out)⟩⟩
     · rw [if_neg c7] at H
       have c7b0 : decide (t227 ≤ (wrap64 (a0 - t224))) = false := decide_eq_false c7
       clear c7
       have H' := Aside0.mk H
       clear H
       go_wp2_with (first | ((with_reducible refine gate_callee (f := 184) rfl ?_); refine goesL_ (some 19) rfl rfl Tryz.func184 (by kernel_rfl) rfl #[.int .u8 x7_1] rfl (by (try simp only [List.map_toArray, List.map_cons, List.map_nil]); first | done | rfl | (simp only [List.length_drop, List.length_take]; rfl)) ?_; (with_reducible refine (isa_row.calls x7_1 t222 t223 t224 t225 _ A5.out).mono ?_); rintro e w19 ⟨rfl, hb⟩; refine ⟨_, rfl, ?_⟩; have n0_ := Aside0.mk (below_step (by repeat (first | (with_reducible first | exact HB.out | apply below_alloc | apply pw_below_drewN | apply below_drew1) | exact HB.out)) hb); clear HB; have HB := n0_; clear n0_; (try clear hb); (try clear hb2); (try clear hk); (try clear hi)) | ((with_reducible refine gate_dst (N := 8) rfl ?_); refine box_event ?hg (N := 8) ?hd (cs := #[.string (⟨#[]⟩ : ByteArray), .int .u8 0, .int .i64 0, .int .i64 0]) (t := 203) ?hr ?_; (case hd => rfl); (case hg => rfl); (case hr => first | (go_simp; done) | (go_simp; rfl)); intro gb226 hg w20 hbox hb; have n0_ := Aside0.mk (below_step (by repeat (first | (with_reducible first | exact HB.out | apply below_alloc | apply pw_below_drewN | apply below_drew1) | exact HB.out)) hb); have n1_ := Aside0.mk (hbox); have n2_ := Aside0.mk ((by rw [hg]; exact (below_size (by repeat (first | (with_reducible first | exact HB.out | apply below_alloc | apply pw_below_drewN | apply below_drew1) | exact HB.out))) : w.heap.size ≤ gb226)); have n3_ := Aside0.mk ((by rw [hg]; exact (below_size (by repeat (first | (with_reducible first | exact HB.out | apply below_alloc | apply pw_below_drewN | apply below_drew1) | exact HB.out))) : w.heap.size ≤ gb226)); clear HB; have HB := n0_; have BK226 := n1_; have GW226 := n2_; have GE226 := n3_; clear n0_ n1_ n2_ n3_; clear hb hbox hg; have hcz21_0 : w20.cell? ⟨gb226, 0, none⟩ = some (.string (⟨#[]⟩ : ByteArray)) := (blk_cell BK226.out 0).trans rfl; have hcz21_1 : w20.cell? ⟨gb226, 1, none⟩ = some (.int .u8 0) := (blk_cell BK226.out 1).trans rfl; have hcz21_2 : w20.cell? ⟨gb226, 2, none⟩ = some (.int .i64 0) := (blk_cell BK226.out 2).trans rfl; have hcz21_3 : w20.cell? ⟨gb226, 3, none⟩ = some (.int .i64 0) := (blk_cell BK226.out 3).trans rfl; have hfz21_0 := blk_frozen BK226.out 0; have hfz21_1 := blk_frozen BK226.out 1; have hfz21_2 := blk_frozen BK226.out 2; have hfz21_3 := blk_frozen BK226.out 3) | ((with_reducible refine gate_callee (f := 185) rfl ?_); refine goesL_ (some 24) rfl rfl Tryz.func185 (by kernel_rfl) rfl #[.agg #[.int .u8 0, .string (⟨#[]⟩ : ByteArray), .bool false, .int .u8 t223, .int .i64 0, .int .i64 0]] rfl (by (try simp only [List.map_toArray, List.map_cons, List.map_nil]); first | done | rfl | (simp only [List.length_drop, List.length_take]; rfl)) ?_; (with_reducible refine (isa_Range.calls 0 (⟨#[]⟩ : ByteArray) false t223 0 0 t227 t228 _ A6.out).mono ?_); rintro e w22 ⟨rfl, hb⟩; refine ⟨_, rfl, ?_⟩; have n0_ := Aside0.mk (blk_below (g := gb226) (o := .cells #[.string t222, .int .u8 t223, .int .i64 t224, .int .i64 t225] 203 (0, 0)) (by (with_reducible repeat (first | refine blk_drewN ?_ _ | refine blk_drew ?_ | refine blk_alloc ?_ _)); refine blk_put (cs := #[.string t222, .int .u8 t223, .int .i64 t224, .int .i64 0]) ?_ 3 _ rfl; (with_reducible repeat (first | refine blk_drewN ?_ _ | refine blk_drew ?_ | refine blk_alloc ?_ _)); refine blk_put (cs := #[.string t222, .int .u8 t223, .int .i64 0, .int .i64 0]) ?_ 2 _ rfl; (with_reducible repeat (first | refine blk_drewN ?_ _ | refine blk_drew ?_ | refine blk_alloc ?_ _)); refine blk_put (cs := #[.string t222, .int .u8 0, .int .i64 0, .int .i64 0]) ?_ 1 _ rfl; (with_reducible repeat (first | refine blk_drewN ?_ _ | refine blk_drew ?_ | refine blk_alloc ?_ _)); refine blk_put (cs := #[.string (⟨#[]⟩ : ByteArray), .int .u8 0, .int .i64 0, .int .i64 0]) ?_ 0 _ rfl; (with_reducible repeat (first | refine blk_drewN ?_ _ | refine blk_drew ?_ | refine blk_alloc ?_ _)); exact BK226.out) hb); have n1_ := Aside0.mk (below_step (by repeat (first | (with_reducible first | exact HB.out | apply below_alloc | apply pw_below_drewN | apply below_drew1 | refine below_set ?_ GE226.out) | exact HB.out)) hb); clear BK226; clear HB; have BK226 := n0_; have HB := n1_; clear n0_ n1_; (try clear hb); (try clear hb2); (try clear hk); (try clear hi); have hcz23_0 : w22.cell? ⟨gb226, 0, none⟩ = some (.string t222) := (blk_cell BK226.out 0).trans rfl; have hcz23_1 : w22.cell? ⟨gb226, 1, none⟩ = some (.int .u8 t223) := (blk_cell BK226.out 1).trans rfl; have hcz23_2 : w22.cell? ⟨gb226, 2, none⟩ = some (.int .i64 t224) := (blk_cell BK226.out 2).trans rfl; have hcz23_3 : w22.cell? ⟨gb226, 3, none⟩ = some (.int .i64 t225) := (blk_cell BK226.out 3).trans rfl; have hfz23_0 := blk_frozen BK226.out 0; have hfz23_1 := blk_frozen BK226.out 1; have hfz23_2 := blk_frozen BK226.out 2; have hfz23_3 := blk_frozen BK226.out 3))
       go_roundg k1
       case measure => have := HK1.out; omega
       case rel => exact ⟨((x7_1 + 1) % 256), (by first | rfl | (simp; done) | (simp [*]; done)), H', ⟨by have := HK1.out; omega⟩, ⟨by repeat (first | (with_reducible first | exact HB.out | apply below_alloc | apply pw_below_drewN | apply below_drew1 | refine below_set ?_ GE226.out) | exact HB.out)⟩⟩
   · rw [if_neg c4] at H
     have c4b0 : decide (x7_1 < a2) = false := decide_eq_false c4
     clear c4
     obtain rfl := Option.some.inj H
     go_wp2
     go_ret
     exact ⟨by first | rfl | (simp [errW_none, errW_some] <;> rfl) | (simp [*, errW_none, errW_some] <;> rfl), by repeat (first | (with_reducible first | exact HB.out | apply below_alloc | apply pw_below_drewN | apply below_drew1) | exact HB.out)⟩
end Go.Proofs.YtgbmaajfbbilhaaGreat.PAll
end
