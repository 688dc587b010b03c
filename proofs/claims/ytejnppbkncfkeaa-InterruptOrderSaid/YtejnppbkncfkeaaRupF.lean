/- The functions that the printer does not serve (cpu.May, Choose, Waits, Leave), in the printer's form, by hand: plain functions and their contracts. -/
import Derived.Test.YtejnppbkncfkeaaRup4
namespace Go.Proofs.Ytejnppbkncfkeaa.PAll
open Go.RowKit Go.Proofs.YtejnppbkncfkeaaW.PrintWords Go.Proofs.YtejnppbkncfkeaaW.PrintLast Go.Proofs.YtejnppbkncfkeaaW.PrintMore
set_option linter.unusedVariables false
set_option linter.unusedSimpArgs false
def cpu_May.f (a0_0 : Int) (a0_1 : Int) (a0_2 : Int) (a0_3 : Int) (a0_4 : Int) (a0_5 : Int) (a0_6 : Int) (a0_7 : Bool) (a0_8 : Int) (a0_9 : Bool) (a0_10 : Int) (a0_11 : Bool) (a0_12 : Bool) : Option Bool := some (Rup.mayB a0_1 a0_2 a0_3 a0_4 a0_5 a0_6 a0_8 a0_10)
theorem cpu_May.calls (a0_0 : Int) (a0_1 : Int) (a0_2 : Int) (a0_3 : Int) (a0_4 : Int) (a0_5 : Int) (a0_6 : Int) (a0_7 : Bool) (a0_8 : Int) (a0_9 : Bool) (a0_10 : Int) (a0_11 : Bool) (a0_12 : Bool) (r : Bool) (w : World) (h : cpu_May.f a0_0 a0_1 a0_2 a0_3 a0_4 a0_5 a0_6 a0_7 a0_8 a0_9 a0_10 a0_11 a0_12 = some r) :
    Calls Try.prog 24 #[.agg #[.int .u16 a0_0, .int .u16 a0_1, .int .u16 a0_2, .int .i64 a0_3, .int .i64 a0_4, .int .i64 a0_5, .int .i64 a0_6, .bool a0_7, .int .u16 a0_8, .bool a0_9, .int .u16 a0_10, .bool a0_11, .bool a0_12]] w fun e w' => e = .returned (.bool r) ∧ Below w.heap.size w w' := by
  cases h; exact Rup.May_c a0_0 a0_1 a0_2 a0_3 a0_4 a0_5 a0_6 a0_7 a0_8 a0_9 a0_10 a0_11 a0_12 w
def interrupt_Choose.f (k : Nat) (a0_0 : Int) (a1_0 : Int) (a1_1 : Int) (a1_2 : Int) (a1_3 : Int) (a1_4 : Int) (a1_5 : Int) (a1_6 : Int) (a1_7 : Bool) (a1_8 : Int) (a1_9 : Bool) (a1_10 : Int) (a1_11 : Bool) (a1_12 : Bool) : Option (Int × Bool) := if 0 ≤ a0_0 ∧ a0_0 < 65536 then some ((if Rup.alB a1_0 a1_8 a1_7 a1_9 a1_11 a1_12 = true then Rup.chR (Rup.chI a0_0) else (0, false)).1, (if Rup.alB a1_0 a1_8 a1_7 a1_9 a1_11 a1_12 = true then Rup.chR (Rup.chI a0_0) else (0, false)).2) else none
theorem interrupt_Choose.mono : ∀ a0 a1 a2 a3 a4 a5 a6 a7 a8 a9 a10 a11 a12 a13 k, LeO (interrupt_Choose.f k a0 a1 a2 a3 a4 a5 a6 a7 a8 a9 a10 a11 a12 a13) (interrupt_Choose.f (k + 1) a0 a1 a2 a3 a4 a5 a6 a7 a8 a9 a10 a11 a12 a13) := fun _ _ _ _ _ _ _ _ _ _ _ _ _ _ _ _ h => h
theorem interrupt_Choose.calls (k : Nat) (a0_0 : Int) (a1_0 : Int) (a1_1 : Int) (a1_2 : Int) (a1_3 : Int) (a1_4 : Int) (a1_5 : Int) (a1_6 : Int) (a1_7 : Bool) (a1_8 : Int) (a1_9 : Bool) (a1_10 : Int) (a1_11 : Bool) (a1_12 : Bool) (r1 : Int) (r2 : Bool) (w : World) (h : interrupt_Choose.f k a0_0 a1_0 a1_1 a1_2 a1_3 a1_4 a1_5 a1_6 a1_7 a1_8 a1_9 a1_10 a1_11 a1_12 = some (r1, r2)) :
    Calls Try.prog 18 #[.agg #[.int .u16 a0_0], .agg #[.int .u16 a1_0, .int .u16 a1_1, .int .u16 a1_2, .int .i64 a1_3, .int .i64 a1_4, .int .i64 a1_5, .int .i64 a1_6, .bool a1_7, .int .u16 a1_8, .bool a1_9, .int .u16 a1_10, .bool a1_11, .bool a1_12]] w fun e w' => e = .returned (.tuple #[.int .i64 r1, .bool r2]) ∧ Below w.heap.size w w' := by
  unfold interrupt_Choose.f at h
  split at h
  · rename_i hc; cases h; exact Rup.Choose_c a0_0 a1_0 a1_1 a1_2 a1_3 a1_4 a1_5 a1_6 a1_7 a1_8 a1_9 a1_10 a1_11 a1_12 hc.1 hc.2 w
  · cases h
def interrupt_Waits.f (k : Nat) (a0_0 : Int) (a1 : Int) : Option Bool := if 0 ≤ a0_0 ∧ a0_0 < 65536 then some (Rup.wtB a0_0 a1) else none
theorem interrupt_Waits.mono : ∀ a0 a1 k, LeO (interrupt_Waits.f k a0 a1) (interrupt_Waits.f (k + 1) a0 a1) := fun _ _ _ _ h => h
theorem interrupt_Waits.calls (k : Nat) (a0_0 : Int) (a1 : Int) (r : Bool) (w : World) (h : interrupt_Waits.f k a0_0 a1 = some r) :
    Calls Try.prog 16 #[.agg #[.int .u16 a0_0], .int .i64 a1] w fun e w' => e = .returned (.bool r) ∧ Below w.heap.size w w' := by
  unfold interrupt_Waits.f at h
  split at h
  · rename_i hc; cases h; exact Rup.Waits_c a0_0 a1 hc.1 hc.2 w
  · cases h
def interrupt_Leave.f (a0_0 : Int) (a0_1 : Int) (a0_2 : Int) (a0_3 : Int) (a0_4 : Int) (a0_5 : Int) (a0_6 : Int) (a0_7 : Bool) (a0_8 : Int) (a0_9 : Bool) (a0_10 : Int) (a0_11 : Bool) (a0_12 : Bool) (l1 : List Int) : Option (Int × Int × Int × Int × Int × Int × Int × Bool × Int × Bool × Int × Bool × Bool) := if ∀ x ∈ l1, 0 ≤ x ∧ x < 65536 then some (a0_0, a0_1, a0_2, Rup.svN l1 13 % 4096, a0_4, a0_5, a0_6, a0_7, a0_8, true, Rup.svN l1 15 % 32768, a0_11, false) else none
theorem interrupt_Leave.calls (a0_0 : Int) (a0_1 : Int) (a0_2 : Int) (a0_3 : Int) (a0_4 : Int) (a0_5 : Int) (a0_6 : Int) (a0_7 : Bool) (a0_8 : Int) (a0_9 : Bool) (a0_10 : Int) (a0_11 : Bool) (a0_12 : Bool) (A1 : Option Addr) (c1 : Nat) (l1 : List Int) (r1 : Int) (r2 : Int) (r3 : Int) (r4 : Int) (r5 : Int) (r6 : Int) (r7 : Int) (r8 : Bool) (r9 : Int) (r10 : Bool) (r11 : Int) (r12 : Bool) (r13 : Bool) (w : World) (hr1 : Kd.C (Kd.int .u16) w A1 l1.length l1) (hc1 : l1.length ≤ c1) (h : interrupt_Leave.f a0_0 a0_1 a0_2 a0_3 a0_4 a0_5 a0_6 a0_7 a0_8 a0_9 a0_10 a0_11 a0_12 l1 = some (r1, r2, r3, r4, r5, r6, r7, r8, r9, r10, r11, r12, r13)) :
    Calls Try.prog 11 #[.agg #[.int .u16 a0_0, .int .u16 a0_1, .int .u16 a0_2, .int .i64 a0_3, .int .i64 a0_4, .int .i64 a0_5, .int .i64 a0_6, .bool a0_7, .int .u16 a0_8, .bool a0_9, .int .u16 a0_10, .bool a0_11, .bool a0_12], .slice A1 l1.length c1] w fun e w' => e = .returned (.agg #[.int .u16 r1, .int .u16 r2, .int .u16 r3, .int .i64 r4, .int .i64 r5, .int .i64 r6, .int .i64 r7, .bool r8, .int .u16 r9, .bool r10, .int .u16 r11, .bool r12, .bool r13]) ∧ Below w.heap.size w w' := by
  unfold interrupt_Leave.f at h
  split at h
  · rename_i hc; cases h; exact Rup.Leave_c a0_0 a0_1 a0_2 a0_3 a0_4 a0_5 a0_6 a0_7 a0_8 a0_9 a0_10 a0_11 a0_12 A1 c1 l1 w hr1 hc1 hc
  · cases h
end Go.Proofs.Ytejnppbkncfkeaa.PAll
