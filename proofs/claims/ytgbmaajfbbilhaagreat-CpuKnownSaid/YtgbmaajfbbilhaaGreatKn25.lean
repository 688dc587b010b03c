/- Chapter 5: a part of its proof (cut by program out of CpuN, CpuMay); no condition. -/
import Derived.Test.YtgbmaajfbbilhaaGreatKn18
set_option linter.unusedVariables false
set_option linter.unusedSimpArgs false
set_option linter.unusedSectionVars false
set_option maxRecDepth 100000
set_option maxHeartbeats 8000000
section
namespace Go.Proofs.YtgbmaajfbbilhaaGreat.Cpu
open Go.RowKit Go.Proofs.YtgbmaajfbbilhaaGreat.PAll Go.Proofs.YtgbmaajfbbilhaaGreat.One Go.Proofs.YtgbmaajfbbilhaaGreat.Mem Go.Proofs.YtgbmaajfbbilhaaGreatW.PrintWords Go.Proofs.YtgbmaajfbbilhaaGreatW.PrintLast Go.Proofs.YtgbmaajfbbilhaaGreatW.PrintMore Go.Proofs.YtgbmaajfbbilhaaGreat.Plain
theorem bankE_3 (a b : Int) (h : bankE a b ≠ 0) : bankE a b = 3 := by
 unfold bankE at *
 repeat' split
 all_goals (first | rfl | simp_all)
theorem loc_b {r : Rg} (k : Int) (h : (locN r k).2 = 0) : 0 ≤ (locN r k).1.f1 ∧ (locN r k).1.f1 < 80000 := by
 unfold locN at *
 split at h
 · simp at h
 · rename_i g
   rw [if_neg g]
   generalize bankN r.fb r.su = b at *
   simp only [absE] at h
   simp only [absA]
   split at h
   · simp at h
   · rename_i g2
     rw [if_neg g2]
     repeat' split
     all_goals omega
end Go.Proofs.YtgbmaajfbbilhaaGreat.Cpu
end
section
namespace Go.Proofs.YtgbmaajfbbilhaaGreat.Cpu
open Go.RowKit Go.Proofs.YtgbmaajfbbilhaaGreat.PAll Go.Proofs.YtgbmaajfbbilhaaGreatW.PrintWords Go.Proofs.YtgbmaajfbbilhaaGreatW.PrintLast Go.Proofs.YtgbmaajfbbilhaaGreatW.PrintMore Go.Proofs.YtgbmaajfbbilhaaGreat.Plain
def mayB (l q z eb fb su idx b : Int) : Bool := decide (l ≤ 32767 ∧ q ≤ 32767 ∧ idx ≤ 32767 ∧ b ≤ 32767 ∧ (0 ≤ z ∧ z ≤ 4095) ∧ (0 ≤ eb ∧ eb ≤ 7) ∧ (0 ≤ fb ∧ fb ≤ 31) ∧ 0 ≤ su ∧ su ≤ 7)
theorem May_c (a l q z eb fb su : Int) (ext : Bool) (idx : Int) (held : Bool) (b : Int) (inh srv : Bool) (w : World) : Calls Tryz.prog 71 #[.agg #[.int .u16 a, .int .u16 l, .int .u16 q, .int .i64 z, .int .i64 eb, .int .i64 fb, .int .i64 su, .bool ext, .int .u16 idx, .bool held, .int .u16 b, .bool inh, .bool srv]] w fun e w' => e = .returned (.bool (mayB l q z eb fb su idx b)) ∧ Below w.heap.size w w' := by
 go_enter Tryz.func71, Tryz.ntmps71
 go_wp2
 go_loopg [16] 4 (fun g v16 w' => ∃ i : Int, v16 = .int .i64 i ∧ Aside0 (0 ≤ i ∧ i + g = 4) ∧ Aside0 ((0 < i → l ≤ 32767) ∧ (1 < i → q ≤ 32767) ∧ (2 < i → idx ≤ 32767) ∧ (3 < i → b ≤ 32767)) ∧ w' = w.alloc (.cells #[.int .u16 a, .int .u16 l, .int .u16 q, .int .i64 z, .int .i64 eb, .int .i64 fb, .int .i64 su, .bool ext, .int .u16 idx, .bool held, .int .u16 b, .bool inh, .bool srv] 26))
 case atStart => exact ⟨0, rfl, ⟨by decide, by decide⟩, ⟨by omega⟩, rfl⟩
 case round =>
  obtain ⟨i, rfl, hg, ho, rfl⟩ := hrel
  match gk, hg with
  | 0, hg =>
   obtain rfl : i = 4 := by have := hg.out; omega
   have hW := Aside0.mk (show l ≤ 32767 ∧ q ≤ 32767 ∧ idx ≤ 32767 ∧ b ≤ 32767 by have := ho.out; omega)
   clear hg ho
   go_wp2
   go_loopg [35] 4 (fun g v35 w' => ∃ i : Int, v35 = .int .i64 i ∧ Aside0 (0 ≤ i ∧ i + g = 4) ∧ Aside0 ((0 < i → 0 ≤ z ∧ z ≤ 4095) ∧ (1 < i → 0 ≤ eb ∧ eb ≤ 7) ∧ (2 < i → 0 ≤ fb ∧ fb ≤ 31) ∧ (3 < i → 0 ≤ su ∧ su ≤ 7)) ∧ Aside0 (Below w.heap.size w w'))
   case atStart => exact ⟨0, rfl, ⟨by decide, by decide⟩, ⟨by omega⟩, ⟨(Below.refl _ w).alloc (Nat.le_refl _) _⟩⟩
   case round =>
    obtain ⟨i, rfl, hg, ho, HB⟩ := hrel
    match gk, hg with
    | 0, hg =>
     obtain rfl : i = 4 := by have := hg.out; omega
     have hT := Lib.hid (show mayB l q z eb fb su idx b = true by have := ho.out; have := hW.out; unfold mayB; exact decide_eq_true (by omega))
     clear hg ho
     go_wp2
     go_ret
     exact ⟨by rw [hT.out]; rfl, HB.out⟩
    | 1, hg =>
     obtain rfl : i = 3 := by have := hg.out; omega
     have hi : ∀ W : World, (Instr.index 209 (.agg #[.int .i64 z, .int .i64 4095, .int .i64 eb, .int .i64 7, .int .i64 fb, .int .i64 31, .int .i64 su, .int .i64 7]) (.int .i64 3)).run Tryz.prog W = .ok (.agg #[.int .i64 su, .int .i64 7]) W := fun _ => by kernel_rfl
     have h1 := HB.out.size
     clear hg
     by_cases hx : su < 0
     · have b1 : decide (su < 0) = true := decide_eq_true hx
       have hF := Lib.hid (show mayB l q z eb fb su idx b = false by unfold mayB; exact decide_eq_false (by omega))
       go_wp2
       go_ret
       exact ⟨by rw [hF.out]; rfl, HB.out.alloc h1 _⟩
     · have b1 : decide (su < 0) = false := decide_eq_false hx
       by_cases hy : 7 < su
       · have b2 : decide (7 < su) = true := decide_eq_true hy
         have hF := Lib.hid (show mayB l q z eb fb su idx b = false by unfold mayB; exact decide_eq_false (by omega))
         go_wp2
         go_ret
         exact ⟨by rw [hF.out]; rfl, HB.out.alloc h1 _⟩
       · have b2 : decide (7 < su) = false := decide_eq_false hy
         go_wp2
         go_roundg 0
         case measure => omega
         case rel => exact ⟨4, rfl, ⟨by decide, by decide⟩, ⟨by have := ho.out; omega⟩, ⟨HB.out.alloc h1 _⟩⟩
    | 2, hg =>
     obtain rfl : i = 2 := by have := hg.out; omega
     have hi : ∀ W : World, (Instr.index 209 (.agg #[.int .i64 z, .int .i64 4095, .int .i64 eb, .int .i64 7, .int .i64 fb, .int .i64 31, .int .i64 su, .int .i64 7]) (.int .i64 2)).run Tryz.prog W = .ok (.agg #[.int .i64 fb, .int .i64 31]) W := fun _ => by kernel_rfl
     have h1 := HB.out.size
     clear hg
     by_cases hx : fb < 0
     · have b1 : decide (fb < 0) = true := decide_eq_true hx
       have hF := Lib.hid (show mayB l q z eb fb su idx b = false by unfold mayB; exact decide_eq_false (by omega))
       go_wp2
       go_ret
       exact ⟨by rw [hF.out]; rfl, HB.out.alloc h1 _⟩
     · have b1 : decide (fb < 0) = false := decide_eq_false hx
       by_cases hy : 31 < fb
       · have b2 : decide (31 < fb) = true := decide_eq_true hy
         have hF := Lib.hid (show mayB l q z eb fb su idx b = false by unfold mayB; exact decide_eq_false (by omega))
         go_wp2
         go_ret
         exact ⟨by rw [hF.out]; rfl, HB.out.alloc h1 _⟩
       · have b2 : decide (31 < fb) = false := decide_eq_false hy
         go_wp2
         go_roundg 1
         case measure => omega
         case rel => exact ⟨3, rfl, ⟨by decide, by decide⟩, ⟨by have := ho.out; omega⟩, ⟨HB.out.alloc h1 _⟩⟩
    | 3, hg =>
     obtain rfl : i = 1 := by have := hg.out; omega
     have hi : ∀ W : World, (Instr.index 209 (.agg #[.int .i64 z, .int .i64 4095, .int .i64 eb, .int .i64 7, .int .i64 fb, .int .i64 31, .int .i64 su, .int .i64 7]) (.int .i64 1)).run Tryz.prog W = .ok (.agg #[.int .i64 eb, .int .i64 7]) W := fun _ => by kernel_rfl
     have h1 := HB.out.size
     clear hg
     by_cases hx : eb < 0
     · have b1 : decide (eb < 0) = true := decide_eq_true hx
       have hF := Lib.hid (show mayB l q z eb fb su idx b = false by unfold mayB; exact decide_eq_false (by omega))
       go_wp2
       go_ret
       exact ⟨by rw [hF.out]; rfl, HB.out.alloc h1 _⟩
     · have b1 : decide (eb < 0) = false := decide_eq_false hx
       by_cases hy : 7 < eb
       · have b2 : decide (7 < eb) = true := decide_eq_true hy
         have hF := Lib.hid (show mayB l q z eb fb su idx b = false by unfold mayB; exact decide_eq_false (by omega))
         go_wp2
         go_ret
         exact ⟨by rw [hF.out]; rfl, HB.out.alloc h1 _⟩
       · have b2 : decide (7 < eb) = false := decide_eq_false hy
         go_wp2
         go_roundg 2
         case measure => omega
         case rel => exact ⟨2, rfl, ⟨by decide, by decide⟩, ⟨by have := ho.out; omega⟩, ⟨HB.out.alloc h1 _⟩⟩
    | 4, hg =>
     obtain rfl : i = 0 := by have := hg.out; omega
     have hi : ∀ W : World, (Instr.index 209 (.agg #[.int .i64 z, .int .i64 4095, .int .i64 eb, .int .i64 7, .int .i64 fb, .int .i64 31, .int .i64 su, .int .i64 7]) (.int .i64 0)).run Tryz.prog W = .ok (.agg #[.int .i64 z, .int .i64 4095]) W := fun _ => by kernel_rfl
     have h1 := HB.out.size
     clear hg
     by_cases hx : z < 0
     · have b1 : decide (z < 0) = true := decide_eq_true hx
       have hF := Lib.hid (show mayB l q z eb fb su idx b = false by unfold mayB; exact decide_eq_false (by omega))
       go_wp2
       go_ret
       exact ⟨by rw [hF.out]; rfl, HB.out.alloc h1 _⟩
     · have b1 : decide (z < 0) = false := decide_eq_false hx
       by_cases hy : 4095 < z
       · have b2 : decide (4095 < z) = true := decide_eq_true hy
         have hF := Lib.hid (show mayB l q z eb fb su idx b = false by unfold mayB; exact decide_eq_false (by omega))
         go_wp2
         go_ret
         exact ⟨by rw [hF.out]; rfl, HB.out.alloc h1 _⟩
       · have b2 : decide (4095 < z) = false := decide_eq_false hy
         go_wp2
         go_roundg 3
         case measure => omega
         case rel => exact ⟨1, rfl, ⟨by decide, by decide⟩, ⟨by have := ho.out; omega⟩, ⟨HB.out.alloc h1 _⟩⟩
    | n + 5, hg => exact absurd hg.out (by omega)
  | 1, hg =>
   obtain rfl : i = 3 := by have := hg.out; omega
   have hi : ∀ W : World, (Instr.index 207 (.agg #[.int .u16 l, .int .u16 q, .int .u16 idx, .int .u16 b]) (.int .i64 3)).run Tryz.prog W = .ok (.int .u16 b) W := fun _ => by kernel_rfl
   clear hg
   by_cases hx : 32767 < b
   · have b1 : decide (32767 < b) = true := decide_eq_true hx
     have hF := Lib.hid (show mayB l q z eb fb su idx b = false by unfold mayB; exact decide_eq_false (by omega))
     go_wp2
     go_ret
     exact ⟨by rw [hF.out]; rfl, (Below.refl _ w).alloc (Nat.le_refl _) _⟩
   · have b1 : decide (32767 < b) = false := decide_eq_false hx
     go_wp2
     go_roundg 0
     case measure => omega
     case rel => exact ⟨4, rfl, ⟨by decide, by decide⟩, ⟨by have := ho.out; omega⟩, rfl⟩
  | 2, hg =>
   obtain rfl : i = 2 := by have := hg.out; omega
   have hi : ∀ W : World, (Instr.index 207 (.agg #[.int .u16 l, .int .u16 q, .int .u16 idx, .int .u16 b]) (.int .i64 2)).run Tryz.prog W = .ok (.int .u16 idx) W := fun _ => by kernel_rfl
   clear hg
   by_cases hx : 32767 < idx
   · have b1 : decide (32767 < idx) = true := decide_eq_true hx
     have hF := Lib.hid (show mayB l q z eb fb su idx b = false by unfold mayB; exact decide_eq_false (by omega))
     go_wp2
     go_ret
     exact ⟨by rw [hF.out]; rfl, (Below.refl _ w).alloc (Nat.le_refl _) _⟩
   · have b1 : decide (32767 < idx) = false := decide_eq_false hx
     go_wp2
     go_roundg 1
     case measure => omega
     case rel => exact ⟨3, rfl, ⟨by decide, by decide⟩, ⟨by have := ho.out; omega⟩, rfl⟩
  | 3, hg =>
   obtain rfl : i = 1 := by have := hg.out; omega
   have hi : ∀ W : World, (Instr.index 207 (.agg #[.int .u16 l, .int .u16 q, .int .u16 idx, .int .u16 b]) (.int .i64 1)).run Tryz.prog W = .ok (.int .u16 q) W := fun _ => by kernel_rfl
   clear hg
   by_cases hx : 32767 < q
   · have b1 : decide (32767 < q) = true := decide_eq_true hx
     have hF := Lib.hid (show mayB l q z eb fb su idx b = false by unfold mayB; exact decide_eq_false (by omega))
     go_wp2
     go_ret
     exact ⟨by rw [hF.out]; rfl, (Below.refl _ w).alloc (Nat.le_refl _) _⟩
   · have b1 : decide (32767 < q) = false := decide_eq_false hx
     go_wp2
     go_roundg 2
     case measure => omega
     case rel => exact ⟨2, rfl, ⟨by decide, by decide⟩, ⟨by have := ho.out; omega⟩, rfl⟩
  | 4, hg =>
   obtain rfl : i = 0 := by have := hg.out; omega
   have hi : ∀ W : World, (Instr.index 207 (.agg #[.int .u16 l, .int .u16 q, .int .u16 idx, .int .u16 b]) (.int .i64 0)).run Tryz.prog W = .ok (.int .u16 l) W := fun _ => by kernel_rfl
   clear hg
   by_cases hx : 32767 < l
   · have b1 : decide (32767 < l) = true := decide_eq_true hx
     have hF := Lib.hid (show mayB l q z eb fb su idx b = false by unfold mayB; exact decide_eq_false (by omega))
     go_wp2
     go_ret
     exact ⟨by rw [hF.out]; rfl, (Below.refl _ w).alloc (Nat.le_refl _) _⟩
   · have b1 : decide (32767 < l) = false := decide_eq_false hx
     go_wp2
     go_roundg 3
     case measure => omega
     case rel => exact ⟨1, rfl, ⟨by decide, by decide⟩, ⟨by have := ho.out; omega⟩, rfl⟩
  | n + 5, hg => exact absurd hg.out (by omega)
theorem may_c (r : Rg) (w : World) : Calls Tryz.prog 71 #[.agg #[.int .u16 r.a, .int .u16 r.l, .int .u16 r.q, .int .i64 r.z, .int .i64 r.eb, .int .i64 r.fb, .int .i64 r.su, .bool r.ext, .int .u16 r.idx, .bool r.held, .int .u16 r.b, .bool r.inh, .bool r.srv]] w fun e w' => e = .returned (.bool r.may) ∧ Below w.heap.size w w' := May_c _ _ _ _ _ _ _ _ _ _ _ _ _ w
end Go.Proofs.YtgbmaajfbbilhaaGreat.Cpu
end
