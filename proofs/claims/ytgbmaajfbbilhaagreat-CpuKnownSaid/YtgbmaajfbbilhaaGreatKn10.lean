/- Chapter 5: a part of its proof (cut by program out of F0, F1, F2, F5, F6, F7, F17, F19, F20, F21, F22, F27, F40, FO, One0); no condition. -/
import Derived.ArgAppend
import Derived.Below
import Derived.BigQuiet
import Derived.Deep.AppendLies
import Derived.Deep.CutBlock
import Derived.Deep.DeepCutAuto
import Derived.Deep.Draws
import Derived.Deep.LoopGhost
import Derived.Deep.OwnRows
import Derived.Deep.QuietTactic
import Derived.Deep.RegionHeld3
import Derived.KernelRfl
import Derived.Laws.BitsLemmas
import Derived.Laws.BytesArg
import Derived.Laws.IdiomCopy
import Derived.Laws.MakeOwn
import Derived.Laws.OwnMore
import Derived.Laws.Rows
import Derived.Laws.Slices
import Derived.Lib.AppendStr
import Derived.Lib.ConvBytes
import Derived.Maps.AppendAt
import Derived.OrdersHeld
import Derived.OwnWalk
import Derived.RowKit
import Derived.RowKit3
import Derived.Tactics
import Derived.Test.YtgbmaajfbbilhaaGreatProg
import Derived.WalkKit
import Derived.WideLaws
import Derived.Test.YtgbmaajfbbilhaaGreatKn0
import Derived.Test.YtgbmaajfbbilhaaGreatKn1
import Derived.Test.YtgbmaajfbbilhaaGreatKn2
import Derived.Test.YtgbmaajfbbilhaaGreatKn3
import Derived.Test.YtgbmaajfbbilhaaGreatKn4
import Derived.Test.YtgbmaajfbbilhaaGreatKn5
import Derived.Test.YtgbmaajfbbilhaaGreatKn6
import Derived.Test.YtgbmaajfbbilhaaGreatKn7
import Derived.Test.YtgbmaajfbbilhaaGreatKn8
import Derived.Test.YtgbmaajfbbilhaaGreatKn9
set_option linter.unusedVariables false
set_option linter.unusedSimpArgs false
set_option linter.unusedSectionVars false
set_option maxRecDepth 100000
set_option maxHeartbeats 8000000
section
namespace Go.Proofs.YtgbmaajfbbilhaaGreat.PAll
open Go.RowKit Go.Proofs.YtgbmaajfbbilhaaGreatW.PrintWords Go.Proofs.YtgbmaajfbbilhaaGreatW.PrintLast Go.Proofs.YtgbmaajfbbilhaaGreatW.PrintMore
set_option linter.unusedVariables false
set_option linter.unusedSimpArgs false
def errW : Option Int → Value
  | none => .nilIface
  | some c => .iface 0 (.int .i64 c)
theorem errW_none : errW none = .nilIface := rfl
theorem errW_some (c : Int) : errW (some c) = .iface 0 (.int .i64 c) := rfl
theorem info9 : (Tryz.prog.info? 9).map (fun i => (i.zero, i.size, i.bytes)) = some (some (.string ⟨#[]⟩), 1, 16) := by kernel_rfl
theorem info24 : (Tryz.prog.info? 24).map (fun i => (i.zero, i.size, i.bytes)) = some (some (.int .u16 0), 1, 2) := by kernel_rfl
structure S103 where
  f0 : Int
  f1 : Int
def k103 : Kd S103 := Kd.iso (Kd.pair (Kd.int .u8) (Kd.int .i64)) (fun x : S103 => (x.f0, x.f1))
theorem k103_open {w : World} {x : S103} {cs : List Value} (h : k103.K w x cs) : cs = [.int .u8 x.f0, .int .i64 x.f1] := by
  obtain ⟨_, _, rfl, rfl, rfl⟩ := h
  exact rfl
theorem k103_openM {w : World} {base : Nat} {ok : Nat → Prop} {x : S103} {cs : List Value} (h : k103.M w base ok x cs) : cs = [.int .u8 x.f0, .int .i64 x.f1] := by
  obtain ⟨_, _, rfl, rfl, rfl⟩ := h
  exact rfl
theorem k103_mkM (w : World) (base : Nat) (ok : Nat → Prop) (x : S103)  : k103.M w base ok x [.int .u8 x.f0, .int .i64 x.f1] := ⟨[.int .u8 x.f0], [.int .i64 x.f1], rfl, rfl, rfl⟩
structure S47 where
  f0 : Int
  f1 : Int
def k47 : Kd S47 := Kd.iso (Kd.pair (Kd.int .i64) (Kd.int .u16)) (fun x : S47 => (x.f0, x.f1))
theorem k47_open {w : World} {x : S47} {cs : List Value} (h : k47.K w x cs) : cs = [.int .i64 x.f0, .int .u16 x.f1] := by
  obtain ⟨_, _, rfl, rfl, rfl⟩ := h
  exact rfl
theorem k47_openM {w : World} {base : Nat} {ok : Nat → Prop} {x : S47} {cs : List Value} (h : k47.M w base ok x cs) : cs = [.int .i64 x.f0, .int .u16 x.f1] := by
  obtain ⟨_, _, rfl, rfl, rfl⟩ := h
  exact rfl
theorem k47_mkM (w : World) (base : Nat) (ok : Nat → Prop) (x : S47)  : k47.M w base ok x [.int .i64 x.f0, .int .u16 x.f1] := ⟨[.int .i64 x.f0], [.int .u16 x.f1], rfl, rfl, rfl⟩
structure S116 where
  f0 : Int
  f1 : (List Int)
structure S97 where
  f0 : Int
  f1 : Int
end Go.Proofs.YtgbmaajfbbilhaaGreat.PAll
end
section
namespace Go.Proofs.YtgbmaajfbbilhaaGreat.PAll
open Go.RowKit Go.Proofs.YtgbmaajfbbilhaaGreatW.PrintWords Go.Proofs.YtgbmaajfbbilhaaGreatW.PrintLast Go.Proofs.YtgbmaajfbbilhaaGreatW.PrintMore
theorem eqA47 (d : Nat) (w : World) (x0 y0 : Int) (x1 y1 : Int) :
 (Op.equalIn (d + 2) 47 (.agg #[.int .i64 x0, .int .u16 x1]) (.agg #[.int .i64 y0, .int .u16 y1])).run Tryz.prog w = .ok (x0 == y0 && (x1 == y1)) w := by
 refine eqA_of Tryz.underlying47 (by kernel_rfl) ?_
 refine eqf_cons (by rfl) (by go_simp; rfl) (by go_simp; rfl) (by go_simp) ?_
 exact eqf_last (by rfl) (by go_simp; rfl) (by go_simp; rfl) (by go_simp)
theorem eqA103 (d : Nat) (w : World) (x0 y0 : Int) (x1 y1 : Int) :
 (Op.equalIn (d + 2) 103 (.agg #[.int .u8 x0, .int .i64 x1]) (.agg #[.int .u8 y0, .int .i64 y1])).run Tryz.prog w = .ok (x0 == y0 && (x1 == y1)) w := by
 refine eqA_of Tryz.underlying103 (by kernel_rfl) ?_
 refine eqf_cons (by rfl) (by go_simp; rfl) (by go_simp; rfl) (by go_simp) ?_
 exact eqf_last (by rfl) (by go_simp; rfl) (by go_simp; rfl) (by go_simp)
attribute [local go_sem high] eqA47
attribute [local go_sem high] eqA103
def memory_in.f (a0 : Int) (a1 : Int) : Option (Bool) := if a0 ≥ 0 then (some (decide (a0 ≤ a1))) else (some false)
theorem memory_in.calls (a0 : Int) (a1 : Int) (r : Bool) (w : World) (h : memory_in.f a0 a1 = some r) :
 Calls Tryz.prog 190 #[.int .i64 a0, .int .i64 a1] w fun e w' => e = .returned (.bool r) ∧ Drawn0 w w' := by
 have H : (if a0 ≥ 0 then (some (decide (a0 ≤ a1))) else (some false)) = some r := h
 clear h
 by_cases c3 : a0 ≥ 0
 · rw [if_pos c3] at H
   have c3b0 : decide (0 ≤ a0) = true := decide_eq_true c3
   clear c3
   obtain rfl := Option.some.inj H
   go_enter Tryz.func190, Tryz.ntmps190
   go_wp2
   go_ret
   exact ⟨by first | rfl | (simp; done) | (simp [*]; done), by repeat (first | exact Drawn0.refl _ | apply Drawn0.step)⟩
 · rw [if_neg c3] at H
   have c3b0 : decide (0 ≤ a0) = false := decide_eq_false c3
   clear c3
   obtain rfl := Option.some.inj H
   go_enter Tryz.func190, Tryz.ntmps190
   go_wp2
   go_ret
   exact ⟨by first | rfl | (simp; done) | (simp [*]; done), by repeat (first | exact Drawn0.refl _ | apply Drawn0.step)⟩
mutual
def memory_Bank.j0 : Nat → Int → Int → Bool → Option (Int × Int)
 | 0, _, _, _ => none
 | k + 1, x0, x1, x13 => if x13 = true then (some (0, 3)) else (if x0 < 24 then (memory_Bank.j1 k x0 true) else (memory_Bank.j1 k x0 (decide (x1 < 4))))
def memory_Bank.j1 : Nat → Int → Bool → Option (Int × Int)
 | 0, _, _ => none
 | k + 1, x0, x19 => if x19 = true then (some (x0, 0)) else (if (wrap64 (x0 + 8)) ≥ 36 then (some (0, 3)) else (some (wrap64 (x0 + 8), 0)))
end
def memory_Bank.f (k : Nat) (a0 : Int) (a1 : Int) : Option (Int × Int) := (memory_in.f a0 31).bind fun t101 => (if t101 = true then ((memory_in.f a1 7).bind fun t102 => (memory_Bank.j0 k a0 a1 (!t102))) else (memory_Bank.j0 k a0 a1 true))
theorem memory_Bank.calls (k : Nat) (a0 : Int) (a1 : Int) (r1 : Int) (r2 : Int) (w : World) (h : memory_Bank.f k a0 a1 = some (r1, r2)) :
 Calls Tryz.prog 103 #[.int .i64 a0, .int .i64 a1] w fun e w' => e = .returned (.tuple #[.int .i64 r1, .int .i64 r2]) ∧ Drawn0 w w' := by
 have H : ((memory_in.f a0 31).bind fun t101 => (if t101 = true then ((memory_in.f a1 7).bind fun t102 => (memory_Bank.j0 k a0 a1 (!t102))) else (memory_Bank.j0 k a0 a1 true))) = some (r1, r2) := h
 clear h
 have HC3 := Aside0.mk H
 clear H
 go_enter Tryz.func103, Tryz.ntmps103
 go_upto_region 1 with (fail)
 go_cut [13] (fun v13 wc => ∃ (kq : Nat) (x13_2 : Bool), v13 = .bool x13_2 ∧ Aside0 (memory_Bank.j0 kq a0 a1 x13_2 = some (r1, r2)) ∧ Aside0 (kq ≤ k) ∧ Drawn0 w wc)
 case first =>
  have H := HC3.out
  clear HC3
  replace H := Option.bind_eq_some_iff.mp H
  obtain ⟨t101, A40, H⟩ := H
  replace H : (if t101 = true then ((memory_in.f a1 7).bind fun t102 => (memory_Bank.j0 k a0 a1 (!t102))) else (memory_Bank.j0 k a0 a1 true)) = some (r1, r2) := H
  have A4 := Aside0.mk A40
  clear A40
  by_cases c5 : t101 = true
  · subst c5
    have H1 : ((memory_in.f a1 7).bind fun t102 => (memory_Bank.j0 k a0 a1 (!t102))) = some (r1, r2) := by rw [if_pos rfl] at H; exact H
    clear H
    have H := H1
    clear H1
    replace H := Option.bind_eq_some_iff.mp H
    obtain ⟨t102, A60, H⟩ := H
    replace H : (memory_Bank.j0 k a0 a1 (!t102)) = some (r1, r2) := H
    have A6 := Aside0.mk A60
    clear A60
    have H' := Aside0.mk H
    clear H
    go_wp2_with (first | ((with_reducible refine gate_callee (f := 190) rfl ?_); refine goesL_ (some 7) rfl rfl Tryz.func190 (by kernel_rfl) rfl #[.int .i64 a0, .int .i64 31] rfl (by (try simp only [List.map_toArray, List.map_cons, List.map_nil]); first | done | rfl | (simp only [List.length_drop, List.length_take]; rfl)) ?_; (with_reducible refine (memory_in.calls a0 31 true _ A4.out).mono ?_); rintro e w' ⟨rfl, ⟨nd, rfl⟩⟩; refine ⟨_, rfl, ?_⟩) | (go_at_call 190; (with_reducible refine (memory_in.calls a1 7 t102 _ A6.out).mono ?_); rintro e w' ⟨rfl, ⟨nd, rfl⟩⟩))
    go_meet
    case rel => exact ⟨_, (!t102), (by first | rfl | (simp; done) | (simp [*]; done)), H', ⟨by first | omega | exact Nat.le_refl _⟩, by repeat (first | exact Drawn0.refl _ | apply Drawn0.step)⟩
  · replace c5 := Bool.eq_false_iff.mpr c5
    subst c5
    have H1 : (memory_Bank.j0 k a0 a1 true) = some (r1, r2) := by rw [if_neg (show ¬ (false = true) by decide)] at H; exact H
    clear H
    have H := H1
    clear H1
    have H' := Aside0.mk H
    clear H
    go_wp2_with (first | ((with_reducible refine gate_callee (f := 190) rfl ?_); refine goesL_ (some 7) rfl rfl Tryz.func190 (by kernel_rfl) rfl #[.int .i64 a0, .int .i64 31] rfl (by (try simp only [List.map_toArray, List.map_cons, List.map_nil]); first | done | rfl | (simp only [List.length_drop, List.length_take]; rfl)) ?_; (with_reducible refine (memory_in.calls a0 31 false _ A4.out).mono ?_); rintro e w' ⟨rfl, ⟨nd, rfl⟩⟩; refine ⟨_, rfl, ?_⟩))
    go_meet
    case rel => exact ⟨_, (true), (by first | rfl | (simp; done) | (simp [*]; done)), H', ⟨by first | omega | exact Nat.le_refl _⟩, by repeat (first | exact Drawn0.refl _ | apply Drawn0.step)⟩
 case rest =>
  clear HC3
  try clear c1
  try clear p2
  try clear c5
  obtain ⟨kq, x13_2, rfl, HA, HJ2, ⟨mc2, rfl⟩⟩ := hcut
  cases kq with
  | zero => exact absurd HA.out (by simp [memory_Bank.j0])
  | succ kj2 =>
   have H := HA.out
   clear HA
   simp only [memory_Bank.j0] at H
   by_cases c7 : x13_2 = true
   · subst c7
     have H1 : (some (0, 3)) = some (r1, r2) := by rw [if_pos rfl] at H; exact H
     clear H
     have H := H1
     clear H1
     simp only [Option.some.injEq, Prod.mk.injEq] at H
     obtain ⟨rfl, rfl⟩ := H
     go_wp2
     go_ret2
     exact ⟨by first | rfl | (simp; done) | (simp [*]; done), by repeat (first | exact Drawn0.refl _ | apply Drawn0.step)⟩
   · replace c7 := Bool.eq_false_iff.mpr c7
     subst c7
     have H1 : (if a0 < 24 then (memory_Bank.j1 kj2 a0 true) else (memory_Bank.j1 kj2 a0 (decide (a1 < 4)))) = some (r1, r2) := by rw [if_neg (show ¬ (false = true) by decide)] at H; exact H
     clear H
     have H := H1
     clear H1
     have HC8 := Aside0.mk H
     clear H
     go_upto_region 3 with (fail)
     go_cut [19] (fun v19 wc => ∃ (kq : Nat) (x19_7 : Bool), v19 = .bool x19_7 ∧ Aside0 (memory_Bank.j1 kq a0 x19_7 = some (r1, r2)) ∧ Aside0 (kq ≤ kj2) ∧ Drawn0 w wc)
     case first =>
      have H := HC8.out
      clear HC8
      by_cases c9 : a0 < 24
      · rw [if_pos c9] at H
        have c9b0 : decide (a0 < 24) = true := decide_eq_true c9
        clear c9
        (first | rw [c9b0] | (simp only [i64_w, i32_w]; rw [c9b0]) | skip)
        have H' := Aside0.mk H
        clear H
        go_wp2
        go_meet
        case rel => exact ⟨_, (true), (by first | rfl | (simp; done) | (simp [*]; done)), H', ⟨by have := HJ2.out; first | omega | exact Nat.le_refl _⟩, by repeat (first | exact Drawn0.refl _ | apply Drawn0.step)⟩
      · rw [if_neg c9] at H
        have c9b0 : decide (a0 < 24) = false := decide_eq_false c9
        clear c9
        (first | rw [c9b0] | (simp only [i64_w, i32_w]; rw [c9b0]) | skip)
        have H' := Aside0.mk H
        clear H
        go_wp2
        go_meet
        case rel => exact ⟨_, (decide (a1 < 4)), (by first | rfl | (simp; done) | (simp [*]; done)), H', ⟨by have := HJ2.out; first | omega | exact Nat.le_refl _⟩, by repeat (first | exact Drawn0.refl _ | apply Drawn0.step)⟩
     case rest =>
      clear HC8
      try clear c1
      try clear c2
      try clear p2
      try clear c5
      try clear c7
      try clear c9
      try clear c9b0
      try clear p2
      obtain ⟨kq, x19_7, rfl, HA, HJ7, ⟨mc7, rfl⟩⟩ := hcut
      cases kq with
      | zero => exact absurd HA.out (by simp [memory_Bank.j1])
      | succ kj7 =>
       have H := HA.out
       clear HA
       simp only [memory_Bank.j1] at H
       by_cases c10 : x19_7 = true
       · subst c10
         have H1 : (some (a0, 0)) = some (r1, r2) := by rw [if_pos rfl] at H; exact H
         clear H
         have H := H1
         clear H1
         simp only [Option.some.injEq, Prod.mk.injEq] at H
         obtain ⟨rfl, rfl⟩ := H
         go_wp2
         go_ret2
         exact ⟨by first | rfl | (simp; done) | (simp [*]; done), by repeat (first | exact Drawn0.refl _ | apply Drawn0.step)⟩
       · replace c10 := Bool.eq_false_iff.mpr c10
         subst c10
         have H1 : (if (wrap64 (a0 + 8)) ≥ 36 then (some (0, 3)) else (some (wrap64 (a0 + 8), 0))) = some (r1, r2) := by rw [if_neg (show ¬ (false = true) by decide)] at H; exact H
         clear H
         have H := H1
         clear H1
         by_cases c11 : (wrap64 (a0 + 8)) ≥ 36
         · rw [if_pos c11] at H
           have c11b0 : decide (36 ≤ (wrap64 (a0 + 8))) = true := decide_eq_true c11
           clear c11
           simp only [Option.some.injEq, Prod.mk.injEq] at H
           obtain ⟨rfl, rfl⟩ := H
           go_wp2
           go_ret2
           exact ⟨by first | rfl | (simp; done) | (simp [*]; done), by repeat (first | exact Drawn0.refl _ | apply Drawn0.step)⟩
         · rw [if_neg c11] at H
           have c11b0 : decide (36 ≤ (wrap64 (a0 + 8))) = false := decide_eq_false c11
           clear c11
           simp only [Option.some.injEq, Prod.mk.injEq] at H
           obtain ⟨rfl, rfl⟩ := H
           go_wp2
           go_ret2
           exact ⟨by first | rfl | (simp; done) | (simp [*]; done), by repeat (first | exact Drawn0.refl _ | apply Drawn0.step)⟩
end Go.Proofs.YtgbmaajfbbilhaaGreat.PAll
end
section
namespace Go.Proofs.YtgbmaajfbbilhaaGreat.PAll
open Go.RowKit Go.Proofs.YtgbmaajfbbilhaaGreatW.PrintWords Go.Proofs.YtgbmaajfbbilhaaGreatW.PrintLast Go.Proofs.YtgbmaajfbbilhaaGreatW.PrintMore
attribute [local go_sem high] eqA47
attribute [local go_sem high] eqA103
def memory_Absolute.j0 : Nat → Int → Int → Int → Bool → Option (Int × Int × Int)
 | 0, _, _, _, _ => none
 | k + 1, x0, x1, x2, x9 => if x9 = true then (some (0, 0, 3)) else (if x0 < 768 then (some (1, x0, 0)) else (if x0 < 1024 then (some (1, Go.bits .or .i64 (wrap64 (x1 * 256)) (Go.bits .and .i64 x0 255), 0)) else (if x0 < 2048 then (some (2, Go.bits .or .i64 (wrap64 (x2 * 1024)) (Go.bits .and .i64 x0 1023), 0)) else (some (2, x0, 0)))))
def memory_Absolute.f (k : Nat) (a0 : Int) (a1 : Int) (a2 : Int) : Option (Int × Int × Int) := (memory_in.f a0 4095).bind fun t103 => (if t103 = true then ((memory_in.f a1 7).bind fun t104 => (if t104 = true then ((memory_in.f a2 35).bind fun t105 => (memory_Absolute.j0 k a0 a1 a2 (!t105))) else (memory_Absolute.j0 k a0 a1 a2 true))) else (memory_Absolute.j0 k a0 a1 a2 true))
theorem memory_Absolute.calls (k : Nat) (a0 : Int) (a1 : Int) (a2 : Int) (r1 : Int) (r2 : Int) (r3 : Int) (w : World) (h : memory_Absolute.f k a0 a1 a2 = some (r1, r2, r3)) :
 Calls Tryz.prog 104 #[.int .i64 a0, .int .i64 a1, .int .i64 a2] w fun e w' => e = .returned (.tuple #[.int .u8 r1, .int .i64 r2, .int .i64 r3]) ∧ Drawn0 w w' := by
 have H : ((memory_in.f a0 4095).bind fun t103 => (if t103 = true then ((memory_in.f a1 7).bind fun t104 => (if t104 = true then ((memory_in.f a2 35).bind fun t105 => (memory_Absolute.j0 k a0 a1 a2 (!t105))) else (memory_Absolute.j0 k a0 a1 a2 true))) else (memory_Absolute.j0 k a0 a1 a2 true))) = some (r1, r2, r3) := h
 clear h
 have HC4 := Aside0.mk H
 clear H
 go_enter Tryz.func104, Tryz.ntmps104
 go_upto_region 1 with (fail)
 go_cut [9] (fun v9 wc => ∃ (kq : Nat) (x9_3 : Bool), v9 = .bool x9_3 ∧ Aside0 (memory_Absolute.j0 kq a0 a1 a2 x9_3 = some (r1, r2, r3)) ∧ Aside0 (kq ≤ k) ∧ Drawn0 w wc)
 case first =>
  have H := HC4.out
  clear HC4
  replace H := Option.bind_eq_some_iff.mp H
  obtain ⟨t103, A50, H⟩ := H
  replace H : (if t103 = true then ((memory_in.f a1 7).bind fun t104 => (if t104 = true then ((memory_in.f a2 35).bind fun t105 => (memory_Absolute.j0 k a0 a1 a2 (!t105))) else (memory_Absolute.j0 k a0 a1 a2 true))) else (memory_Absolute.j0 k a0 a1 a2 true)) = some (r1, r2, r3) := H
  have A5 := Aside0.mk A50
  clear A50
  by_cases c6 : t103 = true
  · subst c6
    have H1 : ((memory_in.f a1 7).bind fun t104 => (if t104 = true then ((memory_in.f a2 35).bind fun t105 => (memory_Absolute.j0 k a0 a1 a2 (!t105))) else (memory_Absolute.j0 k a0 a1 a2 true))) = some (r1, r2, r3) := by rw [if_pos rfl] at H; exact H
    clear H
    have H := H1
    clear H1
    replace H := Option.bind_eq_some_iff.mp H
    obtain ⟨t104, A70, H⟩ := H
    replace H : (if t104 = true then ((memory_in.f a2 35).bind fun t105 => (memory_Absolute.j0 k a0 a1 a2 (!t105))) else (memory_Absolute.j0 k a0 a1 a2 true)) = some (r1, r2, r3) := H
    have A7 := Aside0.mk A70
    clear A70
    by_cases c8 : t104 = true
    · subst c8
      have H1 : ((memory_in.f a2 35).bind fun t105 => (memory_Absolute.j0 k a0 a1 a2 (!t105))) = some (r1, r2, r3) := by rw [if_pos rfl] at H; exact H
      clear H
      have H := H1
      clear H1
      replace H := Option.bind_eq_some_iff.mp H
      obtain ⟨t105, A90, H⟩ := H
      replace H : (memory_Absolute.j0 k a0 a1 a2 (!t105)) = some (r1, r2, r3) := H
      have A9 := Aside0.mk A90
      clear A90
      have H' := Aside0.mk H
      clear H
      go_wp2_with (first | ((with_reducible refine gate_callee (f := 190) rfl ?_); refine goesL_ (some 11) rfl rfl Tryz.func190 (by kernel_rfl) rfl #[.int .i64 a0, .int .i64 4095] rfl (by (try simp only [List.map_toArray, List.map_cons, List.map_nil]); first | done | rfl | (simp only [List.length_drop, List.length_take]; rfl)) ?_; (with_reducible refine (memory_in.calls a0 4095 true _ A5.out).mono ?_); rintro e w' ⟨rfl, ⟨nd, rfl⟩⟩; refine ⟨_, rfl, ?_⟩) | (go_at_call 190; (with_reducible refine (memory_in.calls a1 7 true _ A7.out).mono ?_); rintro e w' ⟨rfl, ⟨nd, rfl⟩⟩) | (go_at_call 190; (with_reducible refine (memory_in.calls a2 35 t105 _ A9.out).mono ?_); rintro e w' ⟨rfl, ⟨nd, rfl⟩⟩))
      go_meet
      case rel => exact ⟨_, (!t105), (by first | rfl | (simp; done) | (simp [*]; done)), H', ⟨by first | omega | exact Nat.le_refl _⟩, by repeat (first | exact Drawn0.refl _ | apply Drawn0.step)⟩
    · replace c8 := Bool.eq_false_iff.mpr c8
      subst c8
      have H1 : (memory_Absolute.j0 k a0 a1 a2 true) = some (r1, r2, r3) := by rw [if_neg (show ¬ (false = true) by decide)] at H; exact H
      clear H
      have H := H1
      clear H1
      have H' := Aside0.mk H
      clear H
      go_wp2_with (first | ((with_reducible refine gate_callee (f := 190) rfl ?_); refine goesL_ (some 11) rfl rfl Tryz.func190 (by kernel_rfl) rfl #[.int .i64 a0, .int .i64 4095] rfl (by (try simp only [List.map_toArray, List.map_cons, List.map_nil]); first | done | rfl | (simp only [List.length_drop, List.length_take]; rfl)) ?_; (with_reducible refine (memory_in.calls a0 4095 true _ A5.out).mono ?_); rintro e w' ⟨rfl, ⟨nd, rfl⟩⟩; refine ⟨_, rfl, ?_⟩) | (go_at_call 190; (with_reducible refine (memory_in.calls a1 7 false _ A7.out).mono ?_); rintro e w' ⟨rfl, ⟨nd, rfl⟩⟩))
      go_meet
      case rel => exact ⟨_, (true), (by first | rfl | (simp; done) | (simp [*]; done)), H', ⟨by first | omega | exact Nat.le_refl _⟩, by repeat (first | exact Drawn0.refl _ | apply Drawn0.step)⟩
  · replace c6 := Bool.eq_false_iff.mpr c6
    subst c6
    have H1 : (memory_Absolute.j0 k a0 a1 a2 true) = some (r1, r2, r3) := by rw [if_neg (show ¬ (false = true) by decide)] at H; exact H
    clear H
    have H := H1
    clear H1
    have H' := Aside0.mk H
    clear H
    go_wp2_with (first | ((with_reducible refine gate_callee (f := 190) rfl ?_); refine goesL_ (some 11) rfl rfl Tryz.func190 (by kernel_rfl) rfl #[.int .i64 a0, .int .i64 4095] rfl (by (try simp only [List.map_toArray, List.map_cons, List.map_nil]); first | done | rfl | (simp only [List.length_drop, List.length_take]; rfl)) ?_; (with_reducible refine (memory_in.calls a0 4095 false _ A5.out).mono ?_); rintro e w' ⟨rfl, ⟨nd, rfl⟩⟩; refine ⟨_, rfl, ?_⟩))
    go_meet
    case rel => exact ⟨_, (true), (by first | rfl | (simp; done) | (simp [*]; done)), H', ⟨by first | omega | exact Nat.le_refl _⟩, by repeat (first | exact Drawn0.refl _ | apply Drawn0.step)⟩
 case rest =>
  clear HC4
  try clear c1
  try clear p2
  try clear c6
  try clear c8
  obtain ⟨kq, x9_3, rfl, HA, HJ3, ⟨mc3, rfl⟩⟩ := hcut
  cases kq with
  | zero => exact absurd HA.out (by simp [memory_Absolute.j0])
  | succ kj3 =>
   have H := HA.out
   clear HA
   simp only [memory_Absolute.j0] at H
   by_cases c10 : x9_3 = true
   · subst c10
     have H1 : (some (0, 0, 3)) = some (r1, r2, r3) := by rw [if_pos rfl] at H; exact H
     clear H
     have H := H1
     clear H1
     simp only [Option.some.injEq, Prod.mk.injEq] at H
     obtain ⟨rfl, rfl, rfl⟩ := H
     go_wp2
     go_ret3
     exact ⟨by first | rfl | (simp; done) | (simp [*]; done), by repeat (first | exact Drawn0.refl _ | apply Drawn0.step)⟩
   · replace c10 := Bool.eq_false_iff.mpr c10
     subst c10
     have H1 : (if a0 < 768 then (some (1, a0, 0)) else (if a0 < 1024 then (some (1, Go.bits .or .i64 (wrap64 (a1 * 256)) (Go.bits .and .i64 a0 255), 0)) else (if a0 < 2048 then (some (2, Go.bits .or .i64 (wrap64 (a2 * 1024)) (Go.bits .and .i64 a0 1023), 0)) else (some (2, a0, 0))))) = some (r1, r2, r3) := by rw [if_neg (show ¬ (false = true) by decide)] at H; exact H
     clear H
     have H := H1
     clear H1
     by_cases c11 : a0 < 768
     · rw [if_pos c11] at H
       have c11b0 : decide (a0 < 768) = true := decide_eq_true c11
       clear c11
       simp only [Option.some.injEq, Prod.mk.injEq] at H
       obtain ⟨rfl, rfl, rfl⟩ := H
       go_wp2
       go_ret3
       exact ⟨by first | rfl | (simp; done) | (simp [*]; done), by repeat (first | exact Drawn0.refl _ | apply Drawn0.step)⟩
     · rw [if_neg c11] at H
       have c11b0 : decide (a0 < 768) = false := decide_eq_false c11
       clear c11
       by_cases c12 : a0 < 1024
       · rw [if_pos c12] at H
         have c12b0 : decide (a0 < 1024) = true := decide_eq_true c12
         clear c12
         simp only [Option.some.injEq, Prod.mk.injEq] at H
         obtain ⟨rfl, rfl, rfl⟩ := H
         go_wp2
         go_ret3
         exact ⟨by first | rfl | (simp; done) | (simp [*]; done), by repeat (first | exact Drawn0.refl _ | apply Drawn0.step)⟩
       · rw [if_neg c12] at H
         have c12b0 : decide (a0 < 1024) = false := decide_eq_false c12
         clear c12
         by_cases c13 : a0 < 2048
         · rw [if_pos c13] at H
           have c13b0 : decide (a0 < 2048) = true := decide_eq_true c13
           clear c13
           simp only [Option.some.injEq, Prod.mk.injEq] at H
           obtain ⟨rfl, rfl, rfl⟩ := H
           go_wp2
           go_ret3
           exact ⟨by first | rfl | (simp; done) | (simp [*]; done), by repeat (first | exact Drawn0.refl _ | apply Drawn0.step)⟩
         · rw [if_neg c13] at H
           have c13b0 : decide (a0 < 2048) = false := decide_eq_false c13
           clear c13
           simp only [Option.some.injEq, Prod.mk.injEq] at H
           obtain ⟨rfl, rfl, rfl⟩ := H
           go_wp2
           go_ret3
           exact ⟨by first | rfl | (simp; done) | (simp [*]; done), by repeat (first | exact Drawn0.refl _ | apply Drawn0.step)⟩
def onescomp_Extend.f (a0 : Int) : Option (Int) := some (Go.bits .or .u16 (Go.bits .and .u16 a0 32767) (IntKind.u16.wrap ((Go.bits .and .u16 (Go.bits .and .u16 a0 32767) 16384) * 2)))
theorem onescomp_Extend.calls (a0 : Int) (r : Int) (w : World) (h : onescomp_Extend.f a0 = some r) :
 Calls Tryz.prog 186 #[.int .u16 a0] w fun e w' => e = .returned (.int .u16 r) ∧ Drawn0 w w' := by
 have H : (some (Go.bits .or .u16 (Go.bits .and .u16 a0 32767) (IntKind.u16.wrap ((Go.bits .and .u16 (Go.bits .and .u16 a0 32767) 16384) * 2)))) = some r := h
 clear h
 obtain rfl := Option.some.inj H
 go_enter Tryz.func186, Tryz.ntmps186
 go_wp2
 go_ret
 exact ⟨by first | rfl | (simp; done) | (simp [*]; done), by repeat (first | exact Drawn0.refl _ | apply Drawn0.step)⟩
def cpu_element.f (l0 : List Int) (a1 : Int) : Option (Int) := if a1 < (l0.length : Int) then (if 0 ≤ a1 then (some (Go.bits .and .u16 (rd l0 a1) 32767)) else (none)) else (some 0)
theorem cpu_element.calls (A0 : Option Addr) (c0 : Nat) (l0 : List Int) (a1 : Int) (r : Int) (w : World) (hr0 : Kd.C (Kd.int .u16) w A0 l0.length l0) (hc0 : l0.length ≤ c0) (h : cpu_element.f l0 a1 = some r) :
 Calls Tryz.prog 187 #[.slice A0 l0.length c0, .int .i64 a1] w fun e w' => e = .returned (.int .u16 r) ∧ Drawn0 w w' := by
 have HR0 := Aside0.mk hr0
 have HC0 := Aside0.mk hc0
 clear hr0 hc0
 have H : (if a1 < (l0.length : Int) then (if 0 ≤ a1 then (some (Go.bits .and .u16 (rd l0 a1) 32767)) else (none)) else (some 0)) = some r := h
 clear h
 by_cases c3 : a1 < (l0.length : Int)
 · rw [if_pos c3] at H
   have c3b0 : decide (a1 < (l0.length : Int)) = true := decide_eq_true c3
   clear c3
   by_cases c4 : 0 ≤ a1
   · rw [if_pos c4] at H
     have c4b0 : decide (0 ≤ a1) = true := decide_eq_true c4
     clear c4
     obtain rfl := Option.some.inj H
     have p117 : 0 ≤ (a1 : Int) := of_decide_eq_true (by first | (with_reducible assumption) | assumption)
     have q117 : a1 < (l0.length : Int) := of_decide_eq_true (by first | (with_reducible assumption) | assumption)
     obtain ⟨ad117, e117, hx117_0⟩ := Kd.at_int HR0.out a1 p117 q117
     cases e117
     replace p117 := eq_true p117
     replace q117 := eq_true q117
     go_enter Tryz.func187, Tryz.ntmps187
     go_wp2
     go_ret
     exact ⟨by first | rfl | (simp; done) | (simp [*]; done), by repeat (first | exact Drawn0.refl _ | apply Drawn0.step)⟩
   · rw [if_neg c4] at H
     exact absurd H (by simp)
 · rw [if_neg c3] at H
   have c3b0 : decide (a1 < (l0.length : Int)) = false := decide_eq_false c3
   clear c3
   obtain rfl := Option.some.inj H
   go_enter Tryz.func187, Tryz.ntmps187
   go_wp2
   go_ret
   exact ⟨by first | rfl | (simp; done) | (simp [*]; done), by repeat (first | exact Drawn0.refl _ | apply Drawn0.step)⟩
def onescomp_Correct.f (a0 : Int) : Option (Int) := some (Go.bits .or .u16 (IntKind.u16.wrap ((a0 / 32768) * 16384)) (Go.bits .and .u16 a0 16383))
theorem onescomp_Correct.calls (a0 : Int) (r : Int) (w : World) (h : onescomp_Correct.f a0 = some r) :
 Calls Tryz.prog 93 #[.int .u16 a0] w fun e w' => e = .returned (.int .u16 r) ∧ Drawn0 w w' := by
 have H : (some (Go.bits .or .u16 (IntKind.u16.wrap ((a0 / 32768) * 16384)) (Go.bits .and .u16 a0 16383))) = some r := h
 clear h
 obtain rfl := Option.some.inj H
 go_enter Tryz.func93, Tryz.ntmps93
 go_wp2
 go_ret
 exact ⟨by first | rfl | (simp; done) | (simp [*]; done), by repeat (first | exact Drawn0.refl _ | apply Drawn0.step)⟩
end Go.Proofs.YtgbmaajfbbilhaaGreat.PAll
end
section
namespace Go.Proofs.YtgbmaajfbbilhaaGreat.PAll
open Go.RowKit Go.Proofs.YtgbmaajfbbilhaaGreatW.PrintWords Go.Proofs.YtgbmaajfbbilhaaGreatW.PrintLast Go.Proofs.YtgbmaajfbbilhaaGreatW.PrintMore
attribute [local go_sem high] eqA47
attribute [local go_sem high] eqA103
def IsS132 (w0 W : World) (g : Nat) (f0 : Int) (f1 : Int) (f2 : Int) (f3 : Int) (f4 : Int) (f5 : Int) (f6 : Int) (f7 : Bool) (f8 : Int) (f9 : Bool) (f10 : Int) (f11 : Bool) (f12 : Bool) (f13 : List Int) (f14 : List Int) (f15 : List Int) (f16 : List (S47)) (f17 : List (S47)) (f18 : List (S103)) (f19 : Int) (f20 : Int) (f21 : Int) (f22 : Int) (f23 : Int) : Prop := ∃ A13 c13, ∃ A14 c14, ∃ A15 c15, ∃ A16 c16, ∃ A17 c17, ∃ A18 c18, W.heap[g]? = some (.cells #[.int .u16 f0, .int .u16 f1, .int .u16 f2, .int .i64 f3, .int .i64 f4, .int .i64 f5, .int .i64 f6, .bool f7, .int .u16 f8, .bool f9, .int .u16 f10, .bool f11, .bool f12, .slice A13 f13.length c13, .slice A14 f14.length c14, .slice A15 f15.length c15, .slice A16 f16.length c16, .slice A17 f17.length c17, .slice A18 f18.length c18, .int .i64 f19, .int .u8 f20, .int .i64 f21, .int .u8 f22, .int .i64 f23] 132 (0, 0)) ∧ w0.heap.size ≤ g ∧ Kd.C (Kd.int .u16) w0 A13 f13.length f13 ∧ Kd.C (Kd.int .u16) w0 A14 f14.length f14 ∧ Kd.C (Kd.int .u16) w0 A15 f15.length f15 ∧ Kd.C k47 w0 A16 f16.length f16 ∧ Kd.C k47 w0 A17 f17.length f17 ∧ Kd.C k103 w0 A18 f18.length f18
theorem IsS132.grown {w0 W : World} {g : Nat} {f0 : Int} {f1 : Int} {f2 : Int} {f3 : Int} {f4 : Int} {f5 : Int} {f6 : Int} {f7 : Bool} {f8 : Int} {f9 : Bool} {f10 : Int} {f11 : Bool} {f12 : Bool} {f13 : List Int} {f14 : List Int} {f15 : List Int} {f16 : List (S47)} {f17 : List (S47)} {f18 : List (S103)} {f19 : Int} {f20 : Int} {f21 : Int} {f22 : Int} {f23 : Int} {W1 : World} {row : Option Nat} (h : IsS132 w0 W g f0 f1 f2 f3 f4 f5 f6 f7 f8 f9 f10 f11 f12 f13 f14 f15 f16 f17 f18 f19 f20 f21 f22 f23) (hw : W.grownBy W1 row) (hne : some g ≠ row) : IsS132 w0 W1 g f0 f1 f2 f3 f4 f5 f6 f7 f8 f9 f10 f11 f12 f13 f14 f15 f16 f17 f18 f19 f20 f21 f22 f23 := by
 obtain ⟨A13, c13, A14, c14, A15, c15, A16, c16, A17, c17, A18, c18, hb, hg, hr13, hr14, hr15, hr16, hr17, hr18⟩ := h
 exact ⟨A13, c13, A14, c14, A15, c15, A16, c16, A17, c17, A18, c18, blk_grown hb hw hne, hg, hr13, hr14, hr15, hr16, hr17, hr18⟩
theorem IsS132.kept {w0 W : World} {g : Nat} {f0 : Int} {f1 : Int} {f2 : Int} {f3 : Int} {f4 : Int} {f5 : Int} {f6 : Int} {f7 : Bool} {f8 : Int} {f9 : Bool} {f10 : Int} {f11 : Bool} {f12 : Bool} {f13 : List Int} {f14 : List Int} {f15 : List Int} {f16 : List (S47)} {f17 : List (S47)} {f18 : List (S103)} {f19 : Int} {f20 : Int} {f21 : Int} {f22 : Int} {f23 : Int} {W1 : World} {S : Nat → Prop} (h : IsS132 w0 W g f0 f1 f2 f3 f4 f5 f6 f7 f8 f9 f10 f11 f12 f13 f14 f15 f16 f17 f18 f19 f20 f21 f22 f23) (hk : Kept W W1 S) (hne : ¬ S g) : IsS132 w0 W1 g f0 f1 f2 f3 f4 f5 f6 f7 f8 f9 f10 f11 f12 f13 f14 f15 f16 f17 f18 f19 f20 f21 f22 f23 := by
 obtain ⟨A13, c13, A14, c14, A15, c15, A16, c16, A17, c17, A18, c18, hb, hg, hr13, hr14, hr15, hr16, hr17, hr18⟩ := h
 exact ⟨A13, c13, A14, c14, A15, c15, A16, c16, A17, c17, A18, c18, blk_kept hb hk hne, hg, hr13, hr14, hr15, hr16, hr17, hr18⟩
theorem IsS132.below {w0 W : World} {g : Nat} {f0 : Int} {f1 : Int} {f2 : Int} {f3 : Int} {f4 : Int} {f5 : Int} {f6 : Int} {f7 : Bool} {f8 : Int} {f9 : Bool} {f10 : Int} {f11 : Bool} {f12 : Bool} {f13 : List Int} {f14 : List Int} {f15 : List Int} {f16 : List (S47)} {f17 : List (S47)} {f18 : List (S103)} {f19 : Int} {f20 : Int} {f21 : Int} {f22 : Int} {f23 : Int} {W1 : World} (h : IsS132 w0 W g f0 f1 f2 f3 f4 f5 f6 f7 f8 f9 f10 f11 f12 f13 f14 f15 f16 f17 f18 f19 f20 f21 f22 f23) (hw : Below W.heap.size W W1) : IsS132 w0 W1 g f0 f1 f2 f3 f4 f5 f6 f7 f8 f9 f10 f11 f12 f13 f14 f15 f16 f17 f18 f19 f20 f21 f22 f23 := h.grown (grown_of_below hw none) (by simp)
theorem IsS132.alloc {w0 W : World} {g : Nat} {f0 : Int} {f1 : Int} {f2 : Int} {f3 : Int} {f4 : Int} {f5 : Int} {f6 : Int} {f7 : Bool} {f8 : Int} {f9 : Bool} {f10 : Int} {f11 : Bool} {f12 : Bool} {f13 : List Int} {f14 : List Int} {f15 : List Int} {f16 : List (S47)} {f17 : List (S47)} {f18 : List (S103)} {f19 : Int} {f20 : Int} {f21 : Int} {f22 : Int} {f23 : Int} (h : IsS132 w0 W g f0 f1 f2 f3 f4 f5 f6 f7 f8 f9 f10 f11 f12 f13 f14 f15 f16 f17 f18 f19 f20 f21 f22 f23) (o : Obj) : IsS132 w0 (W.alloc o) g f0 f1 f2 f3 f4 f5 f6 f7 f8 f9 f10 f11 f12 f13 f14 f15 f16 f17 f18 f19 f20 f21 f22 f23 := h.below (below_alloc (Below.refl _ _) o)
theorem IsS132.drewN {w0 W : World} {g : Nat} {f0 : Int} {f1 : Int} {f2 : Int} {f3 : Int} {f4 : Int} {f5 : Int} {f6 : Int} {f7 : Bool} {f8 : Int} {f9 : Bool} {f10 : Int} {f11 : Bool} {f12 : Bool} {f13 : List Int} {f14 : List Int} {f15 : List Int} {f16 : List (S47)} {f17 : List (S47)} {f18 : List (S103)} {f19 : Int} {f20 : Int} {f21 : Int} {f22 : Int} {f23 : Int} (h : IsS132 w0 W g f0 f1 f2 f3 f4 f5 f6 f7 f8 f9 f10 f11 f12 f13 f14 f15 f16 f17 f18 f19 f20 f21 f22 f23) (m : Nat) : IsS132 w0 (W.drewN m) g f0 f1 f2 f3 f4 f5 f6 f7 f8 f9 f10 f11 f12 f13 f14 f15 f16 f17 f18 f19 f20 f21 f22 f23 := h
theorem IsS132.drew {w0 W : World} {g : Nat} {f0 : Int} {f1 : Int} {f2 : Int} {f3 : Int} {f4 : Int} {f5 : Int} {f6 : Int} {f7 : Bool} {f8 : Int} {f9 : Bool} {f10 : Int} {f11 : Bool} {f12 : Bool} {f13 : List Int} {f14 : List Int} {f15 : List Int} {f16 : List (S47)} {f17 : List (S47)} {f18 : List (S103)} {f19 : Int} {f20 : Int} {f21 : Int} {f22 : Int} {f23 : Int} (h : IsS132 w0 W g f0 f1 f2 f3 f4 f5 f6 f7 f8 f9 f10 f11 f12 f13 f14 f15 f16 f17 f18 f19 f20 f21 f22 f23) : IsS132 w0 W.drew g f0 f1 f2 f3 f4 f5 f6 f7 f8 f9 f10 f11 f12 f13 f14 f15 f16 f17 f18 f19 f20 f21 f22 f23 := h
theorem IsS132.apart {w0 W : World} {g : Nat} {f0 : Int} {f1 : Int} {f2 : Int} {f3 : Int} {f4 : Int} {f5 : Int} {f6 : Int} {f7 : Bool} {f8 : Int} {f9 : Bool} {f10 : Int} {f11 : Bool} {f12 : Bool} {f13 : List Int} {f14 : List Int} {f15 : List Int} {f16 : List (S47)} {f17 : List (S47)} {f18 : List (S103)} {f19 : Int} {f20 : Int} {f21 : Int} {f22 : Int} {f23 : Int} {α : Type} {d : Kd α} {e : Nat} {base : Nat} {ok : Nat → Prop} {v : Value} {xs : List α} (h : IsS132 w0 W g f0 f1 f2 f3 f4 f5 f6 f7 f8 f9 f10 f11 f12 f13 f14 f15 f16 f17 f18 f19 f20 f21 f22 f23) (ho : d.R e W base ok v xs) (ht : ∀ q, q ∈ e :: d.E → q ≠ 132) : d.R e W base (fun k => ok k ∧ k ≠ g) v xs := by
 obtain ⟨A13, c13, A14, c14, A15, c15, A16, c16, A17, c17, A18, c18, hb, hg, hr13, hr14, hr15, hr16, hr17, hr18⟩ := h
 exact Kd.R_types ho hb ht
theorem IsS132.own_ne {w0 W : World} {g : Nat} {f0 : Int} {f1 : Int} {f2 : Int} {f3 : Int} {f4 : Int} {f5 : Int} {f6 : Int} {f7 : Bool} {f8 : Int} {f9 : Bool} {f10 : Int} {f11 : Bool} {f12 : Bool} {f13 : List Int} {f14 : List Int} {f15 : List Int} {f16 : List (S47)} {f17 : List (S47)} {f18 : List (S103)} {f19 : Int} {f20 : Int} {f21 : Int} {f22 : Int} {f23 : Int} {α : Type} {d : Kd α} {e : Nat} {base : Nat} {ok : Nat → Prop} {v : Value} {xs : List α} (h : IsS132 w0 W g f0 f1 f2 f3 f4 f5 f6 f7 f8 f9 f10 f11 f12 f13 f14 f15 f16 f17 f18 f19 f20 f21 f22 f23) (ho : d.R e W base ok v xs) (ht : e ≠ 132) : some g ≠ v.ownBlock := by
 obtain ⟨A13, c13, A14, c14, A15, c15, A16, c16, A17, c17, A18, c18, hb, hg, hr13, hr14, hr15, hr16, hr17, hr18⟩ := h
 exact Kd.R_ne ho hb ht
end Go.Proofs.YtgbmaajfbbilhaaGreat.PAll
end
section
namespace Go.Proofs.YtgbmaajfbbilhaaGreat.PAll
open Go.RowKit Go.Proofs.YtgbmaajfbbilhaaGreatW.PrintWords Go.Proofs.YtgbmaajfbbilhaaGreatW.PrintLast Go.Proofs.YtgbmaajfbbilhaaGreatW.PrintMore
attribute [local go_sem high] eqA47
attribute [local go_sem high] eqA103
def onescomp_Value.f (a0 : Int) : Option (Int) := if (Go.bits .and .u16 (Go.bits .and .u16 a0 32767) 16384) = 0 then (some (wrap64 (Go.bits .and .u16 a0 32767))) else (some (wrap64 (-(wrap64 (IntKind.u16.wrap (32767 - (Go.bits .and .u16 a0 32767)))))))
theorem onescomp_Value.calls (a0 : Int) (r : Int) (w : World) (h : onescomp_Value.f a0 = some r) :
 Calls Tryz.prog 69 #[.int .u16 a0] w fun e w' => e = .returned (.int .i64 r) ∧ Drawn0 w w' := by
 have H : (if (Go.bits .and .u16 (Go.bits .and .u16 a0 32767) 16384) = 0 then (some (wrap64 (Go.bits .and .u16 a0 32767))) else (some (wrap64 (-(wrap64 (IntKind.u16.wrap (32767 - (Go.bits .and .u16 a0 32767)))))))) = some r := h
 clear h
 by_cases c2 : (Go.bits .and .u16 (Go.bits .and .u16 a0 32767) 16384) = 0
 · rw [if_pos c2] at H
   have c2b0 : ((Go.bits .and .u16 (Go.bits .and .u16 a0 32767) 16384) == 0) = true := beq_iff_eq.mpr c2
   have c2b1 : ((Go.bits .and .u16 (Go.bits .and .u16 a0 32767) 16384) != 0) = false := bne_eq_false_iff_eq.mpr c2
   clear c2
   obtain rfl := Option.some.inj H
   go_enter Tryz.func69, Tryz.ntmps69
   go_wp2
   go_ret
   exact ⟨by first | rfl | (simp; done) | (simp [*]; done), by repeat (first | exact Drawn0.refl _ | apply Drawn0.step)⟩
 · rw [if_neg c2] at H
   have c2b0 : ((Go.bits .and .u16 (Go.bits .and .u16 a0 32767) 16384) == 0) = false := beq_eq_false_iff_ne.mpr c2
   have c2b1 : ((Go.bits .and .u16 (Go.bits .and .u16 a0 32767) 16384) != 0) = true := bne_iff_ne.mpr c2
   obtain rfl := Option.some.inj H
   go_enter Tryz.func69, Tryz.ntmps69
   go_wp2
   go_ret
   exact ⟨by first | rfl | (simp; done) | (simp [*]; done), by repeat (first | exact Drawn0.refl _ | apply Drawn0.step)⟩
end Go.Proofs.YtgbmaajfbbilhaaGreat.PAll
end
section
namespace Go.Proofs.YtgbmaajfbbilhaaGreat.PAll
open Go.RowKit Go.Proofs.YtgbmaajfbbilhaaGreatW.PrintWords Go.Proofs.YtgbmaajfbbilhaaGreatW.PrintLast Go.Proofs.YtgbmaajfbbilhaaGreatW.PrintMore
def onescomp_CycleRight.f (a0 : Int) : Option (Int) := some (Go.bits .or .u16 ((Go.bits .and .u16 a0 32767) / 2) (IntKind.u16.wrap ((Go.bits .and .u16 (Go.bits .and .u16 a0 32767) 1) * 16384)))
theorem onescomp_CycleRight.calls (a0 : Int) (r : Int) (w : World) (h : onescomp_CycleRight.f a0 = some r) :
 Calls Tryz.prog 280 #[.int .u16 a0] w fun e w' => e = .returned (.int .u16 r) ∧ Drawn0 w w' := by
 have H : (some (Go.bits .or .u16 ((Go.bits .and .u16 a0 32767) / 2) (IntKind.u16.wrap ((Go.bits .and .u16 (Go.bits .and .u16 a0 32767) 1) * 16384)))) = some r := h
 clear h
 obtain rfl := Option.some.inj H
 go_enter Tryz.func280, Tryz.ntmps280
 go_wp2
 go_ret
 exact ⟨by first | rfl | (simp; done) | (simp [*]; done), by repeat (first | exact Drawn0.refl _ | apply Drawn0.step)⟩
def onescomp_CycleLeft.f (a0 : Int) : Option (Int) := some (Go.bits .or .u16 (Go.bits .and .u16 (IntKind.u16.wrap ((Go.bits .and .u16 a0 32767) * 2)) 32767) ((Go.bits .and .u16 a0 32767) / 16384))
theorem onescomp_CycleLeft.calls (a0 : Int) (r : Int) (w : World) (h : onescomp_CycleLeft.f a0 = some r) :
 Calls Tryz.prog 282 #[.int .u16 a0] w fun e w' => e = .returned (.int .u16 r) ∧ Drawn0 w w' := by
 have H : (some (Go.bits .or .u16 (Go.bits .and .u16 (IntKind.u16.wrap ((Go.bits .and .u16 a0 32767) * 2)) 32767) ((Go.bits .and .u16 a0 32767) / 16384))) = some r := h
 clear h
 obtain rfl := Option.some.inj H
 go_enter Tryz.func282, Tryz.ntmps282
 go_wp2
 go_ret
 exact ⟨by first | rfl | (simp; done) | (simp [*]; done), by repeat (first | exact Drawn0.refl _ | apply Drawn0.step)⟩
def onescomp_ShiftRight.f (a0 : Int) : Option (Int) := some (Go.bits .or .u16 ((Go.bits .and .u16 a0 32767) / 2) (Go.bits .and .u16 (Go.bits .and .u16 a0 32767) 16384))
theorem onescomp_ShiftRight.calls (a0 : Int) (r : Int) (w : World) (h : onescomp_ShiftRight.f a0 = some r) :
 Calls Tryz.prog 281 #[.int .u16 a0] w fun e w' => e = .returned (.int .u16 r) ∧ Drawn0 w w' := by
 have H : (some (Go.bits .or .u16 ((Go.bits .and .u16 a0 32767) / 2) (Go.bits .and .u16 (Go.bits .and .u16 a0 32767) 16384))) = some r := h
 clear h
 obtain rfl := Option.some.inj H
 go_enter Tryz.func281, Tryz.ntmps281
 go_wp2
 go_ret
 exact ⟨by first | rfl | (simp; done) | (simp [*]; done), by repeat (first | exact Drawn0.refl _ | apply Drawn0.step)⟩
def onescomp_Opcode.f (a0 : Int) : Option (Int) := some (Go.bits .and .u16 ((Go.bits .and .u16 a0 32767) / 128) 127)
theorem onescomp_Opcode.calls (a0 : Int) (r : Int) (w : World) (h : onescomp_Opcode.f a0 = some r) :
 Calls Tryz.prog 283 #[.int .u16 a0] w fun e w' => e = .returned (.int .u16 r) ∧ Drawn0 w w' := by
 have H : (some (Go.bits .and .u16 ((Go.bits .and .u16 a0 32767) / 128) 127)) = some r := h
 clear h
 obtain rfl := Option.some.inj H
 go_enter Tryz.func283, Tryz.ntmps283
 go_wp2
 go_ret
 exact ⟨by first | rfl | (simp; done) | (simp [*]; done), by repeat (first | exact Drawn0.refl _ | apply Drawn0.step)⟩
def onescomp_TwosDiff.f (a0 : Int) (a1 : Int) : Option (Int) := if (Go.bits .and .u16 (IntKind.u16.wrap (a0 - a1)) 32767) ≤ 16384 then (some (Go.bits .and .u16 (IntKind.u16.wrap (a0 - a1)) 32767)) else (some (IntKind.u16.wrap ((Go.bits .and .u16 (IntKind.u16.wrap (a0 - a1)) 32767) - 1)))
theorem onescomp_TwosDiff.calls (a0 : Int) (a1 : Int) (r : Int) (w : World) (h : onescomp_TwosDiff.f a0 a1 = some r) :
 Calls Tryz.prog 135 #[.int .u16 a0, .int .u16 a1] w fun e w' => e = .returned (.int .u16 r) ∧ Drawn0 w w' := by
 have H : (if (Go.bits .and .u16 (IntKind.u16.wrap (a0 - a1)) 32767) ≤ 16384 then (some (Go.bits .and .u16 (IntKind.u16.wrap (a0 - a1)) 32767)) else (some (IntKind.u16.wrap ((Go.bits .and .u16 (IntKind.u16.wrap (a0 - a1)) 32767) - 1)))) = some r := h
 clear h
 by_cases c3 : (Go.bits .and .u16 (IntKind.u16.wrap (a0 - a1)) 32767) ≤ 16384
 · rw [if_pos c3] at H
   have c3b0 : decide ((Go.bits .and .u16 (IntKind.u16.wrap (a0 - a1)) 32767) ≤ 16384) = true := decide_eq_true c3
   clear c3
   obtain rfl := Option.some.inj H
   go_enter Tryz.func135, Tryz.ntmps135
   go_wp2
   go_ret
   exact ⟨by first | rfl | (simp; done) | (simp [*]; done), by repeat (first | exact Drawn0.refl _ | apply Drawn0.step)⟩
 · rw [if_neg c3] at H
   have c3b0 : decide ((Go.bits .and .u16 (IntKind.u16.wrap (a0 - a1)) 32767) ≤ 16384) = false := decide_eq_false c3
   clear c3
   obtain rfl := Option.some.inj H
   go_enter Tryz.func135, Tryz.ntmps135
   go_wp2
   go_ret
   exact ⟨by first | rfl | (simp; done) | (simp [*]; done), by repeat (first | exact Drawn0.refl _ | apply Drawn0.step)⟩
end Go.Proofs.YtgbmaajfbbilhaaGreat.PAll
end
