/- The law MemoryKnown: the examples and limits of chapter 3; it has no parameters. -/
import Derived.Test.YtllmmgjmkgiodaaMem13
import Derived.Test.YtllmmgjmkgiodaaMem10
namespace Go.Proofs.Ytllmmgjmkgiodaa.Mem
open Go.RowKit Go.Deep Go.Proofs.Ytllmmgjmkgiodaa.PAll Go.Proofs.YtllmmgjmkgiodaaW.PrintWords Go.Proofs.YtllmmgjmkgiodaaW.PrintLast Go.Proofs.YtllmmgjmkgiodaaW.PrintMore Go.Proofs.Ytllmmgjmkgiodaa.Plain Go.Proofs.Ytllmmgjmkgiodaa.Par Go.Proofs.Ytllmmgjmkgiodaa.Lit
set_option linter.unusedVariables false
set_option linter.unusedSimpArgs false
def cntI (s f : Int) : Int := (if s ≤ 4 then 32 * s else 128 + 28 * (s - 4)) + (if s ≤ 3 then f else if f ≤ 28 then f else 28)
theorem litW (W : World) (e : TypeId) (xs : List Int) (a n : Nat) (ha : a = W.heap.size) (hn : n = xs.length) (hm : xs.length ≤ 9223372036854775807) : Kd.C (Kd.int .u16) (W.alloc (.cells (xs.flatMap fun x => [Value.int .u16 x]).toArray e)) (some ⟨a, 0, none⟩) n xs :=
  lit_any (Kd.int .u16) (fun x => [.int .u16 x]) (fun _ _ => rfl) W e xs a n ha hn hm
theorem row_any {α : Type} (d : Kd α) (W : World) (e : TypeId) (xs : List α) (cs : List Value) (a : Nat) (ha : a = W.heap.size) (hm : xs.length ≤ 9223372036854775807) (hK : ∀ j x, xs[j]? = some x → ∃ c, d.K W x c ∧ ∀ i u, c[i]? = some u → cs[j * d.sz + i]? = some u) :
    Kd.C d (W.alloc (.cells cs.toArray e)) (some ⟨a, 0, none⟩) xs.length xs := by
  subst ha
  refine ⟨rfl, hm, fun _ => ⟨_, rfl, fun j p hp => ?_⟩⟩
  obtain ⟨c, hc, hu⟩ := hK j p hp
  have hb : Below W.heap.size W (W.alloc (.cells cs.toArray e)) := (Below.refl _ _).alloc (Nat.le_refl _) _
  refine ⟨c, d.K_len hc, d.K_below hb hc, fun i u hi => ?_⟩
  rw [show (⟨W.heap.size, 0, none⟩ : Addr).add (j * d.sz + i) = ⟨W.heap.size, j * d.sz + i, none⟩ by unfold Addr.add; split <;> simp_all]
  rw [World.cell?_alloc_mark]
  show cs.toArray[j * d.sz + i]? = some u
  rw [List.getElem?_toArray]; exact hu i u hi
theorem litA (W : World) (a b : Nat) (ha : a = W.heap.size) (hb : b = W.heap.size + 1) : Kd.C k64 ((W.alloc (.cells #[.int .u16 5, .int .u16 6] 40)).alloc (.cells #[.int .i64 1, .slice (some ⟨a, 0, none⟩) 2 2] 64)) (some ⟨b, 0, none⟩) 1 [⟨1, [5, 6]⟩] := by
  refine row_any k64 _ 64 [⟨1, [5, 6]⟩] [.int .i64 1, .slice (some ⟨a, 0, none⟩) 2 2] b (by simp [hb]) (by simp) ?_
  intro j x hx
  match j, hx with
  | 0, hx =>
    injection hx with hx; subst hx
    exact ⟨_, k64_mk _ ⟨1, [5, 6]⟩ (A1 := some ⟨a, 0, none⟩) (c1 := 2) (Nat.le_refl _) (litW W 40 [5, 6] a 2 ha rfl (by simp)), fun i u hu => by simpa using hu⟩
theorem litB (W : World) (a b : Nat) (ha : a = W.heap.size) (hb : b = W.heap.size + 1) : Kd.C k64 ((W.alloc (.cells #[.int .u16 5] 40)).alloc (.cells #[.int .i64 1, .slice (some ⟨a, 0, none⟩) 1 1, .int .i64 1, .slice none 0 0] 64)) (some ⟨b, 0, none⟩) 2 [⟨1, [5]⟩, ⟨1, []⟩] := by
  refine row_any k64 _ 64 [⟨1, [5]⟩, ⟨1, []⟩] [.int .i64 1, .slice (some ⟨a, 0, none⟩) 1 1, .int .i64 1, .slice none 0 0] b (by simp [hb]) (by simp) ?_
  intro j x hx
  match j, hx with
  | 0, hx =>
    injection hx with hx; subst hx
    refine ⟨_, k64_mk _ ⟨1, [5]⟩ (A1 := some ⟨a, 0, none⟩) (c1 := 1) (Nat.le_refl _) (litW W 40 [5] a 1 ha rfl (by simp)), fun i u hu => ?_⟩
    match i, hu with
    | 0, hu => exact hu
    | 1, hu => exact hu
  | 1, hx =>
    injection hx with hx; subst hx
    refine ⟨_, k64_mk _ ⟨1, []⟩ (A1 := none) (c1 := 0) (Nat.le_refl _) ⟨rfl, Nat.zero_le _, fun h => absurd h (Nat.lt_irrefl 0)⟩, fun i u hu => ?_⟩
    match i, hu with
    | 0, hu => exact hu
    | 1, hu => exact hu
theorem litC (W : World) (b : Nat) (hb : b = W.heap.size) : Kd.C k64 (W.alloc (.cells #[.int .i64 36, .slice none 0 0] 64)) (some ⟨b, 0, none⟩) 1 [⟨36, []⟩] := by
  refine row_any k64 _ 64 [⟨36, []⟩] [.int .i64 36, .slice none 0 0] b hb (by simp) ?_
  intro j x hx
  match j, hx with
  | 0, hx =>
    injection hx with hx; subst hx
    exact ⟨_, k64_mk _ ⟨36, []⟩ (A1 := none) (c1 := 0) (Nat.le_refl _) ⟨rfl, Nat.zero_le _, fun h => absurd h (Nat.lt_irrefl 0)⟩, fun i u hu => by simpa using hu⟩
theorem ap1 : apE 1 [⟨0, 1⟩, ⟨0, 2⟩] = 0 ∧ apL [32768] [⟨0, 1⟩, ⟨0, 2⟩] = [2] := ⟨by decide +kernel, by decide +kernel⟩
theorem ap2 : apE 1 [⟨0, 1⟩, ⟨1, 2⟩] = 3 ∧ apL [32768] [⟨0, 1⟩, ⟨1, 2⟩] = [] := ⟨by decide +kernel, by decide +kernel⟩
theorem rnc12 (a b : Int) : RNC [⟨a, 1⟩, ⟨b, 2⟩] := wf_rnc (by simp)
theorem litE (W : World) (a : Nat) (ha : a = W.heap.size) : Kd.C (Kd.int .u16) (W.alloc (.cells #[.int .u16 32768, .int .u16 0] 54)) (some ⟨a, 0, none⟩) 2 [32768, 0] := litW W 54 [32768, 0] a 2 ha rfl (by simp)
theorem litD0 (W : World) (c : List Value) (a : Nat) (ha : a = W.heap.size) : Kd.C (Kd.int .u16) ((W.alloc (.cells #[.int .u16 32768] 54)).alloc (.cells c.toArray 46)) (some ⟨a, 0, none⟩) 1 [32768] := Kd.C_alloc (litW W 54 [32768] a 1 ha rfl (by simp)) _
theorem litD1 (W : World) (b : Nat) (hb : b = W.heap.size) : Kd.C k46 (W.alloc (.cells #[.int .i64 0, .int .u16 1, .int .i64 0, .int .u16 2] 46)) (some ⟨b, 0, none⟩) 2 [⟨0, 1⟩, ⟨0, 2⟩] := lit_any k46 f46 (fun w x => k46_mk w x) W 46 [⟨0, 1⟩, ⟨0, 2⟩] b 2 hb rfl (by simp)
theorem litD2 (W : World) (b : Nat) (hb : b = W.heap.size) : Kd.C k46 (W.alloc (.cells #[.int .i64 0, .int .u16 1, .int .i64 1, .int .u16 2] 46)) (some ⟨b, 0, none⟩) 2 [⟨0, 1⟩, ⟨1, 2⟩] := lit_any k46 f46 (fun w x => k46_mk w x) W 46 [⟨0, 1⟩, ⟨1, 2⟩] b 2 hb rfl (by simp)
theorem AA1 (A' : Option Addr) (c c' a b : Nat) (W : World) (ha : a = W.heap.size) (hb : b = W.heap.size + 1) : Calls Try.prog 23 #[.slice (some ⟨a, 0, none⟩) 1 c, .slice (some ⟨b, 0, none⟩) 2 c'] ((W.alloc (.cells #[.int .u16 32768] 54)).alloc (.cells #[.int .i64 0, .int .u16 1, .int .i64 0, .int .u16 2] 46)) fun e w' =>
    ∃ v, e = .returned (.tuple #[v, .int .i64 0]) ∧ Kd.R (Kd.int .u16) 54 w' ((W.alloc (.cells #[.int .u16 32768] 54)).alloc (.cells #[.int .i64 0, .int .u16 1, .int .i64 0, .int .u16 2] 46)).heap.size (fun _ => True) v [2] ∧ Below ((W.alloc (.cells #[.int .u16 32768] 54)).alloc (.cells #[.int .i64 0, .int .u16 1, .int .i64 0, .int .u16 2] 46)).heap.size ((W.alloc (.cells #[.int .u16 32768] 54)).alloc (.cells #[.int .i64 0, .int .u16 1, .int .i64 0, .int .u16 2] 46)) w' := by
  have := Apply_c _ c [32768] _ c' [⟨0, 1⟩, ⟨0, 2⟩] 1 2 rfl rfl _ (litD0 W [.int .i64 0, .int .u16 1, .int .i64 0, .int .u16 2] a ha) (litD1 (W.alloc (.cells #[.int .u16 32768] 54)) b (by simp [hb])) (by decide) (by decide) (rnc12 0 0)
  rw [ap1.1, ap1.2] at this
  exact this
theorem AA2 (A' : Option Addr) (c c' a b : Nat) (W : World) (ha : a = W.heap.size) (hb : b = W.heap.size + 1) : Calls Try.prog 23 #[.slice (some ⟨a, 0, none⟩) 1 c, .slice (some ⟨b, 0, none⟩) 2 c'] ((W.alloc (.cells #[.int .u16 32768] 54)).alloc (.cells #[.int .i64 0, .int .u16 1, .int .i64 1, .int .u16 2] 46)) fun e w' =>
    ∃ v, e = .returned (.tuple #[v, .int .i64 3]) ∧ Kd.R (Kd.int .u16) 54 w' ((W.alloc (.cells #[.int .u16 32768] 54)).alloc (.cells #[.int .i64 0, .int .u16 1, .int .i64 1, .int .u16 2] 46)).heap.size (fun _ => True) v [] ∧ Below ((W.alloc (.cells #[.int .u16 32768] 54)).alloc (.cells #[.int .i64 0, .int .u16 1, .int .i64 1, .int .u16 2] 46)).heap.size ((W.alloc (.cells #[.int .u16 32768] 54)).alloc (.cells #[.int .i64 0, .int .u16 1, .int .i64 1, .int .u16 2] 46)) w' := by
  have := Apply_c _ c [32768] _ c' [⟨0, 1⟩, ⟨1, 2⟩] 1 2 rfl rfl _ (litD0 W [.int .i64 0, .int .u16 1, .int .i64 1, .int .u16 2] a ha) (litD2 (W.alloc (.cells #[.int .u16 32768] 54)) b (by simp [hb])) (by decide) (by decide) (rnc12 0 1)
  rw [ap2.1, ap2.2] at this
  exact this
theorem litS (W : World) (xs : List Int) (a n : Nat) (ha : a = W.heap.size) (hn : n = xs.length) (hm : xs.length ≤ 9223372036854775807) : Kd.C (Kd.int .u16) (W.alloc (.cells (xs.flatMap fun x => [Value.int .u16 x]).toArray 54)) (some ⟨a, 0, none⟩) n xs := litW W 54 xs a n ha hn hm
theorem bnk1 : fixE [⟨1, [5, 6]⟩] [] = 0 := by decide +kernel
theorem bnk2 : fixE [⟨1, [5]⟩, ⟨1, []⟩] [] = 8 := by decide +kernel
theorem bnk3 : fixE [⟨36, []⟩] [] = 3 := by decide +kernel
theorem fx1 : fixL [⟨1, [5, 6]⟩] = (zerosL 36864).take 1024 ++ ([putI 5, putI 6] ++ (zerosL 36864).drop 1026) := by unfold fixL; rw [bnk1, if_pos rfl]; rfl
theorem fx1_len : (fixL [⟨1, [5, 6]⟩]).length = 36864 := by unfold fixL; rw [bnk1, if_pos rfl]; exact fills_len _ _ zerosL_len (fixE_fit _ [] bnk1)
theorem tk : ((zerosL 36864).take 1024).length = 1024 := by rw [List.length_take, zerosL_len]; rfl
theorem rd_1024 : rd (fixL [⟨1, [5, 6]⟩]) 1024 = putI 5 := by
  rw [fx1]; unfold rd; rw [List.getD_eq_getElem?_getD, List.getElem?_append_right (by rw [tk]; decide), tk]; rfl
theorem rd_1025 : rd (fixL [⟨1, [5, 6]⟩]) 1025 = putI 6 := by
  rw [fx1]; unfold rd; rw [List.getD_eq_getElem?_getD, List.getElem?_append_right (by rw [tk]; decide), tk]; rfl
theorem rd_1026 : rd (fixL [⟨1, [5, 6]⟩]) 1026 = 32768 := by
  rw [fx1]; unfold rd
  rw [List.getD_eq_getElem?_getD, List.getElem?_append_right (by rw [tk]; decide), tk, List.getElem?_append_right (by decide)]
  simp only [zerosL, List.drop_replicate]
  rw [List.getElem?_replicate, if_pos (by decide)]; rfl
theorem rnb (l : List S64) (h : ∀ b ∈ l, ∀ x ∈ b.f1, 0 ≤ x ∧ x < 65536) : RNB l := h
theorem wr1 : wrE 2 1 = 0 ∧ wrL [32768, 0] 1 3 = [32768, putI 3] ∧ putI 3 = 32771 := ⟨by decide, by decide +kernel, by decide +kernel⟩
set_option maxRecDepth 100000 in
set_option maxHeartbeats 8000000 in
theorem known_law (w : World) : Calls Try.prog 9 #[] w fun e w' => e = .returned (.bool true) ∧ Below w.heap.size w w' := by
  have HB := Aside0.mk (Below.refl w.heap.size w)
  have F1 := fun A c w h0 => Fixed_c A c [⟨1, [5, 6]⟩] 1 rfl (by decide) w h0 (by intro b hb x hx; simp at hb; subst hb; simp at hx; omega)
  have F2 := fun A c w h0 => Fixed_c A c [⟨1, [5]⟩, ⟨1, []⟩] 2 rfl (by decide) w h0 (by intro b hb x hx; simp at hb; rcases hb with rfl | rfl <;> simp at hx; omega)
  have F3 := fun A c w h0 => Fixed_c A c [⟨36, []⟩] 1 rfl (by decide) w h0 (by intro b hb x hx; simp at hb; subst hb; simp at hx)
  rw [bnk1] at F1
  rw [bnk2] at F2
  rw [bnk3] at F3
  replace F1 := Lib.hid F1
  replace F2 := Lib.hid F2
  replace F3 := Lib.hid F3
  have WR := fun A c w h0 => Write_c A c [32768, 0] 2 rfl 1 3 w h0 (by decide) (by decide) (by decide)
  rw [wr1.1, wr1.2.1, wr1.2.2] at WR
  have A1 := fun A c A' c' w h0 h1 => Apply_c A c [32768] A' c' [⟨0, 1⟩, ⟨0, 2⟩] 1 2 rfl rfl w h0 h1 (by decide) (by decide) (rnc12 0 0)
  rw [ap1.1, ap1.2] at A1
  have A2 := fun A c A' c' w h0 h1 => Apply_c A c [32768] A' c' [⟨0, 1⟩, ⟨1, 2⟩] 1 2 rfl rfl w h0 h1 (by decide) (by decide) (rnc12 0 1)
  rw [ap2.1, ap2.2] at A2
  replace WR := Lib.hid WR
  replace A1 := Lib.hid A1
  replace A2 := Lib.hid A2
  have WN := Lib.hid fun w => Words_c none 0 [] 0 rfl w ⟨rfl, Nat.zero_le _, fun h => absurd h (Nat.lt_irrefl 0)⟩ (by decide) (fun i h0 h1 => absurd h1 (by simp; omega))
  have BK := Lib.hid bank_c
  have L0 := Lib.hid fun w => perilunelaw03_leads.calls 20 767 5 9 1 767 true w (by kernel_rfl)
  have L1 := Lib.hid fun w => perilunelaw03_leads.calls 20 2048 5 9 2 2048 true w (by kernel_rfl)
  have L2 := Lib.hid fun w => perilunelaw03_operand.calls 20 1 300 5 9 300 0 true w (by kernel_rfl)
  have L3 := Lib.hid fun w => perilunelaw03_operand.calls 20 1 1281 5 9 769 0 true w (by kernel_rfl)
  have L4 := Lib.hid fun w => perilunelaw03_operand.calls 20 2 3000 5 2 3000 0 true w (by kernel_rfl)
  have L5 := Lib.hid fun w => perilunelaw03_operand.calls 20 0 1 0 0 0 2 true w (by kernel_rfl)
  have L6 := Lib.hid fun w => perilunelaw03_operand.calls 20 3 1 0 0 0 2 true w (by kernel_rfl)
  have LA := Lib.hid fun w => memory_Absolute.calls 1 4096 0 0 0 0 3 w (by kernel_rfl)
  go_enter Try.func9, Try.ntmps9
  go_wp2
  go_loopg [1, 2] 8 (fun g v1 v2 w' => ∃ s : Int, v1 = .int .i64 (cntI s 0) ∧ v2 = .int .i64 s ∧ 0 ≤ s ∧ Aside0 (s + g = 8) ∧ Aside0 (Below w.heap.size w w'))
  case atStart => exact ⟨0, rfl, rfl, by decide, ⟨by decide⟩, HB⟩
  case round =>
    clear HB
    obtain ⟨s, rfl, rfl, s0, hg, HB⟩ := hrel
    by_cases hst : s < 8
    · obtain ⟨g, rfl⟩ : ∃ g, gk = g + 1 := ⟨gk - 1, by have := hg.out; omega⟩
      have b0 : decide (s < 8) = true := decide_eq_true hst
      go_wp2
      go_loopg [1, 3] 32 (fun g v1 v3 w' => ∃ f : Int, v1 = .int .i64 (cntI s f) ∧ v3 = .int .i64 f ∧ 0 ≤ f ∧ Aside0 (f + g = 32) ∧ Aside0 (Below w.heap.size w w'))
      case atStart => exact ⟨0, rfl, rfl, by decide, ⟨by decide⟩, HB⟩
      case round =>
        clear HB
        have hg0 := hg
        clear hg
        obtain ⟨f, rfl, rfl, f0, hg, HB⟩ := hrel
        by_cases hft : f < 32
        · obtain ⟨g', rfl⟩ : ∃ g', gk = g' + 1 := ⟨gk - 1, by have := hg.out; omega⟩
          have b1 : decide (f < 32) = true := decide_eq_true hft
          have BKf := BK.out f s
          by_cases c1 : s > 3
          · have b2 : decide (s > 3) = true := decide_eq_true c1
            have b2' : decide (3 < s) = true := decide_eq_true c1
            by_cases c2 : f > 23
            · have b3 : decide (f > 23) = true := decide_eq_true c2
              have b3' : decide (23 < f) = true := decide_eq_true c2
              by_cases c3 : f ≤ 27
              · have e1 : bankN f s = f + 8 := by unfold bankN; repeat' split; all_goals omega
                have e2 : bankE f s = 0 := by unfold bankE; repeat' split; all_goals omega
                rw [e1, e2] at BKf
                replace BKf := Lib.hid BKf
                have b4 : decide (f + 8 < 36) = true := decide_eq_true (by omega)
                have b5 : ((f + 8) != (f + 8)) = false := bne_self_eq_false _
                have hc := Lib.hid (show cntI s f + 1 = cntI s (f + 1) by unfold cntI; repeat' split; all_goals omega)
                have hcb : 0 ≤ cntI s f ∧ cntI s f ≤ 1000 := by unfold cntI; repeat' split; all_goals omega
                clear e1 e2 c1 c2 c3
                go_wp2_with (go_at_call 10; (with_reducible refine at_args #[.int .i64 f, .int .i64 s] ?_); (with_reducible refine (BKf.out _).mono ?_); rintro e w' ⟨rfl, ⟨nd, rfl⟩⟩)
                go_roundg g'
                case measure => omega
                case rel => exact ⟨f + 1, by rw [← hc.out], rfl, by omega, ⟨by have := hg.out; omega⟩, ⟨by repeat (first | (with_reducible first | exact HB.out | apply below_alloc | apply pw_below_drewN | apply below_drew1) | exact HB.out)⟩⟩
              · have e1 : bankN f s = 0 := by unfold bankN; repeat' split; all_goals omega
                have e2 : bankE f s = 3 := by unfold bankE; repeat' split; all_goals omega
                rw [e1, e2] at BKf
                replace BKf := Lib.hid BKf
                have b4 : decide (f + 8 < 36) = false := decide_eq_false (by omega)
                have hc := Lib.hid (show cntI s f = cntI s (f + 1) by unfold cntI; repeat' split; all_goals omega)
                have hcb : 0 ≤ cntI s f ∧ cntI s f ≤ 1000 := by unfold cntI; repeat' split; all_goals omega
                clear e1 e2 c1 c2 c3
                go_wp2_with (go_at_call 10; (with_reducible refine at_args #[.int .i64 f, .int .i64 s] ?_); (with_reducible refine (BKf.out _).mono ?_); rintro e w' ⟨rfl, ⟨nd, rfl⟩⟩)
                go_roundg g'
                case measure => omega
                case rel => exact ⟨f + 1, by rw [← hc.out], rfl, by omega, ⟨by have := hg.out; omega⟩, ⟨by repeat (first | (with_reducible first | exact HB.out | apply below_alloc | apply pw_below_drewN | apply below_drew1) | exact HB.out)⟩⟩
            · have b3 : decide (f > 23) = false := decide_eq_false c2
              have b3' : decide (23 < f) = false := decide_eq_false c2
              have c3 : True := trivial
              have e1 : bankN f s = f := by unfold bankN; repeat' split; all_goals omega
              have e2 : bankE f s = 0 := by unfold bankE; repeat' split; all_goals omega
              rw [e1, e2] at BKf
              replace BKf := Lib.hid BKf
              have b4 : decide (f < 36) = true := decide_eq_true (by omega)
              have b5 : (f != f) = false := bne_self_eq_false _
              have hc := Lib.hid (show cntI s f + 1 = cntI s (f + 1) by unfold cntI; repeat' split; all_goals omega)
              have hcb : 0 ≤ cntI s f ∧ cntI s f ≤ 1000 := by unfold cntI; repeat' split; all_goals omega
              clear e1 e2 c1 c2 c3
              go_wp2_with (go_at_call 10; (with_reducible refine at_args #[.int .i64 f, .int .i64 s] ?_); (with_reducible refine (BKf.out _).mono ?_); rintro e w' ⟨rfl, ⟨nd, rfl⟩⟩)
              go_roundg g'
              case measure => omega
              case rel => exact ⟨f + 1, by rw [← hc.out], rfl, by omega, ⟨by have := hg.out; omega⟩, ⟨by repeat (first | (with_reducible first | exact HB.out | apply below_alloc | apply pw_below_drewN | apply below_drew1) | exact HB.out)⟩⟩
          · have b2 : decide (s > 3) = false := decide_eq_false c1
            have b2' : decide (3 < s) = false := decide_eq_false c1
            have c2 : True := trivial
            have c3 : True := trivial
            have e1 : bankN f s = f := by unfold bankN; repeat' split; all_goals omega
            have e2 : bankE f s = 0 := by unfold bankE; repeat' split; all_goals omega
            rw [e1, e2] at BKf
            replace BKf := Lib.hid BKf
            have b4 : decide (f < 36) = true := decide_eq_true (by omega)
            have b5 : (f != f) = false := bne_self_eq_false _
            have hc := Lib.hid (show cntI s f + 1 = cntI s (f + 1) by unfold cntI; repeat' split; all_goals omega)
            have hcb : 0 ≤ cntI s f ∧ cntI s f ≤ 1000 := by unfold cntI; repeat' split; all_goals omega
            clear e1 e2 c1 c2 c3
            go_wp2_with (go_at_call 10; (with_reducible refine at_args #[.int .i64 f, .int .i64 s] ?_); (with_reducible refine (BKf.out _).mono ?_); rintro e w' ⟨rfl, ⟨nd, rfl⟩⟩)
            go_roundg g'
            case measure => omega
            case rel => exact ⟨f + 1, by rw [← hc.out], rfl, by omega, ⟨by have := hg.out; omega⟩, ⟨by repeat (first | (with_reducible first | exact HB.out | apply below_alloc | apply pw_below_drewN | apply below_drew1) | exact HB.out)⟩⟩
        · have b1 : decide (f < 32) = false := decide_eq_false hft
          have hf : f = 32 := by have := hg.out; omega
          subst hf
          have hc := Lib.hid (show cntI s 32 = cntI (s + 1) 0 by unfold cntI; repeat' split; all_goals omega)
          clear hft hg
          go_wp2
          go_roundg g
          case measure => omega
          case rel => exact ⟨s + 1, by rw [← hc.out], rfl, by omega, ⟨by have := hg0.out; omega⟩, ⟨by repeat (first | (with_reducible first | exact HB.out | apply below_alloc | apply pw_below_drewN | apply below_drew1) | exact HB.out)⟩⟩
    · have b0 : decide (s < 8) = false := decide_eq_false hst
      have hs : s = 8 := by have := hg.out; omega
      subst hs
      have hc : cntI 8 0 = 240 := by decide
      clear hst hg s0
      rw [hc]
      go_wp2_with (first | (go_at_call 30; (with_reducible refine at_args #[.slice _ 1 _] ?_); (with_reducible refine (F1.out _ _ _ (litA _ _ _ (by simp) (by simp))).mono ?_); rintro e w' ⟨vp, rfl, hRp, hbp⟩; obtain ⟨Ap, cp, e_, hcp, hCp⟩ := Kd.R_reads hRp; rw [fx1_len] at e_ hcp hCp; subst e_; have Hp := Aside0.mk hCp; clear hRp hCp; have HBn := Aside0.mk (below_step (by repeat (first | (with_reducible first | exact HB.out | apply below_alloc | apply pw_below_drewN | apply below_drew1) | exact HB.out)) hbp); clear HB hbp; have HB := HBn; clear HBn) | (go_at_call 30; (with_reducible refine at_args #[.slice _ 2 _] ?_); (with_reducible refine (F2.out _ _ _ (litB _ _ _ (by simp) (by simp))).mono ?_); rintro e w' ⟨vq, rfl, hRq, hbq⟩; obtain ⟨Aq, cq, e_⟩ := Kd.R_slice hRq; generalize List.length _ = lnq at e_; subst e_; clear hRq; replace Hp := Aside0.mk (Kd.C_below (by (with_reducible repeat (first | apply Kd.C_alloc | apply Kd.C_drewN | apply Kd.C_drew)); exact Hp.out) hbq); have HBn := Aside0.mk (below_step (by repeat (first | (with_reducible first | exact HB.out | apply below_alloc | apply pw_below_drewN | apply below_drew1) | exact HB.out)) hbq); clear HB hbq; have HB := HBn; clear HBn) | (go_at_call 30; (with_reducible refine at_args #[.slice _ 1 _] ?_); (with_reducible refine (F3.out _ _ _ (litC _ _ (by simp))).mono ?_); rintro e w' ⟨vr, rfl, hRr, hbr⟩; obtain ⟨Ar, cr, e_⟩ := Kd.R_slice hRr; generalize List.length _ = lnr at e_; subst e_; clear hRr; replace Hp := Aside0.mk (Kd.C_below (by (with_reducible repeat (first | apply Kd.C_alloc | apply Kd.C_drewN | apply Kd.C_drew)); exact Hp.out) hbr); have HBn := Aside0.mk (below_step (by repeat (first | (with_reducible first | exact HB.out | apply below_alloc | apply pw_below_drewN | apply below_drew1) | exact HB.out)) hbr); clear HB hbr; have HB := HBn; clear HBn))
      have X0 := Kd.at_int Hp.out 1024 (by decide) (by decide)
      have X1 := Kd.at_int Hp.out 1025 (by decide) (by decide)
      have X2 := Kd.at_int Hp.out 1026 (by decide) (by decide)
      rw [rd_1024] at X0
      rw [rd_1025] at X1
      rw [rd_1026] at X2
      obtain ⟨ad, eA, x0⟩ := X0
      cases eA
      obtain ⟨_, eA, x1⟩ := X1
      cases eA
      obtain ⟨_, eA, x2⟩ := X2
      cases eA
      change World.cell? _ ⟨ad.block, ad.off + 1024, none⟩ = _ at x0
      change World.cell? _ ⟨ad.block, ad.off + 1025, none⟩ = _ at x1
      change World.cell? _ ⟨ad.block, ad.off + 1026, none⟩ = _ at x2
      have PQ5 := Put_q 5 (by decide) (by decide)
      have PQ6 := Put_q 6 (by decide) (by decide)
      generalize putI 5 = p5 at PQ5 x0
      generalize putI 6 = p6 at PQ6 x1
      replace PQ5 := Lib.hid PQ5
      replace PQ6 := Lib.hid PQ6
      have hp5 : (p5 != p5) = false := bne_self_eq_false _
      have hp6 : (p6 != p6) = false := bne_self_eq_false _
      go_quiet ((first | (go_at_call 34; (with_reducible refine at_args #[.int .u16 5] ?_); exact PQ5.out _ _) | (go_at_call 34; (with_reducible refine at_args #[.int .u16 6] ?_); exact PQ6.out _ _)))
      go_wp2_with (first | (go_at_call 20; (with_reducible refine at_args #[.slice _ 2 _, .int .i64 1, .int .u16 3] ?_); (with_reducible refine (WR.out _ _ _ (litE _ _ (by first | rfl | simp))).mono ?_); rintro e w' ⟨va, rfl, hRa, hba⟩; obtain ⟨Aa, ca, rfl, hca, hCa⟩ := Kd.R_reads hRa; have Ha := Aside0.mk hCa; clear hRa hCa; have HBn := Aside0.mk (below_step (by repeat (first | (with_reducible first | exact HB.out | apply below_alloc | apply pw_below_drewN | apply below_drew1) | exact HB.out)) hba); clear HB hba; have HB := HBn; clear HBn) | (go_at_call 23; (with_reducible refine at_args #[.slice _ 1 _, .slice _ 2 _] ?_); (with_reducible refine (AA1 none _ _ _ _ _ (by first | rfl | simp) (by first | rfl | simp)).mono ?_); rintro e w' ⟨vb, rfl, hRb, hbb⟩; obtain ⟨Ab, cb, rfl, hcb, hCb⟩ := Kd.R_reads hRb; have Hb := Aside0.mk hCb; clear hRb hCb; replace Ha := Aside0.mk (Kd.C_below (by (with_reducible repeat (first | apply Kd.C_alloc | apply Kd.C_drewN | apply Kd.C_drew)); exact Ha.out) hbb); have HBn := Aside0.mk (below_step (by repeat (first | (with_reducible first | exact HB.out | apply below_alloc | apply pw_below_drewN | apply below_drew1) | exact HB.out)) hbb); clear HB hbb; have HB := HBn; clear HBn) | (go_at_call 23; (with_reducible refine at_args #[.slice _ 1 _, .slice _ 2 _] ?_); (with_reducible refine (AA2 none _ _ _ _ _ (by first | rfl | simp) (by first | rfl | simp)).mono ?_); rintro e w' ⟨vc, rfl, hRc, hbc⟩; obtain ⟨Ac, cc, rfl, hcc, hCc⟩ := Kd.R_reads hRc; have Hc := Aside0.mk hCc; clear hRc hCc; replace Ha := Aside0.mk (Kd.C_below (by (with_reducible repeat (first | apply Kd.C_alloc | apply Kd.C_drewN | apply Kd.C_drew)); exact Ha.out) hbc); replace Hb := Aside0.mk (Kd.C_below (by (with_reducible repeat (first | apply Kd.C_alloc | apply Kd.C_drewN | apply Kd.C_drew)); exact Hb.out) hbc); have HBn := Aside0.mk (below_step (by repeat (first | (with_reducible first | exact HB.out | apply below_alloc | apply pw_below_drewN | apply below_drew1) | exact HB.out)) hbc); clear HB hbc; have HB := HBn; clear HBn; obtain ⟨ada, eA, xa0⟩ := Kd.at_int Ha.out 0 (by decide) (by decide); cases eA; change World.cell? _ ada = some (.int .u16 32768) at xa0; obtain ⟨_, eA, xa1⟩ := Kd.at_int Ha.out 1 (by decide) (by decide); cases eA; change World.cell? _ ⟨ada.block, ada.off + 1, none⟩ = some (.int .u16 32771) at xa1; obtain ⟨adb, eA, xb0⟩ := Kd.at_int Hb.out 0 (by decide) (by decide); cases eA; change World.cell? _ adb = some (.int .u16 2) at xb0) | (go_at_call 26; (with_reducible refine at_args #[.slice none 0 0] ?_); (with_reducible refine (WN.out _).mono ?_); rintro e w' ⟨vd, rfl, hRd, hbd⟩; obtain ⟨Ad, cd, e_, hcd, hCd⟩ := Kd.R_reads hRd; rw [show (wordsL []).length = 0 from rfl] at e_ hcd hCd; subst e_; have Hd := Aside0.mk hCd; clear hRd hCd; have HBn := Aside0.mk (below_step (by repeat (first | (with_reducible first | exact HB.out | apply below_alloc | apply pw_below_drewN | apply below_drew1) | exact HB.out)) hbd); clear HB hbd; have HB := HBn; clear HBn) | (go_at_call 17; (with_reducible refine at_args #[.int .i64 767, .int .i64 5, .int .i64 9, .int .u8 1, .int .i64 767] ?_); (with_reducible refine (L0.out _).mono ?_); rintro e w' ⟨rfl, ⟨nd, rfl⟩⟩) | (go_at_call 17; (with_reducible refine at_args #[.int .i64 2048, .int .i64 5, .int .i64 9, .int .u8 2, .int .i64 2048] ?_); (with_reducible refine (L1.out _).mono ?_); rintro e w' ⟨rfl, ⟨nd, rfl⟩⟩) | (go_at_call 35; (with_reducible refine at_args #[.int .u8 1, .int .i64 300, .int .i64 5, .int .i64 9, .int .i64 300, .int .i64 0] ?_); (with_reducible refine (L2.out _).mono ?_); rintro e w' ⟨rfl, ⟨nd, rfl⟩⟩) | (go_at_call 35; (with_reducible refine at_args #[.int .u8 1, .int .i64 1281, .int .i64 5, .int .i64 9, .int .i64 769, .int .i64 0] ?_); (with_reducible refine (L3.out _).mono ?_); rintro e w' ⟨rfl, ⟨nd, rfl⟩⟩) | (go_at_call 35; (with_reducible refine at_args #[.int .u8 2, .int .i64 3000, .int .i64 5, .int .i64 2, .int .i64 3000, .int .i64 0] ?_); (with_reducible refine (L4.out _).mono ?_); rintro e w' ⟨rfl, ⟨nd, rfl⟩⟩) | (go_at_call 35; (with_reducible refine at_args #[.int .u8 0, .int .i64 1, .int .i64 0, .int .i64 0, .int .i64 0, .int .i64 2] ?_); (with_reducible refine (L5.out _).mono ?_); rintro e w' ⟨rfl, ⟨nd, rfl⟩⟩) | (go_at_call 35; (with_reducible refine at_args #[.int .u8 3, .int .i64 1, .int .i64 0, .int .i64 0, .int .i64 0, .int .i64 2] ?_); (with_reducible refine (L6.out _).mono ?_); rintro e w' ⟨rfl, ⟨nd, rfl⟩⟩) | (go_at_call 12; (with_reducible refine at_args #[.int .i64 4096, .int .i64 0, .int .i64 0] ?_); (with_reducible refine (LA.out _).mono ?_); rintro e w' ⟨rfl, ⟨nd, rfl⟩⟩) | (go_at_call 16; (with_reducible refine at_args #[] ?_); (with_reducible refine (works_c _).mono ?_); rintro e w' ⟨rfl, hbw⟩; have HBn := Aside0.mk (below_step (by repeat (first | (with_reducible first | exact HB.out | apply below_alloc | apply pw_below_drewN | apply below_drew1) | exact HB.out)) hbw); clear HB hbw; have HB := HBn; clear HBn))
      go_ret
      exact ⟨rfl, by repeat (first | (with_reducible first | exact HB.out | apply below_alloc | apply pw_below_drewN | apply below_drew1) | exact HB.out)⟩
end Go.Proofs.Ytllmmgjmkgiodaa.Mem
