/- The law InterruptTells: Request, Waits, Allowed and Choose answer as their references do; for all numbers of their kinds. -/
import Derived.Test.YtejnppbkncfkeaaRup7
namespace Go.Proofs.Ytejnppbkncfkeaa.Rup
open Go.RowKit Go.Proofs.Ytejnppbkncfkeaa.PAll Go.Proofs.YtejnppbkncfkeaaW.PrintWords Go.Proofs.YtejnppbkncfkeaaW.PrintLast Go.Proofs.YtejnppbkncfkeaaW.PrintMore Go.Proofs.Ytejnppbkncfkeaa.Plain Go.Proofs.Ytejnppbkncfkeaa.Lit
set_option linter.unusedVariables false
set_option linter.unusedSimpArgs false
set_option maxRecDepth 100000 in
set_option maxHeartbeats 8000000 in
theorem tells_calls (a l q z eb fb su : Int) (ext : Bool) (idx : Int) (held : Bool) (b : Int) (inh srv : Bool) (s nn : Int) (w : World) (s0 : 0 ≤ s) (s1 : s < 65536) (a0 : 0 ≤ a) (a1 : a < 65536) :
    Calls Try.prog 4 #[.agg #[.int .u16 s], .int .i64 nn, .agg #[.int .u16 a, .int .u16 l, .int .u16 q, .int .i64 z, .int .i64 eb, .int .i64 fb, .int .i64 su, .bool ext, .int .u16 idx, .bool held, .int .u16 b, .bool inh, .bool srv]] w fun e w' => e = .returned (.bool true) ∧ Below w.heap.size w w' := by
  have PQ := Lib.hid fun (n : Int) (w : World) => interrupt_Request.calls s n (rqR s n).1 (rqR s n).2 w (pReq_f s0 s1)
  have RQ := Lib.hid fun (n : Int) (w : World) => periluneref07_Request.calls 40 s n (rqR s n).1 (rqR s n).2 w (rReq_f s0 s1 (by decide))
  have PW := Lib.hid fun (n : Int) (w : World) => Waits_c s n s0 s1 w
  have RW := Lib.hid fun (n : Int) (w : World) => periluneref07_Waits.calls 20 s n _ w (rWaits_B s0 s1 (by decide))
  have PC := Lib.hid fun (w : World) => Choose_c s a l q z eb fb su ext idx held b inh srv s0 s1 w
  have RC := Lib.hid fun (w : World) => periluneref07_Choose.calls 40 s a l q z eb fb su ext idx held b inh srv (if alB a idx ext held inh srv = true then chR (chI s) else (0, false)).1 (if alB a idx ext held inh srv = true then chR (chI s) else (0, false)).2 w (rChoose_f s0 s1 a0 a1 (by decide))
  have PA := Lib.hid fun (w : World) => Allowed_c a l q z eb fb su ext idx held b inh srv w
  have RA := Lib.hid fun (w : World) => periluneref07_Allowed.calls a l q z eb fb su ext idx held b inh srv _ w (rAl a0 a1)
  have HB := Aside0.mk (Below.refl w.heap.size w)
  clear s0 s1 a0 a1
  go_enter Try.func4, Try.ntmps4
  go_upto_region 1 with fail
  have nB : Aside0 (Below w.heap.size w ((w.alloc (.cells #[.int .u16 s] 28)).alloc (.cells #[.int .u16 a, .int .u16 l, .int .u16 q, .int .i64 z, .int .i64 eb, .int .i64 fb, .int .i64 su, .bool ext, .int .u16 idx, .bool held, .int .u16 b, .bool inh, .bool srv] 26))) := ⟨(below_alloc (below_alloc HB.out _) _)⟩
  have n3 : Aside0 ((World.heap (((w.alloc (.cells #[.int .u16 s] 28)).alloc (.cells #[.int .u16 a, .int .u16 l, .int .u16 q, .int .i64 z, .int .i64 eb, .int .i64 fb, .int .i64 su, .bool ext, .int .u16 idx, .bool held, .int .u16 b, .bool inh, .bool srv] 26))))[w.heap.size]? = some (.cells #[.int .u16 s] 28 (0, 0))) := ⟨by have h := blk_alloc (blk_new w (.cells #[.int .u16 s] 28)) (.cells #[.int .u16 a, .int .u16 l, .int .u16 q, .int .i64 z, .int .i64 eb, .int .i64 fb, .int .i64 su, .bool ext, .int .u16 idx, .bool held, .int .u16 b, .bool inh, .bool srv] 26); exact h⟩
  have n5 : Aside0 ((World.heap (((w.alloc (.cells #[.int .u16 s] 28)).alloc (.cells #[.int .u16 a, .int .u16 l, .int .u16 q, .int .i64 z, .int .i64 eb, .int .i64 fb, .int .i64 su, .bool ext, .int .u16 idx, .bool held, .int .u16 b, .bool inh, .bool srv] 26))))[w.heap.size + 1]? = some (.cells #[.int .u16 a, .int .u16 l, .int .u16 q, .int .i64 z, .int .i64 eb, .int .i64 fb, .int .i64 su, .bool ext, .int .u16 idx, .bool held, .int .u16 b, .bool inh, .bool srv] 26 (0, 0))) := ⟨by have h := blk_new (w.alloc (.cells #[.int .u16 s] 28)) (.cells #[.int .u16 a, .int .u16 l, .int .u16 q, .int .i64 z, .int .i64 eb, .int .i64 fb, .int .i64 su, .bool ext, .int .u16 idx, .bool held, .int .u16 b, .bool inh, .bool srv] 26); rw [World.size_alloc] at h; exact h⟩
  clear HB 
  generalize ((w.alloc (.cells #[.int .u16 s] 28)).alloc (.cells #[.int .u16 a, .int .u16 l, .int .u16 q, .int .i64 z, .int .i64 eb, .int .i64 fb, .int .i64 su, .bool ext, .int .u16 idx, .bool held, .int .u16 b, .bool inh, .bool srv] 26)) = w0 at nB n3 n5 ⊢
  obtain ⟨b3, hb3⟩ : ∃ x, w.heap.size = x := ⟨_, rfl⟩
  rw [hb3] at n3 n5 ⊢
  replace hb3 := Lib.hid hb3
  have HB := nB
  have K3 := n3
  have K5 := n5
  clear nB n3 n5
  go_wp2
  go_loopg [7] 18 (fun g v7 w' => ∃ i : Int, v7 = .int .i64 i ∧ Aside0 (-1 ≤ i ∧ i + g = 17) ∧ Aside0 ((World.heap (w'))[b3]? = some (.cells #[.int .u16 s] 28 (0, 0))) ∧ Aside0 ((World.heap (w'))[b3 + 1]? = some (.cells #[.int .u16 a, .int .u16 l, .int .u16 q, .int .i64 z, .int .i64 eb, .int .i64 fb, .int .i64 su, .bool ext, .int .u16 idx, .bool held, .int .u16 b, .bool inh, .bool srv] 26 (0, 0))) ∧ Aside0 (Below w.heap.size w w'))
  case atStart => exact ⟨-1, rfl, ⟨by decide, by decide⟩, K3, K5, HB⟩
  case round =>
    clear K3 K5 HB
    obtain ⟨i, rfl, hg, K3, K5, HB⟩ := hrel
    by_cases hlt : i ≤ 16
    · obtain ⟨g, rfl⟩ : ∃ g, gk = g + 1 := ⟨gk - 1, by have := hg.out; omega⟩
      have b0 : decide (i ≤ 16) = true := decide_eq_true hlt
      have u1 : wrap64 (i + 1) = i + 1 := w64 (by have := hg.out; omega) (by omega)
      have P1 := Lib.hid fun w => PQ.out i w
      have P2 := Lib.hid fun w => RQ.out i w
      have P3 := Lib.hid fun w => PW.out i w
      have P4 := Lib.hid fun w => RW.out i w
      generalize (rqR s i).1 = m_ at P1 P2
      generalize (rqR s i).2 = e_ at P1 P2
      generalize wtB s i = t_ at P3 P4
      have q1 : (m_ == m_) = true := beq_self_eq_true _
      have q2 : (e_ != e_) = false := bne_self_eq_false _
      have q3 : (t_ != t_) = false := bne_self_eq_false _
      have q4 : (!t_ == t_) = false := by cases t_ <;> rfl
      have hE := fun d w => eqA28 d w m_ m_
      clear hlt
      have u0 : wr.cell? ⟨b3, 0, none⟩ = some (.int .u16 s) := (blk_cell K3.out 0).trans rfl
      go_upto_region 5 with (first | (go_at_call 14; (with_reducible refine at_args #[.agg #[.int .u16 s], .int .i64 _] ?_); (with_reducible refine (P1.out _).mono ?_); rintro e w1 ⟨rfl, hbz⟩; have n3 := Aside0.mk (blk_below K3.out hbz); have n5 := Aside0.mk (blk_below K5.out hbz); clear K3 K5 u0; have K3 := n3; have K5 := n5; clear n3 n5; have HBn := Aside0.mk (below_step (by repeat (first | (with_reducible first | exact HB.out | apply below_alloc | apply pw_below_drewN | apply below_drew1) | exact HB.out)) hbz); clear HB; have HB := HBn; clear HBn; clear hbz))
      have n3 : Aside0 ((World.heap ((w1.alloc (.cells #[.int .u16 m_] 28))))[b3]? = some (.cells #[.int .u16 s] 28 (0, 0))) := ⟨(blk_alloc K3.out _)⟩
      have n5 : Aside0 ((World.heap ((w1.alloc (.cells #[.int .u16 m_] 28))))[b3 + 1]? = some (.cells #[.int .u16 a, .int .u16 l, .int .u16 q, .int .i64 z, .int .i64 eb, .int .i64 fb, .int .i64 su, .bool ext, .int .u16 idx, .bool held, .int .u16 b, .bool inh, .bool srv] 26 (0, 0))) := ⟨(blk_alloc K5.out _)⟩
      have nB : Aside0 (Below w.heap.size w (w1.alloc (.cells #[.int .u16 m_] 28))) := ⟨(below_alloc HB.out _)⟩
      have n8 : Aside0 ((World.heap ((w1.alloc (.cells #[.int .u16 m_] 28))))[w1.heap.size]? = some (.cells #[.int .u16 m_] 28 (0, 0))) := ⟨by have h := blk_new w1 (.cells #[.int .u16 m_] 28); exact h⟩
      clear HB K3 K5
      generalize (w1.alloc (.cells #[.int .u16 m_] 28)) = w2 at nB n3 n5 n8 ⊢
      obtain ⟨b8, hb8⟩ : ∃ x, w1.heap.size = x := ⟨_, rfl⟩
      rw [hb8] at n8 ⊢
      clear hb8
      have HB := nB
      have K3 := n3
      have K5 := n5
      have K8 := n8
      clear nB n3 n5 n8
      have u0 : w2.cell? ⟨b3, 0, none⟩ = some (.int .u16 s) := (blk_cell K3.out 0).trans rfl
      go_upto_region 6 with (first | (go_at_call 15; (with_reducible refine at_args #[.agg #[.int .u16 s], .int .i64 _] ?_); (with_reducible refine (P2.out _).mono ?_); rintro e w3 ⟨rfl, hbz⟩; have n3 := Aside0.mk (blk_below K3.out hbz); have n5 := Aside0.mk (blk_below K5.out hbz); have n8 := Aside0.mk (blk_below K8.out hbz); clear K3 K5 K8 u0; have K3 := n3; have K5 := n5; have K8 := n8; clear n3 n5 n8; have HBn := Aside0.mk (below_step (by repeat (first | (with_reducible first | exact HB.out | apply below_alloc | apply pw_below_drewN | apply below_drew1) | exact HB.out)) hbz); clear HB; have HB := HBn; clear HBn; clear hbz))
      have n3 : Aside0 ((World.heap ((w3.alloc (.cells #[.int .u16 m_] 28))))[b3]? = some (.cells #[.int .u16 s] 28 (0, 0))) := ⟨(blk_alloc K3.out _)⟩
      have n5 : Aside0 ((World.heap ((w3.alloc (.cells #[.int .u16 m_] 28))))[b3 + 1]? = some (.cells #[.int .u16 a, .int .u16 l, .int .u16 q, .int .i64 z, .int .i64 eb, .int .i64 fb, .int .i64 su, .bool ext, .int .u16 idx, .bool held, .int .u16 b, .bool inh, .bool srv] 26 (0, 0))) := ⟨(blk_alloc K5.out _)⟩
      have n8 : Aside0 ((World.heap ((w3.alloc (.cells #[.int .u16 m_] 28))))[b8]? = some (.cells #[.int .u16 m_] 28 (0, 0))) := ⟨(blk_alloc K8.out _)⟩
      have nB : Aside0 (Below w.heap.size w (w3.alloc (.cells #[.int .u16 m_] 28))) := ⟨(below_alloc HB.out _)⟩
      have n10 : Aside0 ((World.heap ((w3.alloc (.cells #[.int .u16 m_] 28))))[w3.heap.size]? = some (.cells #[.int .u16 m_] 28 (0, 0))) := ⟨by have h := blk_new w3 (.cells #[.int .u16 m_] 28); exact h⟩
      clear HB K3 K5 K8
      generalize (w3.alloc (.cells #[.int .u16 m_] 28)) = w4 at nB n3 n5 n8 n10 ⊢
      obtain ⟨b10, hb10⟩ : ∃ x, w3.heap.size = x := ⟨_, rfl⟩
      rw [hb10] at n10 ⊢
      clear hb10
      have HB := nB
      have K3 := n3
      have K5 := n5
      have K8 := n8
      have K10 := n10
      clear nB n3 n5 n8 n10
      have u0 : w4.cell? ⟨b3, 0, none⟩ = some (.int .u16 s) := (blk_cell K3.out 0).trans rfl
      have x0 : w4.cell? ⟨b8, 0, none⟩ = some (.int .u16 m_) := (blk_cell K8.out 0).trans rfl
      have y0 : w4.cell? ⟨b10, 0, none⟩ = some (.int .u16 m_) := (blk_cell K10.out 0).trans rfl
      refine start_ (n := 17) (S := fun w' => w'.cell? ⟨b3, 0, none⟩ = some (.int .u16 s) ∧ w'.cell? ⟨b8, 0, none⟩ = some (.int .u16 m_) ∧ w'.cell? ⟨b10, 0, none⟩ = some (.int .u16 m_)) (ds := []) #[false, false, false, false, false, false, false, false, false, false, false, false, false, false, false, false, false] (by kernel_rfl) rfl rfl ⟨u0, x0, y0⟩ (fun hHeld => ?_)
      replace K3 : Aside0 ((World.heap (w4.drew))[b3]? = some (.cells #[.int .u16 s] 28 (0, 0))) := ⟨blk_drew K3.out⟩
      replace K5 : Aside0 ((World.heap (w4.drew))[b3 + 1]? = some (.cells #[.int .u16 a, .int .u16 l, .int .u16 q, .int .i64 z, .int .i64 eb, .int .i64 fb, .int .i64 su, .bool ext, .int .u16 idx, .bool held, .int .u16 b, .bool inh, .bool srv] 26 (0, 0))) := ⟨blk_drew K5.out⟩
      replace K8 : Aside0 ((World.heap (w4.drew))[b8]? = some (.cells #[.int .u16 m_] 28 (0, 0))) := ⟨blk_drew K8.out⟩
      replace K10 : Aside0 ((World.heap (w4.drew))[b10]? = some (.cells #[.int .u16 m_] 28 (0, 0))) := ⟨blk_drew K10.out⟩
      replace HB : Aside0 (Below w.heap.size w w4.drew) := ⟨below_drew1 HB.out⟩
      change w4.drew.cell? _ = _ at u0
      change w4.drew.cell? _ = _ at x0
      change w4.drew.cell? _ = _ at y0
      generalize w4.drew = wd at HB u0 x0 y0 K3 K5 K8 K10 hHeld ⊢
      refine take_ (i := 0) (N := some 36) (v := ?_) (a' := ?_) #[true, false, false, false, false, false, false, false, false, false, false, false, false, false, false, false, false] rfl rfl (by kernel_rfl) (fun _ _ _ h => h) (Or.inl ⟨by rfl, ?_⟩) hHeld ?_ ?_
      rotate_left
      · rintro w' ⟨s0, s1, s2⟩
        go_simp
        with_reducible rfl
      rotate_left
      · simp only [Act.put, List.setIfInBounds_toArray, List.set_cons_zero, List.set_cons_succ, i64_w, i32_w]
        rfl
      refine take_ (i := 1) (N := some 37) (v := ?_) (a' := ?_) #[true, true, false, false, false, false, false, false, false, false, false, false, false, false, false, false, false] rfl rfl (by kernel_rfl) (fun _ _ _ h => h) (Or.inl ⟨by rfl, ?_⟩) hHeld ?_ ?_
      rotate_left
      · rintro w' ⟨s0, s1, s2⟩
        go_simp
        with_reducible rfl
      rotate_left
      · simp only [Act.put, List.setIfInBounds_toArray, List.set_cons_zero, List.set_cons_succ, i64_w, i32_w]
        rfl
      refine pure_ (i := 2) (N := some 38) (v := ?_) (a' := ?_) #[true, true, true, false, false, false, false, false, false, false, false, false, false, false, false, false, false] rfl rfl (by kernel_rfl) (fun _ _ _ h => h) (Or.inl ⟨by rfl, ?_⟩) ?_ ?_
      rotate_left
      · intro w'
        go_simp
        with_reducible rfl
      rotate_left
      · simp only [Act.put, List.setIfInBounds_toArray, List.set_cons_zero, List.set_cons_succ, i64_w, i32_w]
        rfl
      refine pure_ (i := 3) (N := some 39) (v := ?_) (a' := ?_) #[true, true, true, true, false, false, false, false, false, false, false, false, false, false, false, false, false] rfl rfl (by kernel_rfl) (fun _ _ _ h => h) (Or.inl ⟨by rfl, ?_⟩) ?_ ?_
      rotate_left
      · intro w'
        go_simp
        with_reducible rfl
      rotate_left
      · simp only [Act.put, List.setIfInBounds_toArray, List.set_cons_zero, List.set_cons_succ, i64_w, i32_w]
        rfl
      refine pure_ (i := 4) (N := some 40) (v := ?_) (a' := ?_) #[true, true, true, true, true, false, false, false, false, false, false, false, false, false, false, false, false] rfl rfl (by kernel_rfl) (fun _ _ _ h => h) (Or.inl ⟨by rfl, ?_⟩) ?_ ?_
      rotate_left
      · intro w'
        go_simp
        with_reducible rfl
      rotate_left
      · simp only [Act.put, List.setIfInBounds_toArray, List.set_cons_zero, List.set_cons_succ, i64_w, i32_w]
        rfl
      refine pure_ (i := 5) (N := some 41) (v := ?_) (a' := ?_) #[true, true, true, true, true, true, false, false, false, false, false, false, false, false, false, false, false] rfl rfl (by kernel_rfl) (fun _ _ _ h => h) (Or.inl ⟨by rfl, ?_⟩) ?_ ?_
      rotate_left
      · intro w'
        go_simp
        with_reducible rfl
      rotate_left
      · simp only [Act.put, List.setIfInBounds_toArray, List.set_cons_zero, List.set_cons_succ, i64_w, i32_w]
        rfl
      refine pure_ (i := 6) (N := some 42) (v := ?_) (a' := ?_) #[true, true, true, true, true, true, true, false, false, false, false, false, false, false, false, false, false] rfl rfl (by kernel_rfl) (fun _ _ _ h => h) (Or.inl ⟨by rfl, ?_⟩) ?_ ?_
      rotate_left
      · intro w'
        go_simp
        with_reducible rfl
      rotate_left
      · simp only [Act.put, List.setIfInBounds_toArray, List.set_cons_zero, List.set_cons_succ, i64_w, i32_w]
        rfl
      refine pure_ (i := 7) (N := some 43) (v := ?_) (a' := ?_) #[true, true, true, true, true, true, true, true, false, false, false, false, false, false, false, false, false] rfl rfl (by kernel_rfl) (fun _ _ _ h => h) (Or.inl ⟨by rfl, ?_⟩) ?_ ?_
      rotate_left
      · intro w'
        go_simp
        with_reducible rfl
      rotate_left
      · simp only [Act.put, List.setIfInBounds_toArray, List.set_cons_zero, List.set_cons_succ, i64_w, i32_w]
        rfl
      refine pure_ (i := 8) (N := some 44) (v := ?_) (a' := ?_) #[true, true, true, true, true, true, true, true, true, false, false, false, false, false, false, false, false] rfl rfl (by kernel_rfl) (fun _ _ _ h => h) (Or.inl ⟨by rfl, ?_⟩) ?_ ?_
      rotate_left
      · intro w'
        go_simp
        with_reducible rfl
      rotate_left
      · simp only [Act.put, List.setIfInBounds_toArray, List.set_cons_zero, List.set_cons_succ, i64_w, i32_w]
        rfl
      refine pure_ (i := 10) (N := some 46) (v := ?_) (a' := ?_) #[true, true, true, true, true, true, true, true, true, false, true, false, false, false, false, false, false] rfl rfl (by kernel_rfl) (fun _ _ _ h => h) (Or.inl ⟨by rfl, ?_⟩) ?_ ?_
      rotate_left
      · intro w'
        go_simp
        with_reducible rfl
      rotate_left
      · simp only [Act.put, List.setIfInBounds_toArray, List.set_cons_zero, List.set_cons_succ, i64_w, i32_w]
        rfl
      refine pure_ (i := 13) (N := some 49) (v := ?_) (a' := ?_) #[true, true, true, true, true, true, true, true, true, false, true, false, false, true, false, false, false] rfl rfl (by kernel_rfl) (fun _ _ _ h => h) (Or.inl ⟨by rfl, ?_⟩) ?_ ?_
      rotate_left
      · intro w'
        go_simp
        with_reducible rfl
      rotate_left
      · simp only [Act.put, List.setIfInBounds_toArray, List.set_cons_zero, List.set_cons_succ, i64_w, i32_w]
        rfl
      refine take_ (i := 9) (N := some 45) (v := ?_) (a' := ?_) #[true, true, true, true, true, true, true, true, true, true, true, false, false, true, false, false, false] rfl rfl (by kernel_rfl) (fun _ _ _ h => h) (Or.inl ⟨by rfl, ?_⟩) hHeld ?_ ?_
      rotate_left
      · rintro w' ⟨s0, s1, s2⟩
        go_simp
        with_reducible rfl
      rotate_left
      · simp only [Act.put, List.setIfInBounds_toArray, List.set_cons_zero, List.set_cons_succ, i64_w, i32_w]
        rfl
      refine take_ (i := 12) (N := some 48) (v := ?_) (a' := ?_) #[true, true, true, true, true, true, true, true, true, true, true, false, true, true, false, false, false] rfl rfl (by kernel_rfl) (fun _ _ _ h => h) (Or.inl ⟨by rfl, ?_⟩) hHeld ?_ ?_
      rotate_left
      · rintro w' ⟨s0, s1, s2⟩
        go_simp
        with_reducible rfl
      rotate_left
      · simp only [Act.put, List.setIfInBounds_toArray, List.set_cons_zero, List.set_cons_succ, i64_w, i32_w]
        rfl
      refine one_ (i := 11) (N := some 47) #[true, true, true, true, true, true, true, true, true, true, true, true, true, true, false, false, false] rfl rfl (by kernel_rfl) (by decide) (fun K hK => ?_)
      refine goes_ Try.func16 (by kernel_rfl) rfl #[.agg #[.int .u16 s], .int .i64 i] (by rfl) rfl rfl (by simp only [List.map_toArray, List.map_cons, List.map_nil]; rfl) ?_
      with_reducible refine (P3.out _).mono ?_
      rintro e w5 ⟨rfl, hbz⟩
      refine ⟨_, rfl, ?_⟩
      replace u0 := (hbz.cell (World.block_lt_of_cell? _ _ u0)).trans u0
      replace x0 := (hbz.cell (World.block_lt_of_cell? _ _ x0)).trans x0
      replace y0 := (hbz.cell (World.block_lt_of_cell? _ _ y0)).trans y0
      replace K3 := Aside0.mk (blk_below K3.out hbz)
      replace K5 := Aside0.mk (blk_below K5.out hbz)
      replace K8 := Aside0.mk (blk_below K8.out hbz)
      replace K10 := Aside0.mk (blk_below K10.out hbz)
      have HBn := Aside0.mk (below_step (by repeat (first | (with_reducible first | exact HB.out | apply below_alloc | apply pw_below_drewN | apply below_drew1) | exact HB.out)) hbz)
      clear HB
      have HB := HBn
      clear HBn
      clear hbz
      refine hK.out _ _ ⟨u0, x0, y0⟩ (fun hHeld => ?_)
      clear hK K
      refine norm_ (a' := ?_) ?_ ?_
      rotate_left
      · show Act.put _ (some 47) _ = _
        simp only [Act.put, List.setIfInBounds_toArray, List.set_cons_zero, List.set_cons_succ, i64_w, i32_w]
        rfl
      refine one_ (i := 14) (N := some 50) #[true, true, true, true, true, true, true, true, true, true, true, true, true, true, true, false, false] rfl rfl (by kernel_rfl) (by decide) (fun K hK => ?_)
      refine goes_ Try.func17 (by kernel_rfl) rfl #[.agg #[.int .u16 s], .int .i64 i] (by rfl) rfl rfl (by simp only [List.map_toArray, List.map_cons, List.map_nil]; rfl) ?_
      with_reducible refine (P4.out _).mono ?_
      rintro e w6 ⟨rfl, hbz⟩
      refine ⟨_, rfl, ?_⟩
      replace u0 := (hbz.cell (World.block_lt_of_cell? _ _ u0)).trans u0
      replace x0 := (hbz.cell (World.block_lt_of_cell? _ _ x0)).trans x0
      replace y0 := (hbz.cell (World.block_lt_of_cell? _ _ y0)).trans y0
      replace K3 := Aside0.mk (blk_below K3.out hbz)
      replace K5 := Aside0.mk (blk_below K5.out hbz)
      replace K8 := Aside0.mk (blk_below K8.out hbz)
      replace K10 := Aside0.mk (blk_below K10.out hbz)
      have HBn := Aside0.mk (below_step (by repeat (first | (with_reducible first | exact HB.out | apply below_alloc | apply pw_below_drewN | apply below_drew1) | exact HB.out)) hbz)
      clear HB
      have HB := HBn
      clear HBn
      clear hbz
      refine hK.out _ _ ⟨u0, x0, y0⟩ (fun hHeld => ?_)
      clear hK K
      refine norm_ (a' := ?_) ?_ ?_
      rotate_left
      · show Act.put _ (some 50) _ = _
        simp only [Act.put, List.setIfInBounds_toArray, List.set_cons_zero, List.set_cons_succ, i64_w, i32_w]
        rfl
      refine pure_ (i := 15) (N := some 51) (v := ?_) (a' := ?_) #[true, true, true, true, true, true, true, true, true, true, true, true, true, true, true, true, false] rfl rfl (by kernel_rfl) (fun _ _ _ h => h) (Or.inl ⟨by rfl, ?_⟩) ?_ ?_
      rotate_left
      · intro w'
        go_simp
        with_reducible rfl
      rotate_left
      · simp only [Act.put, List.setIfInBounds_toArray, List.set_cons_zero, List.set_cons_succ, i64_w, i32_w]
        rfl
      refine pure_ (i := 16) (N := some 52) (v := ?_) (a' := ?_) #[true, true, true, true, true, true, true, true, true, true, true, true, true, true, true, true, true] rfl rfl (by kernel_rfl) (fun _ _ _ h => h) (Or.inl ⟨by rfl, ?_⟩) ?_ ?_
      rotate_left
      · intro w'
        go_simp
        with_reducible rfl
      rotate_left
      · simp only [Act.put, List.setIfInBounds_toArray, List.set_cons_zero, List.set_cons_succ, i64_w, i32_w]
        rfl
      refine done_ (by kernel_rfl) ?_
      
      go_wp2
      go_roundg g
      case measure => omega
      case rel => exact ⟨i + 1, by simp [u1], ⟨by have := hg.out; omega, by have := hg.out; omega⟩, K3, K5, HB⟩
    · have b0 : decide (i ≤ 16) = false := decide_eq_false hlt
      clear hg hlt
      have P1 := Lib.hid fun w => PQ.out nn w
      have P2 := Lib.hid fun w => RQ.out nn w
      have P3 := Lib.hid fun w => PW.out nn w
      have P4 := Lib.hid fun w => RW.out nn w
      generalize (rqR s nn).1 = m_ at P1 P2
      generalize (rqR s nn).2 = e_ at P1 P2
      generalize wtB s nn = t_ at P3 P4
      generalize (if alB a idx ext held inh srv = true then chR (chI s) else (0, false)) = p_ at PC RC
      obtain ⟨n_, k_⟩ := p_
      generalize alB a idx ext held inh srv = al_ at PA RA
      skip
      have q1 : (m_ == m_) = true := beq_self_eq_true _
      have q2 : (e_ == e_) = true := beq_self_eq_true _
      have q3 : (t_ == t_) = true := beq_self_eq_true _
      have q4 : (n_ == n_) = true := beq_self_eq_true _
      have q5 : (k_ == k_) = true := beq_self_eq_true _
      have q6 : (al_ == al_) = true := beq_self_eq_true _
      have hE := fun d w => eqA28 d w m_ m_
      go_upto_region 8 with fail
      have u0 : wr.cell? ⟨b3, 0, none⟩ = some (.int .u16 s) := (blk_cell K3.out 0).trans rfl
      go_upto_region 9 with (first | (go_at_call 14; (with_reducible refine at_args #[.agg #[.int .u16 s], .int .i64 _] ?_); (with_reducible refine (P1.out _).mono ?_); rintro e w1 ⟨rfl, hbz⟩; have n3 := Aside0.mk (blk_below K3.out hbz); have n5 := Aside0.mk (blk_below K5.out hbz); clear K3 K5 u0; have K3 := n3; have K5 := n5; clear n3 n5; have HBn := Aside0.mk (below_step (by repeat (first | (with_reducible first | exact HB.out | apply below_alloc | apply pw_below_drewN | apply below_drew1) | exact HB.out)) hbz); clear HB; have HB := HBn; clear HBn; clear hbz))
      have n3 : Aside0 ((World.heap ((w1.alloc (.cells #[.int .u16 m_] 28))))[b3]? = some (.cells #[.int .u16 s] 28 (0, 0))) := ⟨(blk_alloc K3.out _)⟩
      have n5 : Aside0 ((World.heap ((w1.alloc (.cells #[.int .u16 m_] 28))))[b3 + 1]? = some (.cells #[.int .u16 a, .int .u16 l, .int .u16 q, .int .i64 z, .int .i64 eb, .int .i64 fb, .int .i64 su, .bool ext, .int .u16 idx, .bool held, .int .u16 b, .bool inh, .bool srv] 26 (0, 0))) := ⟨(blk_alloc K5.out _)⟩
      have nB : Aside0 (Below w.heap.size w (w1.alloc (.cells #[.int .u16 m_] 28))) := ⟨(below_alloc HB.out _)⟩
      have n12 : Aside0 ((World.heap ((w1.alloc (.cells #[.int .u16 m_] 28))))[w1.heap.size]? = some (.cells #[.int .u16 m_] 28 (0, 0))) := ⟨by have h := blk_new w1 (.cells #[.int .u16 m_] 28); exact h⟩
      clear HB K3 K5
      generalize (w1.alloc (.cells #[.int .u16 m_] 28)) = w2 at nB n3 n5 n12 ⊢
      obtain ⟨b12, hb12⟩ : ∃ x, w1.heap.size = x := ⟨_, rfl⟩
      rw [hb12] at n12 ⊢
      clear hb12
      have HB := nB
      have K3 := n3
      have K5 := n5
      have K12 := n12
      clear nB n3 n5 n12
      have u0 : w2.cell? ⟨b3, 0, none⟩ = some (.int .u16 s) := (blk_cell K3.out 0).trans rfl
      go_upto_region 10 with (first | (go_at_call 15; (with_reducible refine at_args #[.agg #[.int .u16 s], .int .i64 _] ?_); (with_reducible refine (P2.out _).mono ?_); rintro e w3 ⟨rfl, hbz⟩; have n3 := Aside0.mk (blk_below K3.out hbz); have n5 := Aside0.mk (blk_below K5.out hbz); have n12 := Aside0.mk (blk_below K12.out hbz); clear K3 K5 K12 u0; have K3 := n3; have K5 := n5; have K12 := n12; clear n3 n5 n12; have HBn := Aside0.mk (below_step (by repeat (first | (with_reducible first | exact HB.out | apply below_alloc | apply pw_below_drewN | apply below_drew1) | exact HB.out)) hbz); clear HB; have HB := HBn; clear HBn; clear hbz))
      have n3 : Aside0 ((World.heap ((w3.alloc (.cells #[.int .u16 m_] 28))))[b3]? = some (.cells #[.int .u16 s] 28 (0, 0))) := ⟨(blk_alloc K3.out _)⟩
      have n5 : Aside0 ((World.heap ((w3.alloc (.cells #[.int .u16 m_] 28))))[b3 + 1]? = some (.cells #[.int .u16 a, .int .u16 l, .int .u16 q, .int .i64 z, .int .i64 eb, .int .i64 fb, .int .i64 su, .bool ext, .int .u16 idx, .bool held, .int .u16 b, .bool inh, .bool srv] 26 (0, 0))) := ⟨(blk_alloc K5.out _)⟩
      have n12 : Aside0 ((World.heap ((w3.alloc (.cells #[.int .u16 m_] 28))))[b12]? = some (.cells #[.int .u16 m_] 28 (0, 0))) := ⟨(blk_alloc K12.out _)⟩
      have nB : Aside0 (Below w.heap.size w (w3.alloc (.cells #[.int .u16 m_] 28))) := ⟨(below_alloc HB.out _)⟩
      have n14 : Aside0 ((World.heap ((w3.alloc (.cells #[.int .u16 m_] 28))))[w3.heap.size]? = some (.cells #[.int .u16 m_] 28 (0, 0))) := ⟨by have h := blk_new w3 (.cells #[.int .u16 m_] 28); exact h⟩
      clear HB K3 K5 K12
      generalize (w3.alloc (.cells #[.int .u16 m_] 28)) = w4 at nB n3 n5 n12 n14 ⊢
      obtain ⟨b14, hb14⟩ : ∃ x, w3.heap.size = x := ⟨_, rfl⟩
      rw [hb14] at n14 ⊢
      clear hb14
      have HB := nB
      have K3 := n3
      have K5 := n5
      have K12 := n12
      have K14 := n14
      clear nB n3 n5 n12 n14
      have u0 : w4.cell? ⟨b3, 0, none⟩ = some (.int .u16 s) := (blk_cell K3.out 0).trans rfl
      have v0 : w4.cell? ⟨b3 + 1, 0, none⟩ = some (.int .u16 a) := (blk_cell K5.out 0).trans rfl
      have v1 : w4.cell? ⟨b3 + 1, 1, none⟩ = some (.int .u16 l) := (blk_cell K5.out 1).trans rfl
      have v2 : w4.cell? ⟨b3 + 1, 2, none⟩ = some (.int .u16 q) := (blk_cell K5.out 2).trans rfl
      have v3 : w4.cell? ⟨b3 + 1, 3, none⟩ = some (.int .i64 z) := (blk_cell K5.out 3).trans rfl
      have v4 : w4.cell? ⟨b3 + 1, 4, none⟩ = some (.int .i64 eb) := (blk_cell K5.out 4).trans rfl
      have v5 : w4.cell? ⟨b3 + 1, 5, none⟩ = some (.int .i64 fb) := (blk_cell K5.out 5).trans rfl
      have v6 : w4.cell? ⟨b3 + 1, 6, none⟩ = some (.int .i64 su) := (blk_cell K5.out 6).trans rfl
      have v7 : w4.cell? ⟨b3 + 1, 7, none⟩ = some (.bool ext) := (blk_cell K5.out 7).trans rfl
      have v8 : w4.cell? ⟨b3 + 1, 8, none⟩ = some (.int .u16 idx) := (blk_cell K5.out 8).trans rfl
      have v9 : w4.cell? ⟨b3 + 1, 9, none⟩ = some (.bool held) := (blk_cell K5.out 9).trans rfl
      have v10 : w4.cell? ⟨b3 + 1, 10, none⟩ = some (.int .u16 b) := (blk_cell K5.out 10).trans rfl
      have v11 : w4.cell? ⟨b3 + 1, 11, none⟩ = some (.bool inh) := (blk_cell K5.out 11).trans rfl
      have v12 : w4.cell? ⟨b3 + 1, 12, none⟩ = some (.bool srv) := (blk_cell K5.out 12).trans rfl
      go_upto_region 11 with (first | (go_at_call 18; (with_reducible refine at_args #[.agg #[.int .u16 s], .agg #[.int .u16 a, .int .u16 l, .int .u16 q, .int .i64 z, .int .i64 eb, .int .i64 fb, .int .i64 su, .bool ext, .int .u16 idx, .bool held, .int .u16 b, .bool inh, .bool srv]] ?_); (with_reducible refine (PC.out _).mono ?_); rintro e w5 ⟨rfl, hbz⟩; have n3 := Aside0.mk (blk_below K3.out hbz); have n5 := Aside0.mk (blk_below K5.out hbz); have n12 := Aside0.mk (blk_below K12.out hbz); have n14 := Aside0.mk (blk_below K14.out hbz); clear K3 K5 K12 K14 u0 v0 v1 v2 v3 v4 v5 v6 v7 v8 v9 v10 v11 v12; have K3 := n3; have K5 := n5; have K12 := n12; have K14 := n14; clear n3 n5 n12 n14; have HBn := Aside0.mk (below_step (by repeat (first | (with_reducible first | exact HB.out | apply below_alloc | apply pw_below_drewN | apply below_drew1) | exact HB.out)) hbz); clear HB; have HB := HBn; clear HBn; clear hbz; have u0 : w5.cell? ⟨b3, 0, none⟩ = some (.int .u16 s) := (blk_cell K3.out 0).trans rfl; have v0 : w5.cell? ⟨b3 + 1, 0, none⟩ = some (.int .u16 a) := (blk_cell K5.out 0).trans rfl; have v1 : w5.cell? ⟨b3 + 1, 1, none⟩ = some (.int .u16 l) := (blk_cell K5.out 1).trans rfl; have v2 : w5.cell? ⟨b3 + 1, 2, none⟩ = some (.int .u16 q) := (blk_cell K5.out 2).trans rfl; have v3 : w5.cell? ⟨b3 + 1, 3, none⟩ = some (.int .i64 z) := (blk_cell K5.out 3).trans rfl; have v4 : w5.cell? ⟨b3 + 1, 4, none⟩ = some (.int .i64 eb) := (blk_cell K5.out 4).trans rfl; have v5 : w5.cell? ⟨b3 + 1, 5, none⟩ = some (.int .i64 fb) := (blk_cell K5.out 5).trans rfl; have v6 : w5.cell? ⟨b3 + 1, 6, none⟩ = some (.int .i64 su) := (blk_cell K5.out 6).trans rfl; have v7 : w5.cell? ⟨b3 + 1, 7, none⟩ = some (.bool ext) := (blk_cell K5.out 7).trans rfl; have v8 : w5.cell? ⟨b3 + 1, 8, none⟩ = some (.int .u16 idx) := (blk_cell K5.out 8).trans rfl; have v9 : w5.cell? ⟨b3 + 1, 9, none⟩ = some (.bool held) := (blk_cell K5.out 9).trans rfl; have v10 : w5.cell? ⟨b3 + 1, 10, none⟩ = some (.int .u16 b) := (blk_cell K5.out 10).trans rfl; have v11 : w5.cell? ⟨b3 + 1, 11, none⟩ = some (.bool inh) := (blk_cell K5.out 11).trans rfl; have v12 : w5.cell? ⟨b3 + 1, 12, none⟩ = some (.bool srv) := (blk_cell K5.out 12).trans rfl))
      go_upto_region 12 with (first | (go_at_call 19; (with_reducible refine at_args #[.agg #[.int .u16 s], .agg #[.int .u16 a, .int .u16 l, .int .u16 q, .int .i64 z, .int .i64 eb, .int .i64 fb, .int .i64 su, .bool ext, .int .u16 idx, .bool held, .int .u16 b, .bool inh, .bool srv]] ?_); (with_reducible refine (RC.out _).mono ?_); rintro e w6 ⟨rfl, hbz⟩; have n3 := Aside0.mk (blk_below K3.out hbz); have n5 := Aside0.mk (blk_below K5.out hbz); have n12 := Aside0.mk (blk_below K12.out hbz); have n14 := Aside0.mk (blk_below K14.out hbz); clear K3 K5 K12 K14 u0 v0 v1 v2 v3 v4 v5 v6 v7 v8 v9 v10 v11 v12; have K3 := n3; have K5 := n5; have K12 := n12; have K14 := n14; clear n3 n5 n12 n14; have HBn := Aside0.mk (below_step (by repeat (first | (with_reducible first | exact HB.out | apply below_alloc | apply pw_below_drewN | apply below_drew1) | exact HB.out)) hbz); clear HB; have HB := HBn; clear HBn; clear hbz))
      have u0 : w6.cell? ⟨b3, 0, none⟩ = some (.int .u16 s) := (blk_cell K3.out 0).trans rfl
      have v0 : w6.cell? ⟨b3 + 1, 0, none⟩ = some (.int .u16 a) := (blk_cell K5.out 0).trans rfl
      have v1 : w6.cell? ⟨b3 + 1, 1, none⟩ = some (.int .u16 l) := (blk_cell K5.out 1).trans rfl
      have v2 : w6.cell? ⟨b3 + 1, 2, none⟩ = some (.int .u16 q) := (blk_cell K5.out 2).trans rfl
      have v3 : w6.cell? ⟨b3 + 1, 3, none⟩ = some (.int .i64 z) := (blk_cell K5.out 3).trans rfl
      have v4 : w6.cell? ⟨b3 + 1, 4, none⟩ = some (.int .i64 eb) := (blk_cell K5.out 4).trans rfl
      have v5 : w6.cell? ⟨b3 + 1, 5, none⟩ = some (.int .i64 fb) := (blk_cell K5.out 5).trans rfl
      have v6 : w6.cell? ⟨b3 + 1, 6, none⟩ = some (.int .i64 su) := (blk_cell K5.out 6).trans rfl
      have v7 : w6.cell? ⟨b3 + 1, 7, none⟩ = some (.bool ext) := (blk_cell K5.out 7).trans rfl
      have v8 : w6.cell? ⟨b3 + 1, 8, none⟩ = some (.int .u16 idx) := (blk_cell K5.out 8).trans rfl
      have v9 : w6.cell? ⟨b3 + 1, 9, none⟩ = some (.bool held) := (blk_cell K5.out 9).trans rfl
      have v10 : w6.cell? ⟨b3 + 1, 10, none⟩ = some (.int .u16 b) := (blk_cell K5.out 10).trans rfl
      have v11 : w6.cell? ⟨b3 + 1, 11, none⟩ = some (.bool inh) := (blk_cell K5.out 11).trans rfl
      have v12 : w6.cell? ⟨b3 + 1, 12, none⟩ = some (.bool srv) := (blk_cell K5.out 12).trans rfl
      have x0 : w6.cell? ⟨b12, 0, none⟩ = some (.int .u16 m_) := (blk_cell K12.out 0).trans rfl
      have y0 : w6.cell? ⟨b14, 0, none⟩ = some (.int .u16 m_) := (blk_cell K14.out 0).trans rfl
      refine start_ (n := 38) (S := fun w' => w'.cell? ⟨b3, 0, none⟩ = some (.int .u16 s) ∧ w'.cell? ⟨b3 + 1, 0, none⟩ = some (.int .u16 a) ∧ w'.cell? ⟨b3 + 1, 1, none⟩ = some (.int .u16 l) ∧ w'.cell? ⟨b3 + 1, 2, none⟩ = some (.int .u16 q) ∧ w'.cell? ⟨b3 + 1, 3, none⟩ = some (.int .i64 z) ∧ w'.cell? ⟨b3 + 1, 4, none⟩ = some (.int .i64 eb) ∧ w'.cell? ⟨b3 + 1, 5, none⟩ = some (.int .i64 fb) ∧ w'.cell? ⟨b3 + 1, 6, none⟩ = some (.int .i64 su) ∧ w'.cell? ⟨b3 + 1, 7, none⟩ = some (.bool ext) ∧ w'.cell? ⟨b3 + 1, 8, none⟩ = some (.int .u16 idx) ∧ w'.cell? ⟨b3 + 1, 9, none⟩ = some (.bool held) ∧ w'.cell? ⟨b3 + 1, 10, none⟩ = some (.int .u16 b) ∧ w'.cell? ⟨b3 + 1, 11, none⟩ = some (.bool inh) ∧ w'.cell? ⟨b3 + 1, 12, none⟩ = some (.bool srv) ∧ w'.cell? ⟨b12, 0, none⟩ = some (.int .u16 m_) ∧ w'.cell? ⟨b14, 0, none⟩ = some (.int .u16 m_)) (ds := []) #[false, false, false, false, false, false, false, false, false, false, false, false, false, false, false, false, false, false, false, false, false, false, false, false, false, false, false, false, false, false, false, false, false, false, false, false, false, false] (by kernel_rfl) rfl rfl ⟨u0, v0, v1, v2, v3, v4, v5, v6, v7, v8, v9, v10, v11, v12, x0, y0⟩ (fun hHeld => ?_)
      replace K3 : Aside0 ((World.heap (w6.drew))[b3]? = some (.cells #[.int .u16 s] 28 (0, 0))) := ⟨blk_drew K3.out⟩
      replace K5 : Aside0 ((World.heap (w6.drew))[b3 + 1]? = some (.cells #[.int .u16 a, .int .u16 l, .int .u16 q, .int .i64 z, .int .i64 eb, .int .i64 fb, .int .i64 su, .bool ext, .int .u16 idx, .bool held, .int .u16 b, .bool inh, .bool srv] 26 (0, 0))) := ⟨blk_drew K5.out⟩
      replace K12 : Aside0 ((World.heap (w6.drew))[b12]? = some (.cells #[.int .u16 m_] 28 (0, 0))) := ⟨blk_drew K12.out⟩
      replace K14 : Aside0 ((World.heap (w6.drew))[b14]? = some (.cells #[.int .u16 m_] 28 (0, 0))) := ⟨blk_drew K14.out⟩
      replace HB : Aside0 (Below w.heap.size w w6.drew) := ⟨below_drew1 HB.out⟩
      change w6.drew.cell? _ = _ at u0
      change w6.drew.cell? _ = _ at v0
      change w6.drew.cell? _ = _ at v1
      change w6.drew.cell? _ = _ at v2
      change w6.drew.cell? _ = _ at v3
      change w6.drew.cell? _ = _ at v4
      change w6.drew.cell? _ = _ at v5
      change w6.drew.cell? _ = _ at v6
      change w6.drew.cell? _ = _ at v7
      change w6.drew.cell? _ = _ at v8
      change w6.drew.cell? _ = _ at v9
      change w6.drew.cell? _ = _ at v10
      change w6.drew.cell? _ = _ at v11
      change w6.drew.cell? _ = _ at v12
      change w6.drew.cell? _ = _ at x0
      change w6.drew.cell? _ = _ at y0
      generalize w6.drew = wd at HB u0 v0 v1 v2 v3 v4 v5 v6 v7 v8 v9 v10 v11 v12 x0 y0 K3 K5 K12 K14 hHeld ⊢
      refine take_ (i := 0) (N := some 77) (v := ?_) (a' := ?_) #[true, false, false, false, false, false, false, false, false, false, false, false, false, false, false, false, false, false, false, false, false, false, false, false, false, false, false, false, false, false, false, false, false, false, false, false, false, false] rfl rfl (by kernel_rfl) (fun _ _ _ h => h) (Or.inl ⟨by rfl, ?_⟩) hHeld ?_ ?_
      rotate_left
      · rintro w' ⟨s0, s1, s2, s3, s4, s5, s6, s7, s8, s9, s10, s11, s12, s13, s14, s15⟩
        go_simp
        with_reducible rfl
      rotate_left
      · simp only [Act.put, List.setIfInBounds_toArray, List.set_cons_zero, List.set_cons_succ, i64_w, i32_w]
        rfl
      refine take_ (i := 1) (N := some 78) (v := ?_) (a' := ?_) #[true, true, false, false, false, false, false, false, false, false, false, false, false, false, false, false, false, false, false, false, false, false, false, false, false, false, false, false, false, false, false, false, false, false, false, false, false, false] rfl rfl (by kernel_rfl) (fun _ _ _ h => h) (Or.inl ⟨by rfl, ?_⟩) hHeld ?_ ?_
      rotate_left
      · rintro w' ⟨s0, s1, s2, s3, s4, s5, s6, s7, s8, s9, s10, s11, s12, s13, s14, s15⟩
        go_simp
        with_reducible rfl
      rotate_left
      · simp only [Act.put, List.setIfInBounds_toArray, List.set_cons_zero, List.set_cons_succ, i64_w, i32_w]
        rfl
      refine pure_ (i := 2) (N := some 79) (v := ?_) (a' := ?_) #[true, true, true, false, false, false, false, false, false, false, false, false, false, false, false, false, false, false, false, false, false, false, false, false, false, false, false, false, false, false, false, false, false, false, false, false, false, false] rfl rfl (by kernel_rfl) (fun _ _ _ h => h) (Or.inl ⟨by rfl, ?_⟩) ?_ ?_
      rotate_left
      · intro w'
        go_simp
        with_reducible rfl
      rotate_left
      · simp only [Act.put, List.setIfInBounds_toArray, List.set_cons_zero, List.set_cons_succ, i64_w, i32_w]
        rfl
      refine pure_ (i := 3) (N := some 80) (v := ?_) (a' := ?_) #[true, true, true, true, false, false, false, false, false, false, false, false, false, false, false, false, false, false, false, false, false, false, false, false, false, false, false, false, false, false, false, false, false, false, false, false, false, false] rfl rfl (by kernel_rfl) (fun _ _ _ h => h) (Or.inl ⟨by rfl, ?_⟩) ?_ ?_
      rotate_left
      · intro w'
        go_simp
        with_reducible rfl
      rotate_left
      · simp only [Act.put, List.setIfInBounds_toArray, List.set_cons_zero, List.set_cons_succ, i64_w, i32_w]
        rfl
      refine pure_ (i := 4) (N := some 81) (v := ?_) (a' := ?_) #[true, true, true, true, true, false, false, false, false, false, false, false, false, false, false, false, false, false, false, false, false, false, false, false, false, false, false, false, false, false, false, false, false, false, false, false, false, false] rfl rfl (by kernel_rfl) (fun _ _ _ h => h) (Or.inl ⟨by rfl, ?_⟩) ?_ ?_
      rotate_left
      · intro w'
        go_simp
        with_reducible rfl
      rotate_left
      · simp only [Act.put, List.setIfInBounds_toArray, List.set_cons_zero, List.set_cons_succ, i64_w, i32_w]
        rfl
      refine pure_ (i := 5) (N := some 82) (v := ?_) (a' := ?_) #[true, true, true, true, true, true, false, false, false, false, false, false, false, false, false, false, false, false, false, false, false, false, false, false, false, false, false, false, false, false, false, false, false, false, false, false, false, false] rfl rfl (by kernel_rfl) (fun _ _ _ h => h) (Or.inl ⟨by rfl, ?_⟩) ?_ ?_
      rotate_left
      · intro w'
        go_simp
        with_reducible rfl
      rotate_left
      · simp only [Act.put, List.setIfInBounds_toArray, List.set_cons_zero, List.set_cons_succ, i64_w, i32_w]
        rfl
      refine pure_ (i := 6) (N := some 83) (v := ?_) (a' := ?_) #[true, true, true, true, true, true, true, false, false, false, false, false, false, false, false, false, false, false, false, false, false, false, false, false, false, false, false, false, false, false, false, false, false, false, false, false, false, false] rfl rfl (by kernel_rfl) (fun _ _ _ h => h) (Or.inl ⟨by rfl, ?_⟩) ?_ ?_
      rotate_left
      · intro w'
        go_simp
        with_reducible rfl
      rotate_left
      · simp only [Act.put, List.setIfInBounds_toArray, List.set_cons_zero, List.set_cons_succ, i64_w, i32_w]
        rfl
      refine pure_ (i := 7) (N := some 84) (v := ?_) (a' := ?_) #[true, true, true, true, true, true, true, true, false, false, false, false, false, false, false, false, false, false, false, false, false, false, false, false, false, false, false, false, false, false, false, false, false, false, false, false, false, false] rfl rfl (by kernel_rfl) (fun _ _ _ h => h) (Or.inl ⟨by rfl, ?_⟩) ?_ ?_
      rotate_left
      · intro w'
        go_simp
        with_reducible rfl
      rotate_left
      · simp only [Act.put, List.setIfInBounds_toArray, List.set_cons_zero, List.set_cons_succ, i64_w, i32_w]
        rfl
      refine pure_ (i := 8) (N := some 85) (v := ?_) (a' := ?_) #[true, true, true, true, true, true, true, true, true, false, false, false, false, false, false, false, false, false, false, false, false, false, false, false, false, false, false, false, false, false, false, false, false, false, false, false, false, false] rfl rfl (by kernel_rfl) (fun _ _ _ h => h) (Or.inl ⟨by rfl, ?_⟩) ?_ ?_
      rotate_left
      · intro w'
        go_simp
        with_reducible rfl
      rotate_left
      · simp only [Act.put, List.setIfInBounds_toArray, List.set_cons_zero, List.set_cons_succ, i64_w, i32_w]
        rfl
      refine pure_ (i := 10) (N := some 87) (v := ?_) (a' := ?_) #[true, true, true, true, true, true, true, true, true, false, true, false, false, false, false, false, false, false, false, false, false, false, false, false, false, false, false, false, false, false, false, false, false, false, false, false, false, false] rfl rfl (by kernel_rfl) (fun _ _ _ h => h) (Or.inl ⟨by rfl, ?_⟩) ?_ ?_
      rotate_left
      · intro w'
        go_simp
        with_reducible rfl
      rotate_left
      · simp only [Act.put, List.setIfInBounds_toArray, List.set_cons_zero, List.set_cons_succ, i64_w, i32_w]
        rfl
      refine pure_ (i := 13) (N := some 90) (v := ?_) (a' := ?_) #[true, true, true, true, true, true, true, true, true, false, true, false, false, true, false, false, false, false, false, false, false, false, false, false, false, false, false, false, false, false, false, false, false, false, false, false, false, false] rfl rfl (by kernel_rfl) (fun _ _ _ h => h) (Or.inl ⟨by rfl, ?_⟩) ?_ ?_
      rotate_left
      · intro w'
        go_simp
        with_reducible rfl
      rotate_left
      · simp only [Act.put, List.setIfInBounds_toArray, List.set_cons_zero, List.set_cons_succ, i64_w, i32_w]
        rfl
      refine take_ (i := 9) (N := some 86) (v := ?_) (a' := ?_) #[true, true, true, true, true, true, true, true, true, true, true, false, false, true, false, false, false, false, false, false, false, false, false, false, false, false, false, false, false, false, false, false, false, false, false, false, false, false] rfl rfl (by kernel_rfl) (fun _ _ _ h => h) (Or.inl ⟨by rfl, ?_⟩) hHeld ?_ ?_
      rotate_left
      · rintro w' ⟨s0, s1, s2, s3, s4, s5, s6, s7, s8, s9, s10, s11, s12, s13, s14, s15⟩
        go_simp
        with_reducible rfl
      rotate_left
      · simp only [Act.put, List.setIfInBounds_toArray, List.set_cons_zero, List.set_cons_succ, i64_w, i32_w]
        rfl
      refine take_ (i := 12) (N := some 89) (v := ?_) (a' := ?_) #[true, true, true, true, true, true, true, true, true, true, true, false, true, true, false, false, false, false, false, false, false, false, false, false, false, false, false, false, false, false, false, false, false, false, false, false, false, false] rfl rfl (by kernel_rfl) (fun _ _ _ h => h) (Or.inl ⟨by rfl, ?_⟩) hHeld ?_ ?_
      rotate_left
      · rintro w' ⟨s0, s1, s2, s3, s4, s5, s6, s7, s8, s9, s10, s11, s12, s13, s14, s15⟩
        go_simp
        with_reducible rfl
      rotate_left
      · simp only [Act.put, List.setIfInBounds_toArray, List.set_cons_zero, List.set_cons_succ, i64_w, i32_w]
        rfl
      refine one_ (i := 11) (N := some 88) #[true, true, true, true, true, true, true, true, true, true, true, true, true, true, false, false, false, false, false, false, false, false, false, false, false, false, false, false, false, false, false, false, false, false, false, false, false, false] rfl rfl (by kernel_rfl) (by decide) (fun K hK => ?_)
      refine goes_ Try.func16 (by kernel_rfl) rfl #[.agg #[.int .u16 s], .int .i64 nn] (by rfl) rfl rfl (by simp only [List.map_toArray, List.map_cons, List.map_nil]; rfl) ?_
      with_reducible refine (P3.out _).mono ?_
      rintro e w7 ⟨rfl, hbz⟩
      refine ⟨_, rfl, ?_⟩
      replace u0 := (hbz.cell (World.block_lt_of_cell? _ _ u0)).trans u0
      replace v0 := (hbz.cell (World.block_lt_of_cell? _ _ v0)).trans v0
      replace v1 := (hbz.cell (World.block_lt_of_cell? _ _ v1)).trans v1
      replace v2 := (hbz.cell (World.block_lt_of_cell? _ _ v2)).trans v2
      replace v3 := (hbz.cell (World.block_lt_of_cell? _ _ v3)).trans v3
      replace v4 := (hbz.cell (World.block_lt_of_cell? _ _ v4)).trans v4
      replace v5 := (hbz.cell (World.block_lt_of_cell? _ _ v5)).trans v5
      replace v6 := (hbz.cell (World.block_lt_of_cell? _ _ v6)).trans v6
      replace v7 := (hbz.cell (World.block_lt_of_cell? _ _ v7)).trans v7
      replace v8 := (hbz.cell (World.block_lt_of_cell? _ _ v8)).trans v8
      replace v9 := (hbz.cell (World.block_lt_of_cell? _ _ v9)).trans v9
      replace v10 := (hbz.cell (World.block_lt_of_cell? _ _ v10)).trans v10
      replace v11 := (hbz.cell (World.block_lt_of_cell? _ _ v11)).trans v11
      replace v12 := (hbz.cell (World.block_lt_of_cell? _ _ v12)).trans v12
      replace x0 := (hbz.cell (World.block_lt_of_cell? _ _ x0)).trans x0
      replace y0 := (hbz.cell (World.block_lt_of_cell? _ _ y0)).trans y0
      replace K3 := Aside0.mk (blk_below K3.out hbz)
      replace K5 := Aside0.mk (blk_below K5.out hbz)
      replace K12 := Aside0.mk (blk_below K12.out hbz)
      replace K14 := Aside0.mk (blk_below K14.out hbz)
      have HBn := Aside0.mk (below_step (by repeat (first | (with_reducible first | exact HB.out | apply below_alloc | apply pw_below_drewN | apply below_drew1) | exact HB.out)) hbz)
      clear HB
      have HB := HBn
      clear HBn
      clear hbz
      refine hK.out _ _ ⟨u0, v0, v1, v2, v3, v4, v5, v6, v7, v8, v9, v10, v11, v12, x0, y0⟩ (fun hHeld => ?_)
      clear hK K
      refine norm_ (a' := ?_) ?_ ?_
      rotate_left
      · show Act.put _ (some 88) _ = _
        simp only [Act.put, List.setIfInBounds_toArray, List.set_cons_zero, List.set_cons_succ, i64_w, i32_w]
        rfl
      refine one_ (i := 14) (N := some 91) #[true, true, true, true, true, true, true, true, true, true, true, true, true, true, true, false, false, false, false, false, false, false, false, false, false, false, false, false, false, false, false, false, false, false, false, false, false, false] rfl rfl (by kernel_rfl) (by decide) (fun K hK => ?_)
      refine goes_ Try.func17 (by kernel_rfl) rfl #[.agg #[.int .u16 s], .int .i64 nn] (by rfl) rfl rfl (by simp only [List.map_toArray, List.map_cons, List.map_nil]; rfl) ?_
      with_reducible refine (P4.out _).mono ?_
      rintro e w8 ⟨rfl, hbz⟩
      refine ⟨_, rfl, ?_⟩
      replace u0 := (hbz.cell (World.block_lt_of_cell? _ _ u0)).trans u0
      replace v0 := (hbz.cell (World.block_lt_of_cell? _ _ v0)).trans v0
      replace v1 := (hbz.cell (World.block_lt_of_cell? _ _ v1)).trans v1
      replace v2 := (hbz.cell (World.block_lt_of_cell? _ _ v2)).trans v2
      replace v3 := (hbz.cell (World.block_lt_of_cell? _ _ v3)).trans v3
      replace v4 := (hbz.cell (World.block_lt_of_cell? _ _ v4)).trans v4
      replace v5 := (hbz.cell (World.block_lt_of_cell? _ _ v5)).trans v5
      replace v6 := (hbz.cell (World.block_lt_of_cell? _ _ v6)).trans v6
      replace v7 := (hbz.cell (World.block_lt_of_cell? _ _ v7)).trans v7
      replace v8 := (hbz.cell (World.block_lt_of_cell? _ _ v8)).trans v8
      replace v9 := (hbz.cell (World.block_lt_of_cell? _ _ v9)).trans v9
      replace v10 := (hbz.cell (World.block_lt_of_cell? _ _ v10)).trans v10
      replace v11 := (hbz.cell (World.block_lt_of_cell? _ _ v11)).trans v11
      replace v12 := (hbz.cell (World.block_lt_of_cell? _ _ v12)).trans v12
      replace x0 := (hbz.cell (World.block_lt_of_cell? _ _ x0)).trans x0
      replace y0 := (hbz.cell (World.block_lt_of_cell? _ _ y0)).trans y0
      replace K3 := Aside0.mk (blk_below K3.out hbz)
      replace K5 := Aside0.mk (blk_below K5.out hbz)
      replace K12 := Aside0.mk (blk_below K12.out hbz)
      replace K14 := Aside0.mk (blk_below K14.out hbz)
      have HBn := Aside0.mk (below_step (by repeat (first | (with_reducible first | exact HB.out | apply below_alloc | apply pw_below_drewN | apply below_drew1) | exact HB.out)) hbz)
      clear HB
      have HB := HBn
      clear HBn
      clear hbz
      refine hK.out _ _ ⟨u0, v0, v1, v2, v3, v4, v5, v6, v7, v8, v9, v10, v11, v12, x0, y0⟩ (fun hHeld => ?_)
      clear hK K
      refine norm_ (a' := ?_) ?_ ?_
      rotate_left
      · show Act.put _ (some 91) _ = _
        simp only [Act.put, List.setIfInBounds_toArray, List.set_cons_zero, List.set_cons_succ, i64_w, i32_w]
        rfl
      refine pure_ (i := 15) (N := some 92) (v := ?_) (a' := ?_) #[true, true, true, true, true, true, true, true, true, true, true, true, true, true, true, true, false, false, false, false, false, false, false, false, false, false, false, false, false, false, false, false, false, false, false, false, false, false] rfl rfl (by kernel_rfl) (fun _ _ _ h => h) (Or.inl ⟨by rfl, ?_⟩) ?_ ?_
      rotate_left
      · intro w'
        go_simp
        with_reducible rfl
      rotate_left
      · simp only [Act.put, List.setIfInBounds_toArray, List.set_cons_zero, List.set_cons_succ, i64_w, i32_w]
        rfl
      refine pure_ (i := 16) (N := some 93) (v := ?_) (a' := ?_) #[true, true, true, true, true, true, true, true, true, true, true, true, true, true, true, true, true, false, false, false, false, false, false, false, false, false, false, false, false, false, false, false, false, false, false, false, false, false] rfl rfl (by kernel_rfl) (fun _ _ _ h => h) (Or.inl ⟨by rfl, ?_⟩) ?_ ?_
      rotate_left
      · intro w'
        go_simp
        with_reducible rfl
      rotate_left
      · simp only [Act.put, List.setIfInBounds_toArray, List.set_cons_zero, List.set_cons_succ, i64_w, i32_w]
        rfl
      refine pure_ (i := 17) (N := some 94) (v := ?_) (a' := ?_) #[true, true, true, true, true, true, true, true, true, true, true, true, true, true, true, true, true, true, false, false, false, false, false, false, false, false, false, false, false, false, false, false, false, false, false, false, false, false] rfl rfl (by kernel_rfl) (fun _ _ _ h => h) (Or.inl ⟨by rfl, ?_⟩) ?_ ?_
      rotate_left
      · intro w'
        go_simp
        with_reducible rfl
      rotate_left
      · simp only [Act.put, List.setIfInBounds_toArray, List.set_cons_zero, List.set_cons_succ, i64_w, i32_w]
        rfl
      refine take_ (i := 18) (N := some 95) (v := ?_) (a' := ?_) #[true, true, true, true, true, true, true, true, true, true, true, true, true, true, true, true, true, true, true, false, false, false, false, false, false, false, false, false, false, false, false, false, false, false, false, false, false, false] rfl rfl (by kernel_rfl) (fun _ _ _ h => h) (Or.inl ⟨by rfl, ?_⟩) hHeld ?_ ?_
      rotate_left
      · rintro w' ⟨s0, s1, s2, s3, s4, s5, s6, s7, s8, s9, s10, s11, s12, s13, s14, s15⟩
        go_simp
        with_reducible rfl
      rotate_left
      · simp only [Act.put, List.setIfInBounds_toArray, List.set_cons_zero, List.set_cons_succ, i64_w, i32_w]
        rfl
      refine take_ (i := 20) (N := some 97) (v := ?_) (a' := ?_) #[true, true, true, true, true, true, true, true, true, true, true, true, true, true, true, true, true, true, true, false, true, false, false, false, false, false, false, false, false, false, false, false, false, false, false, false, false, false] rfl rfl (by kernel_rfl) (fun _ _ _ h => h) (Or.inl ⟨by rfl, ?_⟩) hHeld ?_ ?_
      rotate_left
      · rintro w' ⟨s0, s1, s2, s3, s4, s5, s6, s7, s8, s9, s10, s11, s12, s13, s14, s15⟩
        go_simp
        with_reducible rfl
      rotate_left
      · simp only [Act.put, List.setIfInBounds_toArray, List.set_cons_zero, List.set_cons_succ, i64_w, i32_w]
        rfl
      refine one_ (i := 19) (N := some 96) #[true, true, true, true, true, true, true, true, true, true, true, true, true, true, true, true, true, true, true, true, true, false, false, false, false, false, false, false, false, false, false, false, false, false, false, false, false, false] rfl rfl (by kernel_rfl) (by decide) (fun K hK => ?_)
      refine goes_ Try.func20 (by kernel_rfl) rfl #[.agg #[.int .u16 a, .int .u16 l, .int .u16 q, .int .i64 z, .int .i64 eb, .int .i64 fb, .int .i64 su, .bool ext, .int .u16 idx, .bool held, .int .u16 b, .bool inh, .bool srv]] (by rfl) rfl rfl (by simp only [List.map_toArray, List.map_cons, List.map_nil]; rfl) ?_
      with_reducible refine (PA.out _).mono ?_
      rintro e w9 ⟨rfl, hbz⟩
      refine ⟨_, rfl, ?_⟩
      replace u0 := (hbz.cell (World.block_lt_of_cell? _ _ u0)).trans u0
      replace v0 := (hbz.cell (World.block_lt_of_cell? _ _ v0)).trans v0
      replace v1 := (hbz.cell (World.block_lt_of_cell? _ _ v1)).trans v1
      replace v2 := (hbz.cell (World.block_lt_of_cell? _ _ v2)).trans v2
      replace v3 := (hbz.cell (World.block_lt_of_cell? _ _ v3)).trans v3
      replace v4 := (hbz.cell (World.block_lt_of_cell? _ _ v4)).trans v4
      replace v5 := (hbz.cell (World.block_lt_of_cell? _ _ v5)).trans v5
      replace v6 := (hbz.cell (World.block_lt_of_cell? _ _ v6)).trans v6
      replace v7 := (hbz.cell (World.block_lt_of_cell? _ _ v7)).trans v7
      replace v8 := (hbz.cell (World.block_lt_of_cell? _ _ v8)).trans v8
      replace v9 := (hbz.cell (World.block_lt_of_cell? _ _ v9)).trans v9
      replace v10 := (hbz.cell (World.block_lt_of_cell? _ _ v10)).trans v10
      replace v11 := (hbz.cell (World.block_lt_of_cell? _ _ v11)).trans v11
      replace v12 := (hbz.cell (World.block_lt_of_cell? _ _ v12)).trans v12
      replace x0 := (hbz.cell (World.block_lt_of_cell? _ _ x0)).trans x0
      replace y0 := (hbz.cell (World.block_lt_of_cell? _ _ y0)).trans y0
      replace K3 := Aside0.mk (blk_below K3.out hbz)
      replace K5 := Aside0.mk (blk_below K5.out hbz)
      replace K12 := Aside0.mk (blk_below K12.out hbz)
      replace K14 := Aside0.mk (blk_below K14.out hbz)
      have HBn := Aside0.mk (below_step (by repeat (first | (with_reducible first | exact HB.out | apply below_alloc | apply pw_below_drewN | apply below_drew1) | exact HB.out)) hbz)
      clear HB
      have HB := HBn
      clear HBn
      clear hbz
      refine hK.out _ _ ⟨u0, v0, v1, v2, v3, v4, v5, v6, v7, v8, v9, v10, v11, v12, x0, y0⟩ (fun hHeld => ?_)
      clear hK K
      refine norm_ (a' := ?_) ?_ ?_
      rotate_left
      · show Act.put _ (some 96) _ = _
        simp only [Act.put, List.setIfInBounds_toArray, List.set_cons_zero, List.set_cons_succ, i64_w, i32_w]
        rfl
      refine one_ (i := 21) (N := some 98) #[true, true, true, true, true, true, true, true, true, true, true, true, true, true, true, true, true, true, true, true, true, true, false, false, false, false, false, false, false, false, false, false, false, false, false, false, false, false] rfl rfl (by kernel_rfl) (by decide) (fun K hK => ?_)
      refine goes_ Try.func21 (by kernel_rfl) rfl #[.agg #[.int .u16 a, .int .u16 l, .int .u16 q, .int .i64 z, .int .i64 eb, .int .i64 fb, .int .i64 su, .bool ext, .int .u16 idx, .bool held, .int .u16 b, .bool inh, .bool srv]] (by rfl) rfl rfl (by simp only [List.map_toArray, List.map_cons, List.map_nil]; rfl) ?_
      with_reducible refine (RA.out _).mono ?_
      rintro e w10 ⟨rfl, hbz⟩
      refine ⟨_, rfl, ?_⟩
      replace u0 := (hbz.cell (World.block_lt_of_cell? _ _ u0)).trans u0
      replace v0 := (hbz.cell (World.block_lt_of_cell? _ _ v0)).trans v0
      replace v1 := (hbz.cell (World.block_lt_of_cell? _ _ v1)).trans v1
      replace v2 := (hbz.cell (World.block_lt_of_cell? _ _ v2)).trans v2
      replace v3 := (hbz.cell (World.block_lt_of_cell? _ _ v3)).trans v3
      replace v4 := (hbz.cell (World.block_lt_of_cell? _ _ v4)).trans v4
      replace v5 := (hbz.cell (World.block_lt_of_cell? _ _ v5)).trans v5
      replace v6 := (hbz.cell (World.block_lt_of_cell? _ _ v6)).trans v6
      replace v7 := (hbz.cell (World.block_lt_of_cell? _ _ v7)).trans v7
      replace v8 := (hbz.cell (World.block_lt_of_cell? _ _ v8)).trans v8
      replace v9 := (hbz.cell (World.block_lt_of_cell? _ _ v9)).trans v9
      replace v10 := (hbz.cell (World.block_lt_of_cell? _ _ v10)).trans v10
      replace v11 := (hbz.cell (World.block_lt_of_cell? _ _ v11)).trans v11
      replace v12 := (hbz.cell (World.block_lt_of_cell? _ _ v12)).trans v12
      replace x0 := (hbz.cell (World.block_lt_of_cell? _ _ x0)).trans x0
      replace y0 := (hbz.cell (World.block_lt_of_cell? _ _ y0)).trans y0
      replace K3 := Aside0.mk (blk_below K3.out hbz)
      replace K5 := Aside0.mk (blk_below K5.out hbz)
      replace K12 := Aside0.mk (blk_below K12.out hbz)
      replace K14 := Aside0.mk (blk_below K14.out hbz)
      have HBn := Aside0.mk (below_step (by repeat (first | (with_reducible first | exact HB.out | apply below_alloc | apply pw_below_drewN | apply below_drew1) | exact HB.out)) hbz)
      clear HB
      have HB := HBn
      clear HBn
      clear hbz
      refine hK.out _ _ ⟨u0, v0, v1, v2, v3, v4, v5, v6, v7, v8, v9, v10, v11, v12, x0, y0⟩ (fun hHeld => ?_)
      clear hK K
      refine norm_ (a' := ?_) ?_ ?_
      rotate_left
      · show Act.put _ (some 98) _ = _
        simp only [Act.put, List.setIfInBounds_toArray, List.set_cons_zero, List.set_cons_succ, i64_w, i32_w]
        rfl
      refine pure_ (i := 22) (N := some 99) (v := ?_) (a' := ?_) #[true, true, true, true, true, true, true, true, true, true, true, true, true, true, true, true, true, true, true, true, true, true, true, false, false, false, false, false, false, false, false, false, false, false, false, false, false, false] rfl rfl (by kernel_rfl) (fun _ _ _ h => h) (Or.inl ⟨by rfl, ?_⟩) ?_ ?_
      rotate_left
      · intro w'
        go_simp
        with_reducible rfl
      rotate_left
      · simp only [Act.put, List.setIfInBounds_toArray, List.set_cons_zero, List.set_cons_succ, i64_w, i32_w]
        rfl
      refine pure_ (i := 23) (N := some 100) (v := ?_) (a' := ?_) #[true, true, true, true, true, true, true, true, true, true, true, true, true, true, true, true, true, true, true, true, true, true, true, true, false, false, false, false, false, false, false, false, false, false, false, false, false, false] rfl rfl (by kernel_rfl) (fun _ _ _ h => h) (Or.inl ⟨by rfl, ?_⟩) ?_ ?_
      rotate_left
      · intro w'
        go_simp
        with_reducible rfl
      rotate_left
      · simp only [Act.put, List.setIfInBounds_toArray, List.set_cons_zero, List.set_cons_succ, i64_w, i32_w]
        rfl
      refine pure_ (i := 24) (N := some 101) (v := ?_) (a' := ?_) #[true, true, true, true, true, true, true, true, true, true, true, true, true, true, true, true, true, true, true, true, true, true, true, true, true, false, false, false, false, false, false, false, false, false, false, false, false, false] rfl rfl (by kernel_rfl) (fun _ _ _ h => h) (Or.inl ⟨by rfl, ?_⟩) ?_ ?_
      rotate_left
      · intro w'
        go_simp
        with_reducible rfl
      rotate_left
      · simp only [Act.put, List.setIfInBounds_toArray, List.set_cons_zero, List.set_cons_succ, i64_w, i32_w]
        rfl
      refine pure_ (i := 25) (N := some 102) (v := ?_) (a' := ?_) #[true, true, true, true, true, true, true, true, true, true, true, true, true, true, true, true, true, true, true, true, true, true, true, true, true, true, false, false, false, false, false, false, false, false, false, false, false, false] rfl rfl (by kernel_rfl) (fun _ _ _ h => h) (Or.inl ⟨by rfl, ?_⟩) ?_ ?_
      rotate_left
      · intro w'
        go_simp
        with_reducible rfl
      rotate_left
      · simp only [Act.put, List.setIfInBounds_toArray, List.set_cons_zero, List.set_cons_succ, i64_w, i32_w]
        rfl
      refine pure_ (i := 26) (N := some 103) (v := ?_) (a' := ?_) #[true, true, true, true, true, true, true, true, true, true, true, true, true, true, true, true, true, true, true, true, true, true, true, true, true, true, true, false, false, false, false, false, false, false, false, false, false, false] rfl rfl (by kernel_rfl) (fun _ _ _ h => h) (Or.inl ⟨by rfl, ?_⟩) ?_ ?_
      rotate_left
      · intro w'
        go_simp
        with_reducible rfl
      rotate_left
      · simp only [Act.put, List.setIfInBounds_toArray, List.set_cons_zero, List.set_cons_succ, i64_w, i32_w]
        rfl
      refine pure_ (i := 27) (N := some 104) (v := ?_) (a' := ?_) #[true, true, true, true, true, true, true, true, true, true, true, true, true, true, true, true, true, true, true, true, true, true, true, true, true, true, true, true, false, false, false, false, false, false, false, false, false, false] rfl rfl (by kernel_rfl) (fun _ _ _ h => h) (Or.inl ⟨by rfl, ?_⟩) ?_ ?_
      rotate_left
      · intro w'
        go_simp
        with_reducible rfl
      rotate_left
      · simp only [Act.put, List.setIfInBounds_toArray, List.set_cons_zero, List.set_cons_succ, i64_w, i32_w]
        rfl
      refine pure_ (i := 28) (N := some 105) (v := ?_) (a' := ?_) #[true, true, true, true, true, true, true, true, true, true, true, true, true, true, true, true, true, true, true, true, true, true, true, true, true, true, true, true, true, false, false, false, false, false, false, false, false, false] rfl rfl (by kernel_rfl) (fun _ _ _ h => h) (Or.inl ⟨by rfl, ?_⟩) ?_ ?_
      rotate_left
      · intro w'
        go_simp
        with_reducible rfl
      rotate_left
      · simp only [Act.put, List.setIfInBounds_toArray, List.set_cons_zero, List.set_cons_succ, i64_w, i32_w]
        rfl
      refine pure_ (i := 29) (N := some 106) (v := ?_) (a' := ?_) #[true, true, true, true, true, true, true, true, true, true, true, true, true, true, true, true, true, true, true, true, true, true, true, true, true, true, true, true, true, true, false, false, false, false, false, false, false, false] rfl rfl (by kernel_rfl) (fun _ _ _ h => h) (Or.inl ⟨by rfl, ?_⟩) ?_ ?_
      rotate_left
      · intro w'
        go_simp
        with_reducible rfl
      rotate_left
      · simp only [Act.put, List.setIfInBounds_toArray, List.set_cons_zero, List.set_cons_succ, i64_w, i32_w]
        rfl
      refine pure_ (i := 30) (N := some 107) (v := ?_) (a' := ?_) #[true, true, true, true, true, true, true, true, true, true, true, true, true, true, true, true, true, true, true, true, true, true, true, true, true, true, true, true, true, true, true, false, false, false, false, false, false, false] rfl rfl (by kernel_rfl) (fun _ _ _ h => h) (Or.inl ⟨by rfl, ?_⟩) ?_ ?_
      rotate_left
      · intro w'
        go_simp
        with_reducible rfl
      rotate_left
      · simp only [Act.put, List.setIfInBounds_toArray, List.set_cons_zero, List.set_cons_succ, i64_w, i32_w]
        rfl
      refine pure_ (i := 31) (N := some 108) (v := ?_) (a' := ?_) #[true, true, true, true, true, true, true, true, true, true, true, true, true, true, true, true, true, true, true, true, true, true, true, true, true, true, true, true, true, true, true, true, false, false, false, false, false, false] rfl rfl (by kernel_rfl) (fun _ _ _ h => h) (Or.inl ⟨by rfl, ?_⟩) ?_ ?_
      rotate_left
      · intro w'
        go_simp
        with_reducible rfl
      rotate_left
      · simp only [Act.put, List.setIfInBounds_toArray, List.set_cons_zero, List.set_cons_succ, i64_w, i32_w]
        rfl
      refine pure_ (i := 32) (N := some 109) (v := ?_) (a' := ?_) #[true, true, true, true, true, true, true, true, true, true, true, true, true, true, true, true, true, true, true, true, true, true, true, true, true, true, true, true, true, true, true, true, true, false, false, false, false, false] rfl rfl (by kernel_rfl) (fun _ _ _ h => h) (Or.inl ⟨by rfl, ?_⟩) ?_ ?_
      rotate_left
      · intro w'
        go_simp
        with_reducible rfl
      rotate_left
      · simp only [Act.put, List.setIfInBounds_toArray, List.set_cons_zero, List.set_cons_succ, i64_w, i32_w]
        rfl
      refine pure_ (i := 33) (N := some 110) (v := ?_) (a' := ?_) #[true, true, true, true, true, true, true, true, true, true, true, true, true, true, true, true, true, true, true, true, true, true, true, true, true, true, true, true, true, true, true, true, true, true, false, false, false, false] rfl rfl (by kernel_rfl) (fun _ _ _ h => h) (Or.inl ⟨by rfl, ?_⟩) ?_ ?_
      rotate_left
      · intro w'
        go_simp
        with_reducible rfl
      rotate_left
      · simp only [Act.put, List.setIfInBounds_toArray, List.set_cons_zero, List.set_cons_succ, i64_w, i32_w]
        rfl
      refine pure_ (i := 34) (N := some 111) (v := ?_) (a' := ?_) #[true, true, true, true, true, true, true, true, true, true, true, true, true, true, true, true, true, true, true, true, true, true, true, true, true, true, true, true, true, true, true, true, true, true, true, false, false, false] rfl rfl (by kernel_rfl) (fun _ _ _ h => h) (Or.inl ⟨by rfl, ?_⟩) ?_ ?_
      rotate_left
      · intro w'
        go_simp
        with_reducible rfl
      rotate_left
      · simp only [Act.put, List.setIfInBounds_toArray, List.set_cons_zero, List.set_cons_succ, i64_w, i32_w]
        rfl
      refine one_ (i := 35) (N := some 112) #[true, true, true, true, true, true, true, true, true, true, true, true, true, true, true, true, true, true, true, true, true, true, true, true, true, true, true, true, true, true, true, true, true, true, true, true, false, false] rfl rfl (by kernel_rfl) (by decide) (fun K hK => ?_)
      refine goes_ Try.func13 (by kernel_rfl) rfl #[] (by rfl) rfl rfl (by simp) ?_
      with_reducible refine (works_c _).mono ?_
      rintro e w11 ⟨rfl, hbz⟩
      refine ⟨_, rfl, ?_⟩
      replace u0 := (hbz.cell (World.block_lt_of_cell? _ _ u0)).trans u0
      replace v0 := (hbz.cell (World.block_lt_of_cell? _ _ v0)).trans v0
      replace v1 := (hbz.cell (World.block_lt_of_cell? _ _ v1)).trans v1
      replace v2 := (hbz.cell (World.block_lt_of_cell? _ _ v2)).trans v2
      replace v3 := (hbz.cell (World.block_lt_of_cell? _ _ v3)).trans v3
      replace v4 := (hbz.cell (World.block_lt_of_cell? _ _ v4)).trans v4
      replace v5 := (hbz.cell (World.block_lt_of_cell? _ _ v5)).trans v5
      replace v6 := (hbz.cell (World.block_lt_of_cell? _ _ v6)).trans v6
      replace v7 := (hbz.cell (World.block_lt_of_cell? _ _ v7)).trans v7
      replace v8 := (hbz.cell (World.block_lt_of_cell? _ _ v8)).trans v8
      replace v9 := (hbz.cell (World.block_lt_of_cell? _ _ v9)).trans v9
      replace v10 := (hbz.cell (World.block_lt_of_cell? _ _ v10)).trans v10
      replace v11 := (hbz.cell (World.block_lt_of_cell? _ _ v11)).trans v11
      replace v12 := (hbz.cell (World.block_lt_of_cell? _ _ v12)).trans v12
      replace x0 := (hbz.cell (World.block_lt_of_cell? _ _ x0)).trans x0
      replace y0 := (hbz.cell (World.block_lt_of_cell? _ _ y0)).trans y0
      replace K3 := Aside0.mk (blk_below K3.out hbz)
      replace K5 := Aside0.mk (blk_below K5.out hbz)
      replace K12 := Aside0.mk (blk_below K12.out hbz)
      replace K14 := Aside0.mk (blk_below K14.out hbz)
      have HBn := Aside0.mk (below_step (by repeat (first | (with_reducible first | exact HB.out | apply below_alloc | apply pw_below_drewN | apply below_drew1) | exact HB.out)) hbz)
      clear HB
      have HB := HBn
      clear HBn
      clear hbz
      refine hK.out _ _ ⟨u0, v0, v1, v2, v3, v4, v5, v6, v7, v8, v9, v10, v11, v12, x0, y0⟩ (fun hHeld => ?_)
      clear hK K
      refine norm_ (a' := ?_) ?_ ?_
      rotate_left
      · show Act.put _ (some 112) _ = _
        simp only [Act.put, List.setIfInBounds_toArray, List.set_cons_zero, List.set_cons_succ, i64_w, i32_w]
        rfl
      refine pure_ (i := 36) (N := some 113) (v := ?_) (a' := ?_) #[true, true, true, true, true, true, true, true, true, true, true, true, true, true, true, true, true, true, true, true, true, true, true, true, true, true, true, true, true, true, true, true, true, true, true, true, true, false] rfl rfl (by kernel_rfl) (fun _ _ _ h => h) (Or.inl ⟨by rfl, ?_⟩) ?_ ?_
      rotate_left
      · intro w'
        go_simp
        with_reducible rfl
      rotate_left
      · simp only [Act.put, List.setIfInBounds_toArray, List.set_cons_zero, List.set_cons_succ, i64_w, i32_w]
        rfl
      refine pure_ (i := 37) (N := some 6) (v := ?_) (a' := ?_) #[true, true, true, true, true, true, true, true, true, true, true, true, true, true, true, true, true, true, true, true, true, true, true, true, true, true, true, true, true, true, true, true, true, true, true, true, true, true] rfl rfl (by kernel_rfl) (fun _ _ _ h => h) (Or.inl ⟨by rfl, ?_⟩) ?_ ?_
      rotate_left
      · intro w'
        go_simp
        with_reducible rfl
      rotate_left
      · simp only [Act.put, List.setIfInBounds_toArray, List.set_cons_zero, List.set_cons_succ, i64_w, i32_w]
        rfl
      refine done_ (by kernel_rfl) ?_
      
      go_wp2
      go_ret
      exact ⟨rfl, by repeat (first | (with_reducible first | exact HB.out | apply below_alloc | apply pw_below_drewN | apply below_drew1) | exact HB.out)⟩
theorem tells_law (z0 : S27) (a1 : Int) (z2 : S25) (w : World) (b0 : (Lit.int .u16 z0.f0).wf = true) (w1 : (Lit.int .i64 a1).wf = true) (b2 : ((Lit.int .u16 z2.f0).wf = true ∧ (Lit.int .u16 z2.f1).wf = true ∧ (Lit.int .u16 z2.f2).wf = true ∧ (Lit.int .i64 z2.f3).wf = true ∧ (Lit.int .i64 z2.f4).wf = true ∧ (Lit.int .i64 z2.f5).wf = true ∧ (Lit.int .i64 z2.f6).wf = true ∧ True ∧ (Lit.int .u16 z2.f8).wf = true ∧ True ∧ (Lit.int .u16 z2.f10).wf = true ∧ True ∧ True)) :
    Calls Try.prog 4 #[.agg #[.int .u16 z0.f0], .int .i64 a1, .agg #[.int .u16 z2.f0, .int .u16 z2.f1, .int .u16 z2.f2, .int .i64 z2.f3, .int .i64 z2.f4, .int .i64 z2.f5, .int .i64 z2.f6, .bool z2.f7, .int .u16 z2.f8, .bool z2.f9, .int .u16 z2.f10, .bool z2.f11, .bool z2.f12]] w fun e w' => e = .returned (.bool true) ∧ Below w.heap.size w w' := by
  have h0 := wf16r b0
  have h2 := wf16r b2.1
  exact tells_calls z2.f0 z2.f1 z2.f2 z2.f3 z2.f4 z2.f5 z2.f6 z2.f7 z2.f8 z2.f9 z2.f10 z2.f11 z2.f12 z0.f0 a1 w h0.1 h0.2 h2.1 h2.2
end Go.Proofs.Ytejnppbkncfkeaa.Rup
