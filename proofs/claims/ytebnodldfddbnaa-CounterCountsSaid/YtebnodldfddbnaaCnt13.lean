/- counter.Serve and its reference, all ways joined; Total's contracts. -/
import Derived.Test.YtebnodldfddbnaaCnt12
namespace Go.Proofs.Ytebnodldfddbnaa.Cnt
open Go.RowKit Go.Proofs.Ytebnodldfddbnaa.PAll Go.Proofs.YtebnodldfddbnaaW.PrintWords Go.Proofs.YtebnodldfddbnaaW.PrintLast Go.Proofs.YtebnodldfddbnaaW.PrintMore Go.Proofs.Ytebnodldfddbnaa.Plain Go.Proofs.Ytebnodldfddbnaa.One Go.Proofs.Ytebnodldfddbnaa.Lit
set_option linter.unusedVariables false
set_option linter.unusedSimpArgs false
theorem Serve_c (A0 : Option Addr) (c0 : Nat) (l : List S26) (A1 : Option Addr) (c1 m : Nat) (er : List Int) (w : World) (n : Nat) (e0 : l.length = n) (e1 : er.length = m) (hr0 : Kd.C k26 w A0 n l) (hc0 : n ≤ c0) (hl : n ≤ 1000000) (hr1 : Kd.C (Kd.int .u16) w A1 m er)
    (he : ∀ i : Int, 0 ≤ i → i < (er.length : Int) → 0 ≤ rd er i ∧ rd er i < 65536) :
    Calls Try.prog 19 #[.slice A0 n c0, .slice A1 m c1] w fun e w' => ∃ v, e = .returned (.tuple #[v, .agg #[.int .i64 (sA l er), .int .u16 (sW l er)], .int .i64 (sS l er), .int .i64 (sE l er)]) ∧ Kd.R k26 26 w' w.heap.size (fun _ => True) v (sL l er) ∧ Below w.heap.size w w' := by
  by_cases c : n = 0
  · have e : sE l er = 14 := by unfold sE; rw [if_pos (by omega)]
    unfold sL sA sW sS
    rw [e, if_neg (by decide), if_neg (by decide), if_neg (by decide), if_neg (by decide)]
    exact serve0 A0 c0 l A1 c1 m w n e0 hr0 hc0 hl c
  obtain ⟨j, ad, ej, j0, j1, rfl, h0, h1⟩ := serve_pre A0 c0 l n e0 w hr0 (by omega)
  have ej' : nxT l l.length = j := by rw [e0]; exact ej
  by_cases d : (pS l).f0 < 0
  · have e : sE l er = 9 := by unfold sE; rw [if_neg (by omega), if_pos (Or.inl d)]
    unfold sL sA sW sS
    rw [e, if_neg (by decide), if_neg (by decide), if_neg (by decide), if_neg (by decide)]
    exact serve_neg ad c0 l A1 c1 m w n e0 hr0 hc0 hl (by omega) j _ _ ej j0 j1 h0 h1 d
  by_cases f : (pS l).f0 ≥ (m : Int)
  · have e : sE l er = 9 := by unfold sE; rw [if_neg (by omega), if_pos (Or.inr (by rw [e1]; exact f))]
    unfold sL sA sW sS
    rw [e, if_neg (by decide), if_neg (by decide), if_neg (by decide), if_neg (by decide)]
    exact serve_far ad c0 l A1 c1 m w n e0 hr0 hc0 hl (by omega) j _ _ ej j0 j1 h0 h1 d f
  have e : sE l er = apE (pS l).f1 := by unfold sE; rw [if_neg (by omega), if_neg (by omega)]
  obtain ⟨ad1, hA, hx⟩ := Kd.at_int hr1 (pS l).f0 (by omega) (by omega)
  have hr := he (pS l).f0 (by omega) (by omega)
  by_cases g : apE (pS l).f1 = 0
  · unfold sL sA sW sS
    rw [e, g, if_pos rfl, if_pos rfl, if_pos rfl, if_pos rfl, ej']
    exact serve_ok ad c0 l A1 c1 m w n e0 hr0 hc0 hl (by omega) j _ _ ej j0 j1 h0 h1 (by omega) (by omega) ad1 hA _ _ _ hx (fun w => by have := Apply_c _ (pS l).f1 hr.1 hr.2 w; rw [g] at this; exact this)
  · unfold sL sA sW sS
    rw [e, if_neg g, if_neg g, if_neg g, if_neg g]
    exact serve_bad ad c0 l A1 c1 m w n e0 hr0 hc0 hl (by omega) j _ _ ej j0 j1 h0 h1 (by omega) (by omega) ad1 hA _ _ _ _ hx (fun w => Apply_c _ (pS l).f1 hr.1 hr.2 w) g
theorem rServe_c (A0 : Option Addr) (c0 : Nat) (l : List S26) (A1 : Option Addr) (c1 m : Nat) (er : List Int) (w : World) (n : Nat) (e0 : l.length = n) (e1 : er.length = m) (hr0 : Kd.C k26 w A0 n l) (hc0 : n ≤ c0) (hl : n ≤ 1000000) (hr1 : Kd.C (Kd.int .u16) w A1 m er) (hc1 : m ≤ c1)
    (he : ∀ i : Int, 0 ≤ i → i < (er.length : Int) → 0 ≤ rd er i ∧ rd er i < 65536) :
    Calls Try.prog 27 #[.slice A0 n c0, .slice A1 m c1] w fun e w' => ∃ v, e = .returned (.tuple #[v, .agg #[.int .i64 (sA l er), .int .u16 (sW l er)], .int .i64 (sS l er), .int .i64 (sE l er)]) ∧ Kd.R k26 26 w' w.heap.size (fun _ => True) v (sL l er) ∧ Below w.heap.size w w' := by
  subst e0 e1
  exact periluneref06_Serve.calls (l.length + 10) A0 c0 l A1 c1 er _ _ _ _ _ w hr0 hc0 hr1 hc1 (rserve_f l er hl he)

/-! ### Total -/
def one (a : Int) (p : S26) : Int := if p.f0 = a then (if p.f1 = 1 then 1 else if p.f1 = 2 then -1 else 0) else 0
def tot (a : Int) (l : List S26) : Int := (l.map (one a)).sum
theorem tot_app (a : Int) (l m : List S26) : tot a (l ++ m) = tot a l + tot a m := by unfold tot; rw [List.map_append, List.sum_append]
theorem one_range (a : Int) (p : S26) : -1 ≤ one a p ∧ one a p ≤ 1 := by
  unfold one; split
  · split
    · omega
    · split <;> omega
  · omega
theorem tot_range (a : Int) : ∀ l : List S26, -(l.length : Int) ≤ tot a l ∧ tot a l ≤ (l.length : Int)
  | [] => by simp [tot]
  | p :: l => by
    have := tot_range a l
    have := one_range a p
    have e : tot a (p :: l) = one a p + tot a l := by simp [tot]
    rw [e]; simp only [List.length_cons]; omega
theorem take_next (l : List S26) (i : Nat) (h : i < l.length) : l.take (i + 1) = l.take i ++ [rd_T26 l (i : Int)] := by
  rw [List.take_add_one]; congr 1
  simp [rd_T26, h]
theorem rtotal_loop (l : List S26) (a : Int) (hl : l.length ≤ 1000000) : ∀ d (i : Nat) k, i + d = l.length → 2 * d < k → periluneref06_Total.l0 k l a (tot a (l.take i)) (i : Int) = some (tot a l)
  | 0, i, k, h, hk => by
    obtain ⟨k, rfl⟩ : ∃ m, k = m + 1 := ⟨k - 1, by omega⟩
    obtain rfl : i = l.length := by omega
    simp only [periluneref06_Total.l0]
    rw [if_neg (by omega), List.take_length]
  | d + 1, i, k, h, hk => by
    obtain ⟨k, rfl⟩ : ∃ m, k = m + 2 := ⟨k - 2, by omega⟩
    have hw : wrap64 ((i : Int) + 1) = ((i + 1 : Nat) : Int) := by rw [w64 (by omega) (by omega)]; omega
    have ih := rtotal_loop l a hl d (i + 1) k (by omega) (by omega)
    rw [take_next l i (by omega), tot_app] at ih
    have hr := tot_range a (l.take i)
    have ht : (l.take i).length = i := by rw [List.length_take]; omega
    rw [ht] at hr
    generalize tot a (l.take i) = t at ih hr
    simp only [periluneref06_Total.l0, periluneref06_Total.j1]
    rw [if_pos (by omega), if_pos (by omega)]
    simp only [hw]
    rw [show tot a [rd_T26 l (i : Int)] = one a (rd_T26 l (i : Int)) by simp [tot]] at ih
    unfold one at ih
    have p0 : (0 : Int) ≤ (i : Int) := by omega
    have p1 : (i : Int) < (l.length : Int) := by omega
    by_cases c : (rd_T26 l (i : Int)).f0 = a
    · rw [if_pos c] at ih
      by_cases d1 : (rd_T26 l (i : Int)).f1 = 1
      · rw [if_pos d1] at ih
        rw [if_pos c, d1]
        simp only [beq_self_eq_true, ↓reduceIte, p0, p1, c, if_neg (show ¬ (1 : Int) = 2 by decide)]
        rw [w64 (by omega) (by omega)]; exact ih
      · rw [if_neg d1] at ih
        have e1 : ((rd_T26 l (i : Int)).f1 == 1) = false := by rw [beq_eq_false_iff_ne]; exact d1
        rw [if_pos c, e1]
        by_cases d2 : (rd_T26 l (i : Int)).f1 = 2
        · rw [if_pos d2] at ih
          simp only [Bool.false_eq_true, ↓reduceIte, p0, p1, c, d2]
          rw [w64 (by omega) (by omega)]; exact ih
        · rw [if_neg d2, Int.add_zero] at ih
          simp only [Bool.false_eq_true, ↓reduceIte, p0, p1, c, d2]
          exact ih
    · rw [if_neg c, Int.add_zero] at ih
      simp only [Bool.false_eq_true, ↓reduceIte, p0, p1, c]
      exact ih
theorem rTotal_c (A : Option Addr) (c : Nat) (l : List S26) (n : Nat) (e0 : l.length = n) (a : Int) (w : World) (hr : Kd.C k26 w A n l) (hc : n ≤ c) (hl : n ≤ 1000000) : Calls Try.prog 26 #[.slice A n c, .int .i64 a] w fun e w' => e = .returned (.int .i64 (tot a l)) ∧ Drawn0 w w' := by
  subst e0
  exact periluneref06_Total.calls (2 * l.length + 1) A c l a _ w hr hc (by have := rtotal_loop l a hl l.length 0 (2 * l.length + 1) (by omega) (by omega); simpa [tot, periluneref06_Total.f] using this)
set_option maxHeartbeats 2000000 in
theorem Total_c (A : Option Addr) (c : Nat) (l : List S26) (n : Nat) (e0 : l.length = n) (a_ : Int) (w : World) (hr : Kd.C k26 w A n l) (hl : n ≤ 1000000) : Calls Try.prog 25 #[.slice A n c, .int .i64 a_] w fun e w' => e = .returned (.int .i64 (tot a_ l)) ∧ Below w.heap.size w w' := by
  have HB := Aside0.mk (Below.refl w.heap.size w)
  have hC0 := Aside0.mk hr
  have e0 := Aside0.mk e0
  clear hr
  go_enter Try.func25, Try.ntmps25
  go_wp2
  go_loopg [5, 10] n (fun g v5 v10 w' => ∃ (i : Nat) (t : Int), v5 = .int .i64 t ∧ v10 = .int .i64 (i : Int) ∧ i ≤ n ∧ Aside0 (i + g = n) ∧ Aside0 (tot a_ (l.take i) = t) ∧ Aside0 (Below w.heap.size w w'))
  case atStart => exact ⟨0, 0, rfl, rfl, Nat.zero_le _, ⟨by omega⟩, ⟨by simp [tot]⟩, HB⟩
  case round =>
    clear HB
    obtain ⟨i, t, rfl, rfl, hin, hg, het, HB⟩ := hrel
    by_cases hlt : i < n
    · obtain ⟨g, rfl⟩ : ∃ g, gk = g + 1 := ⟨gk - 1, by have := hg.out; omega⟩
      have b0 : decide ((i : Int) < (n : Int)) = true := decide_eq_true (by omega)
      have b0' : decide (i < n) = true := decide_eq_true hlt
      obtain ⟨ad, eA, hx0, hx1⟩ := at_T26 (Kd.C_below hC0.out HB.out) (i : Int) (by omega) (by omega)
      cases eA
      have q0 := eq_true (show (0 : Int) ≤ (i : Int) by omega)
      have q0' := eq_true (show (i : Int) < (n : Int) by omega)
      have q1 := eq_true hlt
      have tr := Aside0.mk (tot_range a_ (l.take i))
      have EL := Aside0.mk (show (l.take i).length = i by rw [List.length_take]; have := e0.out; omega)
      have NEXT := Lib.hid (take_next l i (by have := e0.out; omega))
      simp only [Int.toNat_natCast] at hx0 hx1
      obtain ⟨x0, hf0⟩ : ∃ x, (rd_T26 l i).f0 = x := ⟨_, rfl⟩
      obtain ⟨x1, hf1⟩ : ∃ x, (rd_T26 l i).f1 = x := ⟨_, rfl⟩
      rw [hf0] at hx0
      rw [hf1] at hx1
      have ONE := Lib.hid (show one a_ (rd_T26 l i) = if x0 = a_ then (if x1 = 1 then 1 else if x1 = 2 then -1 else 0) else 0 by unfold one; rw [hf0, hf1])
      clear hf0 hf1
      by_cases ca : x0 = a_
      · subst ca
        by_cases c1 : x1 = 1
        · subst c1
          have hE1 := fun d w => eqA26 d w x0 x0 1 1
          have hE2 := fun d w => eqA26 d w x0 x0 1 2
          rw [show (x0 == x0 && ((1 : Int) == 1)) = true by simp [*]] at hE1
          rw [show (x0 == x0 && ((1 : Int) == 2)) = false by simp [*]] at hE2
          have ES := Aside0.mk (show tot x0 (l.take (i + 1)) = wrap64 (t + 1) by
            rw [NEXT.out, tot_app, het.out, show tot x0 [rd_T26 l (i : Int)] = one x0 (rd_T26 l (i : Int)) by simp [tot], ONE.out]
            simp [*]
            try (have := tr.out; have := EL.out; have := hl; have := het.out; rw [w64 (by omega) (by omega)] <;> try omega))
          clear NEXT ONE tr EL 
          go_wp2
          go_roundg g
          case measure => omega
          case rel => exact ⟨i + 1, _, rfl, by simp, by omega, ⟨by have := hg.out; omega⟩, ES, ⟨by repeat (first | (with_reducible first | exact HB.out | apply below_alloc | apply pw_below_drewN | apply below_drew1) | exact HB.out)⟩⟩
        · by_cases c2 : x1 = 2
          · subst c2
            have hE1 := fun d w => eqA26 d w x0 x0 2 1
            have hE2 := fun d w => eqA26 d w x0 x0 2 2
            rw [show (x0 == x0 && ((2 : Int) == 1)) = false by simp [*]] at hE1
            rw [show (x0 == x0 && ((2 : Int) == 2)) = true by simp [*]] at hE2
            have ES := Aside0.mk (show tot x0 (l.take (i + 1)) = wrap64 (t - 1) by
              rw [NEXT.out, tot_app, het.out, show tot x0 [rd_T26 l (i : Int)] = one x0 (rd_T26 l (i : Int)) by simp [tot], ONE.out]
              simp [*]
              try (have := tr.out; have := EL.out; have := hl; have := het.out; rw [w64 (by omega) (by omega)] <;> try omega))
            clear NEXT ONE tr EL c1
            go_wp2
            go_roundg g
            case measure => omega
            case rel => exact ⟨i + 1, _, rfl, by simp, by omega, ⟨by have := hg.out; omega⟩, ES, ⟨by repeat (first | (with_reducible first | exact HB.out | apply below_alloc | apply pw_below_drewN | apply below_drew1) | exact HB.out)⟩⟩
          · have hE1 := fun d w => eqA26 d w x0 x0 x1 1
            have hE2 := fun d w => eqA26 d w x0 x0 x1 2
            rw [show (x0 == x0 && (x1 == 1)) = false by simp [*]] at hE1
            rw [show (x0 == x0 && (x1 == 2)) = false by simp [*]] at hE2
            have ES := Aside0.mk (show tot x0 (l.take (i + 1)) = t by
              rw [NEXT.out, tot_app, het.out, show tot x0 [rd_T26 l (i : Int)] = one x0 (rd_T26 l (i : Int)) by simp [tot], ONE.out]
              simp [*]
              try (have := tr.out; have := EL.out; have := hl; have := het.out; rw [w64 (by omega) (by omega)] <;> try omega))
            clear NEXT ONE tr EL c1 c2
            go_wp2
            go_roundg g
            case measure => omega
            case rel => exact ⟨i + 1, _, rfl, by simp, by omega, ⟨by have := hg.out; omega⟩, ES, ⟨by repeat (first | (with_reducible first | exact HB.out | apply below_alloc | apply pw_below_drewN | apply below_drew1) | exact HB.out)⟩⟩
      · have hE1 := fun d w => eqA26 d w x0 a_ x1 1
        have hE2 := fun d w => eqA26 d w x0 a_ x1 2
        rw [show (x0 == a_ && (x1 == 1)) = false by simp [*]] at hE1
        rw [show (x0 == a_ && (x1 == 2)) = false by simp [*]] at hE2
        have ES := Aside0.mk (show tot a_ (l.take (i + 1)) = t by
          rw [NEXT.out, tot_app, het.out, show tot a_ [rd_T26 l (i : Int)] = one a_ (rd_T26 l (i : Int)) by simp [tot], ONE.out]
          simp [*]
          try (have := tr.out; have := EL.out; have := hl; have := het.out; rw [w64 (by omega) (by omega)] <;> try omega))
        clear NEXT ONE tr EL ca
        go_wp2
        go_roundg g
        case measure => omega
        case rel => exact ⟨i + 1, _, rfl, by simp, by omega, ⟨by have := hg.out; omega⟩, ES, ⟨by repeat (first | (with_reducible first | exact HB.out | apply below_alloc | apply pw_below_drewN | apply below_drew1) | exact HB.out)⟩⟩
    · have hf : tot a_ l = t := by rw [← het.out, show i = l.length by have := e0.out; omega, List.take_length]
      have b0 : decide ((i : Int) < (n : Int)) = false := decide_eq_false (by omega)
      have b0' : decide (i < n) = false := decide_eq_false hlt
      have HF := Aside0.mk hf
      clear hf hg het
      go_wp2
      go_ret
      exact ⟨by rw [HF.out]; rfl, by repeat (first | (with_reducible first | exact HB.out | apply below_alloc | apply pw_below_drewN | apply below_drew1) | exact HB.out)⟩
end Go.Proofs.Ytebnodldfddbnaa.Cnt
