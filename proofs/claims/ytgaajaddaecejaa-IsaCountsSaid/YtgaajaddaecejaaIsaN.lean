/- Chapter 4, IsaCounts: the call returns true; no condition. -/
import Derived.Test.YtgaajaddaecejaaIsaR
namespace Go.Proofs.Ytgaajaddaecejaa.Isa
open Go.RowKit Go.Proofs.Ytgaajaddaecejaa.PAll Go.Proofs.Ytgaajaddaecejaa.Row Go.Proofs.Ytgaajaddaecejaa.Plain Go.Proofs.YtgaajaddaecejaaW.PrintWords Go.Proofs.YtgaajaddaecejaaW.PrintLast Go.Proofs.YtgaajaddaecejaaW.PrintMore
set_option linter.unusedVariables false
set_option linter.unusedSimpArgs false
/-- The counters after k words, by index. -/
def bump (f : Nat → Int) (n : Nat) : Nat → Int := fun i => if i = n then f i + 1 else f i
def cv : Nat → Nat → Int
  | 0 => fun _ => 0
  | k + 1 => bump (bump (cv k) (decB (k : Int)).toNat) (decX (k : Int)).toNat
def cA (f : Nat → Int) : Array Value := ((List.range 40).map fun i => Value.int .i64 (f i)).toArray
theorem cA_at (f : Nat → Int) (i : Nat) (h : i < 40) : (cA f)[i]? = some (.int .i64 (f i)) := by simp [cA, h]
theorem cA_set (f : Nat → Int) (n : Nat) (h : n < 40) : (cA f).setIfInBounds n (.int .i64 (f n + 1)) = cA (bump f n) := by
  apply Array.ext_getElem?
  intro i
  rw [Array.getElem?_setIfInBounds]
  by_cases hi : i < 40
  · by_cases e : n = i
    · subst e
      rw [if_pos rfl, if_pos (by simpa [cA] using h), cA_at _ _ h]
      simp [bump]
    · rw [if_neg e, cA_at _ _ hi, cA_at _ _ hi]
      simp [bump, Ne.symm e]
  · have h1 : (cA f)[i]? = none := by simp [cA]; omega
    have h2 : (cA (bump f n))[i]? = none := by simp [cA]; omega
    rw [if_neg (by omega), h1, h2]
/-- Of the words below k: how many lie in lo..hi. -/
def seg (lo hi : Int) (k : Nat) : Int := if (k : Int) ≤ lo then 0 else if (k : Int) ≤ hi + 1 then k - lo else hi + 1 - lo
def exc (c : Int) (k : Nat) : Int := if c = 1 then (if 3 < k then 1 else 0) + (if 4 < k then 1 else 0) + (if 6 < k then 1 else 0) else if c = 13 then (if 20495 < k then 1 else 0) else 0
def oneIf (p : Prop) [Decidable p] : Int := if p then 1 else 0
theorem seg_succ {lo hi : Int} (h : lo ≤ hi + 1) (h0 : 0 ≤ lo) (k : Nat) : seg lo hi (k + 1) = seg lo hi k + oneIf (lo ≤ (k : Int) ∧ (k : Int) ≤ hi) := by
  unfold seg oneIf
  split <;> split <;> split <;> (try split) <;> omega
theorem lt_step (m k : Nat) : (if m < k + 1 then (1 : Int) else 0) = (if m < k then 1 else 0) + (if k = m then 1 else 0) := by
  split <;> split <;> split <;> omega
theorem exc_succ (c : Int) (k : Nat) : exc c (k + 1) = exc c k + oneIf (c = 1 ∧ (k = 3 ∨ k = 4 ∨ k = 6) ∨ c = 13 ∧ k = 20495) := by
  unfold exc oneIf
  by_cases c1 : c = 1
  · have c13 : ¬ c = 13 := by omega
    rw [if_pos c1, if_pos c1, lt_step, lt_step, lt_step]
    by_cases k3 : k = 3
    · subst k3; simp [c1]
    by_cases k4 : k = 4
    · subst k4; simp [c1]
    by_cases k6 : k = 6
    · subst k6; simp [c1]
    simp [k3, k4, k6, c13]
  · rw [if_neg c1, if_neg c1]
    by_cases c13 : c = 13
    · rw [if_pos c13, if_pos c13, lt_step]
      by_cases k5 : k = 20495
      · subst k5; simp [c13]
      · simp [k5, c1]
    · rw [if_neg c13, if_neg c13, if_neg (by omega)]; rfl
theorem res_iff {c : Int} (h : 1 ≤ c ∧ c ≤ 39) (k : Nat) : resN c ((k : Int) - baseN c) = true ↔ (c = 1 ∧ (k = 3 ∨ k = 4 ∨ k = 6) ∨ c = 13 ∧ k = 20495) := by
  unfold resN
  by_cases c1 : c = 1
  · subst c1
    rw [tb_1.2.2]
    simp
    omega
  · by_cases c13 : c = 13
    · subst c13
      rw [tb_13.2.2]
      simp
      omega
    · simp [c1, c13]
/-- The counter of a code: the words of its operands, less the reserved ones. -/
theorem cv_eq {c : Int} (h : 1 ≤ c ∧ c ≤ 39) : ∀ k : Nat, k ≤ 32768 → cv k c.toNat = seg (baseN c + loK (kdN c)) (baseN c + hiK (kdN c)) k - exc c k
  | 0, _ => by
    have tb := tab_in h
    have e1 : seg (baseN c + loK (kdN c)) (baseN c + hiK (kdN c)) 0 = 0 := by unfold seg; rw [if_pos (by omega)]
    have e2 : exc c 0 = 0 := by unfold exc; simp
    rw [e1, e2]; rfl
  | k + 1, hk => by
    have ih := cv_eq h k (by omega)
    have tb := tab_in h
    have sp : loK (kdN c) ≤ hiK (kdN c) := of_decide_eq_true (all_bool (f := fun c => decide (loK (kdN c) ≤ hiK (kdN c))) (by kernel_rfl) h.1 h.2)
    have hb := decB_hit (k : Int) (by omega) (by omega)
    have hx := decX_hit (k : Int) (by omega) (by omega)
    rw [seg_succ (by omega) (by omega), exc_succ]
    have hit : hitP c k ↔ (baseN c + loK (kdN c) ≤ (k : Int) ∧ (k : Int) ≤ baseN c + hiK (kdN c)) ∧ ¬ (c = 1 ∧ (k = 3 ∨ k = 4 ∨ k = 6) ∨ c = 13 ∧ k = 20495) := by
      unfold hitP
      rw [← res_iff h k]
      constructor
      · rintro ⟨a, b, d⟩; exact ⟨⟨by omega, by omega⟩, by rw [d]; simp⟩
      · rintro ⟨⟨a, b⟩, d⟩; exact ⟨by omega, by omega, by simpa using d⟩
    have rin : (c = 1 ∧ (k = 3 ∨ k = 4 ∨ k = 6) ∨ c = 13 ∧ k = 20495) → (baseN c + loK (kdN c) ≤ (k : Int) ∧ (k : Int) ≤ baseN c + hiK (kdN c)) := by
      rintro (⟨rfl, q⟩ | ⟨rfl, q⟩)
      · rw [tb_1.1, tb_1.2.1, tb_1.2.2]; omega
      · rw [tb_13.1, tb_13.2.1, tb_13.2.2]; omega
    have hbc : decB (k : Int) = c ↔ c ≤ 19 ∧ hitP c k := by
      constructor
      · rintro rfl; exact ⟨hb.2.1, hb.2.2⟩
      · rintro ⟨a, b⟩; exact hit_decB h.1 a (by omega) (by omega) b
    have hxc : decX (k : Int) = c ↔ 20 ≤ c ∧ hitP c k := by
      constructor
      · rintro rfl; exact ⟨hx.1, hx.2.2⟩
      · rintro ⟨a, b⟩; exact hit_decX a h.2 (by omega) (by omega) b
    have hn : cv (k + 1) c.toNat = cv k c.toNat + oneIf (decB (k : Int) = c ∨ decX (k : Int) = c) := by
      unfold oneIf
      rw [cv]
      unfold bump
      by_cases q1 : decX (k : Int) = c
      · have : ¬ c.toNat = (decB (k : Int)).toNat := by omega
        rw [if_pos (by rw [q1]), if_neg this, if_pos (Or.inr q1)]
      · rw [if_neg (by omega)]
        by_cases q2 : decB (k : Int) = c
        · rw [if_pos (by rw [q2]), if_pos (Or.inl q2)]
        · rw [if_neg (by omega), if_neg (by omega)]; omega
    rw [hn, ih]
    unfold oneIf
    by_cases hc : hitP c k
    · obtain ⟨r1, r2⟩ := hit.1 hc
      rw [if_pos r1, if_neg r2, if_pos (show decB (k : Int) = c ∨ decX (k : Int) = c from (show c ≤ 19 ∨ 20 ≤ c by omega).elim (fun q => Or.inl (hbc.2 ⟨q, hc⟩)) (fun q => Or.inr (hxc.2 ⟨q, hc⟩)))]
      omega
    · rw [if_neg (show ¬ (decB (k : Int) = c ∨ decX (k : Int) = c) from fun q => q.elim (fun q => hc (hbc.1 q).2) (fun q => hc (hxc.1 q).2))]
      by_cases r1 : (baseN c + loK (kdN c) ≤ (k : Int) ∧ (k : Int) ≤ baseN c + hiK (kdN c))
      · have r2 : (c = 1 ∧ (k = 3 ∨ k = 4 ∨ k = 6) ∨ c = 13 ∧ k = 20495) := Classical.byContradiction fun q => hc (hit.2 ⟨r1, q⟩)
        rw [if_pos r1, if_pos r2]; omega
      · rw [if_neg r1, if_neg (fun q => r1 (rin q))]; omega
theorem cv_bounds (k : Nat) : ∀ i, 0 ≤ cv k i ∧ cv k i ≤ 2 * k := by
  induction k with
  | zero => intro i; exact ⟨Int.le_refl _, Int.le_refl _⟩
  | succ k ih =>
    intro i
    have := ih i
    rw [cv]
    unfold bump
    split <;> split <;> omega
/-- What the law wants of a code. -/
def wantN (c : Int) : Int := hiK (kdN c) - loK (kdN c) + 1 - (if c = 1 then 3 else if c = 13 then 1 else 0)
theorem cv_want {c : Int} (h : 1 ≤ c ∧ c ≤ 39) : cv 32768 c.toNat = wantN c := by
  rw [cv_eq h 32768 (by omega)]
  have tb := tab_in h
  have sp : loK (kdN c) ≤ hiK (kdN c) := of_decide_eq_true (all_bool (f := fun c => decide (loK (kdN c) ≤ hiK (kdN c))) (by kernel_rfl) h.1 h.2)
  have es : seg (baseN c + loK (kdN c)) (baseN c + hiK (kdN c)) 32768 = hiK (kdN c) + 1 - loK (kdN c) := by
    unfold seg; rw [if_neg (by omega)]; split <;> omega
  rw [es]
  unfold exc wantN
  by_cases c1 : c = 1
  · rw [if_pos c1, if_pos c1]; simp; omega
  · rw [if_neg c1, if_neg c1]
    by_cases c13 : c = 13
    · rw [if_pos c13, if_pos c13]; simp; omega
    · rw [if_neg c13, if_neg c13]; omega
theorem dec_at (v : Int) (x : Bool) (h0 : 0 ≤ v) (h1 : v ≤ 32767) : ∃ (m : Nat) (s : ByteArray) (kd bt cy n : Int), decN v x = (m : Int) ∧ isa_Decode.f 99 v x = some ((m : Int), s, x, kd, bt, cy, n, 0) := by
  have hp : 1 ≤ decN v x ∧ decN v x ≤ 39 ∧ decide (decN v x > 19) = x := by
    unfold decN
    cases x with
    | true => have hd := decX_hit v h0 h1; rw [if_pos rfl]; exact ⟨by omega, hd.2.1, decide_eq_true (by omega)⟩
    | false => have hd := decB_hit v h0 h1; rw [if_neg (by decide)]; exact ⟨hd.1, by omega, decide_eq_false (by omega)⟩
  have em : decN v x = ((decN v x).toNat : Int) := by omega
  refine ⟨(decN v x).toNat, (entOf (decN v x)).1, kdN (decN v x), widK (kdN (decN v x)), (entOf (decN v x)).2.2.2, v - baseN (decN v x), em, ?_⟩
  rw [dec_prog v x h0 h1 59, ← em]
  show some (pk (opN (decN v x)) (v - baseN (decN v x)) 0) = _
  unfold pk opN
  rw [hp.2.2]
theorem cA_zero : cA (cv 0) = #[.int .i64 0, .int .i64 0, .int .i64 0, .int .i64 0, .int .i64 0, .int .i64 0, .int .i64 0, .int .i64 0, .int .i64 0, .int .i64 0, .int .i64 0, .int .i64 0, .int .i64 0, .int .i64 0, .int .i64 0, .int .i64 0, .int .i64 0, .int .i64 0, .int .i64 0, .int .i64 0, .int .i64 0, .int .i64 0, .int .i64 0, .int .i64 0, .int .i64 0, .int .i64 0, .int .i64 0, .int .i64 0, .int .i64 0, .int .i64 0, .int .i64 0, .int .i64 0, .int .i64 0, .int .i64 0, .int .i64 0, .int .i64 0, .int .i64 0, .int .i64 0, .int .i64 0, .int .i64 0] := by kernel_rfl
set_option maxRecDepth 100000 in
set_option maxHeartbeats 4000000 in
theorem counts_law (w : World) : Calls Try.prog 9 #[] w fun e w' => e = .returned (.bool true) ∧ Below w.heap.size w w' := by
  have HB := Aside0.mk (Below.refl w.heap.size w)
  have WK := Lib.hid works_true
  go_enter Try.func9, Try.ntmps9
  go_wp2_with (first | ((with_reducible refine gate_dst (N := 1) rfl ?_); refine box_event ?hg (N := 1) ?hd (cs := #[.int .i64 0, .int .i64 0, .int .i64 0, .int .i64 0, .int .i64 0, .int .i64 0, .int .i64 0, .int .i64 0, .int .i64 0, .int .i64 0, .int .i64 0, .int .i64 0, .int .i64 0, .int .i64 0, .int .i64 0, .int .i64 0, .int .i64 0, .int .i64 0, .int .i64 0, .int .i64 0, .int .i64 0, .int .i64 0, .int .i64 0, .int .i64 0, .int .i64 0, .int .i64 0, .int .i64 0, .int .i64 0, .int .i64 0, .int .i64 0, .int .i64 0, .int .i64 0, .int .i64 0, .int .i64 0, .int .i64 0, .int .i64 0, .int .i64 0, .int .i64 0, .int .i64 0, .int .i64 0]) (t := 52) ?hr ?_; (case hd => rfl); (case hg => rfl); (case hr => first | kernel_rfl | (go_simp; done) | (go_simp; rfl)); intro g1 hg wb K hb; (try have NE3_1 := Aside0.mk (show g3 ≠ g1 from by have := blk_lt K3.out; rw [hg]; omega)); (try have NE6_1 := Aside0.mk (show g6 ≠ g1 from by have := blk_lt K6.out; rw [hg]; omega)); have L1 := Aside0.mk (show w.heap.size ≤ g1 from by rw [hg]; exact HB.out.size); (try replace K1 := Aside0.mk (blk_below K1.out hb)); (try replace K3 := Aside0.mk (blk_below K3.out hb)); (try replace K6 := Aside0.mk (blk_below K6.out hb)); replace HB := Aside0.mk (below_step HB.out hb); have K1 := Aside0.mk K; clear K hb hg; (try have x3_0 : wb.cell? ⟨g3, 0, none⟩ = some (.int .u8 (m : Int)) := (blk_cell K3.out 0).trans rfl); (try have x3_1 : wb.cell? ⟨g3, 1, none⟩ = some (.string s3) := (blk_cell K3.out 1).trans rfl); (try have x3_2 : wb.cell? ⟨g3, 2, none⟩ = some (.bool false) := (blk_cell K3.out 2).trans rfl); (try have x3_3 : wb.cell? ⟨g3, 3, none⟩ = some (.int .u8 kd3) := (blk_cell K3.out 3).trans rfl); (try have x3_4 : wb.cell? ⟨g3, 4, none⟩ = some (.int .i64 bt3) := (blk_cell K3.out 4).trans rfl); (try have x3_5 : wb.cell? ⟨g3, 5, none⟩ = some (.int .i64 cy3) := (blk_cell K3.out 5).trans rfl); (try have x6_0 : wb.cell? ⟨g6, 0, none⟩ = some (.int .u8 (p : Int)) := (blk_cell K6.out 0).trans rfl); (try have x6_1 : wb.cell? ⟨g6, 1, none⟩ = some (.string s6) := (blk_cell K6.out 1).trans rfl); (try have x6_2 : wb.cell? ⟨g6, 2, none⟩ = some (.bool true) := (blk_cell K6.out 2).trans rfl); (try have x6_3 : wb.cell? ⟨g6, 3, none⟩ = some (.int .u8 kd6) := (blk_cell K6.out 3).trans rfl); (try have x6_4 : wb.cell? ⟨g6, 4, none⟩ = some (.int .i64 bt6) := (blk_cell K6.out 4).trans rfl); (try have x6_5 : wb.cell? ⟨g6, 5, none⟩ = some (.int .i64 cy6) := (blk_cell K6.out 5).trans rfl)))
  rw [← cA_zero] at K1
  go_loopg [2] 32768 (fun g v2 w' => ∃ k : Nat, v2 = .int .i64 k ∧ Aside0 (k + g = 32768) ∧ Aside0 (w'.heap[g1]? = some (.cells (cA (cv k)) 52 (0, 0))) ∧ Aside0 (Below w.heap.size w w'))
  case atStart => exact ⟨0, rfl, ⟨rfl⟩, K1, HB⟩
  case round =>
    clear HB K1
    obtain ⟨k, rfl, hg, K1, HB⟩ := hrel
    cases gk with
    | zero =>
      obtain rfl : k = 32768 := by have := hg.out; omega
      clear hg
      rw [show ((32768 : Nat) : Int) = 32768 from rfl]
      go_wp2
      have hw := Lib.hid (fun (c : Int) (h : 1 ≤ c ∧ c ≤ 39) => cv_want h)
      obtain ⟨F, hF⟩ : ∃ F, cv 32768 = F := ⟨_, rfl⟩
      rw [hF] at K1
      have HW : Aside0 (∀ c : Int, 1 ≤ c ∧ c ≤ 39 → F c.toNat = wantN c) := ⟨fun c h => by rw [← hF]; exact hw.out c h⟩
      clear hw hF
      go_loopg [9] 39 (fun g v9 w' => ∃ i : Nat, v9 = .int .i64 (i : Int) ∧ Aside0 (1 ≤ i ∧ i + g = 40) ∧ Aside0 (w'.heap[g1]? = some (.cells (cA F) 52 (0, 0))) ∧ Aside0 (Below w.heap.size w w'))
      case atStart => exact ⟨1, rfl, ⟨by decide, by decide⟩, K1, HB⟩
      case round =>
        clear HB K1
        obtain ⟨i, rfl, hg, K1, HB⟩ := hrel
        cases gk with
        | zero =>
          obtain rfl : i = 40 := by have := hg.out; omega
          clear hg
          rw [show ((40 : Nat) : Int) = 40 from rfl]
          go_wp2_with (first | (go_at_call 20; (with_reducible refine at_args #[] ?_); (with_reducible refine (WK.out _).mono ?_); rintro e wc ⟨rfl, hb⟩; (try replace K1 := Aside0.mk (blk_below K1.out hb)); replace HB := Aside0.mk (below_step HB.out hb); clear hb))
          go_ret
          exact ⟨rfl, HB.out⟩
        | succ gq =>
          have hi : 1 ≤ (i : Int) ∧ (i : Int) ≤ 39 := by have := hg.out; omega
          have hwi := HW.out i hi
          rw [Int.toNat_natCast] at hwi
          have tb := tab_in hi
          have sp : loK (kdN i) ≤ hiK (kdN i) := of_decide_eq_true (all_bool (f := fun c => decide (loK (kdN c) ≤ hiK (kdN c))) (by kernel_rfl) hi.1 hi.2)
          have hof : isa_Of.f (i : Int) = some ((i : Int), (entOf i).1, decide ((i : Int) > 19), kdN i, widK (kdN i), (entOf i).2.2.2, 0) := by
            rw [of_prog, show ofN (i : Int) = opN (i : Int) by unfold ofN; rw [if_pos hi]]; rfl
          have hrg := range_prog (i : Int) (entOf i).1 (decide ((i : Int) > 19)) (kdN i) (widK (kdN i)) (entOf i).2.2.2
          unfold wantN at hwi
          obtain ⟨s, hs⟩ : ∃ s, (entOf (i : Int)).1 = s := ⟨_, rfl⟩
          obtain ⟨x, hx⟩ : ∃ x, decide ((i : Int) > 19) = x := ⟨_, rfl⟩
          obtain ⟨kd, hkd⟩ : ∃ kd, kdN (i : Int) = kd := ⟨_, rfl⟩
          obtain ⟨cy, hcy⟩ : ∃ cy, (entOf (i : Int)).2.2.2 = cy := ⟨_, rfl⟩
          rw [hs, hx, hkd, hcy] at hof hrg
          rw [hkd] at hwi tb sp
          obtain ⟨bt, hbt⟩ : ∃ bt, widK kd = bt := ⟨_, rfl⟩
          obtain ⟨lo, hlo⟩ : ∃ lo, loK kd = lo := ⟨_, rfl⟩
          obtain ⟨hh, hhi⟩ : ∃ hh, hiK kd = hh := ⟨_, rfl⟩
          rw [hbt] at hof hrg
          rw [hlo, hhi] at hwi tb sp hrg
          have OF := Aside0.mk hof
          have RG := Aside0.mk hrg
          have l0 : 0 ≤ lo := by omega
          have l1 : lo ≤ 4095 := by omega
          have h0 : 0 ≤ hh := by omega
          have h1 : hh ≤ 4095 := by omega
          have l2 : lo ≤ hh := sp
          have ew : IntKind.u8.wrap (i : Int) = (i : Int) := by rw [IntKind.wrap_u8]; omega
          have t0 : decide ((i : Int) ≤ 39) = true := decide_eq_true (by omega)
          have HG := Aside0.mk hg.out
          have I40 := Aside0.mk (show i < 40 by omega)
          obtain ⟨v, hv⟩ : ∃ v, F i = v := ⟨_, rfl⟩
          have HV := Aside0.mk hv
          rw [hv] at hwi
          have HWI := Aside0.mk hwi
          clear hwi hof hrg hs hx hkd hcy hbt hlo hhi tb sp hg hv hi
          by_cases c1 : i = 1
          · subst c1
            rw [show ((1 : Nat) : Int) = 1 from rfl] at *
            go_upto_region 21 with (first | (go_at_call 16; (with_reducible refine at_args #[.int .u8 1] ?_); (with_reducible refine (isa_Of.calls _ _ _ _ _ _ _ _ _ OF.out).mono ?_); rintro e wc ⟨rfl, hb⟩; (try replace K1 := Aside0.mk (blk_below K1.out hb)); (try replace K10 := Aside0.mk (blk_below K10.out hb)); replace HB := Aside0.mk (below_step HB.out hb); clear hb; (try have x10_0 : wc.cell? ⟨g10, 0, none⟩ = some (.int .u8 1) := (blk_cell K10.out 0).trans rfl); (try have x10_1 : wc.cell? ⟨g10, 1, none⟩ = some (.string s) := (blk_cell K10.out 1).trans rfl); (try have x10_2 : wc.cell? ⟨g10, 2, none⟩ = some (.bool x) := (blk_cell K10.out 2).trans rfl); (try have x10_3 : wc.cell? ⟨g10, 3, none⟩ = some (.int .u8 kd) := (blk_cell K10.out 3).trans rfl); (try have x10_4 : wc.cell? ⟨g10, 4, none⟩ = some (.int .i64 bt) := (blk_cell K10.out 4).trans rfl); (try have x10_5 : wc.cell? ⟨g10, 5, none⟩ = some (.int .i64 cy) := (blk_cell K10.out 5).trans rfl)) | (go_at_call 18; (with_reducible refine at_args #[.agg #[.int .u8 1, .string s, .bool x, .int .u8 kd, .int .i64 bt, .int .i64 cy]] ?_); (with_reducible refine (isa_Range.calls _ _ _ _ _ _ _ _ _ RG.out).mono ?_); rintro e wc ⟨rfl, hb⟩; (try replace K1 := Aside0.mk (blk_below K1.out hb)); (try replace K10 := Aside0.mk (blk_below K10.out hb)); replace HB := Aside0.mk (below_step HB.out hb); clear hb; (try have x10_0 : wc.cell? ⟨g10, 0, none⟩ = some (.int .u8 1) := (blk_cell K10.out 0).trans rfl); (try have x10_1 : wc.cell? ⟨g10, 1, none⟩ = some (.string s) := (blk_cell K10.out 1).trans rfl); (try have x10_2 : wc.cell? ⟨g10, 2, none⟩ = some (.bool x) := (blk_cell K10.out 2).trans rfl); (try have x10_3 : wc.cell? ⟨g10, 3, none⟩ = some (.int .u8 kd) := (blk_cell K10.out 3).trans rfl); (try have x10_4 : wc.cell? ⟨g10, 4, none⟩ = some (.int .i64 bt) := (blk_cell K10.out 4).trans rfl); (try have x10_5 : wc.cell? ⟨g10, 5, none⟩ = some (.int .i64 cy) := (blk_cell K10.out 5).trans rfl)) | ((with_reducible refine gate_dst (N := 10) rfl ?_); refine box_event ?hg (N := 10) ?hd (cs := #[.int .u8 0, .string (⟨#[]⟩ : ByteArray), .bool false, .int .u8 0, .int .i64 0, .int .i64 0]) (t := 28) ?hr ?_; (case hd => rfl); (case hg => rfl); (case hr => first | kernel_rfl | (go_simp; done) | (go_simp; rfl)); intro g10 hg wb K hb; (try have NE1_10 := Aside0.mk (show g1 ≠ g10 from by have := blk_lt K1.out; rw [hg]; omega)); have L10 := Aside0.mk (show w.heap.size ≤ g10 from by rw [hg]; exact HB.out.size); (try replace K1 := Aside0.mk (blk_below K1.out hb)); (try replace K10 := Aside0.mk (blk_below K10.out hb)); replace HB := Aside0.mk (below_step HB.out hb); have K10 := Aside0.mk K; clear K hb hg; (try have x10_0 : wb.cell? ⟨g10, 0, none⟩ = some (.int .u8 1) := (blk_cell K10.out 0).trans rfl); (try have x10_1 : wb.cell? ⟨g10, 1, none⟩ = some (.string s) := (blk_cell K10.out 1).trans rfl); (try have x10_2 : wb.cell? ⟨g10, 2, none⟩ = some (.bool x) := (blk_cell K10.out 2).trans rfl); (try have x10_3 : wb.cell? ⟨g10, 3, none⟩ = some (.int .u8 kd) := (blk_cell K10.out 3).trans rfl); (try have x10_4 : wb.cell? ⟨g10, 4, none⟩ = some (.int .i64 bt) := (blk_cell K10.out 4).trans rfl); (try have x10_5 : wb.cell? ⟨g10, 5, none⟩ = some (.int .i64 cy) := (blk_cell K10.out 5).trans rfl)) | (refine store_row_g rfl 28 (.tmp 10) (.tmp 79) rfl g10 rfl 28 _ #[.int .u8 1, .string s, .bool x, .int .u8 kd, .int .i64 bt, .int .i64 cy] rfl K10.out ?hi ?hs ?h1 ?_; (case hi => kernel_rfl); (case hs => rfl); (case h1 => kernel_rfl); intro ws hk hfar hbel hkp; replace HB := Aside0.mk (hbel _ _ HB.out L10.out); (try replace K1 := Aside0.mk ((hfar _ (by first | exact NE1_10.out | exact NE10_1.out.symm)).trans K1.out)); replace K10 := Aside0.mk hk; clear hk hfar hbel hkp; (try have x10_0 : ws.cell? ⟨g10, 0, none⟩ = some (.int .u8 1) := (blk_cell K10.out 0).trans rfl); (try have x10_1 : ws.cell? ⟨g10, 1, none⟩ = some (.string s) := (blk_cell K10.out 1).trans rfl); (try have x10_2 : ws.cell? ⟨g10, 2, none⟩ = some (.bool x) := (blk_cell K10.out 2).trans rfl); (try have x10_3 : ws.cell? ⟨g10, 3, none⟩ = some (.int .u8 kd) := (blk_cell K10.out 3).trans rfl); (try have x10_4 : ws.cell? ⟨g10, 4, none⟩ = some (.int .i64 bt) := (blk_cell K10.out 4).trans rfl); (try have x10_5 : ws.cell? ⟨g10, 5, none⟩ = some (.int .i64 cy) := (blk_cell K10.out 5).trans rfl)))
            have y1 : wc.cell? ⟨g1, 1, none⟩ = some (.int .i64 v) := by rw [← HV.out]; exact (blk_cell K1.out 1).trans (cA_at _ _ (by have := I40.out; omega))
            have ne : (v != hh - lo + 1 - 3) = false := by have q := HWI.out; simp at q; simp [q]
            go_wp2
            go_roundg gq
            case measure => omega
            case rel => exact ⟨1 + 1, by first | rfl | simp, ⟨by omega, by have := HG.out; omega⟩, K1, HB⟩
          by_cases c13 : i = 13
          · subst c13
            rw [show ((13 : Nat) : Int) = 13 from rfl] at *
            go_upto_region 21 with (first | (go_at_call 16; (with_reducible refine at_args #[.int .u8 13] ?_); (with_reducible refine (isa_Of.calls _ _ _ _ _ _ _ _ _ OF.out).mono ?_); rintro e wc ⟨rfl, hb⟩; (try replace K1 := Aside0.mk (blk_below K1.out hb)); (try replace K10 := Aside0.mk (blk_below K10.out hb)); replace HB := Aside0.mk (below_step HB.out hb); clear hb; (try have x10_0 : wc.cell? ⟨g10, 0, none⟩ = some (.int .u8 13) := (blk_cell K10.out 0).trans rfl); (try have x10_1 : wc.cell? ⟨g10, 1, none⟩ = some (.string s) := (blk_cell K10.out 1).trans rfl); (try have x10_2 : wc.cell? ⟨g10, 2, none⟩ = some (.bool x) := (blk_cell K10.out 2).trans rfl); (try have x10_3 : wc.cell? ⟨g10, 3, none⟩ = some (.int .u8 kd) := (blk_cell K10.out 3).trans rfl); (try have x10_4 : wc.cell? ⟨g10, 4, none⟩ = some (.int .i64 bt) := (blk_cell K10.out 4).trans rfl); (try have x10_5 : wc.cell? ⟨g10, 5, none⟩ = some (.int .i64 cy) := (blk_cell K10.out 5).trans rfl)) | (go_at_call 18; (with_reducible refine at_args #[.agg #[.int .u8 13, .string s, .bool x, .int .u8 kd, .int .i64 bt, .int .i64 cy]] ?_); (with_reducible refine (isa_Range.calls _ _ _ _ _ _ _ _ _ RG.out).mono ?_); rintro e wc ⟨rfl, hb⟩; (try replace K1 := Aside0.mk (blk_below K1.out hb)); (try replace K10 := Aside0.mk (blk_below K10.out hb)); replace HB := Aside0.mk (below_step HB.out hb); clear hb; (try have x10_0 : wc.cell? ⟨g10, 0, none⟩ = some (.int .u8 13) := (blk_cell K10.out 0).trans rfl); (try have x10_1 : wc.cell? ⟨g10, 1, none⟩ = some (.string s) := (blk_cell K10.out 1).trans rfl); (try have x10_2 : wc.cell? ⟨g10, 2, none⟩ = some (.bool x) := (blk_cell K10.out 2).trans rfl); (try have x10_3 : wc.cell? ⟨g10, 3, none⟩ = some (.int .u8 kd) := (blk_cell K10.out 3).trans rfl); (try have x10_4 : wc.cell? ⟨g10, 4, none⟩ = some (.int .i64 bt) := (blk_cell K10.out 4).trans rfl); (try have x10_5 : wc.cell? ⟨g10, 5, none⟩ = some (.int .i64 cy) := (blk_cell K10.out 5).trans rfl)) | ((with_reducible refine gate_dst (N := 10) rfl ?_); refine box_event ?hg (N := 10) ?hd (cs := #[.int .u8 0, .string (⟨#[]⟩ : ByteArray), .bool false, .int .u8 0, .int .i64 0, .int .i64 0]) (t := 28) ?hr ?_; (case hd => rfl); (case hg => rfl); (case hr => first | kernel_rfl | (go_simp; done) | (go_simp; rfl)); intro g10 hg wb K hb; (try have NE1_10 := Aside0.mk (show g1 ≠ g10 from by have := blk_lt K1.out; rw [hg]; omega)); have L10 := Aside0.mk (show w.heap.size ≤ g10 from by rw [hg]; exact HB.out.size); (try replace K1 := Aside0.mk (blk_below K1.out hb)); (try replace K10 := Aside0.mk (blk_below K10.out hb)); replace HB := Aside0.mk (below_step HB.out hb); have K10 := Aside0.mk K; clear K hb hg; (try have x10_0 : wb.cell? ⟨g10, 0, none⟩ = some (.int .u8 13) := (blk_cell K10.out 0).trans rfl); (try have x10_1 : wb.cell? ⟨g10, 1, none⟩ = some (.string s) := (blk_cell K10.out 1).trans rfl); (try have x10_2 : wb.cell? ⟨g10, 2, none⟩ = some (.bool x) := (blk_cell K10.out 2).trans rfl); (try have x10_3 : wb.cell? ⟨g10, 3, none⟩ = some (.int .u8 kd) := (blk_cell K10.out 3).trans rfl); (try have x10_4 : wb.cell? ⟨g10, 4, none⟩ = some (.int .i64 bt) := (blk_cell K10.out 4).trans rfl); (try have x10_5 : wb.cell? ⟨g10, 5, none⟩ = some (.int .i64 cy) := (blk_cell K10.out 5).trans rfl)) | (refine store_row_g rfl 28 (.tmp 10) (.tmp 79) rfl g10 rfl 28 _ #[.int .u8 13, .string s, .bool x, .int .u8 kd, .int .i64 bt, .int .i64 cy] rfl K10.out ?hi ?hs ?h1 ?_; (case hi => kernel_rfl); (case hs => rfl); (case h1 => kernel_rfl); intro ws hk hfar hbel hkp; replace HB := Aside0.mk (hbel _ _ HB.out L10.out); (try replace K1 := Aside0.mk ((hfar _ (by first | exact NE1_10.out | exact NE10_1.out.symm)).trans K1.out)); replace K10 := Aside0.mk hk; clear hk hfar hbel hkp; (try have x10_0 : ws.cell? ⟨g10, 0, none⟩ = some (.int .u8 13) := (blk_cell K10.out 0).trans rfl); (try have x10_1 : ws.cell? ⟨g10, 1, none⟩ = some (.string s) := (blk_cell K10.out 1).trans rfl); (try have x10_2 : ws.cell? ⟨g10, 2, none⟩ = some (.bool x) := (blk_cell K10.out 2).trans rfl); (try have x10_3 : ws.cell? ⟨g10, 3, none⟩ = some (.int .u8 kd) := (blk_cell K10.out 3).trans rfl); (try have x10_4 : ws.cell? ⟨g10, 4, none⟩ = some (.int .i64 bt) := (blk_cell K10.out 4).trans rfl); (try have x10_5 : ws.cell? ⟨g10, 5, none⟩ = some (.int .i64 cy) := (blk_cell K10.out 5).trans rfl)))
            have y1 : wc.cell? ⟨g1, 13, none⟩ = some (.int .i64 v) := by rw [← HV.out]; exact (blk_cell K1.out 13).trans (cA_at _ _ (by have := I40.out; omega))
            have ne : (v != hh - lo + 1 - 1) = false := by have q := HWI.out; simp at q; simp [q]
            go_wp2
            go_roundg gq
            case measure => omega
            case rel => exact ⟨13 + 1, by first | rfl | simp, ⟨by omega, by have := HG.out; omega⟩, K1, HB⟩
          have d1 : ((i : Int) == 1) = false := by simpa using (show ¬ (i : Int) = 1 by omega)
          have d13 : ((i : Int) == 13) = false := by simpa using (show ¬ (i : Int) = 13 by omega)
          have i40 : (i : Int) < 40 := by have := I40.out; omega
          have C1 := Aside0.mk c1
          have C13 := Aside0.mk c13
          clear c1 c13
          go_upto_region 21 with (first | (go_at_call 16; (with_reducible refine at_args #[.int .u8 (i : Int)] ?_); (with_reducible refine (isa_Of.calls _ _ _ _ _ _ _ _ _ OF.out).mono ?_); rintro e wc ⟨rfl, hb⟩; (try replace K1 := Aside0.mk (blk_below K1.out hb)); (try replace K10 := Aside0.mk (blk_below K10.out hb)); replace HB := Aside0.mk (below_step HB.out hb); clear hb; (try have x10_0 : wc.cell? ⟨g10, 0, none⟩ = some (.int .u8 (i : Int)) := (blk_cell K10.out 0).trans rfl); (try have x10_1 : wc.cell? ⟨g10, 1, none⟩ = some (.string s) := (blk_cell K10.out 1).trans rfl); (try have x10_2 : wc.cell? ⟨g10, 2, none⟩ = some (.bool x) := (blk_cell K10.out 2).trans rfl); (try have x10_3 : wc.cell? ⟨g10, 3, none⟩ = some (.int .u8 kd) := (blk_cell K10.out 3).trans rfl); (try have x10_4 : wc.cell? ⟨g10, 4, none⟩ = some (.int .i64 bt) := (blk_cell K10.out 4).trans rfl); (try have x10_5 : wc.cell? ⟨g10, 5, none⟩ = some (.int .i64 cy) := (blk_cell K10.out 5).trans rfl)) | (go_at_call 18; (with_reducible refine at_args #[.agg #[.int .u8 (i : Int), .string s, .bool x, .int .u8 kd, .int .i64 bt, .int .i64 cy]] ?_); (with_reducible refine (isa_Range.calls _ _ _ _ _ _ _ _ _ RG.out).mono ?_); rintro e wc ⟨rfl, hb⟩; (try replace K1 := Aside0.mk (blk_below K1.out hb)); (try replace K10 := Aside0.mk (blk_below K10.out hb)); replace HB := Aside0.mk (below_step HB.out hb); clear hb; (try have x10_0 : wc.cell? ⟨g10, 0, none⟩ = some (.int .u8 (i : Int)) := (blk_cell K10.out 0).trans rfl); (try have x10_1 : wc.cell? ⟨g10, 1, none⟩ = some (.string s) := (blk_cell K10.out 1).trans rfl); (try have x10_2 : wc.cell? ⟨g10, 2, none⟩ = some (.bool x) := (blk_cell K10.out 2).trans rfl); (try have x10_3 : wc.cell? ⟨g10, 3, none⟩ = some (.int .u8 kd) := (blk_cell K10.out 3).trans rfl); (try have x10_4 : wc.cell? ⟨g10, 4, none⟩ = some (.int .i64 bt) := (blk_cell K10.out 4).trans rfl); (try have x10_5 : wc.cell? ⟨g10, 5, none⟩ = some (.int .i64 cy) := (blk_cell K10.out 5).trans rfl)) | ((with_reducible refine gate_dst (N := 10) rfl ?_); refine box_event ?hg (N := 10) ?hd (cs := #[.int .u8 0, .string (⟨#[]⟩ : ByteArray), .bool false, .int .u8 0, .int .i64 0, .int .i64 0]) (t := 28) ?hr ?_; (case hd => rfl); (case hg => rfl); (case hr => first | kernel_rfl | (go_simp; done) | (go_simp; rfl)); intro g10 hg wb K hb; (try have NE1_10 := Aside0.mk (show g1 ≠ g10 from by have := blk_lt K1.out; rw [hg]; omega)); have L10 := Aside0.mk (show w.heap.size ≤ g10 from by rw [hg]; exact HB.out.size); (try replace K1 := Aside0.mk (blk_below K1.out hb)); (try replace K10 := Aside0.mk (blk_below K10.out hb)); replace HB := Aside0.mk (below_step HB.out hb); have K10 := Aside0.mk K; clear K hb hg; (try have x10_0 : wb.cell? ⟨g10, 0, none⟩ = some (.int .u8 (i : Int)) := (blk_cell K10.out 0).trans rfl); (try have x10_1 : wb.cell? ⟨g10, 1, none⟩ = some (.string s) := (blk_cell K10.out 1).trans rfl); (try have x10_2 : wb.cell? ⟨g10, 2, none⟩ = some (.bool x) := (blk_cell K10.out 2).trans rfl); (try have x10_3 : wb.cell? ⟨g10, 3, none⟩ = some (.int .u8 kd) := (blk_cell K10.out 3).trans rfl); (try have x10_4 : wb.cell? ⟨g10, 4, none⟩ = some (.int .i64 bt) := (blk_cell K10.out 4).trans rfl); (try have x10_5 : wb.cell? ⟨g10, 5, none⟩ = some (.int .i64 cy) := (blk_cell K10.out 5).trans rfl)) | (refine store_row_g rfl 28 (.tmp 10) (.tmp 79) rfl g10 rfl 28 _ #[.int .u8 (i : Int), .string s, .bool x, .int .u8 kd, .int .i64 bt, .int .i64 cy] rfl K10.out ?hi ?hs ?h1 ?_; (case hi => kernel_rfl); (case hs => rfl); (case h1 => kernel_rfl); intro ws hk hfar hbel hkp; replace HB := Aside0.mk (hbel _ _ HB.out L10.out); (try replace K1 := Aside0.mk ((hfar _ (by first | exact NE1_10.out | exact NE10_1.out.symm)).trans K1.out)); replace K10 := Aside0.mk hk; clear hk hfar hbel hkp; (try have x10_0 : ws.cell? ⟨g10, 0, none⟩ = some (.int .u8 (i : Int)) := (blk_cell K10.out 0).trans rfl); (try have x10_1 : ws.cell? ⟨g10, 1, none⟩ = some (.string s) := (blk_cell K10.out 1).trans rfl); (try have x10_2 : ws.cell? ⟨g10, 2, none⟩ = some (.bool x) := (blk_cell K10.out 2).trans rfl); (try have x10_3 : ws.cell? ⟨g10, 3, none⟩ = some (.int .u8 kd) := (blk_cell K10.out 3).trans rfl); (try have x10_4 : ws.cell? ⟨g10, 4, none⟩ = some (.int .i64 bt) := (blk_cell K10.out 4).trans rfl); (try have x10_5 : ws.cell? ⟨g10, 5, none⟩ = some (.int .i64 cy) := (blk_cell K10.out 5).trans rfl)))
          have y1 : wc.cell? ⟨g1, i, none⟩ = some (.int .i64 v) := by rw [← HV.out]; exact (blk_cell K1.out i).trans (cA_at _ _ (by have := I40.out; omega))
          have ne : (v != hh - lo + 1) = false := by have := HWI.out; rw [if_neg (by have := C1.out; omega), if_neg (by have := C13.out; omega)] at this; simpa using this
          go_wp2
          go_roundg gq
          case measure => omega
          case rel => exact ⟨i + 1, by first | rfl | simp, ⟨by omega, by have := HG.out; omega⟩, K1, HB⟩
    | succ gq =>
      have hk : k < 32768 := by have := hg.out; omega
      obtain ⟨m, s3, kd3, bt3, cy3, n3, hm, hd3⟩ := dec_at (k : Int) false (by omega) (by omega)
      obtain ⟨p, s6, kd6, bt6, cy6, n6, hp, hd6⟩ := dec_at (k : Int) true (by omega) (by omega)
      have hb := decB_hit (k : Int) (by omega) (by omega)
      have hx := decX_hit (k : Int) (by omega) (by omega)
      have hmB : decB (k : Int) = (m : Int) := hm
      have hpX : decX (k : Int) = (p : Int) := hp
      have bm : 1 ≤ m ∧ m ≤ 19 := by omega
      have bp : 20 ≤ p ∧ p ≤ 39 := by omega
      have hcv : cv (k + 1) = bump (bump (cv k) m) p := by rw [cv, hmB, hpX]; rfl
      have CV := Lib.hid hcv
      have D3 := Aside0.mk hd3
      have D6 := Aside0.mk hd6
      have bx := cv_bounds k m
      have by_ := cv_bounds k p
      obtain ⟨x, hx0⟩ : ∃ x, cv k m = x := ⟨_, rfl⟩
      obtain ⟨y, hy0⟩ : ∃ y, cv k p = y := ⟨_, rfl⟩
      rw [hx0] at bx
      rw [hy0] at by_
      have HX := Aside0.mk hx0
      have HY := Aside0.mk hy0
      have ew : IntKind.u16.wrap (k : Int) = (k : Int) := by rw [IntKind.wrap_u16]; omega
      have t1 : decide ((m : Int) < 1) = false := decide_eq_false (by omega)
      have t2 : decide ((19 : Int) < (m : Int)) = false := decide_eq_false (by omega)
      have t3 : decide ((p : Int) < 20) = false := decide_eq_false (by omega)
      have t4 : decide ((39 : Int) < (p : Int)) = false := decide_eq_false (by omega)
      have bx1 : x ≤ 65536 := by omega
      have by1 : y ≤ 65536 := by omega
      have bx0 := bx.1
      have by0 := by_.1
      have m40 : (m : Int) < 40 := by omega
      have p40 : (p : Int) < 40 := by omega
      have HG := Aside0.mk hg.out
      have HBM := Aside0.mk bm
      have HBP := Aside0.mk bp
      have t0 : decide ((k : Int) < 32768) = true := decide_eq_true (by omega)
      have mp := Aside0.mk (show m ≠ p by omega)
      clear hb hx hm hp hmB hpX hcv hd3 hd6 bx by_ hx0 hy0 hg bm bp hk
      go_upto_region 9 with (first | (go_at_call 23; (with_reducible refine at_args #[.int .u16 (k : Int), .bool false] ?_); (with_reducible refine (isa_Decode.calls 99 _ false _ _ _ _ _ _ _ _ _ D3.out).mono ?_); rintro e wc ⟨rfl, hb⟩; (try replace K1 := Aside0.mk (blk_below K1.out hb)); (try replace K3 := Aside0.mk (blk_below K3.out hb)); (try replace K6 := Aside0.mk (blk_below K6.out hb)); replace HB := Aside0.mk (below_step HB.out hb); clear hb; (try have x3_0 : wc.cell? ⟨g3, 0, none⟩ = some (.int .u8 (m : Int)) := (blk_cell K3.out 0).trans rfl); (try have x3_1 : wc.cell? ⟨g3, 1, none⟩ = some (.string s3) := (blk_cell K3.out 1).trans rfl); (try have x3_2 : wc.cell? ⟨g3, 2, none⟩ = some (.bool false) := (blk_cell K3.out 2).trans rfl); (try have x3_3 : wc.cell? ⟨g3, 3, none⟩ = some (.int .u8 kd3) := (blk_cell K3.out 3).trans rfl); (try have x3_4 : wc.cell? ⟨g3, 4, none⟩ = some (.int .i64 bt3) := (blk_cell K3.out 4).trans rfl); (try have x3_5 : wc.cell? ⟨g3, 5, none⟩ = some (.int .i64 cy3) := (blk_cell K3.out 5).trans rfl); (try have x6_0 : wc.cell? ⟨g6, 0, none⟩ = some (.int .u8 (p : Int)) := (blk_cell K6.out 0).trans rfl); (try have x6_1 : wc.cell? ⟨g6, 1, none⟩ = some (.string s6) := (blk_cell K6.out 1).trans rfl); (try have x6_2 : wc.cell? ⟨g6, 2, none⟩ = some (.bool true) := (blk_cell K6.out 2).trans rfl); (try have x6_3 : wc.cell? ⟨g6, 3, none⟩ = some (.int .u8 kd6) := (blk_cell K6.out 3).trans rfl); (try have x6_4 : wc.cell? ⟨g6, 4, none⟩ = some (.int .i64 bt6) := (blk_cell K6.out 4).trans rfl); (try have x6_5 : wc.cell? ⟨g6, 5, none⟩ = some (.int .i64 cy6) := (blk_cell K6.out 5).trans rfl)) | (go_at_call 23; (with_reducible refine at_args #[.int .u16 (k : Int), .bool true] ?_); (with_reducible refine (isa_Decode.calls 99 _ true _ _ _ _ _ _ _ _ _ D6.out).mono ?_); rintro e wc ⟨rfl, hb⟩; (try replace K1 := Aside0.mk (blk_below K1.out hb)); (try replace K3 := Aside0.mk (blk_below K3.out hb)); (try replace K6 := Aside0.mk (blk_below K6.out hb)); replace HB := Aside0.mk (below_step HB.out hb); clear hb; (try have x3_0 : wc.cell? ⟨g3, 0, none⟩ = some (.int .u8 (m : Int)) := (blk_cell K3.out 0).trans rfl); (try have x3_1 : wc.cell? ⟨g3, 1, none⟩ = some (.string s3) := (blk_cell K3.out 1).trans rfl); (try have x3_2 : wc.cell? ⟨g3, 2, none⟩ = some (.bool false) := (blk_cell K3.out 2).trans rfl); (try have x3_3 : wc.cell? ⟨g3, 3, none⟩ = some (.int .u8 kd3) := (blk_cell K3.out 3).trans rfl); (try have x3_4 : wc.cell? ⟨g3, 4, none⟩ = some (.int .i64 bt3) := (blk_cell K3.out 4).trans rfl); (try have x3_5 : wc.cell? ⟨g3, 5, none⟩ = some (.int .i64 cy3) := (blk_cell K3.out 5).trans rfl); (try have x6_0 : wc.cell? ⟨g6, 0, none⟩ = some (.int .u8 (p : Int)) := (blk_cell K6.out 0).trans rfl); (try have x6_1 : wc.cell? ⟨g6, 1, none⟩ = some (.string s6) := (blk_cell K6.out 1).trans rfl); (try have x6_2 : wc.cell? ⟨g6, 2, none⟩ = some (.bool true) := (blk_cell K6.out 2).trans rfl); (try have x6_3 : wc.cell? ⟨g6, 3, none⟩ = some (.int .u8 kd6) := (blk_cell K6.out 3).trans rfl); (try have x6_4 : wc.cell? ⟨g6, 4, none⟩ = some (.int .i64 bt6) := (blk_cell K6.out 4).trans rfl); (try have x6_5 : wc.cell? ⟨g6, 5, none⟩ = some (.int .i64 cy6) := (blk_cell K6.out 5).trans rfl)) | ((with_reducible refine gate_dst (N := 3) rfl ?_); refine box_event ?hg (N := 3) ?hd (cs := #[.int .u8 0, .string (⟨#[]⟩ : ByteArray), .bool false, .int .u8 0, .int .i64 0, .int .i64 0]) (t := 28) ?hr ?_; (case hd => rfl); (case hg => rfl); (case hr => first | kernel_rfl | (go_simp; done) | (go_simp; rfl)); intro g3 hg wb K hb; (try have NE1_3 := Aside0.mk (show g1 ≠ g3 from by have := blk_lt K1.out; rw [hg]; omega)); (try have NE6_3 := Aside0.mk (show g6 ≠ g3 from by have := blk_lt K6.out; rw [hg]; omega)); have L3 := Aside0.mk (show w.heap.size ≤ g3 from by rw [hg]; exact HB.out.size); (try replace K1 := Aside0.mk (blk_below K1.out hb)); (try replace K3 := Aside0.mk (blk_below K3.out hb)); (try replace K6 := Aside0.mk (blk_below K6.out hb)); replace HB := Aside0.mk (below_step HB.out hb); have K3 := Aside0.mk K; clear K hb hg; (try have x3_0 : wb.cell? ⟨g3, 0, none⟩ = some (.int .u8 (m : Int)) := (blk_cell K3.out 0).trans rfl); (try have x3_1 : wb.cell? ⟨g3, 1, none⟩ = some (.string s3) := (blk_cell K3.out 1).trans rfl); (try have x3_2 : wb.cell? ⟨g3, 2, none⟩ = some (.bool false) := (blk_cell K3.out 2).trans rfl); (try have x3_3 : wb.cell? ⟨g3, 3, none⟩ = some (.int .u8 kd3) := (blk_cell K3.out 3).trans rfl); (try have x3_4 : wb.cell? ⟨g3, 4, none⟩ = some (.int .i64 bt3) := (blk_cell K3.out 4).trans rfl); (try have x3_5 : wb.cell? ⟨g3, 5, none⟩ = some (.int .i64 cy3) := (blk_cell K3.out 5).trans rfl); (try have x6_0 : wb.cell? ⟨g6, 0, none⟩ = some (.int .u8 (p : Int)) := (blk_cell K6.out 0).trans rfl); (try have x6_1 : wb.cell? ⟨g6, 1, none⟩ = some (.string s6) := (blk_cell K6.out 1).trans rfl); (try have x6_2 : wb.cell? ⟨g6, 2, none⟩ = some (.bool true) := (blk_cell K6.out 2).trans rfl); (try have x6_3 : wb.cell? ⟨g6, 3, none⟩ = some (.int .u8 kd6) := (blk_cell K6.out 3).trans rfl); (try have x6_4 : wb.cell? ⟨g6, 4, none⟩ = some (.int .i64 bt6) := (blk_cell K6.out 4).trans rfl); (try have x6_5 : wb.cell? ⟨g6, 5, none⟩ = some (.int .i64 cy6) := (blk_cell K6.out 5).trans rfl)) | ((with_reducible refine gate_dst (N := 6) rfl ?_); refine box_event ?hg (N := 6) ?hd (cs := #[.int .u8 0, .string (⟨#[]⟩ : ByteArray), .bool false, .int .u8 0, .int .i64 0, .int .i64 0]) (t := 28) ?hr ?_; (case hd => rfl); (case hg => rfl); (case hr => first | kernel_rfl | (go_simp; done) | (go_simp; rfl)); intro g6 hg wb K hb; (try have NE1_6 := Aside0.mk (show g1 ≠ g6 from by have := blk_lt K1.out; rw [hg]; omega)); (try have NE3_6 := Aside0.mk (show g3 ≠ g6 from by have := blk_lt K3.out; rw [hg]; omega)); have L6 := Aside0.mk (show w.heap.size ≤ g6 from by rw [hg]; exact HB.out.size); (try replace K1 := Aside0.mk (blk_below K1.out hb)); (try replace K3 := Aside0.mk (blk_below K3.out hb)); (try replace K6 := Aside0.mk (blk_below K6.out hb)); replace HB := Aside0.mk (below_step HB.out hb); have K6 := Aside0.mk K; clear K hb hg; (try have x3_0 : wb.cell? ⟨g3, 0, none⟩ = some (.int .u8 (m : Int)) := (blk_cell K3.out 0).trans rfl); (try have x3_1 : wb.cell? ⟨g3, 1, none⟩ = some (.string s3) := (blk_cell K3.out 1).trans rfl); (try have x3_2 : wb.cell? ⟨g3, 2, none⟩ = some (.bool false) := (blk_cell K3.out 2).trans rfl); (try have x3_3 : wb.cell? ⟨g3, 3, none⟩ = some (.int .u8 kd3) := (blk_cell K3.out 3).trans rfl); (try have x3_4 : wb.cell? ⟨g3, 4, none⟩ = some (.int .i64 bt3) := (blk_cell K3.out 4).trans rfl); (try have x3_5 : wb.cell? ⟨g3, 5, none⟩ = some (.int .i64 cy3) := (blk_cell K3.out 5).trans rfl); (try have x6_0 : wb.cell? ⟨g6, 0, none⟩ = some (.int .u8 (p : Int)) := (blk_cell K6.out 0).trans rfl); (try have x6_1 : wb.cell? ⟨g6, 1, none⟩ = some (.string s6) := (blk_cell K6.out 1).trans rfl); (try have x6_2 : wb.cell? ⟨g6, 2, none⟩ = some (.bool true) := (blk_cell K6.out 2).trans rfl); (try have x6_3 : wb.cell? ⟨g6, 3, none⟩ = some (.int .u8 kd6) := (blk_cell K6.out 3).trans rfl); (try have x6_4 : wb.cell? ⟨g6, 4, none⟩ = some (.int .i64 bt6) := (blk_cell K6.out 4).trans rfl); (try have x6_5 : wb.cell? ⟨g6, 5, none⟩ = some (.int .i64 cy6) := (blk_cell K6.out 5).trans rfl)) | (refine store_row_g rfl 28 (.tmp 3) (.tmp 23) rfl g3 rfl 28 _ #[.int .u8 (m : Int), .string s3, .bool false, .int .u8 kd3, .int .i64 bt3, .int .i64 cy3] rfl K3.out ?hi ?hs ?h1 ?_; (case hi => kernel_rfl); (case hs => rfl); (case h1 => kernel_rfl); intro ws hk hfar hbel hkp; replace HB := Aside0.mk (hbel _ _ HB.out L3.out); (try replace K1 := Aside0.mk ((hfar _ (by first | exact NE1_3.out | exact NE3_1.out.symm)).trans K1.out)); (try replace K6 := Aside0.mk ((hfar _ (by first | exact NE6_3.out | exact NE3_6.out.symm)).trans K6.out)); replace K3 := Aside0.mk hk; clear hk hfar hbel hkp; (try have x3_0 : ws.cell? ⟨g3, 0, none⟩ = some (.int .u8 (m : Int)) := (blk_cell K3.out 0).trans rfl); (try have x3_1 : ws.cell? ⟨g3, 1, none⟩ = some (.string s3) := (blk_cell K3.out 1).trans rfl); (try have x3_2 : ws.cell? ⟨g3, 2, none⟩ = some (.bool false) := (blk_cell K3.out 2).trans rfl); (try have x3_3 : ws.cell? ⟨g3, 3, none⟩ = some (.int .u8 kd3) := (blk_cell K3.out 3).trans rfl); (try have x3_4 : ws.cell? ⟨g3, 4, none⟩ = some (.int .i64 bt3) := (blk_cell K3.out 4).trans rfl); (try have x3_5 : ws.cell? ⟨g3, 5, none⟩ = some (.int .i64 cy3) := (blk_cell K3.out 5).trans rfl); (try have x6_0 : ws.cell? ⟨g6, 0, none⟩ = some (.int .u8 (p : Int)) := (blk_cell K6.out 0).trans rfl); (try have x6_1 : ws.cell? ⟨g6, 1, none⟩ = some (.string s6) := (blk_cell K6.out 1).trans rfl); (try have x6_2 : ws.cell? ⟨g6, 2, none⟩ = some (.bool true) := (blk_cell K6.out 2).trans rfl); (try have x6_3 : ws.cell? ⟨g6, 3, none⟩ = some (.int .u8 kd6) := (blk_cell K6.out 3).trans rfl); (try have x6_4 : ws.cell? ⟨g6, 4, none⟩ = some (.int .i64 bt6) := (blk_cell K6.out 4).trans rfl); (try have x6_5 : ws.cell? ⟨g6, 5, none⟩ = some (.int .i64 cy6) := (blk_cell K6.out 5).trans rfl)) | (refine store_row_g rfl 28 (.tmp 6) (.tmp 30) rfl g6 rfl 28 _ #[.int .u8 (p : Int), .string s6, .bool true, .int .u8 kd6, .int .i64 bt6, .int .i64 cy6] rfl K6.out ?hi ?hs ?h1 ?_; (case hi => kernel_rfl); (case hs => rfl); (case h1 => kernel_rfl); intro ws hk hfar hbel hkp; replace HB := Aside0.mk (hbel _ _ HB.out L6.out); (try replace K1 := Aside0.mk ((hfar _ (by first | exact NE1_6.out | exact NE6_1.out.symm)).trans K1.out)); (try replace K3 := Aside0.mk ((hfar _ (by first | exact NE3_6.out | exact NE6_3.out.symm)).trans K3.out)); replace K6 := Aside0.mk hk; clear hk hfar hbel hkp; (try have x3_0 : ws.cell? ⟨g3, 0, none⟩ = some (.int .u8 (m : Int)) := (blk_cell K3.out 0).trans rfl); (try have x3_1 : ws.cell? ⟨g3, 1, none⟩ = some (.string s3) := (blk_cell K3.out 1).trans rfl); (try have x3_2 : ws.cell? ⟨g3, 2, none⟩ = some (.bool false) := (blk_cell K3.out 2).trans rfl); (try have x3_3 : ws.cell? ⟨g3, 3, none⟩ = some (.int .u8 kd3) := (blk_cell K3.out 3).trans rfl); (try have x3_4 : ws.cell? ⟨g3, 4, none⟩ = some (.int .i64 bt3) := (blk_cell K3.out 4).trans rfl); (try have x3_5 : ws.cell? ⟨g3, 5, none⟩ = some (.int .i64 cy3) := (blk_cell K3.out 5).trans rfl); (try have x6_0 : ws.cell? ⟨g6, 0, none⟩ = some (.int .u8 (p : Int)) := (blk_cell K6.out 0).trans rfl); (try have x6_1 : ws.cell? ⟨g6, 1, none⟩ = some (.string s6) := (blk_cell K6.out 1).trans rfl); (try have x6_2 : ws.cell? ⟨g6, 2, none⟩ = some (.bool true) := (blk_cell K6.out 2).trans rfl); (try have x6_3 : ws.cell? ⟨g6, 3, none⟩ = some (.int .u8 kd6) := (blk_cell K6.out 3).trans rfl); (try have x6_4 : ws.cell? ⟨g6, 4, none⟩ = some (.int .i64 bt6) := (blk_cell K6.out 4).trans rfl); (try have x6_5 : ws.cell? ⟨g6, 5, none⟩ = some (.int .i64 cy6) := (blk_cell K6.out 5).trans rfl)))
      have y1 : ws.cell? ⟨g1, m, none⟩ = some (.int .i64 x) := by rw [← HX.out]; exact (blk_cell K1.out m).trans (cA_at _ _ (by have := HBM.out; omega))
      have f1 : ws.frozen? ⟨g1, m, none⟩ = false := blk_frozen K1.out m
      go_upto_region 10 with fail
      have K1b : Aside0 ((World.heap (World.setCell ws ⟨g1, m, none⟩ (.int .i64 (x + 1))))[g1]? = some (.cells (cA (bump (cv k) m)) 52 (0, 0))) := ⟨blk_put K1.out m _ (by rw [← HX.out]; exact cA_set _ _ (by have := HBM.out; omega))⟩
      have K6b := Aside0.mk (blk_far K6.out (p := ⟨g1, m, none⟩) (fun e => NE1_6.out e.symm) (.int .i64 (x + 1)))
      have HBb := Aside0.mk (below_set (j := m) (v := .int .i64 (x + 1)) HB.out L1.out)
      have x6_0 := (blk_cell K6b.out 0).trans (rfl : _ = some (Value.int .u8 (p : Int)))
      clear y1 f1 HB K1 K3 K6
      generalize World.setCell ws ⟨g1, m, none⟩ (.int .i64 (x + 1)) = w9 at K1b K6b HBb x6_0 ⊢
      have y2 : w9.cell? ⟨g1, p, none⟩ = some (.int .i64 y) := by
        rw [← HY.out]
        refine (blk_cell K1b.out p).trans ((cA_at _ _ (by have := HBP.out; omega)).trans ?_)
        unfold bump; rw [if_neg (fun e => mp.out e.symm)]
      have f2 : w9.frozen? ⟨g1, p, none⟩ = false := blk_frozen K1b.out p
      go_wp2
      have K1c : Aside0 ((World.heap (World.setCell w9 ⟨g1, p, none⟩ (.int .i64 (y + 1))))[g1]? = some (.cells (cA (cv (k + 1))) 52 (0, 0))) := by
        refine ⟨blk_put K1b.out p _ ?_⟩
        rw [CV.out]
        have e : y = bump (cv k) m p := by rw [← HY.out]; unfold bump; rw [if_neg (fun e => mp.out e.symm)]
        rw [e]; exact cA_set _ _ (by have := HBP.out; omega)
      have HBc := Aside0.mk (below_set (j := p) (v := .int .i64 (y + 1)) HBb.out L1.out)
      go_roundg gq
      case measure => omega
      case rel => exact ⟨k + 1, by have := HG.out; first | rfl | (simp; exact w64 (by omega) (by omega)), ⟨by have := HG.out; omega⟩, K1c, HBc⟩
end Go.Proofs.Ytgaajaddaecejaa.Isa
