/- Functions of the program as plain Lean functions, each with the proof that its call computes it (printed by program, cut by leafx.py): perilunelaw04_IsaNames. -/
import Derived.Test.YtgaajaddaecejaaIsaW
namespace Go.Proofs.Ytgaajaddaecejaa.PAll
open Go.RowKit Go.Proofs.YtgaajaddaecejaaW.PrintWords Go.Proofs.YtgaajaddaecejaaW.PrintLast Go.Proofs.YtgaajaddaecejaaW.PrintMore
attribute [local go_sem] max2_int min2_int max_two min_two max_three min_three max_four min_four   -- for this text's walks alone
set_option linter.unusedVariables false
set_option linter.unusedSimpArgs false

attribute [local go_sem high] eqA28
/-! ### perilunelaw04_IsaNames: function 3 -/
def perilunelaw04_IsaNames.j0 : Nat → ByteArray → Int → Int → Bool → Option (Bool)
  | 0, _, _, _, _ => none
  | k + 1, x0, x1, x2, x60 => if x60 = true then (some false) else ((isa_Range.f x1 x0 false x2 0 0).bind fun bt344 => ((periluneref04_Range.f 0 (⟨#[]⟩ : ByteArray) false x2 0 0).bind fun bt346 => (if bt344.1 = bt346.1 then (if bt344.2 = bt346.2 then ((perilunelaw04_works.f k).bind fun t348 => (some t348)) else (some false)) else (some false))))
def perilunelaw04_IsaNames.f (k : Nat) (a0 : ByteArray) (a1 : Int) (a2 : Int) : Option (Bool) := (isa_Names.f k).bind fun t305 => ((periluneref04_Names.f).bind fun t308 => ((periluneref04_Texts.f k t305 t308).bind fun t311 => (if t311 = true then ((isa_Find.f k a0).bind fun bt312 => ((periluneref04_Find.f k a0).bind fun bt320 => ((isa_Of.f a1).bind fun bt328 => ((periluneref04_Of.f k a1).bind fun bt336 => (if (!(bt312.1 == bt320.1) || (!(bt312.2.1.toList == bt320.2.1.toList) || (!(bt312.2.2.1 == bt320.2.2.1) || (!(bt312.2.2.2.1 == bt320.2.2.2.1) || (!(bt312.2.2.2.2.1 == bt320.2.2.2.2.1) || (!(bt312.2.2.2.2.2.1 == bt320.2.2.2.2.2.1))))))) = true then (perilunelaw04_IsaNames.j0 k a0 a1 a2 true) else (if bt312.2.2.2.2.2.2 = bt320.2.2.2.2.2.2 then (if (!(bt328.1 == bt336.1) || (!(bt328.2.1.toList == bt336.2.1.toList) || (!(bt328.2.2.1 == bt336.2.2.1) || (!(bt328.2.2.2.1 == bt336.2.2.2.1) || (!(bt328.2.2.2.2.1 == bt336.2.2.2.2.1) || (!(bt328.2.2.2.2.2.1 == bt336.2.2.2.2.2.1))))))) = true then (perilunelaw04_IsaNames.j0 k a0 a1 a2 true) else (perilunelaw04_IsaNames.j0 k a0 a1 a2 (bt328.2.2.2.2.2.2 != bt336.2.2.2.2.2.2))) else (perilunelaw04_IsaNames.j0 k a0 a1 a2 true))))))) else (some false))))
theorem perilunelaw04_IsaNames.mono_l : ∀ k, (∀ y0 y1 y2 y3, LeO (perilunelaw04_IsaNames.j0 k y0 y1 y2 y3) (perilunelaw04_IsaNames.j0 (k + 1) y0 y1 y2 y3))
  | 0 => fun _ _ _ _ r h => by simp [perilunelaw04_IsaNames.j0] at h
  | k + 1 => by
    have ih0 := perilunelaw04_IsaNames.mono_l k
    · intro y0 y1 y2 y3
      unfold perilunelaw04_IsaNames.j0
      repeat' first
      | (with_reducible exact ih0 _ _ _ _)
      | (with_reducible exact isa_Find.mono _ _)
      | (with_reducible exact isa_Names.mono _)
      | (with_reducible exact perilunelaw04_works.mono _)
      | (with_reducible exact periluneref04_Find.mono _ _)
      | (with_reducible exact periluneref04_Of.mono _ _)
      | (with_reducible exact periluneref04_Texts.mono _ _ _)
      | (with_reducible exact LeO.refl _)
      | (with_reducible exact LeO.none _)
      | (with_reducible refine LeO.ite ?_ ?_)
      | (with_reducible refine LeO.bind ?_ (fun _ => ?_))
      | exact ih0 _ _ _ _
      | exact isa_Find.mono _ _
      | exact isa_Names.mono _
      | exact perilunelaw04_works.mono _
      | exact periluneref04_Find.mono _ _
      | exact periluneref04_Of.mono _ _
      | exact periluneref04_Texts.mono _ _ _
      | exact LeO.none _
      | refine LeO.ite ?_ ?_
      | refine LeO.bind ?_ (fun _ => ?_)
theorem perilunelaw04_IsaNames.mono : ∀ a0 a1 a2 k, LeO (perilunelaw04_IsaNames.f k a0 a1 a2) (perilunelaw04_IsaNames.f (k + 1) a0 a1 a2) := by
  intro a0 a1 a2 k
  have ih0 := perilunelaw04_IsaNames.mono_l k
  unfold perilunelaw04_IsaNames.f
  repeat' first
      | (with_reducible exact ih0 _ _ _ _)
      | (with_reducible exact isa_Find.mono _ _)
      | (with_reducible exact isa_Names.mono _)
      | (with_reducible exact perilunelaw04_works.mono _)
      | (with_reducible exact periluneref04_Find.mono _ _)
      | (with_reducible exact periluneref04_Of.mono _ _)
      | (with_reducible exact periluneref04_Texts.mono _ _ _)
      | (with_reducible exact LeO.refl _)
      | (with_reducible exact LeO.none _)
      | (with_reducible refine LeO.ite ?_ ?_)
      | (with_reducible refine LeO.bind ?_ (fun _ => ?_))
      | exact ih0 _ _ _ _
      | exact isa_Find.mono _ _
      | exact isa_Names.mono _
      | exact perilunelaw04_works.mono _
      | exact periluneref04_Find.mono _ _
      | exact periluneref04_Of.mono _ _
      | exact periluneref04_Texts.mono _ _ _
      | exact LeO.none _
      | refine LeO.ite ?_ ?_
      | refine LeO.bind ?_ (fun _ => ?_)
set_option maxHeartbeats 8000000 in
set_option maxRecDepth 100000 in
theorem perilunelaw04_IsaNames.calls (k : Nat) (a0 : ByteArray) (a1 : Int) (a2 : Int) (r : Bool) (w : World) (h : perilunelaw04_IsaNames.f k a0 a1 a2 = some r) :
    Calls Try.prog 3 #[.string a0, .int .u8 a1, .int .u8 a2] w fun e w' => e = .returned (.bool r) ∧ Below w.heap.size w w' := by
  have hu28 := Try.underlying28
  have HB := Aside0.mk (Below.refl w.heap.size w)
  have H : ((isa_Names.f k).bind fun t305 => ((periluneref04_Names.f).bind fun t308 => ((periluneref04_Texts.f k t305 t308).bind fun t311 => (if t311 = true then ((isa_Find.f k a0).bind fun bt312 => ((periluneref04_Find.f k a0).bind fun bt320 => ((isa_Of.f a1).bind fun bt328 => ((periluneref04_Of.f k a1).bind fun bt336 => (if (!(bt312.1 == bt320.1) || (!(bt312.2.1.toList == bt320.2.1.toList) || (!(bt312.2.2.1 == bt320.2.2.1) || (!(bt312.2.2.2.1 == bt320.2.2.2.1) || (!(bt312.2.2.2.2.1 == bt320.2.2.2.2.1) || (!(bt312.2.2.2.2.2.1 == bt320.2.2.2.2.2.1))))))) = true then (perilunelaw04_IsaNames.j0 k a0 a1 a2 true) else (if bt312.2.2.2.2.2.2 = bt320.2.2.2.2.2.2 then (if (!(bt328.1 == bt336.1) || (!(bt328.2.1.toList == bt336.2.1.toList) || (!(bt328.2.2.1 == bt336.2.2.1) || (!(bt328.2.2.2.1 == bt336.2.2.2.1) || (!(bt328.2.2.2.2.1 == bt336.2.2.2.2.1) || (!(bt328.2.2.2.2.2.1 == bt336.2.2.2.2.2.1))))))) = true then (perilunelaw04_IsaNames.j0 k a0 a1 a2 true) else (perilunelaw04_IsaNames.j0 k a0 a1 a2 (bt328.2.2.2.2.2.2 != bt336.2.2.2.2.2.2))) else (perilunelaw04_IsaNames.j0 k a0 a1 a2 true))))))) else (some false))))) = some r := h
  clear h
  replace H := Option.bind_eq_some_iff.mp H
  obtain ⟨t305, A40, H⟩ := H
  replace H : ((periluneref04_Names.f).bind fun t308 => ((periluneref04_Texts.f k t305 t308).bind fun t311 => (if t311 = true then ((isa_Find.f k a0).bind fun bt312 => ((periluneref04_Find.f k a0).bind fun bt320 => ((isa_Of.f a1).bind fun bt328 => ((periluneref04_Of.f k a1).bind fun bt336 => (if (!(bt312.1 == bt320.1) || (!(bt312.2.1.toList == bt320.2.1.toList) || (!(bt312.2.2.1 == bt320.2.2.1) || (!(bt312.2.2.2.1 == bt320.2.2.2.1) || (!(bt312.2.2.2.2.1 == bt320.2.2.2.2.1) || (!(bt312.2.2.2.2.2.1 == bt320.2.2.2.2.2.1))))))) = true then (perilunelaw04_IsaNames.j0 k a0 a1 a2 true) else (if bt312.2.2.2.2.2.2 = bt320.2.2.2.2.2.2 then (if (!(bt328.1 == bt336.1) || (!(bt328.2.1.toList == bt336.2.1.toList) || (!(bt328.2.2.1 == bt336.2.2.1) || (!(bt328.2.2.2.1 == bt336.2.2.2.1) || (!(bt328.2.2.2.2.1 == bt336.2.2.2.2.1) || (!(bt328.2.2.2.2.2.1 == bt336.2.2.2.2.2.1))))))) = true then (perilunelaw04_IsaNames.j0 k a0 a1 a2 true) else (perilunelaw04_IsaNames.j0 k a0 a1 a2 (bt328.2.2.2.2.2.2 != bt336.2.2.2.2.2.2))) else (perilunelaw04_IsaNames.j0 k a0 a1 a2 true))))))) else (some false)))) = some r := H
  have A4 := Aside0.mk A40
  clear A40
  replace H := Option.bind_eq_some_iff.mp H
  obtain ⟨t308, A50, H⟩ := H
  replace H : ((periluneref04_Texts.f k t305 t308).bind fun t311 => (if t311 = true then ((isa_Find.f k a0).bind fun bt312 => ((periluneref04_Find.f k a0).bind fun bt320 => ((isa_Of.f a1).bind fun bt328 => ((periluneref04_Of.f k a1).bind fun bt336 => (if (!(bt312.1 == bt320.1) || (!(bt312.2.1.toList == bt320.2.1.toList) || (!(bt312.2.2.1 == bt320.2.2.1) || (!(bt312.2.2.2.1 == bt320.2.2.2.1) || (!(bt312.2.2.2.2.1 == bt320.2.2.2.2.1) || (!(bt312.2.2.2.2.2.1 == bt320.2.2.2.2.2.1))))))) = true then (perilunelaw04_IsaNames.j0 k a0 a1 a2 true) else (if bt312.2.2.2.2.2.2 = bt320.2.2.2.2.2.2 then (if (!(bt328.1 == bt336.1) || (!(bt328.2.1.toList == bt336.2.1.toList) || (!(bt328.2.2.1 == bt336.2.2.1) || (!(bt328.2.2.2.1 == bt336.2.2.2.1) || (!(bt328.2.2.2.2.1 == bt336.2.2.2.2.1) || (!(bt328.2.2.2.2.2.1 == bt336.2.2.2.2.2.1))))))) = true then (perilunelaw04_IsaNames.j0 k a0 a1 a2 true) else (perilunelaw04_IsaNames.j0 k a0 a1 a2 (bt328.2.2.2.2.2.2 != bt336.2.2.2.2.2.2))) else (perilunelaw04_IsaNames.j0 k a0 a1 a2 true))))))) else (some false))) = some r := H
  have A5 := Aside0.mk A50
  clear A50
  replace H := Option.bind_eq_some_iff.mp H
  obtain ⟨t311, A60, H⟩ := H
  replace H : (if t311 = true then ((isa_Find.f k a0).bind fun bt312 => ((periluneref04_Find.f k a0).bind fun bt320 => ((isa_Of.f a1).bind fun bt328 => ((periluneref04_Of.f k a1).bind fun bt336 => (if (!(bt312.1 == bt320.1) || (!(bt312.2.1.toList == bt320.2.1.toList) || (!(bt312.2.2.1 == bt320.2.2.1) || (!(bt312.2.2.2.1 == bt320.2.2.2.1) || (!(bt312.2.2.2.2.1 == bt320.2.2.2.2.1) || (!(bt312.2.2.2.2.2.1 == bt320.2.2.2.2.2.1))))))) = true then (perilunelaw04_IsaNames.j0 k a0 a1 a2 true) else (if bt312.2.2.2.2.2.2 = bt320.2.2.2.2.2.2 then (if (!(bt328.1 == bt336.1) || (!(bt328.2.1.toList == bt336.2.1.toList) || (!(bt328.2.2.1 == bt336.2.2.1) || (!(bt328.2.2.2.1 == bt336.2.2.2.1) || (!(bt328.2.2.2.2.1 == bt336.2.2.2.2.1) || (!(bt328.2.2.2.2.2.1 == bt336.2.2.2.2.2.1))))))) = true then (perilunelaw04_IsaNames.j0 k a0 a1 a2 true) else (perilunelaw04_IsaNames.j0 k a0 a1 a2 (bt328.2.2.2.2.2.2 != bt336.2.2.2.2.2.2))) else (perilunelaw04_IsaNames.j0 k a0 a1 a2 true))))))) else (some false)) = some r := H
  have A6 := Aside0.mk A60
  clear A60
  by_cases c7 : t311 = true
  · subst c7
    have H1 : ((isa_Find.f k a0).bind fun bt312 => ((periluneref04_Find.f k a0).bind fun bt320 => ((isa_Of.f a1).bind fun bt328 => ((periluneref04_Of.f k a1).bind fun bt336 => (if (!(bt312.1 == bt320.1) || (!(bt312.2.1.toList == bt320.2.1.toList) || (!(bt312.2.2.1 == bt320.2.2.1) || (!(bt312.2.2.2.1 == bt320.2.2.2.1) || (!(bt312.2.2.2.2.1 == bt320.2.2.2.2.1) || (!(bt312.2.2.2.2.2.1 == bt320.2.2.2.2.2.1))))))) = true then (perilunelaw04_IsaNames.j0 k a0 a1 a2 true) else (if bt312.2.2.2.2.2.2 = bt320.2.2.2.2.2.2 then (if (!(bt328.1 == bt336.1) || (!(bt328.2.1.toList == bt336.2.1.toList) || (!(bt328.2.2.1 == bt336.2.2.1) || (!(bt328.2.2.2.1 == bt336.2.2.2.1) || (!(bt328.2.2.2.2.1 == bt336.2.2.2.2.1) || (!(bt328.2.2.2.2.2.1 == bt336.2.2.2.2.2.1))))))) = true then (perilunelaw04_IsaNames.j0 k a0 a1 a2 true) else (perilunelaw04_IsaNames.j0 k a0 a1 a2 (bt328.2.2.2.2.2.2 != bt336.2.2.2.2.2.2))) else (perilunelaw04_IsaNames.j0 k a0 a1 a2 true))))))) = some r := by rw [if_pos rfl] at H; exact H
    clear H
    have H := H1
    clear H1
    replace H := Option.bind_eq_some_iff.mp H
    obtain ⟨⟨t312, t313, t314, t315, t316, t317, t318⟩, A80, H⟩ := H
    replace H : ((periluneref04_Find.f k a0).bind fun bt320 => ((isa_Of.f a1).bind fun bt328 => ((periluneref04_Of.f k a1).bind fun bt336 => (if (!(t312 == bt320.1) || (!(t313.toList == bt320.2.1.toList) || (!(t314 == bt320.2.2.1) || (!(t315 == bt320.2.2.2.1) || (!(t316 == bt320.2.2.2.2.1) || (!(t317 == bt320.2.2.2.2.2.1))))))) = true then (perilunelaw04_IsaNames.j0 k a0 a1 a2 true) else (if t318 = bt320.2.2.2.2.2.2 then (if (!(bt328.1 == bt336.1) || (!(bt328.2.1.toList == bt336.2.1.toList) || (!(bt328.2.2.1 == bt336.2.2.1) || (!(bt328.2.2.2.1 == bt336.2.2.2.1) || (!(bt328.2.2.2.2.1 == bt336.2.2.2.2.1) || (!(bt328.2.2.2.2.2.1 == bt336.2.2.2.2.2.1))))))) = true then (perilunelaw04_IsaNames.j0 k a0 a1 a2 true) else (perilunelaw04_IsaNames.j0 k a0 a1 a2 (bt328.2.2.2.2.2.2 != bt336.2.2.2.2.2.2))) else (perilunelaw04_IsaNames.j0 k a0 a1 a2 true)))))) = some r := H
    have A8 := Aside0.mk A80
    clear A80
    replace H := Option.bind_eq_some_iff.mp H
    obtain ⟨⟨t320, t321, t322, t323, t324, t325, t326⟩, A90, H⟩ := H
    replace H : ((isa_Of.f a1).bind fun bt328 => ((periluneref04_Of.f k a1).bind fun bt336 => (if (!(t312 == t320) || (!(t313.toList == t321.toList) || (!(t314 == t322) || (!(t315 == t323) || (!(t316 == t324) || (!(t317 == t325))))))) = true then (perilunelaw04_IsaNames.j0 k a0 a1 a2 true) else (if t318 = t326 then (if (!(bt328.1 == bt336.1) || (!(bt328.2.1.toList == bt336.2.1.toList) || (!(bt328.2.2.1 == bt336.2.2.1) || (!(bt328.2.2.2.1 == bt336.2.2.2.1) || (!(bt328.2.2.2.2.1 == bt336.2.2.2.2.1) || (!(bt328.2.2.2.2.2.1 == bt336.2.2.2.2.2.1))))))) = true then (perilunelaw04_IsaNames.j0 k a0 a1 a2 true) else (perilunelaw04_IsaNames.j0 k a0 a1 a2 (bt328.2.2.2.2.2.2 != bt336.2.2.2.2.2.2))) else (perilunelaw04_IsaNames.j0 k a0 a1 a2 true))))) = some r := H
    have A9 := Aside0.mk A90
    clear A90
    replace H := Option.bind_eq_some_iff.mp H
    obtain ⟨⟨t328, t329, t330, t331, t332, t333, t334⟩, A100, H⟩ := H
    replace H : ((periluneref04_Of.f k a1).bind fun bt336 => (if (!(t312 == t320) || (!(t313.toList == t321.toList) || (!(t314 == t322) || (!(t315 == t323) || (!(t316 == t324) || (!(t317 == t325))))))) = true then (perilunelaw04_IsaNames.j0 k a0 a1 a2 true) else (if t318 = t326 then (if (!(t328 == bt336.1) || (!(t329.toList == bt336.2.1.toList) || (!(t330 == bt336.2.2.1) || (!(t331 == bt336.2.2.2.1) || (!(t332 == bt336.2.2.2.2.1) || (!(t333 == bt336.2.2.2.2.2.1))))))) = true then (perilunelaw04_IsaNames.j0 k a0 a1 a2 true) else (perilunelaw04_IsaNames.j0 k a0 a1 a2 (t334 != bt336.2.2.2.2.2.2))) else (perilunelaw04_IsaNames.j0 k a0 a1 a2 true)))) = some r := H
    have A10 := Aside0.mk A100
    clear A100
    replace H := Option.bind_eq_some_iff.mp H
    obtain ⟨⟨t336, t337, t338, t339, t340, t341, t342⟩, A110, H⟩ := H
    replace H : (if (!(t312 == t320) || (!(t313.toList == t321.toList) || (!(t314 == t322) || (!(t315 == t323) || (!(t316 == t324) || (!(t317 == t325))))))) = true then (perilunelaw04_IsaNames.j0 k a0 a1 a2 true) else (if t318 = t326 then (if (!(t328 == t336) || (!(t329.toList == t337.toList) || (!(t330 == t338) || (!(t331 == t339) || (!(t332 == t340) || (!(t333 == t341))))))) = true then (perilunelaw04_IsaNames.j0 k a0 a1 a2 true) else (perilunelaw04_IsaNames.j0 k a0 a1 a2 (t334 != t342))) else (perilunelaw04_IsaNames.j0 k a0 a1 a2 true))) = some r := H
    have A11 := Aside0.mk A110
    clear A110
    have HC12 := Aside0.mk H
    clear H
    go_enter Try.func3, Try.ntmps3
    go_upto_region 7 with (first | ((with_reducible refine gate_callee (f := 12) rfl ?_); refine goesL_ (some 19) rfl rfl Try.func12 (by kernel_rfl) rfl #[] rfl (by (try simp only [List.map_toArray, List.map_cons, List.map_nil]); first | done | rfl | (simp only [List.length_drop, List.length_take]; rfl)) ?_; (with_reducible refine (isa_Names.calls k  t305 _ A4.out).mono ?_); rintro e w13 ⟨v306, rfl, ho0, hb⟩; refine ⟨_, rfl, ?_⟩; have n0_ := Aside0.mk (Kd.R_lower ho0 (below_size (by repeat (first | (with_reducible first | exact HB.out | apply below_alloc | apply pw_below_drewN | apply below_drew1) | exact HB.out)))); have n1_ := Aside0.mk (below_step (by repeat (first | (with_reducible first | exact HB.out | apply below_alloc | apply pw_below_drewN | apply below_drew1) | exact HB.out)) hb); clear HB; have HO307 := n0_; have HB := n1_; clear n0_ n1_; (try clear hb); (try clear hb2); (try clear hk); (try clear hi); (try clear ho0)) | ((with_reducible refine gate_callee (f := 13) rfl ?_); refine goesL_ (some 20) rfl rfl Try.func13 (by kernel_rfl) rfl #[] rfl (by (try simp only [List.map_toArray, List.map_cons, List.map_nil]); first | done | rfl | (simp only [List.length_drop, List.length_take]; rfl)) ?_; (with_reducible refine (periluneref04_Names.calls  t308 _ A5.out).mono ?_); rintro e w14 ⟨v309, rfl, ho0, hb⟩; refine ⟨_, rfl, ?_⟩; have n0_ := Aside0.mk (Kd.R_elder' (by (with_reducible repeat (first | apply Kd.R_alloc | apply Kd.R_drewN | apply Kd.R_drew)); exact HO307.out) (Kd.R_base ho0) hb); have n1_ := Aside0.mk (Kd.R_lower (Kd.R_new' ho0 (Kd.R_lt (by (with_reducible repeat (first | apply Kd.R_alloc | apply Kd.R_drewN | apply Kd.R_drew)); exact HO307.out))) (below_size (by repeat (first | (with_reducible first | exact HB.out | apply below_alloc | apply pw_below_drewN | apply below_drew1) | exact HB.out)))); have n2_ := Aside0.mk (below_step (by repeat (first | (with_reducible first | exact HB.out | apply below_alloc | apply pw_below_drewN | apply below_drew1) | exact HB.out)) hb); clear HO307; clear HB; have HO307 := n0_; have HO310 := n1_; have HB := n2_; clear n0_ n1_ n2_; (try clear hb); (try clear hb2); (try clear hk); (try clear hi); (try clear ho0); obtain ⟨Ao15, co15, eo15⟩ := Kd.R_slice HO307.out; subst eo15; obtain ⟨Ao16, co16, eo16⟩ := Kd.R_slice HO310.out; subst eo16) | ((with_reducible refine gate_callee (f := 11) rfl ?_); refine goesL_ (some 21) rfl rfl Try.func11 (by kernel_rfl) rfl #[.slice Ao15 t305.length co15, .slice Ao16 t308.length co16] rfl (by (try simp only [List.map_toArray, List.map_cons, List.map_nil]); first | done | rfl | (simp only [List.length_drop, List.length_take]; rfl)) ?_; (with_reducible refine (periluneref04_Texts.calls k _ _ t305 _ _ t308 true _ ?side1 ?side2 ?side3 ?side4 A6.out).mono ?_); (case side1 => repeat (first | exact (Kd.R_reads' HO307.out).2.2 | (with_reducible refine Kd.C_alloc ?_ _) | (with_reducible refine Kd.C_drewN ?_ _) | (with_reducible refine Kd.C_drew ?_))); (case side2 => exact (Kd.R_reads' HO307.out).2.1); (case side3 => repeat (first | exact (Kd.R_reads' HO310.out).2.2 | (with_reducible refine Kd.C_alloc ?_ _) | (with_reducible refine Kd.C_drewN ?_ _) | (with_reducible refine Kd.C_drew ?_))); (case side4 => exact (Kd.R_reads' HO310.out).2.1); rintro e w' ⟨rfl, ⟨nd, rfl⟩⟩; refine ⟨_, rfl, ?_⟩; (try (rw [drewN_self w14]; generalize hq_ : World.drewN w14 _ = w14; have n0_ : Aside0 (Kd.R Kd.string 9 w14 w.heap.size (fun k_ => some k_ ≠ (.slice Ao16 t308.length co16 : Value).ownBlock) (.slice Ao15 t305.length co15) t305) := ⟨by rw [← hq_]; exact (by (with_reducible repeat (first | apply Kd.R_alloc | apply Kd.R_drewN | apply Kd.R_drew)); exact Kd.R_mono HO307.out (fun _ hk => hk.2))⟩; have n1_ : Aside0 (Kd.R Kd.string 9 w14 w.heap.size (fun k_ => some k_ ≠ (.slice Ao15 t305.length co15 : Value).ownBlock) (.slice Ao16 t308.length co16) t308) := ⟨by rw [← hq_]; exact (by (with_reducible repeat (first | apply Kd.R_alloc | apply Kd.R_drewN | apply Kd.R_drew)); exact Kd.R_mono HO310.out (fun _ hk => hk.2))⟩; have n2_ : Aside0 (Below w.heap.size w w14) := ⟨by rw [← hq_]; exact (by repeat (first | (with_reducible first | exact HB.out | apply below_alloc | apply pw_below_drewN | apply below_drew1) | exact HB.out))⟩; clear HO307 HO310 HB hq_; have HO307 := n0_; have HO310 := n1_; have HB := n2_; clear n0_ n1_ n2_))) | ((with_reducible refine gate_callee (f := 14) rfl ?_); refine goesL_ (some 25) rfl rfl Try.func14 (by kernel_rfl) rfl #[.string a0] rfl (by (try simp only [List.map_toArray, List.map_cons, List.map_nil]); first | done | rfl | (simp only [List.length_drop, List.length_take]; rfl)) ?_; (with_reducible refine (isa_Find.calls k a0 t312 t313 t314 t315 t316 t317 t318 _ A8.out).mono ?_); rintro e w17 ⟨rfl, hb⟩; refine ⟨_, rfl, ?_⟩; have n0_ := Aside0.mk (Kd.R_below (by (with_reducible repeat (first | apply Kd.R_alloc | apply Kd.R_drewN | apply Kd.R_drew)); exact HO307.out) hb); have n1_ := Aside0.mk (Kd.R_below (by (with_reducible repeat (first | apply Kd.R_alloc | apply Kd.R_drewN | apply Kd.R_drew)); exact HO310.out) hb); have n2_ := Aside0.mk (below_step (by repeat (first | (with_reducible first | exact HB.out | apply below_alloc | apply pw_below_drewN | apply below_drew1) | exact HB.out)) hb); clear HO307; clear HO310; clear HB; have HO307 := n0_; have HO310 := n1_; have HB := n2_; clear n0_ n1_ n2_; (try clear hb); (try clear hb2); (try clear hk); (try clear hi)) | ((with_reducible refine gate_dst (N := 7) rfl ?_); refine box_event ?hg (N := 7) ?hd (cs := #[.int .u8 0, .string (⟨#[]⟩ : ByteArray), .bool false, .int .u8 0, .int .i64 0, .int .i64 0]) (t := 28) ?hr ?_; (case hd => rfl); (case hg => rfl); (case hr => first | (go_simp; done) | (go_simp; rfl)); intro gb319 hg w18 hbox hb; have n0_ := Aside0.mk (Kd.R_below (by (with_reducible repeat (first | apply Kd.R_alloc | apply Kd.R_drewN | apply Kd.R_drew)); exact HO307.out) hb); have n1_ := Aside0.mk (Kd.R_below (by (with_reducible repeat (first | apply Kd.R_alloc | apply Kd.R_drewN | apply Kd.R_drew)); exact HO310.out) hb); have n2_ := Aside0.mk (below_step (by repeat (first | (with_reducible first | exact HB.out | apply below_alloc | apply pw_below_drewN | apply below_drew1) | exact HB.out)) hb); have n3_ := Aside0.mk (hbox); have n4_ := Aside0.mk ((by rw [hg]; exact (below_size (by repeat (first | (with_reducible first | exact HB.out | apply below_alloc | apply pw_below_drewN | apply below_drew1) | exact HB.out))) : w.heap.size ≤ gb319)); have n5_ := Aside0.mk ((by rw [hg]; exact (below_size (by repeat (first | (with_reducible first | exact HB.out | apply below_alloc | apply pw_below_drewN | apply below_drew1) | exact HB.out))) : w.heap.size ≤ gb319)); clear HO307; clear HO310; clear HB; have HO307 := n0_; have HO310 := n1_; have HB := n2_; have BK319 := n3_; have GW319 := n4_; have GE319 := n5_; clear n0_ n1_ n2_ n3_ n4_ n5_; clear hb hbox hg; have hcz19_0 : w18.cell? ⟨gb319, 0, none⟩ = some (.int .u8 0) := (blk_cell BK319.out 0).trans rfl; have hcz19_1 : w18.cell? ⟨gb319, 1, none⟩ = some (.string (⟨#[]⟩ : ByteArray)) := (blk_cell BK319.out 1).trans rfl; have hcz19_2 : w18.cell? ⟨gb319, 2, none⟩ = some (.bool false) := (blk_cell BK319.out 2).trans rfl; have hcz19_3 : w18.cell? ⟨gb319, 3, none⟩ = some (.int .u8 0) := (blk_cell BK319.out 3).trans rfl; have hcz19_4 : w18.cell? ⟨gb319, 4, none⟩ = some (.int .i64 0) := (blk_cell BK319.out 4).trans rfl; have hcz19_5 : w18.cell? ⟨gb319, 5, none⟩ = some (.int .i64 0) := (blk_cell BK319.out 5).trans rfl; have hfz19_0 := blk_frozen BK319.out 0; have hfz19_1 := blk_frozen BK319.out 1; have hfz19_2 := blk_frozen BK319.out 2; have hfz19_3 := blk_frozen BK319.out 3; have hfz19_4 := blk_frozen BK319.out 4; have hfz19_5 := blk_frozen BK319.out 5) | ((with_reducible refine gate_callee (f := 15) rfl ?_); refine goesL_ (some 30) rfl rfl Try.func15 (by kernel_rfl) rfl #[.string a0] rfl (by (try simp only [List.map_toArray, List.map_cons, List.map_nil]); first | done | rfl | (simp only [List.length_drop, List.length_take]; rfl)) ?_; (with_reducible refine (periluneref04_Find.calls k a0 t320 t321 t322 t323 t324 t325 t326 _ A9.out).mono ?_); rintro e w20 ⟨rfl, hb⟩; refine ⟨_, rfl, ?_⟩; have n0_ := Aside0.mk (Kd.R_below (by (with_reducible repeat (first | apply Kd.R_alloc | apply Kd.R_drewN | apply Kd.R_drew)); exact (Kd.R_mono (Kd.R_far (p := ⟨gb319, 5, none⟩) (Kd.R_far (p := ⟨gb319, 4, none⟩) (Kd.R_far (p := ⟨gb319, 3, none⟩) (Kd.R_far (p := ⟨gb319, 2, none⟩) (Kd.R_far (p := ⟨gb319, 1, none⟩) (Kd.R_far (p := ⟨gb319, 0, none⟩) (Kd.R_types HO307.out BK319.out (by decide)) (fun _ hk => hk.2) (.int .u8 t312)) (fun _ hk => hk.2) (.string t313)) (fun _ hk => hk.2) (.bool t314)) (fun _ hk => hk.2) (.int .u8 t315)) (fun _ hk => hk.2) (.int .i64 t316)) (fun _ hk => hk.2) (.int .i64 t317)) (fun _ h_ => h_.1))) hb); have n1_ := Aside0.mk (Kd.R_below (by (with_reducible repeat (first | apply Kd.R_alloc | apply Kd.R_drewN | apply Kd.R_drew)); exact (Kd.R_mono (Kd.R_far (p := ⟨gb319, 5, none⟩) (Kd.R_far (p := ⟨gb319, 4, none⟩) (Kd.R_far (p := ⟨gb319, 3, none⟩) (Kd.R_far (p := ⟨gb319, 2, none⟩) (Kd.R_far (p := ⟨gb319, 1, none⟩) (Kd.R_far (p := ⟨gb319, 0, none⟩) (Kd.R_types HO310.out BK319.out (by decide)) (fun _ hk => hk.2) (.int .u8 t312)) (fun _ hk => hk.2) (.string t313)) (fun _ hk => hk.2) (.bool t314)) (fun _ hk => hk.2) (.int .u8 t315)) (fun _ hk => hk.2) (.int .i64 t316)) (fun _ hk => hk.2) (.int .i64 t317)) (fun _ h_ => h_.1))) hb); have n2_ := Aside0.mk (blk_below (g := gb319) (o := .cells #[.int .u8 t312, .string t313, .bool t314, .int .u8 t315, .int .i64 t316, .int .i64 t317] 28 (0, 0)) (by (with_reducible repeat (first | refine blk_drewN ?_ _ | refine blk_drew ?_ | refine blk_alloc ?_ _)); refine blk_put (cs := #[.int .u8 t312, .string t313, .bool t314, .int .u8 t315, .int .i64 t316, .int .i64 0]) ?_ 5 _ rfl; (with_reducible repeat (first | refine blk_drewN ?_ _ | refine blk_drew ?_ | refine blk_alloc ?_ _)); refine blk_put (cs := #[.int .u8 t312, .string t313, .bool t314, .int .u8 t315, .int .i64 0, .int .i64 0]) ?_ 4 _ rfl; (with_reducible repeat (first | refine blk_drewN ?_ _ | refine blk_drew ?_ | refine blk_alloc ?_ _)); refine blk_put (cs := #[.int .u8 t312, .string t313, .bool t314, .int .u8 0, .int .i64 0, .int .i64 0]) ?_ 3 _ rfl; (with_reducible repeat (first | refine blk_drewN ?_ _ | refine blk_drew ?_ | refine blk_alloc ?_ _)); refine blk_put (cs := #[.int .u8 t312, .string t313, .bool false, .int .u8 0, .int .i64 0, .int .i64 0]) ?_ 2 _ rfl; (with_reducible repeat (first | refine blk_drewN ?_ _ | refine blk_drew ?_ | refine blk_alloc ?_ _)); refine blk_put (cs := #[.int .u8 t312, .string (⟨#[]⟩ : ByteArray), .bool false, .int .u8 0, .int .i64 0, .int .i64 0]) ?_ 1 _ rfl; (with_reducible repeat (first | refine blk_drewN ?_ _ | refine blk_drew ?_ | refine blk_alloc ?_ _)); refine blk_put (cs := #[.int .u8 0, .string (⟨#[]⟩ : ByteArray), .bool false, .int .u8 0, .int .i64 0, .int .i64 0]) ?_ 0 _ rfl; (with_reducible repeat (first | refine blk_drewN ?_ _ | refine blk_drew ?_ | refine blk_alloc ?_ _)); exact BK319.out) hb); have n3_ := Aside0.mk (below_step (by repeat (first | (with_reducible first | exact HB.out | apply below_alloc | apply pw_below_drewN | apply below_drew1 | refine below_set ?_ GE319.out) | exact HB.out)) hb); clear HO307; clear HO310; clear BK319; clear HB; have HO307 := n0_; have HO310 := n1_; have BK319 := n2_; have HB := n3_; clear n0_ n1_ n2_ n3_; (try clear hb); (try clear hb2); (try clear hk); (try clear hi)) | ((with_reducible refine gate_dst (N := 9) rfl ?_); refine box_event ?hg (N := 9) ?hd (cs := #[.int .u8 0, .string (⟨#[]⟩ : ByteArray), .bool false, .int .u8 0, .int .i64 0, .int .i64 0]) (t := 28) ?hr ?_; (case hd => rfl); (case hg => rfl); (case hr => first | (go_simp; done) | (go_simp; rfl)); intro gb327 hg w21 hbox hb; have n0_ := Aside0.mk (Kd.R_below (by (with_reducible repeat (first | apply Kd.R_alloc | apply Kd.R_drewN | apply Kd.R_drew)); exact HO307.out) hb); have n1_ := Aside0.mk (Kd.R_below (by (with_reducible repeat (first | apply Kd.R_alloc | apply Kd.R_drewN | apply Kd.R_drew)); exact HO310.out) hb); have n2_ := Aside0.mk (blk_below (g := gb319) (o := .cells #[.int .u8 t312, .string t313, .bool t314, .int .u8 t315, .int .i64 t316, .int .i64 t317] 28 (0, 0)) (by (with_reducible repeat (first | refine blk_drewN ?_ _ | refine blk_drew ?_ | refine blk_alloc ?_ _)); exact BK319.out) hb); have n3_ := Aside0.mk (below_step (by repeat (first | (with_reducible first | exact HB.out | apply below_alloc | apply pw_below_drewN | apply below_drew1 | refine below_set ?_ GE319.out) | exact HB.out)) hb); have n4_ := Aside0.mk (hbox); have n5_ := Aside0.mk ((by rw [hg]; exact (below_size (by repeat (first | (with_reducible first | exact HB.out | apply below_alloc | apply pw_below_drewN | apply below_drew1 | refine below_set ?_ GE319.out) | exact HB.out))) : w.heap.size ≤ gb327)); have n6_ := Aside0.mk ((by rw [hg]; exact (below_size (by repeat (first | (with_reducible first | exact HB.out | apply below_alloc | apply pw_below_drewN | apply below_drew1 | refine below_set ?_ GE319.out) | exact HB.out))) : w.heap.size ≤ gb327)); have n7_ := Aside0.mk ((by rw [hg]; exact Nat.ne_of_lt (blk_lt (g := gb319) (o := .cells #[.int .u8 t312, .string t313, .bool t314, .int .u8 t315, .int .i64 t316, .int .i64 t317] 28 (0, 0)) (by (with_reducible repeat (first | refine blk_drewN ?_ _ | refine blk_drew ?_ | refine blk_alloc ?_ _)); exact BK319.out)) : gb319 ≠ gb327)); have n8_ := Aside0.mk ((by rw [hg]; exact Nat.ne_of_gt (blk_lt (g := gb319) (o := .cells #[.int .u8 t312, .string t313, .bool t314, .int .u8 t315, .int .i64 t316, .int .i64 t317] 28 (0, 0)) (by (with_reducible repeat (first | refine blk_drewN ?_ _ | refine blk_drew ?_ | refine blk_alloc ?_ _)); exact BK319.out)) : gb327 ≠ gb319)); clear HO307; clear HO310; clear BK319; clear HB; have HO307 := n0_; have HO310 := n1_; have BK319 := n2_; have HB := n3_; have BK327 := n4_; have GW327 := n5_; have GE327 := n6_; have NB319_327 := n7_; have NB327_319 := n8_; clear n0_ n1_ n2_ n3_ n4_ n5_ n6_ n7_ n8_; clear hb hbox hg; have hnb22 := NB327_319.out; have hnc22 := NB319_327.out; have hcz23_0 : w21.cell? ⟨gb327, 0, none⟩ = some (.int .u8 0) := (blk_cell BK327.out 0).trans rfl; have hcz23_1 : w21.cell? ⟨gb327, 1, none⟩ = some (.string (⟨#[]⟩ : ByteArray)) := (blk_cell BK327.out 1).trans rfl; have hcz23_2 : w21.cell? ⟨gb327, 2, none⟩ = some (.bool false) := (blk_cell BK327.out 2).trans rfl; have hcz23_3 : w21.cell? ⟨gb327, 3, none⟩ = some (.int .u8 0) := (blk_cell BK327.out 3).trans rfl; have hcz23_4 : w21.cell? ⟨gb327, 4, none⟩ = some (.int .i64 0) := (blk_cell BK327.out 4).trans rfl; have hcz23_5 : w21.cell? ⟨gb327, 5, none⟩ = some (.int .i64 0) := (blk_cell BK327.out 5).trans rfl; have hfz23_0 := blk_frozen BK327.out 0; have hfz23_1 := blk_frozen BK327.out 1; have hfz23_2 := blk_frozen BK327.out 2; have hfz23_3 := blk_frozen BK327.out 3; have hfz23_4 := blk_frozen BK327.out 4; have hfz23_5 := blk_frozen BK327.out 5) | ((with_reducible refine gate_callee (f := 16) rfl ?_); refine goesL_ (some 35) rfl rfl Try.func16 (by kernel_rfl) rfl #[.int .u8 a1] rfl (by (try simp only [List.map_toArray, List.map_cons, List.map_nil]); first | done | rfl | (simp only [List.length_drop, List.length_take]; rfl)) ?_; (with_reducible refine (isa_Of.calls a1 t328 t329 t330 t331 t332 t333 t334 _ A10.out).mono ?_); rintro e w24 ⟨rfl, hb⟩; refine ⟨_, rfl, ?_⟩; have n0_ := Aside0.mk (Kd.R_below (by (with_reducible repeat (first | apply Kd.R_alloc | apply Kd.R_drewN | apply Kd.R_drew)); exact (Kd.R_mono (Kd.R_far (p := ⟨gb327, 5, none⟩) (Kd.R_far (p := ⟨gb327, 4, none⟩) (Kd.R_far (p := ⟨gb327, 3, none⟩) (Kd.R_far (p := ⟨gb327, 2, none⟩) (Kd.R_far (p := ⟨gb327, 1, none⟩) (Kd.R_far (p := ⟨gb327, 0, none⟩) (Kd.R_types HO307.out BK327.out (by decide)) (fun _ hk => hk.2) (.int .u8 t320)) (fun _ hk => hk.2) (.string t321)) (fun _ hk => hk.2) (.bool t322)) (fun _ hk => hk.2) (.int .u8 t323)) (fun _ hk => hk.2) (.int .i64 t324)) (fun _ hk => hk.2) (.int .i64 t325)) (fun _ h_ => h_.1))) hb); have n1_ := Aside0.mk (Kd.R_below (by (with_reducible repeat (first | apply Kd.R_alloc | apply Kd.R_drewN | apply Kd.R_drew)); exact (Kd.R_mono (Kd.R_far (p := ⟨gb327, 5, none⟩) (Kd.R_far (p := ⟨gb327, 4, none⟩) (Kd.R_far (p := ⟨gb327, 3, none⟩) (Kd.R_far (p := ⟨gb327, 2, none⟩) (Kd.R_far (p := ⟨gb327, 1, none⟩) (Kd.R_far (p := ⟨gb327, 0, none⟩) (Kd.R_types HO310.out BK327.out (by decide)) (fun _ hk => hk.2) (.int .u8 t320)) (fun _ hk => hk.2) (.string t321)) (fun _ hk => hk.2) (.bool t322)) (fun _ hk => hk.2) (.int .u8 t323)) (fun _ hk => hk.2) (.int .i64 t324)) (fun _ hk => hk.2) (.int .i64 t325)) (fun _ h_ => h_.1))) hb); have n2_ := Aside0.mk (blk_below (g := gb319) (o := .cells #[.int .u8 t312, .string t313, .bool t314, .int .u8 t315, .int .i64 t316, .int .i64 t317] 28 (0, 0)) (by (with_reducible repeat (first | refine blk_drewN ?_ _ | refine blk_drew ?_ | refine blk_alloc ?_ _)); refine blk_far ?_ NB319_327.out _; (with_reducible repeat (first | refine blk_drewN ?_ _ | refine blk_drew ?_ | refine blk_alloc ?_ _)); refine blk_far ?_ NB319_327.out _; (with_reducible repeat (first | refine blk_drewN ?_ _ | refine blk_drew ?_ | refine blk_alloc ?_ _)); refine blk_far ?_ NB319_327.out _; (with_reducible repeat (first | refine blk_drewN ?_ _ | refine blk_drew ?_ | refine blk_alloc ?_ _)); refine blk_far ?_ NB319_327.out _; (with_reducible repeat (first | refine blk_drewN ?_ _ | refine blk_drew ?_ | refine blk_alloc ?_ _)); refine blk_far ?_ NB319_327.out _; (with_reducible repeat (first | refine blk_drewN ?_ _ | refine blk_drew ?_ | refine blk_alloc ?_ _)); refine blk_far ?_ NB319_327.out _; (with_reducible repeat (first | refine blk_drewN ?_ _ | refine blk_drew ?_ | refine blk_alloc ?_ _)); exact BK319.out) hb); have n3_ := Aside0.mk (blk_below (g := gb327) (o := .cells #[.int .u8 t320, .string t321, .bool t322, .int .u8 t323, .int .i64 t324, .int .i64 t325] 28 (0, 0)) (by (with_reducible repeat (first | refine blk_drewN ?_ _ | refine blk_drew ?_ | refine blk_alloc ?_ _)); refine blk_put (cs := #[.int .u8 t320, .string t321, .bool t322, .int .u8 t323, .int .i64 t324, .int .i64 0]) ?_ 5 _ rfl; (with_reducible repeat (first | refine blk_drewN ?_ _ | refine blk_drew ?_ | refine blk_alloc ?_ _)); refine blk_put (cs := #[.int .u8 t320, .string t321, .bool t322, .int .u8 t323, .int .i64 0, .int .i64 0]) ?_ 4 _ rfl; (with_reducible repeat (first | refine blk_drewN ?_ _ | refine blk_drew ?_ | refine blk_alloc ?_ _)); refine blk_put (cs := #[.int .u8 t320, .string t321, .bool t322, .int .u8 0, .int .i64 0, .int .i64 0]) ?_ 3 _ rfl; (with_reducible repeat (first | refine blk_drewN ?_ _ | refine blk_drew ?_ | refine blk_alloc ?_ _)); refine blk_put (cs := #[.int .u8 t320, .string t321, .bool false, .int .u8 0, .int .i64 0, .int .i64 0]) ?_ 2 _ rfl; (with_reducible repeat (first | refine blk_drewN ?_ _ | refine blk_drew ?_ | refine blk_alloc ?_ _)); refine blk_put (cs := #[.int .u8 t320, .string (⟨#[]⟩ : ByteArray), .bool false, .int .u8 0, .int .i64 0, .int .i64 0]) ?_ 1 _ rfl; (with_reducible repeat (first | refine blk_drewN ?_ _ | refine blk_drew ?_ | refine blk_alloc ?_ _)); refine blk_put (cs := #[.int .u8 0, .string (⟨#[]⟩ : ByteArray), .bool false, .int .u8 0, .int .i64 0, .int .i64 0]) ?_ 0 _ rfl; (with_reducible repeat (first | refine blk_drewN ?_ _ | refine blk_drew ?_ | refine blk_alloc ?_ _)); exact BK327.out) hb); have n4_ := Aside0.mk (below_step (by repeat (first | (with_reducible first | exact HB.out | apply below_alloc | apply pw_below_drewN | apply below_drew1 | refine below_set ?_ GE319.out | refine below_set ?_ GE327.out) | exact HB.out)) hb); clear HO307; clear HO310; clear BK319; clear BK327; clear HB; have HO307 := n0_; have HO310 := n1_; have BK319 := n2_; have BK327 := n3_; have HB := n4_; clear n0_ n1_ n2_ n3_ n4_; (try clear hb); (try clear hb2); (try clear hk); (try clear hi)) | ((with_reducible refine gate_dst (N := 11) rfl ?_); refine box_event ?hg (N := 11) ?hd (cs := #[.int .u8 0, .string (⟨#[]⟩ : ByteArray), .bool false, .int .u8 0, .int .i64 0, .int .i64 0]) (t := 28) ?hr ?_; (case hd => rfl); (case hg => rfl); (case hr => first | (go_simp; done) | (go_simp; rfl)); intro gb335 hg w25 hbox hb; have n0_ := Aside0.mk (Kd.R_below (by (with_reducible repeat (first | apply Kd.R_alloc | apply Kd.R_drewN | apply Kd.R_drew)); exact HO307.out) hb); have n1_ := Aside0.mk (Kd.R_below (by (with_reducible repeat (first | apply Kd.R_alloc | apply Kd.R_drewN | apply Kd.R_drew)); exact HO310.out) hb); have n2_ := Aside0.mk (blk_below (g := gb319) (o := .cells #[.int .u8 t312, .string t313, .bool t314, .int .u8 t315, .int .i64 t316, .int .i64 t317] 28 (0, 0)) (by (with_reducible repeat (first | refine blk_drewN ?_ _ | refine blk_drew ?_ | refine blk_alloc ?_ _)); exact BK319.out) hb); have n3_ := Aside0.mk (blk_below (g := gb327) (o := .cells #[.int .u8 t320, .string t321, .bool t322, .int .u8 t323, .int .i64 t324, .int .i64 t325] 28 (0, 0)) (by (with_reducible repeat (first | refine blk_drewN ?_ _ | refine blk_drew ?_ | refine blk_alloc ?_ _)); exact BK327.out) hb); have n4_ := Aside0.mk (below_step (by repeat (first | (with_reducible first | exact HB.out | apply below_alloc | apply pw_below_drewN | apply below_drew1 | refine below_set ?_ GE319.out | refine below_set ?_ GE327.out) | exact HB.out)) hb); have n5_ := Aside0.mk (hbox); have n6_ := Aside0.mk ((by rw [hg]; exact (below_size (by repeat (first | (with_reducible first | exact HB.out | apply below_alloc | apply pw_below_drewN | apply below_drew1 | refine below_set ?_ GE319.out | refine below_set ?_ GE327.out) | exact HB.out))) : w.heap.size ≤ gb335)); have n7_ := Aside0.mk ((by rw [hg]; exact (below_size (by repeat (first | (with_reducible first | exact HB.out | apply below_alloc | apply pw_below_drewN | apply below_drew1 | refine below_set ?_ GE319.out | refine below_set ?_ GE327.out) | exact HB.out))) : w.heap.size ≤ gb335)); have n8_ := Aside0.mk ((by rw [hg]; exact Nat.ne_of_lt (blk_lt (g := gb319) (o := .cells #[.int .u8 t312, .string t313, .bool t314, .int .u8 t315, .int .i64 t316, .int .i64 t317] 28 (0, 0)) (by (with_reducible repeat (first | refine blk_drewN ?_ _ | refine blk_drew ?_ | refine blk_alloc ?_ _)); exact BK319.out)) : gb319 ≠ gb335)); have n9_ := Aside0.mk ((by rw [hg]; exact Nat.ne_of_gt (blk_lt (g := gb319) (o := .cells #[.int .u8 t312, .string t313, .bool t314, .int .u8 t315, .int .i64 t316, .int .i64 t317] 28 (0, 0)) (by (with_reducible repeat (first | refine blk_drewN ?_ _ | refine blk_drew ?_ | refine blk_alloc ?_ _)); exact BK319.out)) : gb335 ≠ gb319)); have n10_ := Aside0.mk ((by rw [hg]; exact Nat.ne_of_lt (blk_lt (g := gb327) (o := .cells #[.int .u8 t320, .string t321, .bool t322, .int .u8 t323, .int .i64 t324, .int .i64 t325] 28 (0, 0)) (by (with_reducible repeat (first | refine blk_drewN ?_ _ | refine blk_drew ?_ | refine blk_alloc ?_ _)); exact BK327.out)) : gb327 ≠ gb335)); have n11_ := Aside0.mk ((by rw [hg]; exact Nat.ne_of_gt (blk_lt (g := gb327) (o := .cells #[.int .u8 t320, .string t321, .bool t322, .int .u8 t323, .int .i64 t324, .int .i64 t325] 28 (0, 0)) (by (with_reducible repeat (first | refine blk_drewN ?_ _ | refine blk_drew ?_ | refine blk_alloc ?_ _)); exact BK327.out)) : gb335 ≠ gb327)); clear HO307; clear HO310; clear BK319; clear BK327; clear HB; have HO307 := n0_; have HO310 := n1_; have BK319 := n2_; have BK327 := n3_; have HB := n4_; have BK335 := n5_; have GW335 := n6_; have GE335 := n7_; have NB319_335 := n8_; have NB335_319 := n9_; have NB327_335 := n10_; have NB335_327 := n11_; clear n0_ n1_ n2_ n3_ n4_ n5_ n6_ n7_ n8_ n9_ n10_ n11_; clear hb hbox hg; have hnb26 := NB335_319.out; have hnc26 := NB319_335.out; have hnb27 := NB335_327.out; have hnc27 := NB327_335.out; have hcz28_0 : w25.cell? ⟨gb335, 0, none⟩ = some (.int .u8 0) := (blk_cell BK335.out 0).trans rfl; have hcz28_1 : w25.cell? ⟨gb335, 1, none⟩ = some (.string (⟨#[]⟩ : ByteArray)) := (blk_cell BK335.out 1).trans rfl; have hcz28_2 : w25.cell? ⟨gb335, 2, none⟩ = some (.bool false) := (blk_cell BK335.out 2).trans rfl; have hcz28_3 : w25.cell? ⟨gb335, 3, none⟩ = some (.int .u8 0) := (blk_cell BK335.out 3).trans rfl; have hcz28_4 : w25.cell? ⟨gb335, 4, none⟩ = some (.int .i64 0) := (blk_cell BK335.out 4).trans rfl; have hcz28_5 : w25.cell? ⟨gb335, 5, none⟩ = some (.int .i64 0) := (blk_cell BK335.out 5).trans rfl; have hfz28_0 := blk_frozen BK335.out 0; have hfz28_1 := blk_frozen BK335.out 1; have hfz28_2 := blk_frozen BK335.out 2; have hfz28_3 := blk_frozen BK335.out 3; have hfz28_4 := blk_frozen BK335.out 4; have hfz28_5 := blk_frozen BK335.out 5) | ((with_reducible refine gate_callee (f := 17) rfl ?_); refine goesL_ (some 40) rfl rfl Try.func17 (by kernel_rfl) rfl #[.int .u8 a1] rfl (by (try simp only [List.map_toArray, List.map_cons, List.map_nil]); first | done | rfl | (simp only [List.length_drop, List.length_take]; rfl)) ?_; (with_reducible refine (periluneref04_Of.calls k a1 t336 t337 t338 t339 t340 t341 t342 _ A11.out).mono ?_); rintro e w29 ⟨rfl, hb⟩; refine ⟨_, rfl, ?_⟩; have n0_ := Aside0.mk (Kd.R_below (by (with_reducible repeat (first | apply Kd.R_alloc | apply Kd.R_drewN | apply Kd.R_drew)); exact (Kd.R_mono (Kd.R_far (p := ⟨gb335, 5, none⟩) (Kd.R_far (p := ⟨gb335, 4, none⟩) (Kd.R_far (p := ⟨gb335, 3, none⟩) (Kd.R_far (p := ⟨gb335, 2, none⟩) (Kd.R_far (p := ⟨gb335, 1, none⟩) (Kd.R_far (p := ⟨gb335, 0, none⟩) (Kd.R_types HO307.out BK335.out (by decide)) (fun _ hk => hk.2) (.int .u8 t328)) (fun _ hk => hk.2) (.string t329)) (fun _ hk => hk.2) (.bool t330)) (fun _ hk => hk.2) (.int .u8 t331)) (fun _ hk => hk.2) (.int .i64 t332)) (fun _ hk => hk.2) (.int .i64 t333)) (fun _ h_ => h_.1))) hb); have n1_ := Aside0.mk (Kd.R_below (by (with_reducible repeat (first | apply Kd.R_alloc | apply Kd.R_drewN | apply Kd.R_drew)); exact (Kd.R_mono (Kd.R_far (p := ⟨gb335, 5, none⟩) (Kd.R_far (p := ⟨gb335, 4, none⟩) (Kd.R_far (p := ⟨gb335, 3, none⟩) (Kd.R_far (p := ⟨gb335, 2, none⟩) (Kd.R_far (p := ⟨gb335, 1, none⟩) (Kd.R_far (p := ⟨gb335, 0, none⟩) (Kd.R_types HO310.out BK335.out (by decide)) (fun _ hk => hk.2) (.int .u8 t328)) (fun _ hk => hk.2) (.string t329)) (fun _ hk => hk.2) (.bool t330)) (fun _ hk => hk.2) (.int .u8 t331)) (fun _ hk => hk.2) (.int .i64 t332)) (fun _ hk => hk.2) (.int .i64 t333)) (fun _ h_ => h_.1))) hb); have n2_ := Aside0.mk (blk_below (g := gb319) (o := .cells #[.int .u8 t312, .string t313, .bool t314, .int .u8 t315, .int .i64 t316, .int .i64 t317] 28 (0, 0)) (by (with_reducible repeat (first | refine blk_drewN ?_ _ | refine blk_drew ?_ | refine blk_alloc ?_ _)); refine blk_far ?_ NB319_335.out _; (with_reducible repeat (first | refine blk_drewN ?_ _ | refine blk_drew ?_ | refine blk_alloc ?_ _)); refine blk_far ?_ NB319_335.out _; (with_reducible repeat (first | refine blk_drewN ?_ _ | refine blk_drew ?_ | refine blk_alloc ?_ _)); refine blk_far ?_ NB319_335.out _; (with_reducible repeat (first | refine blk_drewN ?_ _ | refine blk_drew ?_ | refine blk_alloc ?_ _)); refine blk_far ?_ NB319_335.out _; (with_reducible repeat (first | refine blk_drewN ?_ _ | refine blk_drew ?_ | refine blk_alloc ?_ _)); refine blk_far ?_ NB319_335.out _; (with_reducible repeat (first | refine blk_drewN ?_ _ | refine blk_drew ?_ | refine blk_alloc ?_ _)); refine blk_far ?_ NB319_335.out _; (with_reducible repeat (first | refine blk_drewN ?_ _ | refine blk_drew ?_ | refine blk_alloc ?_ _)); exact BK319.out) hb); have n3_ := Aside0.mk (blk_below (g := gb327) (o := .cells #[.int .u8 t320, .string t321, .bool t322, .int .u8 t323, .int .i64 t324, .int .i64 t325] 28 (0, 0)) (by (with_reducible repeat (first | refine blk_drewN ?_ _ | refine blk_drew ?_ | refine blk_alloc ?_ _)); refine blk_far ?_ NB327_335.out _; (with_reducible repeat (first | refine blk_drewN ?_ _ | refine blk_drew ?_ | refine blk_alloc ?_ _)); refine blk_far ?_ NB327_335.out _; (with_reducible repeat (first | refine blk_drewN ?_ _ | refine blk_drew ?_ | refine blk_alloc ?_ _)); refine blk_far ?_ NB327_335.out _; (with_reducible repeat (first | refine blk_drewN ?_ _ | refine blk_drew ?_ | refine blk_alloc ?_ _)); refine blk_far ?_ NB327_335.out _; (with_reducible repeat (first | refine blk_drewN ?_ _ | refine blk_drew ?_ | refine blk_alloc ?_ _)); refine blk_far ?_ NB327_335.out _; (with_reducible repeat (first | refine blk_drewN ?_ _ | refine blk_drew ?_ | refine blk_alloc ?_ _)); refine blk_far ?_ NB327_335.out _; (with_reducible repeat (first | refine blk_drewN ?_ _ | refine blk_drew ?_ | refine blk_alloc ?_ _)); exact BK327.out) hb); have n4_ := Aside0.mk (blk_below (g := gb335) (o := .cells #[.int .u8 t328, .string t329, .bool t330, .int .u8 t331, .int .i64 t332, .int .i64 t333] 28 (0, 0)) (by (with_reducible repeat (first | refine blk_drewN ?_ _ | refine blk_drew ?_ | refine blk_alloc ?_ _)); refine blk_put (cs := #[.int .u8 t328, .string t329, .bool t330, .int .u8 t331, .int .i64 t332, .int .i64 0]) ?_ 5 _ rfl; (with_reducible repeat (first | refine blk_drewN ?_ _ | refine blk_drew ?_ | refine blk_alloc ?_ _)); refine blk_put (cs := #[.int .u8 t328, .string t329, .bool t330, .int .u8 t331, .int .i64 0, .int .i64 0]) ?_ 4 _ rfl; (with_reducible repeat (first | refine blk_drewN ?_ _ | refine blk_drew ?_ | refine blk_alloc ?_ _)); refine blk_put (cs := #[.int .u8 t328, .string t329, .bool t330, .int .u8 0, .int .i64 0, .int .i64 0]) ?_ 3 _ rfl; (with_reducible repeat (first | refine blk_drewN ?_ _ | refine blk_drew ?_ | refine blk_alloc ?_ _)); refine blk_put (cs := #[.int .u8 t328, .string t329, .bool false, .int .u8 0, .int .i64 0, .int .i64 0]) ?_ 2 _ rfl; (with_reducible repeat (first | refine blk_drewN ?_ _ | refine blk_drew ?_ | refine blk_alloc ?_ _)); refine blk_put (cs := #[.int .u8 t328, .string (⟨#[]⟩ : ByteArray), .bool false, .int .u8 0, .int .i64 0, .int .i64 0]) ?_ 1 _ rfl; (with_reducible repeat (first | refine blk_drewN ?_ _ | refine blk_drew ?_ | refine blk_alloc ?_ _)); refine blk_put (cs := #[.int .u8 0, .string (⟨#[]⟩ : ByteArray), .bool false, .int .u8 0, .int .i64 0, .int .i64 0]) ?_ 0 _ rfl; (with_reducible repeat (first | refine blk_drewN ?_ _ | refine blk_drew ?_ | refine blk_alloc ?_ _)); exact BK335.out) hb); have n5_ := Aside0.mk (below_step (by repeat (first | (with_reducible first | exact HB.out | apply below_alloc | apply pw_below_drewN | apply below_drew1 | refine below_set ?_ GE319.out | refine below_set ?_ GE327.out | refine below_set ?_ GE335.out) | exact HB.out)) hb); clear HO307; clear HO310; clear BK319; clear BK327; clear BK335; clear HB; have HO307 := n0_; have HO310 := n1_; have BK319 := n2_; have BK327 := n3_; have BK335 := n4_; have HB := n5_; clear n0_ n1_ n2_ n3_ n4_ n5_; (try clear hb); (try clear hb2); (try clear hk); (try clear hi)) | ((with_reducible refine gate_dst (N := 13) rfl ?_); refine box_event ?hg (N := 13) ?hd (cs := #[.int .u8 0, .string (⟨#[]⟩ : ByteArray), .bool false, .int .u8 0, .int .i64 0, .int .i64 0]) (t := 28) ?hr ?_; (case hd => rfl); (case hg => rfl); (case hr => first | (go_simp; done) | (go_simp; rfl)); intro gb343 hg w30 hbox hb; have n0_ := Aside0.mk (Kd.R_below (by (with_reducible repeat (first | apply Kd.R_alloc | apply Kd.R_drewN | apply Kd.R_drew)); exact HO307.out) hb); have n1_ := Aside0.mk (Kd.R_below (by (with_reducible repeat (first | apply Kd.R_alloc | apply Kd.R_drewN | apply Kd.R_drew)); exact HO310.out) hb); have n2_ := Aside0.mk (blk_below (g := gb319) (o := .cells #[.int .u8 t312, .string t313, .bool t314, .int .u8 t315, .int .i64 t316, .int .i64 t317] 28 (0, 0)) (by (with_reducible repeat (first | refine blk_drewN ?_ _ | refine blk_drew ?_ | refine blk_alloc ?_ _)); exact BK319.out) hb); have n3_ := Aside0.mk (blk_below (g := gb327) (o := .cells #[.int .u8 t320, .string t321, .bool t322, .int .u8 t323, .int .i64 t324, .int .i64 t325] 28 (0, 0)) (by (with_reducible repeat (first | refine blk_drewN ?_ _ | refine blk_drew ?_ | refine blk_alloc ?_ _)); exact BK327.out) hb); have n4_ := Aside0.mk (blk_below (g := gb335) (o := .cells #[.int .u8 t328, .string t329, .bool t330, .int .u8 t331, .int .i64 t332, .int .i64 t333] 28 (0, 0)) (by (with_reducible repeat (first | refine blk_drewN ?_ _ | refine blk_drew ?_ | refine blk_alloc ?_ _)); exact BK335.out) hb); have n5_ := Aside0.mk (below_step (by repeat (first | (with_reducible first | exact HB.out | apply below_alloc | apply pw_below_drewN | apply below_drew1 | refine below_set ?_ GE319.out | refine below_set ?_ GE327.out | refine below_set ?_ GE335.out) | exact HB.out)) hb); have n6_ := Aside0.mk (hbox); have n7_ := Aside0.mk ((by rw [hg]; exact (below_size (by repeat (first | (with_reducible first | exact HB.out | apply below_alloc | apply pw_below_drewN | apply below_drew1 | refine below_set ?_ GE319.out | refine below_set ?_ GE327.out | refine below_set ?_ GE335.out) | exact HB.out))) : w.heap.size ≤ gb343)); have n8_ := Aside0.mk ((by rw [hg]; exact (below_size (by repeat (first | (with_reducible first | exact HB.out | apply below_alloc | apply pw_below_drewN | apply below_drew1 | refine below_set ?_ GE319.out | refine below_set ?_ GE327.out | refine below_set ?_ GE335.out) | exact HB.out))) : w.heap.size ≤ gb343)); have n9_ := Aside0.mk ((by rw [hg]; exact Nat.ne_of_lt (blk_lt (g := gb319) (o := .cells #[.int .u8 t312, .string t313, .bool t314, .int .u8 t315, .int .i64 t316, .int .i64 t317] 28 (0, 0)) (by (with_reducible repeat (first | refine blk_drewN ?_ _ | refine blk_drew ?_ | refine blk_alloc ?_ _)); exact BK319.out)) : gb319 ≠ gb343)); have n10_ := Aside0.mk ((by rw [hg]; exact Nat.ne_of_gt (blk_lt (g := gb319) (o := .cells #[.int .u8 t312, .string t313, .bool t314, .int .u8 t315, .int .i64 t316, .int .i64 t317] 28 (0, 0)) (by (with_reducible repeat (first | refine blk_drewN ?_ _ | refine blk_drew ?_ | refine blk_alloc ?_ _)); exact BK319.out)) : gb343 ≠ gb319)); have n11_ := Aside0.mk ((by rw [hg]; exact Nat.ne_of_lt (blk_lt (g := gb327) (o := .cells #[.int .u8 t320, .string t321, .bool t322, .int .u8 t323, .int .i64 t324, .int .i64 t325] 28 (0, 0)) (by (with_reducible repeat (first | refine blk_drewN ?_ _ | refine blk_drew ?_ | refine blk_alloc ?_ _)); exact BK327.out)) : gb327 ≠ gb343)); have n12_ := Aside0.mk ((by rw [hg]; exact Nat.ne_of_gt (blk_lt (g := gb327) (o := .cells #[.int .u8 t320, .string t321, .bool t322, .int .u8 t323, .int .i64 t324, .int .i64 t325] 28 (0, 0)) (by (with_reducible repeat (first | refine blk_drewN ?_ _ | refine blk_drew ?_ | refine blk_alloc ?_ _)); exact BK327.out)) : gb343 ≠ gb327)); have n13_ := Aside0.mk ((by rw [hg]; exact Nat.ne_of_lt (blk_lt (g := gb335) (o := .cells #[.int .u8 t328, .string t329, .bool t330, .int .u8 t331, .int .i64 t332, .int .i64 t333] 28 (0, 0)) (by (with_reducible repeat (first | refine blk_drewN ?_ _ | refine blk_drew ?_ | refine blk_alloc ?_ _)); exact BK335.out)) : gb335 ≠ gb343)); have n14_ := Aside0.mk ((by rw [hg]; exact Nat.ne_of_gt (blk_lt (g := gb335) (o := .cells #[.int .u8 t328, .string t329, .bool t330, .int .u8 t331, .int .i64 t332, .int .i64 t333] 28 (0, 0)) (by (with_reducible repeat (first | refine blk_drewN ?_ _ | refine blk_drew ?_ | refine blk_alloc ?_ _)); exact BK335.out)) : gb343 ≠ gb335)); clear HO307; clear HO310; clear BK319; clear BK327; clear BK335; clear HB; have HO307 := n0_; have HO310 := n1_; have BK319 := n2_; have BK327 := n3_; have BK335 := n4_; have HB := n5_; have BK343 := n6_; have GW343 := n7_; have GE343 := n8_; have NB319_343 := n9_; have NB343_319 := n10_; have NB327_343 := n11_; have NB343_327 := n12_; have NB335_343 := n13_; have NB343_335 := n14_; clear n0_ n1_ n2_ n3_ n4_ n5_ n6_ n7_ n8_ n9_ n10_ n11_ n12_ n13_ n14_; clear hb hbox hg; have hnb31 := NB343_319.out; have hnc31 := NB319_343.out; have hnb32 := NB343_327.out; have hnc32 := NB327_343.out; have hnb33 := NB343_335.out; have hnc33 := NB335_343.out; have hcz34_0 : w30.cell? ⟨gb343, 0, none⟩ = some (.int .u8 0) := (blk_cell BK343.out 0).trans rfl; have hcz34_1 : w30.cell? ⟨gb343, 1, none⟩ = some (.string (⟨#[]⟩ : ByteArray)) := (blk_cell BK343.out 1).trans rfl; have hcz34_2 : w30.cell? ⟨gb343, 2, none⟩ = some (.bool false) := (blk_cell BK343.out 2).trans rfl; have hcz34_3 : w30.cell? ⟨gb343, 3, none⟩ = some (.int .u8 0) := (blk_cell BK343.out 3).trans rfl; have hcz34_4 : w30.cell? ⟨gb343, 4, none⟩ = some (.int .i64 0) := (blk_cell BK343.out 4).trans rfl; have hcz34_5 : w30.cell? ⟨gb343, 5, none⟩ = some (.int .i64 0) := (blk_cell BK343.out 5).trans rfl; have hfz34_0 := blk_frozen BK343.out 0; have hfz34_1 := blk_frozen BK343.out 1; have hfz34_2 := blk_frozen BK343.out 2; have hfz34_3 := blk_frozen BK343.out 3; have hfz34_4 := blk_frozen BK343.out 4; have hfz34_5 := blk_frozen BK343.out 5))
    (try simp only [Act.put, List.setIfInBounds_toArray, List.set_cons_zero, List.set_cons_succ])
    go_cut [60] (fun v60 wc => ∃ (kq : Nat) (x60_11 : Bool), v60 = .bool x60_11 ∧ Aside0 (perilunelaw04_IsaNames.j0 kq a0 a1 a2 x60_11 = some r) ∧ Aside0 (kq ≤ k) ∧ Aside0 (wc.heap[gb319]? = some (.cells #[.int .u8 t312, .string t313, .bool t314, .int .u8 t315, .int .i64 t316, .int .i64 t317] 28 (0, 0))) ∧ Aside0 (wc.heap[gb327]? = some (.cells #[.int .u8 t320, .string t321, .bool t322, .int .u8 t323, .int .i64 t324, .int .i64 t325] 28 (0, 0))) ∧ Aside0 (wc.heap[gb335]? = some (.cells #[.int .u8 t328, .string t329, .bool t330, .int .u8 t331, .int .i64 t332, .int .i64 t333] 28 (0, 0))) ∧ Aside0 (wc.heap[gb343]? = some (.cells #[.int .u8 t336, .string t337, .bool t338, .int .u8 t339, .int .i64 t340, .int .i64 t341] 28 (0, 0))) ∧ Aside0 (Below w.heap.size w wc))
    case first =>
      have H := HC12.out
      clear HC12
      by_cases c35 : (!(t312 == t320) || (!(t313.toList == t321.toList) || (!(t314 == t322) || (!(t315 == t323) || (!(t316 == t324) || (!(t317 == t325))))))) = true
      · rw [if_pos c35] at H
        have c35b0 : (!(t312 == t320) || (!(t313.toList == t321.toList) || (!(t314 == t322) || (!(t315 == t323) || (!(t316 == t324) || (!(t317 == t325))))))) = true := c35
        clear c35
        (first | rw [c35b0] | (simp only [i64_w, i32_w]; rw [c35b0]) | skip)
        have H' := Aside0.mk H
        clear H
        have hnb36 := NB319_327.out
        have hnc36 := NB327_319.out
        have hnb37 := NB319_335.out
        have hnc37 := NB335_319.out
        have hnb38 := NB319_343.out
        have hnc38 := NB343_319.out
        have hcz39_0 : w30.cell? ⟨gb319, 0, none⟩ = some (.int .u8 t312) := (blk_cell BK319.out 0).trans rfl
        have hcz39_1 : w30.cell? ⟨gb319, 1, none⟩ = some (.string t313) := (blk_cell BK319.out 1).trans rfl
        have hcz39_2 : w30.cell? ⟨gb319, 2, none⟩ = some (.bool t314) := (blk_cell BK319.out 2).trans rfl
        have hcz39_3 : w30.cell? ⟨gb319, 3, none⟩ = some (.int .u8 t315) := (blk_cell BK319.out 3).trans rfl
        have hcz39_4 : w30.cell? ⟨gb319, 4, none⟩ = some (.int .i64 t316) := (blk_cell BK319.out 4).trans rfl
        have hcz39_5 : w30.cell? ⟨gb319, 5, none⟩ = some (.int .i64 t317) := (blk_cell BK319.out 5).trans rfl
        have hfz39_0 := blk_frozen BK319.out 0
        have hfz39_1 := blk_frozen BK319.out 1
        have hfz39_2 := blk_frozen BK319.out 2
        have hfz39_3 := blk_frozen BK319.out 3
        have hfz39_4 := blk_frozen BK319.out 4
        have hfz39_5 := blk_frozen BK319.out 5
        have hnb40 := NB327_335.out
        have hnc40 := NB335_327.out
        have hnb41 := NB327_343.out
        have hnc41 := NB343_327.out
        have hcz42_0 : w30.cell? ⟨gb327, 0, none⟩ = some (.int .u8 t320) := (blk_cell BK327.out 0).trans rfl
        have hcz42_1 : w30.cell? ⟨gb327, 1, none⟩ = some (.string t321) := (blk_cell BK327.out 1).trans rfl
        have hcz42_2 : w30.cell? ⟨gb327, 2, none⟩ = some (.bool t322) := (blk_cell BK327.out 2).trans rfl
        have hcz42_3 : w30.cell? ⟨gb327, 3, none⟩ = some (.int .u8 t323) := (blk_cell BK327.out 3).trans rfl
        have hcz42_4 : w30.cell? ⟨gb327, 4, none⟩ = some (.int .i64 t324) := (blk_cell BK327.out 4).trans rfl
        have hcz42_5 : w30.cell? ⟨gb327, 5, none⟩ = some (.int .i64 t325) := (blk_cell BK327.out 5).trans rfl
        have hfz42_0 := blk_frozen BK327.out 0
        have hfz42_1 := blk_frozen BK327.out 1
        have hfz42_2 := blk_frozen BK327.out 2
        have hfz42_3 := blk_frozen BK327.out 3
        have hfz42_4 := blk_frozen BK327.out 4
        have hfz42_5 := blk_frozen BK327.out 5
        go_wp2
        go_meet
        case rel => exact ⟨_, (true), (by first | rfl | (simp; done) | (simp [*]; done)), H', ⟨by first | omega | exact Nat.le_refl _⟩, ⟨by (with_reducible repeat (first | refine blk_drewN ?_ _ | refine blk_drew ?_ | refine blk_alloc ?_ _)); refine blk_far ?_ NB319_343.out _; (with_reducible repeat (first | refine blk_drewN ?_ _ | refine blk_drew ?_ | refine blk_alloc ?_ _)); refine blk_far ?_ NB319_343.out _; (with_reducible repeat (first | refine blk_drewN ?_ _ | refine blk_drew ?_ | refine blk_alloc ?_ _)); refine blk_far ?_ NB319_343.out _; (with_reducible repeat (first | refine blk_drewN ?_ _ | refine blk_drew ?_ | refine blk_alloc ?_ _)); refine blk_far ?_ NB319_343.out _; (with_reducible repeat (first | refine blk_drewN ?_ _ | refine blk_drew ?_ | refine blk_alloc ?_ _)); refine blk_far ?_ NB319_343.out _; (with_reducible repeat (first | refine blk_drewN ?_ _ | refine blk_drew ?_ | refine blk_alloc ?_ _)); refine blk_far ?_ NB319_343.out _; (with_reducible repeat (first | refine blk_drewN ?_ _ | refine blk_drew ?_ | refine blk_alloc ?_ _)); exact BK319.out⟩, ⟨by (with_reducible repeat (first | refine blk_drewN ?_ _ | refine blk_drew ?_ | refine blk_alloc ?_ _)); refine blk_far ?_ NB327_343.out _; (with_reducible repeat (first | refine blk_drewN ?_ _ | refine blk_drew ?_ | refine blk_alloc ?_ _)); refine blk_far ?_ NB327_343.out _; (with_reducible repeat (first | refine blk_drewN ?_ _ | refine blk_drew ?_ | refine blk_alloc ?_ _)); refine blk_far ?_ NB327_343.out _; (with_reducible repeat (first | refine blk_drewN ?_ _ | refine blk_drew ?_ | refine blk_alloc ?_ _)); refine blk_far ?_ NB327_343.out _; (with_reducible repeat (first | refine blk_drewN ?_ _ | refine blk_drew ?_ | refine blk_alloc ?_ _)); refine blk_far ?_ NB327_343.out _; (with_reducible repeat (first | refine blk_drewN ?_ _ | refine blk_drew ?_ | refine blk_alloc ?_ _)); refine blk_far ?_ NB327_343.out _; (with_reducible repeat (first | refine blk_drewN ?_ _ | refine blk_drew ?_ | refine blk_alloc ?_ _)); exact BK327.out⟩, ⟨by (with_reducible repeat (first | refine blk_drewN ?_ _ | refine blk_drew ?_ | refine blk_alloc ?_ _)); refine blk_far ?_ NB335_343.out _; (with_reducible repeat (first | refine blk_drewN ?_ _ | refine blk_drew ?_ | refine blk_alloc ?_ _)); refine blk_far ?_ NB335_343.out _; (with_reducible repeat (first | refine blk_drewN ?_ _ | refine blk_drew ?_ | refine blk_alloc ?_ _)); refine blk_far ?_ NB335_343.out _; (with_reducible repeat (first | refine blk_drewN ?_ _ | refine blk_drew ?_ | refine blk_alloc ?_ _)); refine blk_far ?_ NB335_343.out _; (with_reducible repeat (first | refine blk_drewN ?_ _ | refine blk_drew ?_ | refine blk_alloc ?_ _)); refine blk_far ?_ NB335_343.out _; (with_reducible repeat (first | refine blk_drewN ?_ _ | refine blk_drew ?_ | refine blk_alloc ?_ _)); refine blk_far ?_ NB335_343.out _; (with_reducible repeat (first | refine blk_drewN ?_ _ | refine blk_drew ?_ | refine blk_alloc ?_ _)); exact BK335.out⟩, ⟨by (with_reducible repeat (first | refine blk_drewN ?_ _ | refine blk_drew ?_ | refine blk_alloc ?_ _)); refine blk_put (cs := #[.int .u8 t336, .string t337, .bool t338, .int .u8 t339, .int .i64 t340, .int .i64 0]) ?_ 5 _ rfl; (with_reducible repeat (first | refine blk_drewN ?_ _ | refine blk_drew ?_ | refine blk_alloc ?_ _)); refine blk_put (cs := #[.int .u8 t336, .string t337, .bool t338, .int .u8 t339, .int .i64 0, .int .i64 0]) ?_ 4 _ rfl; (with_reducible repeat (first | refine blk_drewN ?_ _ | refine blk_drew ?_ | refine blk_alloc ?_ _)); refine blk_put (cs := #[.int .u8 t336, .string t337, .bool t338, .int .u8 0, .int .i64 0, .int .i64 0]) ?_ 3 _ rfl; (with_reducible repeat (first | refine blk_drewN ?_ _ | refine blk_drew ?_ | refine blk_alloc ?_ _)); refine blk_put (cs := #[.int .u8 t336, .string t337, .bool false, .int .u8 0, .int .i64 0, .int .i64 0]) ?_ 2 _ rfl; (with_reducible repeat (first | refine blk_drewN ?_ _ | refine blk_drew ?_ | refine blk_alloc ?_ _)); refine blk_put (cs := #[.int .u8 t336, .string (⟨#[]⟩ : ByteArray), .bool false, .int .u8 0, .int .i64 0, .int .i64 0]) ?_ 1 _ rfl; (with_reducible repeat (first | refine blk_drewN ?_ _ | refine blk_drew ?_ | refine blk_alloc ?_ _)); refine blk_put (cs := #[.int .u8 0, .string (⟨#[]⟩ : ByteArray), .bool false, .int .u8 0, .int .i64 0, .int .i64 0]) ?_ 0 _ rfl; (with_reducible repeat (first | refine blk_drewN ?_ _ | refine blk_drew ?_ | refine blk_alloc ?_ _)); exact BK343.out⟩, ⟨by repeat (first | (with_reducible first | exact HB.out | apply below_alloc | apply pw_below_drewN | apply below_drew1 | refine below_set ?_ GE319.out | refine below_set ?_ GE327.out | refine below_set ?_ GE335.out | refine below_set ?_ GE343.out) | exact HB.out)⟩⟩
      · rw [if_neg c35] at H
        have c35b0 : (!(t312 == t320) || (!(t313.toList == t321.toList) || (!(t314 == t322) || (!(t315 == t323) || (!(t316 == t324) || (!(t317 == t325))))))) = false := by simpa using c35
        clear c35
        (first | rw [c35b0] | (simp only [i64_w, i32_w]; rw [c35b0]) | skip)
        by_cases c43 : t318 = t326
        · rw [if_pos c43] at H
          have c43b0 : (t318 == t326) = true := beq_iff_eq.mpr c43
          have c43b1 : (t318 != t326) = false := bne_eq_false_iff_eq.mpr c43
          clear c43
          by_cases c44 : (!(t328 == t336) || (!(t329.toList == t337.toList) || (!(t330 == t338) || (!(t331 == t339) || (!(t332 == t340) || (!(t333 == t341))))))) = true
          · rw [if_pos c44] at H
            have c44b0 : (!(t328 == t336) || (!(t329.toList == t337.toList) || (!(t330 == t338) || (!(t331 == t339) || (!(t332 == t340) || (!(t333 == t341))))))) = true := c44
            clear c44
            have H' := Aside0.mk H
            clear H
            have hnb45 := NB319_327.out
            have hnc45 := NB327_319.out
            have hnb46 := NB319_335.out
            have hnc46 := NB335_319.out
            have hnb47 := NB319_343.out
            have hnc47 := NB343_319.out
            have hcz48_0 : w30.cell? ⟨gb319, 0, none⟩ = some (.int .u8 t312) := (blk_cell BK319.out 0).trans rfl
            have hcz48_1 : w30.cell? ⟨gb319, 1, none⟩ = some (.string t313) := (blk_cell BK319.out 1).trans rfl
            have hcz48_2 : w30.cell? ⟨gb319, 2, none⟩ = some (.bool t314) := (blk_cell BK319.out 2).trans rfl
            have hcz48_3 : w30.cell? ⟨gb319, 3, none⟩ = some (.int .u8 t315) := (blk_cell BK319.out 3).trans rfl
            have hcz48_4 : w30.cell? ⟨gb319, 4, none⟩ = some (.int .i64 t316) := (blk_cell BK319.out 4).trans rfl
            have hcz48_5 : w30.cell? ⟨gb319, 5, none⟩ = some (.int .i64 t317) := (blk_cell BK319.out 5).trans rfl
            have hfz48_0 := blk_frozen BK319.out 0
            have hfz48_1 := blk_frozen BK319.out 1
            have hfz48_2 := blk_frozen BK319.out 2
            have hfz48_3 := blk_frozen BK319.out 3
            have hfz48_4 := blk_frozen BK319.out 4
            have hfz48_5 := blk_frozen BK319.out 5
            have hnb49 := NB327_335.out
            have hnc49 := NB335_327.out
            have hnb50 := NB327_343.out
            have hnc50 := NB343_327.out
            have hcz51_0 : w30.cell? ⟨gb327, 0, none⟩ = some (.int .u8 t320) := (blk_cell BK327.out 0).trans rfl
            have hcz51_1 : w30.cell? ⟨gb327, 1, none⟩ = some (.string t321) := (blk_cell BK327.out 1).trans rfl
            have hcz51_2 : w30.cell? ⟨gb327, 2, none⟩ = some (.bool t322) := (blk_cell BK327.out 2).trans rfl
            have hcz51_3 : w30.cell? ⟨gb327, 3, none⟩ = some (.int .u8 t323) := (blk_cell BK327.out 3).trans rfl
            have hcz51_4 : w30.cell? ⟨gb327, 4, none⟩ = some (.int .i64 t324) := (blk_cell BK327.out 4).trans rfl
            have hcz51_5 : w30.cell? ⟨gb327, 5, none⟩ = some (.int .i64 t325) := (blk_cell BK327.out 5).trans rfl
            have hfz51_0 := blk_frozen BK327.out 0
            have hfz51_1 := blk_frozen BK327.out 1
            have hfz51_2 := blk_frozen BK327.out 2
            have hfz51_3 := blk_frozen BK327.out 3
            have hfz51_4 := blk_frozen BK327.out 4
            have hfz51_5 := blk_frozen BK327.out 5
            have hnb52 := NB335_343.out
            have hnc52 := NB343_335.out
            have hcz53_0 : w30.cell? ⟨gb335, 0, none⟩ = some (.int .u8 t328) := (blk_cell BK335.out 0).trans rfl
            have hcz53_1 : w30.cell? ⟨gb335, 1, none⟩ = some (.string t329) := (blk_cell BK335.out 1).trans rfl
            have hcz53_2 : w30.cell? ⟨gb335, 2, none⟩ = some (.bool t330) := (blk_cell BK335.out 2).trans rfl
            have hcz53_3 : w30.cell? ⟨gb335, 3, none⟩ = some (.int .u8 t331) := (blk_cell BK335.out 3).trans rfl
            have hcz53_4 : w30.cell? ⟨gb335, 4, none⟩ = some (.int .i64 t332) := (blk_cell BK335.out 4).trans rfl
            have hcz53_5 : w30.cell? ⟨gb335, 5, none⟩ = some (.int .i64 t333) := (blk_cell BK335.out 5).trans rfl
            have hfz53_0 := blk_frozen BK335.out 0
            have hfz53_1 := blk_frozen BK335.out 1
            have hfz53_2 := blk_frozen BK335.out 2
            have hfz53_3 := blk_frozen BK335.out 3
            have hfz53_4 := blk_frozen BK335.out 4
            have hfz53_5 := blk_frozen BK335.out 5
            have hcz54_0 : w30.cell? ⟨gb343, 0, none⟩ = some (.int .u8 0) := (blk_cell BK343.out 0).trans rfl
            have hcz54_1 : w30.cell? ⟨gb343, 1, none⟩ = some (.string (⟨#[]⟩ : ByteArray)) := (blk_cell BK343.out 1).trans rfl
            have hcz54_2 : w30.cell? ⟨gb343, 2, none⟩ = some (.bool false) := (blk_cell BK343.out 2).trans rfl
            have hcz54_3 : w30.cell? ⟨gb343, 3, none⟩ = some (.int .u8 0) := (blk_cell BK343.out 3).trans rfl
            have hcz54_4 : w30.cell? ⟨gb343, 4, none⟩ = some (.int .i64 0) := (blk_cell BK343.out 4).trans rfl
            have hcz54_5 : w30.cell? ⟨gb343, 5, none⟩ = some (.int .i64 0) := (blk_cell BK343.out 5).trans rfl
            have hfz54_0 := blk_frozen BK343.out 0
            have hfz54_1 := blk_frozen BK343.out 1
            have hfz54_2 := blk_frozen BK343.out 2
            have hfz54_3 := blk_frozen BK343.out 3
            have hfz54_4 := blk_frozen BK343.out 4
            have hfz54_5 := blk_frozen BK343.out 5
            go_wp2
            go_meet
            case rel => exact ⟨_, (true), (by first | rfl | (simp; done) | (simp [*]; done)), H', ⟨by first | omega | exact Nat.le_refl _⟩, ⟨by (with_reducible repeat (first | refine blk_drewN ?_ _ | refine blk_drew ?_ | refine blk_alloc ?_ _)); refine blk_far ?_ NB319_343.out _; (with_reducible repeat (first | refine blk_drewN ?_ _ | refine blk_drew ?_ | refine blk_alloc ?_ _)); refine blk_far ?_ NB319_343.out _; (with_reducible repeat (first | refine blk_drewN ?_ _ | refine blk_drew ?_ | refine blk_alloc ?_ _)); refine blk_far ?_ NB319_343.out _; (with_reducible repeat (first | refine blk_drewN ?_ _ | refine blk_drew ?_ | refine blk_alloc ?_ _)); refine blk_far ?_ NB319_343.out _; (with_reducible repeat (first | refine blk_drewN ?_ _ | refine blk_drew ?_ | refine blk_alloc ?_ _)); refine blk_far ?_ NB319_343.out _; (with_reducible repeat (first | refine blk_drewN ?_ _ | refine blk_drew ?_ | refine blk_alloc ?_ _)); refine blk_far ?_ NB319_343.out _; (with_reducible repeat (first | refine blk_drewN ?_ _ | refine blk_drew ?_ | refine blk_alloc ?_ _)); exact BK319.out⟩, ⟨by (with_reducible repeat (first | refine blk_drewN ?_ _ | refine blk_drew ?_ | refine blk_alloc ?_ _)); refine blk_far ?_ NB327_343.out _; (with_reducible repeat (first | refine blk_drewN ?_ _ | refine blk_drew ?_ | refine blk_alloc ?_ _)); refine blk_far ?_ NB327_343.out _; (with_reducible repeat (first | refine blk_drewN ?_ _ | refine blk_drew ?_ | refine blk_alloc ?_ _)); refine blk_far ?_ NB327_343.out _; (with_reducible repeat (first | refine blk_drewN ?_ _ | refine blk_drew ?_ | refine blk_alloc ?_ _)); refine blk_far ?_ NB327_343.out _; (with_reducible repeat (first | refine blk_drewN ?_ _ | refine blk_drew ?_ | refine blk_alloc ?_ _)); refine blk_far ?_ NB327_343.out _; (with_reducible repeat (first | refine blk_drewN ?_ _ | refine blk_drew ?_ | refine blk_alloc ?_ _)); refine blk_far ?_ NB327_343.out _; (with_reducible repeat (first | refine blk_drewN ?_ _ | refine blk_drew ?_ | refine blk_alloc ?_ _)); exact BK327.out⟩, ⟨by (with_reducible repeat (first | refine blk_drewN ?_ _ | refine blk_drew ?_ | refine blk_alloc ?_ _)); refine blk_far ?_ NB335_343.out _; (with_reducible repeat (first | refine blk_drewN ?_ _ | refine blk_drew ?_ | refine blk_alloc ?_ _)); refine blk_far ?_ NB335_343.out _; (with_reducible repeat (first | refine blk_drewN ?_ _ | refine blk_drew ?_ | refine blk_alloc ?_ _)); refine blk_far ?_ NB335_343.out _; (with_reducible repeat (first | refine blk_drewN ?_ _ | refine blk_drew ?_ | refine blk_alloc ?_ _)); refine blk_far ?_ NB335_343.out _; (with_reducible repeat (first | refine blk_drewN ?_ _ | refine blk_drew ?_ | refine blk_alloc ?_ _)); refine blk_far ?_ NB335_343.out _; (with_reducible repeat (first | refine blk_drewN ?_ _ | refine blk_drew ?_ | refine blk_alloc ?_ _)); refine blk_far ?_ NB335_343.out _; (with_reducible repeat (first | refine blk_drewN ?_ _ | refine blk_drew ?_ | refine blk_alloc ?_ _)); exact BK335.out⟩, ⟨by (with_reducible repeat (first | refine blk_drewN ?_ _ | refine blk_drew ?_ | refine blk_alloc ?_ _)); refine blk_put (cs := #[.int .u8 t336, .string t337, .bool t338, .int .u8 t339, .int .i64 t340, .int .i64 0]) ?_ 5 _ rfl; (with_reducible repeat (first | refine blk_drewN ?_ _ | refine blk_drew ?_ | refine blk_alloc ?_ _)); refine blk_put (cs := #[.int .u8 t336, .string t337, .bool t338, .int .u8 t339, .int .i64 0, .int .i64 0]) ?_ 4 _ rfl; (with_reducible repeat (first | refine blk_drewN ?_ _ | refine blk_drew ?_ | refine blk_alloc ?_ _)); refine blk_put (cs := #[.int .u8 t336, .string t337, .bool t338, .int .u8 0, .int .i64 0, .int .i64 0]) ?_ 3 _ rfl; (with_reducible repeat (first | refine blk_drewN ?_ _ | refine blk_drew ?_ | refine blk_alloc ?_ _)); refine blk_put (cs := #[.int .u8 t336, .string t337, .bool false, .int .u8 0, .int .i64 0, .int .i64 0]) ?_ 2 _ rfl; (with_reducible repeat (first | refine blk_drewN ?_ _ | refine blk_drew ?_ | refine blk_alloc ?_ _)); refine blk_put (cs := #[.int .u8 t336, .string (⟨#[]⟩ : ByteArray), .bool false, .int .u8 0, .int .i64 0, .int .i64 0]) ?_ 1 _ rfl; (with_reducible repeat (first | refine blk_drewN ?_ _ | refine blk_drew ?_ | refine blk_alloc ?_ _)); refine blk_put (cs := #[.int .u8 0, .string (⟨#[]⟩ : ByteArray), .bool false, .int .u8 0, .int .i64 0, .int .i64 0]) ?_ 0 _ rfl; (with_reducible repeat (first | refine blk_drewN ?_ _ | refine blk_drew ?_ | refine blk_alloc ?_ _)); exact BK343.out⟩, ⟨by repeat (first | (with_reducible first | exact HB.out | apply below_alloc | apply pw_below_drewN | apply below_drew1 | refine below_set ?_ GE319.out | refine below_set ?_ GE327.out | refine below_set ?_ GE335.out | refine below_set ?_ GE343.out) | exact HB.out)⟩⟩
          · rw [if_neg c44] at H
            have c44b0 : (!(t328 == t336) || (!(t329.toList == t337.toList) || (!(t330 == t338) || (!(t331 == t339) || (!(t332 == t340) || (!(t333 == t341))))))) = false := by simpa using c44
            clear c44
            have H' := Aside0.mk H
            clear H
            have hnb55 := NB319_327.out
            have hnc55 := NB327_319.out
            have hnb56 := NB319_335.out
            have hnc56 := NB335_319.out
            have hnb57 := NB319_343.out
            have hnc57 := NB343_319.out
            have hcz58_0 : w30.cell? ⟨gb319, 0, none⟩ = some (.int .u8 t312) := (blk_cell BK319.out 0).trans rfl
            have hcz58_1 : w30.cell? ⟨gb319, 1, none⟩ = some (.string t313) := (blk_cell BK319.out 1).trans rfl
            have hcz58_2 : w30.cell? ⟨gb319, 2, none⟩ = some (.bool t314) := (blk_cell BK319.out 2).trans rfl
            have hcz58_3 : w30.cell? ⟨gb319, 3, none⟩ = some (.int .u8 t315) := (blk_cell BK319.out 3).trans rfl
            have hcz58_4 : w30.cell? ⟨gb319, 4, none⟩ = some (.int .i64 t316) := (blk_cell BK319.out 4).trans rfl
            have hcz58_5 : w30.cell? ⟨gb319, 5, none⟩ = some (.int .i64 t317) := (blk_cell BK319.out 5).trans rfl
            have hfz58_0 := blk_frozen BK319.out 0
            have hfz58_1 := blk_frozen BK319.out 1
            have hfz58_2 := blk_frozen BK319.out 2
            have hfz58_3 := blk_frozen BK319.out 3
            have hfz58_4 := blk_frozen BK319.out 4
            have hfz58_5 := blk_frozen BK319.out 5
            have hnb59 := NB327_335.out
            have hnc59 := NB335_327.out
            have hnb60 := NB327_343.out
            have hnc60 := NB343_327.out
            have hcz61_0 : w30.cell? ⟨gb327, 0, none⟩ = some (.int .u8 t320) := (blk_cell BK327.out 0).trans rfl
            have hcz61_1 : w30.cell? ⟨gb327, 1, none⟩ = some (.string t321) := (blk_cell BK327.out 1).trans rfl
            have hcz61_2 : w30.cell? ⟨gb327, 2, none⟩ = some (.bool t322) := (blk_cell BK327.out 2).trans rfl
            have hcz61_3 : w30.cell? ⟨gb327, 3, none⟩ = some (.int .u8 t323) := (blk_cell BK327.out 3).trans rfl
            have hcz61_4 : w30.cell? ⟨gb327, 4, none⟩ = some (.int .i64 t324) := (blk_cell BK327.out 4).trans rfl
            have hcz61_5 : w30.cell? ⟨gb327, 5, none⟩ = some (.int .i64 t325) := (blk_cell BK327.out 5).trans rfl
            have hfz61_0 := blk_frozen BK327.out 0
            have hfz61_1 := blk_frozen BK327.out 1
            have hfz61_2 := blk_frozen BK327.out 2
            have hfz61_3 := blk_frozen BK327.out 3
            have hfz61_4 := blk_frozen BK327.out 4
            have hfz61_5 := blk_frozen BK327.out 5
            have hnb62 := NB335_343.out
            have hnc62 := NB343_335.out
            have hcz63_0 : w30.cell? ⟨gb335, 0, none⟩ = some (.int .u8 t328) := (blk_cell BK335.out 0).trans rfl
            have hcz63_1 : w30.cell? ⟨gb335, 1, none⟩ = some (.string t329) := (blk_cell BK335.out 1).trans rfl
            have hcz63_2 : w30.cell? ⟨gb335, 2, none⟩ = some (.bool t330) := (blk_cell BK335.out 2).trans rfl
            have hcz63_3 : w30.cell? ⟨gb335, 3, none⟩ = some (.int .u8 t331) := (blk_cell BK335.out 3).trans rfl
            have hcz63_4 : w30.cell? ⟨gb335, 4, none⟩ = some (.int .i64 t332) := (blk_cell BK335.out 4).trans rfl
            have hcz63_5 : w30.cell? ⟨gb335, 5, none⟩ = some (.int .i64 t333) := (blk_cell BK335.out 5).trans rfl
            have hfz63_0 := blk_frozen BK335.out 0
            have hfz63_1 := blk_frozen BK335.out 1
            have hfz63_2 := blk_frozen BK335.out 2
            have hfz63_3 := blk_frozen BK335.out 3
            have hfz63_4 := blk_frozen BK335.out 4
            have hfz63_5 := blk_frozen BK335.out 5
            have hcz64_0 : w30.cell? ⟨gb343, 0, none⟩ = some (.int .u8 0) := (blk_cell BK343.out 0).trans rfl
            have hcz64_1 : w30.cell? ⟨gb343, 1, none⟩ = some (.string (⟨#[]⟩ : ByteArray)) := (blk_cell BK343.out 1).trans rfl
            have hcz64_2 : w30.cell? ⟨gb343, 2, none⟩ = some (.bool false) := (blk_cell BK343.out 2).trans rfl
            have hcz64_3 : w30.cell? ⟨gb343, 3, none⟩ = some (.int .u8 0) := (blk_cell BK343.out 3).trans rfl
            have hcz64_4 : w30.cell? ⟨gb343, 4, none⟩ = some (.int .i64 0) := (blk_cell BK343.out 4).trans rfl
            have hcz64_5 : w30.cell? ⟨gb343, 5, none⟩ = some (.int .i64 0) := (blk_cell BK343.out 5).trans rfl
            have hfz64_0 := blk_frozen BK343.out 0
            have hfz64_1 := blk_frozen BK343.out 1
            have hfz64_2 := blk_frozen BK343.out 2
            have hfz64_3 := blk_frozen BK343.out 3
            have hfz64_4 := blk_frozen BK343.out 4
            have hfz64_5 := blk_frozen BK343.out 5
            go_wp2
            go_meet
            case rel => exact ⟨_, ((t334 != t342)), (by first | rfl | (simp; done) | (simp [*]; done)), H', ⟨by first | omega | exact Nat.le_refl _⟩, ⟨by (with_reducible repeat (first | refine blk_drewN ?_ _ | refine blk_drew ?_ | refine blk_alloc ?_ _)); refine blk_far ?_ NB319_343.out _; (with_reducible repeat (first | refine blk_drewN ?_ _ | refine blk_drew ?_ | refine blk_alloc ?_ _)); refine blk_far ?_ NB319_343.out _; (with_reducible repeat (first | refine blk_drewN ?_ _ | refine blk_drew ?_ | refine blk_alloc ?_ _)); refine blk_far ?_ NB319_343.out _; (with_reducible repeat (first | refine blk_drewN ?_ _ | refine blk_drew ?_ | refine blk_alloc ?_ _)); refine blk_far ?_ NB319_343.out _; (with_reducible repeat (first | refine blk_drewN ?_ _ | refine blk_drew ?_ | refine blk_alloc ?_ _)); refine blk_far ?_ NB319_343.out _; (with_reducible repeat (first | refine blk_drewN ?_ _ | refine blk_drew ?_ | refine blk_alloc ?_ _)); refine blk_far ?_ NB319_343.out _; (with_reducible repeat (first | refine blk_drewN ?_ _ | refine blk_drew ?_ | refine blk_alloc ?_ _)); exact BK319.out⟩, ⟨by (with_reducible repeat (first | refine blk_drewN ?_ _ | refine blk_drew ?_ | refine blk_alloc ?_ _)); refine blk_far ?_ NB327_343.out _; (with_reducible repeat (first | refine blk_drewN ?_ _ | refine blk_drew ?_ | refine blk_alloc ?_ _)); refine blk_far ?_ NB327_343.out _; (with_reducible repeat (first | refine blk_drewN ?_ _ | refine blk_drew ?_ | refine blk_alloc ?_ _)); refine blk_far ?_ NB327_343.out _; (with_reducible repeat (first | refine blk_drewN ?_ _ | refine blk_drew ?_ | refine blk_alloc ?_ _)); refine blk_far ?_ NB327_343.out _; (with_reducible repeat (first | refine blk_drewN ?_ _ | refine blk_drew ?_ | refine blk_alloc ?_ _)); refine blk_far ?_ NB327_343.out _; (with_reducible repeat (first | refine blk_drewN ?_ _ | refine blk_drew ?_ | refine blk_alloc ?_ _)); refine blk_far ?_ NB327_343.out _; (with_reducible repeat (first | refine blk_drewN ?_ _ | refine blk_drew ?_ | refine blk_alloc ?_ _)); exact BK327.out⟩, ⟨by (with_reducible repeat (first | refine blk_drewN ?_ _ | refine blk_drew ?_ | refine blk_alloc ?_ _)); refine blk_far ?_ NB335_343.out _; (with_reducible repeat (first | refine blk_drewN ?_ _ | refine blk_drew ?_ | refine blk_alloc ?_ _)); refine blk_far ?_ NB335_343.out _; (with_reducible repeat (first | refine blk_drewN ?_ _ | refine blk_drew ?_ | refine blk_alloc ?_ _)); refine blk_far ?_ NB335_343.out _; (with_reducible repeat (first | refine blk_drewN ?_ _ | refine blk_drew ?_ | refine blk_alloc ?_ _)); refine blk_far ?_ NB335_343.out _; (with_reducible repeat (first | refine blk_drewN ?_ _ | refine blk_drew ?_ | refine blk_alloc ?_ _)); refine blk_far ?_ NB335_343.out _; (with_reducible repeat (first | refine blk_drewN ?_ _ | refine blk_drew ?_ | refine blk_alloc ?_ _)); refine blk_far ?_ NB335_343.out _; (with_reducible repeat (first | refine blk_drewN ?_ _ | refine blk_drew ?_ | refine blk_alloc ?_ _)); exact BK335.out⟩, ⟨by (with_reducible repeat (first | refine blk_drewN ?_ _ | refine blk_drew ?_ | refine blk_alloc ?_ _)); refine blk_put (cs := #[.int .u8 t336, .string t337, .bool t338, .int .u8 t339, .int .i64 t340, .int .i64 0]) ?_ 5 _ rfl; (with_reducible repeat (first | refine blk_drewN ?_ _ | refine blk_drew ?_ | refine blk_alloc ?_ _)); refine blk_put (cs := #[.int .u8 t336, .string t337, .bool t338, .int .u8 t339, .int .i64 0, .int .i64 0]) ?_ 4 _ rfl; (with_reducible repeat (first | refine blk_drewN ?_ _ | refine blk_drew ?_ | refine blk_alloc ?_ _)); refine blk_put (cs := #[.int .u8 t336, .string t337, .bool t338, .int .u8 0, .int .i64 0, .int .i64 0]) ?_ 3 _ rfl; (with_reducible repeat (first | refine blk_drewN ?_ _ | refine blk_drew ?_ | refine blk_alloc ?_ _)); refine blk_put (cs := #[.int .u8 t336, .string t337, .bool false, .int .u8 0, .int .i64 0, .int .i64 0]) ?_ 2 _ rfl; (with_reducible repeat (first | refine blk_drewN ?_ _ | refine blk_drew ?_ | refine blk_alloc ?_ _)); refine blk_put (cs := #[.int .u8 t336, .string (⟨#[]⟩ : ByteArray), .bool false, .int .u8 0, .int .i64 0, .int .i64 0]) ?_ 1 _ rfl; (with_reducible repeat (first | refine blk_drewN ?_ _ | refine blk_drew ?_ | refine blk_alloc ?_ _)); refine blk_put (cs := #[.int .u8 0, .string (⟨#[]⟩ : ByteArray), .bool false, .int .u8 0, .int .i64 0, .int .i64 0]) ?_ 0 _ rfl; (with_reducible repeat (first | refine blk_drewN ?_ _ | refine blk_drew ?_ | refine blk_alloc ?_ _)); exact BK343.out⟩, ⟨by repeat (first | (with_reducible first | exact HB.out | apply below_alloc | apply pw_below_drewN | apply below_drew1 | refine below_set ?_ GE319.out | refine below_set ?_ GE327.out | refine below_set ?_ GE335.out | refine below_set ?_ GE343.out) | exact HB.out)⟩⟩
        · rw [if_neg c43] at H
          have c43b0 : (t318 == t326) = false := beq_eq_false_iff_ne.mpr c43
          have c43b1 : (t318 != t326) = true := bne_iff_ne.mpr c43
          have H' := Aside0.mk H
          clear H
          have hnb65 := NB319_327.out
          have hnc65 := NB327_319.out
          have hnb66 := NB319_335.out
          have hnc66 := NB335_319.out
          have hnb67 := NB319_343.out
          have hnc67 := NB343_319.out
          have hcz68_0 : w30.cell? ⟨gb319, 0, none⟩ = some (.int .u8 t312) := (blk_cell BK319.out 0).trans rfl
          have hcz68_1 : w30.cell? ⟨gb319, 1, none⟩ = some (.string t313) := (blk_cell BK319.out 1).trans rfl
          have hcz68_2 : w30.cell? ⟨gb319, 2, none⟩ = some (.bool t314) := (blk_cell BK319.out 2).trans rfl
          have hcz68_3 : w30.cell? ⟨gb319, 3, none⟩ = some (.int .u8 t315) := (blk_cell BK319.out 3).trans rfl
          have hcz68_4 : w30.cell? ⟨gb319, 4, none⟩ = some (.int .i64 t316) := (blk_cell BK319.out 4).trans rfl
          have hcz68_5 : w30.cell? ⟨gb319, 5, none⟩ = some (.int .i64 t317) := (blk_cell BK319.out 5).trans rfl
          have hfz68_0 := blk_frozen BK319.out 0
          have hfz68_1 := blk_frozen BK319.out 1
          have hfz68_2 := blk_frozen BK319.out 2
          have hfz68_3 := blk_frozen BK319.out 3
          have hfz68_4 := blk_frozen BK319.out 4
          have hfz68_5 := blk_frozen BK319.out 5
          have hnb69 := NB327_335.out
          have hnc69 := NB335_327.out
          have hnb70 := NB327_343.out
          have hnc70 := NB343_327.out
          have hcz71_0 : w30.cell? ⟨gb327, 0, none⟩ = some (.int .u8 t320) := (blk_cell BK327.out 0).trans rfl
          have hcz71_1 : w30.cell? ⟨gb327, 1, none⟩ = some (.string t321) := (blk_cell BK327.out 1).trans rfl
          have hcz71_2 : w30.cell? ⟨gb327, 2, none⟩ = some (.bool t322) := (blk_cell BK327.out 2).trans rfl
          have hcz71_3 : w30.cell? ⟨gb327, 3, none⟩ = some (.int .u8 t323) := (blk_cell BK327.out 3).trans rfl
          have hcz71_4 : w30.cell? ⟨gb327, 4, none⟩ = some (.int .i64 t324) := (blk_cell BK327.out 4).trans rfl
          have hcz71_5 : w30.cell? ⟨gb327, 5, none⟩ = some (.int .i64 t325) := (blk_cell BK327.out 5).trans rfl
          have hfz71_0 := blk_frozen BK327.out 0
          have hfz71_1 := blk_frozen BK327.out 1
          have hfz71_2 := blk_frozen BK327.out 2
          have hfz71_3 := blk_frozen BK327.out 3
          have hfz71_4 := blk_frozen BK327.out 4
          have hfz71_5 := blk_frozen BK327.out 5
          go_wp2
          go_meet
          case rel => exact ⟨_, (true), (by first | rfl | (simp; done) | (simp [*]; done)), H', ⟨by first | omega | exact Nat.le_refl _⟩, ⟨by (with_reducible repeat (first | refine blk_drewN ?_ _ | refine blk_drew ?_ | refine blk_alloc ?_ _)); refine blk_far ?_ NB319_343.out _; (with_reducible repeat (first | refine blk_drewN ?_ _ | refine blk_drew ?_ | refine blk_alloc ?_ _)); refine blk_far ?_ NB319_343.out _; (with_reducible repeat (first | refine blk_drewN ?_ _ | refine blk_drew ?_ | refine blk_alloc ?_ _)); refine blk_far ?_ NB319_343.out _; (with_reducible repeat (first | refine blk_drewN ?_ _ | refine blk_drew ?_ | refine blk_alloc ?_ _)); refine blk_far ?_ NB319_343.out _; (with_reducible repeat (first | refine blk_drewN ?_ _ | refine blk_drew ?_ | refine blk_alloc ?_ _)); refine blk_far ?_ NB319_343.out _; (with_reducible repeat (first | refine blk_drewN ?_ _ | refine blk_drew ?_ | refine blk_alloc ?_ _)); refine blk_far ?_ NB319_343.out _; (with_reducible repeat (first | refine blk_drewN ?_ _ | refine blk_drew ?_ | refine blk_alloc ?_ _)); exact BK319.out⟩, ⟨by (with_reducible repeat (first | refine blk_drewN ?_ _ | refine blk_drew ?_ | refine blk_alloc ?_ _)); refine blk_far ?_ NB327_343.out _; (with_reducible repeat (first | refine blk_drewN ?_ _ | refine blk_drew ?_ | refine blk_alloc ?_ _)); refine blk_far ?_ NB327_343.out _; (with_reducible repeat (first | refine blk_drewN ?_ _ | refine blk_drew ?_ | refine blk_alloc ?_ _)); refine blk_far ?_ NB327_343.out _; (with_reducible repeat (first | refine blk_drewN ?_ _ | refine blk_drew ?_ | refine blk_alloc ?_ _)); refine blk_far ?_ NB327_343.out _; (with_reducible repeat (first | refine blk_drewN ?_ _ | refine blk_drew ?_ | refine blk_alloc ?_ _)); refine blk_far ?_ NB327_343.out _; (with_reducible repeat (first | refine blk_drewN ?_ _ | refine blk_drew ?_ | refine blk_alloc ?_ _)); refine blk_far ?_ NB327_343.out _; (with_reducible repeat (first | refine blk_drewN ?_ _ | refine blk_drew ?_ | refine blk_alloc ?_ _)); exact BK327.out⟩, ⟨by (with_reducible repeat (first | refine blk_drewN ?_ _ | refine blk_drew ?_ | refine blk_alloc ?_ _)); refine blk_far ?_ NB335_343.out _; (with_reducible repeat (first | refine blk_drewN ?_ _ | refine blk_drew ?_ | refine blk_alloc ?_ _)); refine blk_far ?_ NB335_343.out _; (with_reducible repeat (first | refine blk_drewN ?_ _ | refine blk_drew ?_ | refine blk_alloc ?_ _)); refine blk_far ?_ NB335_343.out _; (with_reducible repeat (first | refine blk_drewN ?_ _ | refine blk_drew ?_ | refine blk_alloc ?_ _)); refine blk_far ?_ NB335_343.out _; (with_reducible repeat (first | refine blk_drewN ?_ _ | refine blk_drew ?_ | refine blk_alloc ?_ _)); refine blk_far ?_ NB335_343.out _; (with_reducible repeat (first | refine blk_drewN ?_ _ | refine blk_drew ?_ | refine blk_alloc ?_ _)); refine blk_far ?_ NB335_343.out _; (with_reducible repeat (first | refine blk_drewN ?_ _ | refine blk_drew ?_ | refine blk_alloc ?_ _)); exact BK335.out⟩, ⟨by (with_reducible repeat (first | refine blk_drewN ?_ _ | refine blk_drew ?_ | refine blk_alloc ?_ _)); refine blk_put (cs := #[.int .u8 t336, .string t337, .bool t338, .int .u8 t339, .int .i64 t340, .int .i64 0]) ?_ 5 _ rfl; (with_reducible repeat (first | refine blk_drewN ?_ _ | refine blk_drew ?_ | refine blk_alloc ?_ _)); refine blk_put (cs := #[.int .u8 t336, .string t337, .bool t338, .int .u8 t339, .int .i64 0, .int .i64 0]) ?_ 4 _ rfl; (with_reducible repeat (first | refine blk_drewN ?_ _ | refine blk_drew ?_ | refine blk_alloc ?_ _)); refine blk_put (cs := #[.int .u8 t336, .string t337, .bool t338, .int .u8 0, .int .i64 0, .int .i64 0]) ?_ 3 _ rfl; (with_reducible repeat (first | refine blk_drewN ?_ _ | refine blk_drew ?_ | refine blk_alloc ?_ _)); refine blk_put (cs := #[.int .u8 t336, .string t337, .bool false, .int .u8 0, .int .i64 0, .int .i64 0]) ?_ 2 _ rfl; (with_reducible repeat (first | refine blk_drewN ?_ _ | refine blk_drew ?_ | refine blk_alloc ?_ _)); refine blk_put (cs := #[.int .u8 t336, .string (⟨#[]⟩ : ByteArray), .bool false, .int .u8 0, .int .i64 0, .int .i64 0]) ?_ 1 _ rfl; (with_reducible repeat (first | refine blk_drewN ?_ _ | refine blk_drew ?_ | refine blk_alloc ?_ _)); refine blk_put (cs := #[.int .u8 0, .string (⟨#[]⟩ : ByteArray), .bool false, .int .u8 0, .int .i64 0, .int .i64 0]) ?_ 0 _ rfl; (with_reducible repeat (first | refine blk_drewN ?_ _ | refine blk_drew ?_ | refine blk_alloc ?_ _)); exact BK343.out⟩, ⟨by repeat (first | (with_reducible first | exact HB.out | apply below_alloc | apply pw_below_drewN | apply below_drew1 | refine below_set ?_ GE319.out | refine below_set ?_ GE327.out | refine below_set ?_ GE335.out | refine below_set ?_ GE343.out) | exact HB.out)⟩⟩
    case rest =>
      clear HC12
      try clear c1
      try clear c2
      try clear p2
      try clear c3
      try clear c4
      try clear c5
      try clear c6
      try clear c7
      try clear c11
      try clear c12
      try clear c13
      try clear c14
      try clear c15
      try clear c16
      try clear c17
      try clear c22
      try clear c26
      try clear c27
      try clear c31
      try clear c32
      try clear c33
      try clear c35
      try clear c35b0
      try clear c36
      try clear c37
      try clear c38
      try clear c40
      try clear c41
      try clear c43
      try clear c43b0
      try clear c43b1
      try clear c44
      try clear c44b0
      try clear c45
      try clear c46
      try clear c47
      try clear c49
      try clear c50
      try clear c52
      try clear c55
      try clear c56
      try clear c57
      try clear c59
      try clear c60
      try clear c62
      try clear c65
      try clear c66
      try clear c67
      try clear c69
      try clear c70
      try clear hcz19_0
      try clear hcz19_1
      try clear hcz19_2
      try clear hcz19_3
      try clear hcz19_4
      try clear hcz19_5
      try clear hcz23_0
      try clear hcz23_1
      try clear hcz23_2
      try clear hcz23_3
      try clear hcz23_4
      try clear hcz23_5
      try clear hcz28_0
      try clear hcz28_1
      try clear hcz28_2
      try clear hcz28_3
      try clear hcz28_4
      try clear hcz28_5
      try clear hcz34_0
      try clear hcz34_1
      try clear hcz34_2
      try clear hcz34_3
      try clear hcz34_4
      try clear hcz34_5
      try clear hcz39_0
      try clear hcz39_1
      try clear hcz39_2
      try clear hcz39_3
      try clear hcz39_4
      try clear hcz39_5
      try clear hcz42_0
      try clear hcz42_1
      try clear hcz42_2
      try clear hcz42_3
      try clear hcz42_4
      try clear hcz42_5
      try clear hcz48_0
      try clear hcz48_1
      try clear hcz48_2
      try clear hcz48_3
      try clear hcz48_4
      try clear hcz48_5
      try clear hcz51_0
      try clear hcz51_1
      try clear hcz51_2
      try clear hcz51_3
      try clear hcz51_4
      try clear hcz51_5
      try clear hcz53_0
      try clear hcz53_1
      try clear hcz53_2
      try clear hcz53_3
      try clear hcz53_4
      try clear hcz53_5
      try clear hcz54_0
      try clear hcz54_1
      try clear hcz54_2
      try clear hcz54_3
      try clear hcz54_4
      try clear hcz54_5
      try clear hcz58_0
      try clear hcz58_1
      try clear hcz58_2
      try clear hcz58_3
      try clear hcz58_4
      try clear hcz58_5
      try clear hcz61_0
      try clear hcz61_1
      try clear hcz61_2
      try clear hcz61_3
      try clear hcz61_4
      try clear hcz61_5
      try clear hcz63_0
      try clear hcz63_1
      try clear hcz63_2
      try clear hcz63_3
      try clear hcz63_4
      try clear hcz63_5
      try clear hcz64_0
      try clear hcz64_1
      try clear hcz64_2
      try clear hcz64_3
      try clear hcz64_4
      try clear hcz64_5
      try clear hcz68_0
      try clear hcz68_1
      try clear hcz68_2
      try clear hcz68_3
      try clear hcz68_4
      try clear hcz68_5
      try clear hcz71_0
      try clear hcz71_1
      try clear hcz71_2
      try clear hcz71_3
      try clear hcz71_4
      try clear hcz71_5
      try clear hfz19_0
      try clear hfz19_1
      try clear hfz19_2
      try clear hfz19_3
      try clear hfz19_4
      try clear hfz19_5
      try clear hfz23_0
      try clear hfz23_1
      try clear hfz23_2
      try clear hfz23_3
      try clear hfz23_4
      try clear hfz23_5
      try clear hfz28_0
      try clear hfz28_1
      try clear hfz28_2
      try clear hfz28_3
      try clear hfz28_4
      try clear hfz28_5
      try clear hfz34_0
      try clear hfz34_1
      try clear hfz34_2
      try clear hfz34_3
      try clear hfz34_4
      try clear hfz34_5
      try clear hfz39_0
      try clear hfz39_1
      try clear hfz39_2
      try clear hfz39_3
      try clear hfz39_4
      try clear hfz39_5
      try clear hfz42_0
      try clear hfz42_1
      try clear hfz42_2
      try clear hfz42_3
      try clear hfz42_4
      try clear hfz42_5
      try clear hfz48_0
      try clear hfz48_1
      try clear hfz48_2
      try clear hfz48_3
      try clear hfz48_4
      try clear hfz48_5
      try clear hfz51_0
      try clear hfz51_1
      try clear hfz51_2
      try clear hfz51_3
      try clear hfz51_4
      try clear hfz51_5
      try clear hfz53_0
      try clear hfz53_1
      try clear hfz53_2
      try clear hfz53_3
      try clear hfz53_4
      try clear hfz53_5
      try clear hfz54_0
      try clear hfz54_1
      try clear hfz54_2
      try clear hfz54_3
      try clear hfz54_4
      try clear hfz54_5
      try clear hfz58_0
      try clear hfz58_1
      try clear hfz58_2
      try clear hfz58_3
      try clear hfz58_4
      try clear hfz58_5
      try clear hfz61_0
      try clear hfz61_1
      try clear hfz61_2
      try clear hfz61_3
      try clear hfz61_4
      try clear hfz61_5
      try clear hfz63_0
      try clear hfz63_1
      try clear hfz63_2
      try clear hfz63_3
      try clear hfz63_4
      try clear hfz63_5
      try clear hfz64_0
      try clear hfz64_1
      try clear hfz64_2
      try clear hfz64_3
      try clear hfz64_4
      try clear hfz64_5
      try clear hfz68_0
      try clear hfz68_1
      try clear hfz68_2
      try clear hfz68_3
      try clear hfz68_4
      try clear hfz68_5
      try clear hfz71_0
      try clear hfz71_1
      try clear hfz71_2
      try clear hfz71_3
      try clear hfz71_4
      try clear hfz71_5
      obtain ⟨kq, x60_11, rfl, HA, HJ11, BK319, BK327, BK335, BK343, HB⟩ := hcut
      cases kq with
      | zero => exact absurd HA.out (by simp [perilunelaw04_IsaNames.j0])
      | succ kj11 =>
        have H := HA.out
        clear HA
        simp only [perilunelaw04_IsaNames.j0] at H
        by_cases c72 : x60_11 = true
        · subst c72
          have H1 : (some false) = some r := by rw [if_pos rfl] at H; exact H
          clear H
          have H := H1
          clear H1
          obtain rfl := Option.some.inj H
          go_wp2
          go_ret
          exact ⟨by first | rfl | (simp [errW_none, errW_some] <;> rfl) | (simp [*, errW_none, errW_some] <;> rfl), by repeat (first | (with_reducible first | exact HB.out | apply below_alloc | apply pw_below_drewN | apply below_drew1 | refine below_set ?_ GE319.out | refine below_set ?_ GE327.out | refine below_set ?_ GE335.out | refine below_set ?_ GE343.out) | exact HB.out)⟩
        · replace c72 := Bool.eq_false_iff.mpr c72
          subst c72
          have H1 : ((isa_Range.f a1 a0 false a2 0 0).bind fun bt344 => ((periluneref04_Range.f 0 (⟨#[]⟩ : ByteArray) false a2 0 0).bind fun bt346 => (if bt344.1 = bt346.1 then (if bt344.2 = bt346.2 then ((perilunelaw04_works.f kj11).bind fun t348 => (some t348)) else (some false)) else (some false)))) = some r := by rw [if_neg (show ¬ (false = true) by decide)] at H; exact H
          clear H
          have H := H1
          clear H1
          replace H := Option.bind_eq_some_iff.mp H
          obtain ⟨⟨t344, t345⟩, A730, H⟩ := H
          replace H : ((periluneref04_Range.f 0 (⟨#[]⟩ : ByteArray) false a2 0 0).bind fun bt346 => (if t344 = bt346.1 then (if t345 = bt346.2 then ((perilunelaw04_works.f kj11).bind fun t348 => (some t348)) else (some false)) else (some false))) = some r := H
          have A73 := Aside0.mk A730
          clear A730
          replace H := Option.bind_eq_some_iff.mp H
          obtain ⟨⟨t346, t347⟩, A740, H⟩ := H
          replace H : (if t344 = t346 then (if t345 = t347 then ((perilunelaw04_works.f kj11).bind fun t348 => (some t348)) else (some false)) else (some false)) = some r := H
          have A74 := Aside0.mk A740
          clear A740
          by_cases c75 : t344 = t346
          · rw [if_pos c75] at H
            have c75b0 : (t344 == t346) = true := beq_iff_eq.mpr c75
            have c75b1 : (t344 != t346) = false := bne_eq_false_iff_eq.mpr c75
            clear c75
            by_cases c76 : t345 = t347
            · rw [if_pos c76] at H
              have c76b0 : (t345 == t347) = true := beq_iff_eq.mpr c76
              have c76b1 : (t345 != t347) = false := bne_eq_false_iff_eq.mpr c76
              clear c76
              replace H := Option.bind_eq_some_iff.mp H
              obtain ⟨t348, A770, H⟩ := H
              replace H : (some t348) = some r := H
              have A77 := Aside0.mk A770
              clear A770
              obtain rfl := Option.some.inj H
              go_wp2_with (first | ((with_reducible refine gate_callee (f := 18) rfl ?_); refine goesL_ (some 66) rfl rfl Try.func18 (by kernel_rfl) rfl #[.agg #[.int .u8 a1, .string a0, .bool false, .int .u8 a2, .int .i64 0, .int .i64 0]] rfl (by (try simp only [List.map_toArray, List.map_cons, List.map_nil]); first | done | rfl | (simp only [List.length_drop, List.length_take]; rfl)) ?_; (with_reducible refine (isa_Range.calls a1 a0 false a2 0 0 t344 t345 _ A73.out).mono ?_); rintro e w78 ⟨rfl, hb⟩; refine ⟨_, rfl, ?_⟩; have n0_ := Aside0.mk (blk_below (g := gb319) (o := .cells #[.int .u8 t312, .string t313, .bool t314, .int .u8 t315, .int .i64 t316, .int .i64 t317] 28 (0, 0)) (by (with_reducible repeat (first | refine blk_drewN ?_ _ | refine blk_drew ?_ | refine blk_alloc ?_ _)); exact BK319.out) hb); have n1_ := Aside0.mk (blk_below (g := gb327) (o := .cells #[.int .u8 t320, .string t321, .bool t322, .int .u8 t323, .int .i64 t324, .int .i64 t325] 28 (0, 0)) (by (with_reducible repeat (first | refine blk_drewN ?_ _ | refine blk_drew ?_ | refine blk_alloc ?_ _)); exact BK327.out) hb); have n2_ := Aside0.mk (blk_below (g := gb335) (o := .cells #[.int .u8 t328, .string t329, .bool t330, .int .u8 t331, .int .i64 t332, .int .i64 t333] 28 (0, 0)) (by (with_reducible repeat (first | refine blk_drewN ?_ _ | refine blk_drew ?_ | refine blk_alloc ?_ _)); exact BK335.out) hb); have n3_ := Aside0.mk (blk_below (g := gb343) (o := .cells #[.int .u8 t336, .string t337, .bool t338, .int .u8 t339, .int .i64 t340, .int .i64 t341] 28 (0, 0)) (by (with_reducible repeat (first | refine blk_drewN ?_ _ | refine blk_drew ?_ | refine blk_alloc ?_ _)); exact BK343.out) hb); have n4_ := Aside0.mk (below_step (by repeat (first | (with_reducible first | exact HB.out | apply below_alloc | apply pw_below_drewN | apply below_drew1 | refine below_set ?_ GE319.out | refine below_set ?_ GE327.out | refine below_set ?_ GE335.out | refine below_set ?_ GE343.out) | exact HB.out)) hb); clear BK319; clear BK327; clear BK335; clear BK343; clear HB; have BK319 := n0_; have BK327 := n1_; have BK335 := n2_; have BK343 := n3_; have HB := n4_; clear n0_ n1_ n2_ n3_ n4_; (try clear hb); (try clear hb2); (try clear hk); (try clear hi)) | ((with_reducible refine gate_callee (f := 19) rfl ?_); refine goesL_ (some 72) rfl rfl Try.func19 (by kernel_rfl) rfl #[.agg #[.int .u8 0, .string (⟨#[]⟩ : ByteArray), .bool false, .int .u8 a2, .int .i64 0, .int .i64 0]] rfl (by (try simp only [List.map_toArray, List.map_cons, List.map_nil]); first | done | rfl | (simp only [List.length_drop, List.length_take]; rfl)) ?_; (with_reducible refine (periluneref04_Range.calls 0 (⟨#[]⟩ : ByteArray) false a2 0 0 t346 t347 _ A74.out).mono ?_); rintro e w79 ⟨rfl, hb⟩; refine ⟨_, rfl, ?_⟩; have n0_ := Aside0.mk (blk_below (g := gb319) (o := .cells #[.int .u8 t312, .string t313, .bool t314, .int .u8 t315, .int .i64 t316, .int .i64 t317] 28 (0, 0)) (by (with_reducible repeat (first | refine blk_drewN ?_ _ | refine blk_drew ?_ | refine blk_alloc ?_ _)); exact BK319.out) hb); have n1_ := Aside0.mk (blk_below (g := gb327) (o := .cells #[.int .u8 t320, .string t321, .bool t322, .int .u8 t323, .int .i64 t324, .int .i64 t325] 28 (0, 0)) (by (with_reducible repeat (first | refine blk_drewN ?_ _ | refine blk_drew ?_ | refine blk_alloc ?_ _)); exact BK327.out) hb); have n2_ := Aside0.mk (blk_below (g := gb335) (o := .cells #[.int .u8 t328, .string t329, .bool t330, .int .u8 t331, .int .i64 t332, .int .i64 t333] 28 (0, 0)) (by (with_reducible repeat (first | refine blk_drewN ?_ _ | refine blk_drew ?_ | refine blk_alloc ?_ _)); exact BK335.out) hb); have n3_ := Aside0.mk (blk_below (g := gb343) (o := .cells #[.int .u8 t336, .string t337, .bool t338, .int .u8 t339, .int .i64 t340, .int .i64 t341] 28 (0, 0)) (by (with_reducible repeat (first | refine blk_drewN ?_ _ | refine blk_drew ?_ | refine blk_alloc ?_ _)); exact BK343.out) hb); have n4_ := Aside0.mk (below_step (by repeat (first | (with_reducible first | exact HB.out | apply below_alloc | apply pw_below_drewN | apply below_drew1 | refine below_set ?_ GE319.out | refine below_set ?_ GE327.out | refine below_set ?_ GE335.out | refine below_set ?_ GE343.out) | exact HB.out)) hb); clear BK319; clear BK327; clear BK335; clear BK343; clear HB; have BK319 := n0_; have BK327 := n1_; have BK335 := n2_; have BK343 := n3_; have HB := n4_; clear n0_ n1_ n2_ n3_ n4_; (try clear hb); (try clear hb2); (try clear hk); (try clear hi)) | (go_at_call 20; (with_reducible refine (perilunelaw04_works.calls kj11  t348 _ A77.out).mono ?_); rintro e w80 ⟨rfl, hb⟩; have n0_ := Aside0.mk (blk_below (g := gb319) (o := .cells #[.int .u8 t312, .string t313, .bool t314, .int .u8 t315, .int .i64 t316, .int .i64 t317] 28 (0, 0)) (by (with_reducible repeat (first | refine blk_drewN ?_ _ | refine blk_drew ?_ | refine blk_alloc ?_ _)); exact BK319.out) hb); have n1_ := Aside0.mk (blk_below (g := gb327) (o := .cells #[.int .u8 t320, .string t321, .bool t322, .int .u8 t323, .int .i64 t324, .int .i64 t325] 28 (0, 0)) (by (with_reducible repeat (first | refine blk_drewN ?_ _ | refine blk_drew ?_ | refine blk_alloc ?_ _)); exact BK327.out) hb); have n2_ := Aside0.mk (blk_below (g := gb335) (o := .cells #[.int .u8 t328, .string t329, .bool t330, .int .u8 t331, .int .i64 t332, .int .i64 t333] 28 (0, 0)) (by (with_reducible repeat (first | refine blk_drewN ?_ _ | refine blk_drew ?_ | refine blk_alloc ?_ _)); exact BK335.out) hb); have n3_ := Aside0.mk (blk_below (g := gb343) (o := .cells #[.int .u8 t336, .string t337, .bool t338, .int .u8 t339, .int .i64 t340, .int .i64 t341] 28 (0, 0)) (by (with_reducible repeat (first | refine blk_drewN ?_ _ | refine blk_drew ?_ | refine blk_alloc ?_ _)); exact BK343.out) hb); have n4_ := Aside0.mk (below_step (by repeat (first | (with_reducible first | exact HB.out | apply below_alloc | apply pw_below_drewN | apply below_drew1 | refine below_set ?_ GE319.out | refine below_set ?_ GE327.out | refine below_set ?_ GE335.out | refine below_set ?_ GE343.out) | exact HB.out)) hb); clear BK319; clear BK327; clear BK335; clear BK343; clear HB; have BK319 := n0_; have BK327 := n1_; have BK335 := n2_; have BK343 := n3_; have HB := n4_; clear n0_ n1_ n2_ n3_ n4_; (try clear hb); (try clear hb2); (try clear hk); (try clear hi)))
              go_ret
              exact ⟨by first | rfl | (simp [errW_none, errW_some] <;> rfl) | (simp [*, errW_none, errW_some] <;> rfl), by repeat (first | (with_reducible first | exact HB.out | apply below_alloc | apply pw_below_drewN | apply below_drew1 | refine below_set ?_ GE319.out | refine below_set ?_ GE327.out | refine below_set ?_ GE335.out | refine below_set ?_ GE343.out) | exact HB.out)⟩
            · rw [if_neg c76] at H
              have c76b0 : (t345 == t347) = false := beq_eq_false_iff_ne.mpr c76
              have c76b1 : (t345 != t347) = true := bne_iff_ne.mpr c76
              obtain rfl := Option.some.inj H
              go_wp2_with (first | ((with_reducible refine gate_callee (f := 18) rfl ?_); refine goesL_ (some 66) rfl rfl Try.func18 (by kernel_rfl) rfl #[.agg #[.int .u8 a1, .string a0, .bool false, .int .u8 a2, .int .i64 0, .int .i64 0]] rfl (by (try simp only [List.map_toArray, List.map_cons, List.map_nil]); first | done | rfl | (simp only [List.length_drop, List.length_take]; rfl)) ?_; (with_reducible refine (isa_Range.calls a1 a0 false a2 0 0 t344 t345 _ A73.out).mono ?_); rintro e w81 ⟨rfl, hb⟩; refine ⟨_, rfl, ?_⟩; have n0_ := Aside0.mk (blk_below (g := gb319) (o := .cells #[.int .u8 t312, .string t313, .bool t314, .int .u8 t315, .int .i64 t316, .int .i64 t317] 28 (0, 0)) (by (with_reducible repeat (first | refine blk_drewN ?_ _ | refine blk_drew ?_ | refine blk_alloc ?_ _)); exact BK319.out) hb); have n1_ := Aside0.mk (blk_below (g := gb327) (o := .cells #[.int .u8 t320, .string t321, .bool t322, .int .u8 t323, .int .i64 t324, .int .i64 t325] 28 (0, 0)) (by (with_reducible repeat (first | refine blk_drewN ?_ _ | refine blk_drew ?_ | refine blk_alloc ?_ _)); exact BK327.out) hb); have n2_ := Aside0.mk (blk_below (g := gb335) (o := .cells #[.int .u8 t328, .string t329, .bool t330, .int .u8 t331, .int .i64 t332, .int .i64 t333] 28 (0, 0)) (by (with_reducible repeat (first | refine blk_drewN ?_ _ | refine blk_drew ?_ | refine blk_alloc ?_ _)); exact BK335.out) hb); have n3_ := Aside0.mk (blk_below (g := gb343) (o := .cells #[.int .u8 t336, .string t337, .bool t338, .int .u8 t339, .int .i64 t340, .int .i64 t341] 28 (0, 0)) (by (with_reducible repeat (first | refine blk_drewN ?_ _ | refine blk_drew ?_ | refine blk_alloc ?_ _)); exact BK343.out) hb); have n4_ := Aside0.mk (below_step (by repeat (first | (with_reducible first | exact HB.out | apply below_alloc | apply pw_below_drewN | apply below_drew1 | refine below_set ?_ GE319.out | refine below_set ?_ GE327.out | refine below_set ?_ GE335.out | refine below_set ?_ GE343.out) | exact HB.out)) hb); clear BK319; clear BK327; clear BK335; clear BK343; clear HB; have BK319 := n0_; have BK327 := n1_; have BK335 := n2_; have BK343 := n3_; have HB := n4_; clear n0_ n1_ n2_ n3_ n4_; (try clear hb); (try clear hb2); (try clear hk); (try clear hi)) | ((with_reducible refine gate_callee (f := 19) rfl ?_); refine goesL_ (some 72) rfl rfl Try.func19 (by kernel_rfl) rfl #[.agg #[.int .u8 0, .string (⟨#[]⟩ : ByteArray), .bool false, .int .u8 a2, .int .i64 0, .int .i64 0]] rfl (by (try simp only [List.map_toArray, List.map_cons, List.map_nil]); first | done | rfl | (simp only [List.length_drop, List.length_take]; rfl)) ?_; (with_reducible refine (periluneref04_Range.calls 0 (⟨#[]⟩ : ByteArray) false a2 0 0 t346 t347 _ A74.out).mono ?_); rintro e w82 ⟨rfl, hb⟩; refine ⟨_, rfl, ?_⟩; have n0_ := Aside0.mk (blk_below (g := gb319) (o := .cells #[.int .u8 t312, .string t313, .bool t314, .int .u8 t315, .int .i64 t316, .int .i64 t317] 28 (0, 0)) (by (with_reducible repeat (first | refine blk_drewN ?_ _ | refine blk_drew ?_ | refine blk_alloc ?_ _)); exact BK319.out) hb); have n1_ := Aside0.mk (blk_below (g := gb327) (o := .cells #[.int .u8 t320, .string t321, .bool t322, .int .u8 t323, .int .i64 t324, .int .i64 t325] 28 (0, 0)) (by (with_reducible repeat (first | refine blk_drewN ?_ _ | refine blk_drew ?_ | refine blk_alloc ?_ _)); exact BK327.out) hb); have n2_ := Aside0.mk (blk_below (g := gb335) (o := .cells #[.int .u8 t328, .string t329, .bool t330, .int .u8 t331, .int .i64 t332, .int .i64 t333] 28 (0, 0)) (by (with_reducible repeat (first | refine blk_drewN ?_ _ | refine blk_drew ?_ | refine blk_alloc ?_ _)); exact BK335.out) hb); have n3_ := Aside0.mk (blk_below (g := gb343) (o := .cells #[.int .u8 t336, .string t337, .bool t338, .int .u8 t339, .int .i64 t340, .int .i64 t341] 28 (0, 0)) (by (with_reducible repeat (first | refine blk_drewN ?_ _ | refine blk_drew ?_ | refine blk_alloc ?_ _)); exact BK343.out) hb); have n4_ := Aside0.mk (below_step (by repeat (first | (with_reducible first | exact HB.out | apply below_alloc | apply pw_below_drewN | apply below_drew1 | refine below_set ?_ GE319.out | refine below_set ?_ GE327.out | refine below_set ?_ GE335.out | refine below_set ?_ GE343.out) | exact HB.out)) hb); clear BK319; clear BK327; clear BK335; clear BK343; clear HB; have BK319 := n0_; have BK327 := n1_; have BK335 := n2_; have BK343 := n3_; have HB := n4_; clear n0_ n1_ n2_ n3_ n4_; (try clear hb); (try clear hb2); (try clear hk); (try clear hi)))
              go_ret
              exact ⟨by first | rfl | (simp [errW_none, errW_some] <;> rfl) | (simp [*, errW_none, errW_some] <;> rfl), by repeat (first | (with_reducible first | exact HB.out | apply below_alloc | apply pw_below_drewN | apply below_drew1 | refine below_set ?_ GE319.out | refine below_set ?_ GE327.out | refine below_set ?_ GE335.out | refine below_set ?_ GE343.out) | exact HB.out)⟩
          · rw [if_neg c75] at H
            have c75b0 : (t344 == t346) = false := beq_eq_false_iff_ne.mpr c75
            have c75b1 : (t344 != t346) = true := bne_iff_ne.mpr c75
            obtain rfl := Option.some.inj H
            go_wp2_with (first | ((with_reducible refine gate_callee (f := 18) rfl ?_); refine goesL_ (some 66) rfl rfl Try.func18 (by kernel_rfl) rfl #[.agg #[.int .u8 a1, .string a0, .bool false, .int .u8 a2, .int .i64 0, .int .i64 0]] rfl (by (try simp only [List.map_toArray, List.map_cons, List.map_nil]); first | done | rfl | (simp only [List.length_drop, List.length_take]; rfl)) ?_; (with_reducible refine (isa_Range.calls a1 a0 false a2 0 0 t344 t345 _ A73.out).mono ?_); rintro e w83 ⟨rfl, hb⟩; refine ⟨_, rfl, ?_⟩; have n0_ := Aside0.mk (blk_below (g := gb319) (o := .cells #[.int .u8 t312, .string t313, .bool t314, .int .u8 t315, .int .i64 t316, .int .i64 t317] 28 (0, 0)) (by (with_reducible repeat (first | refine blk_drewN ?_ _ | refine blk_drew ?_ | refine blk_alloc ?_ _)); exact BK319.out) hb); have n1_ := Aside0.mk (blk_below (g := gb327) (o := .cells #[.int .u8 t320, .string t321, .bool t322, .int .u8 t323, .int .i64 t324, .int .i64 t325] 28 (0, 0)) (by (with_reducible repeat (first | refine blk_drewN ?_ _ | refine blk_drew ?_ | refine blk_alloc ?_ _)); exact BK327.out) hb); have n2_ := Aside0.mk (blk_below (g := gb335) (o := .cells #[.int .u8 t328, .string t329, .bool t330, .int .u8 t331, .int .i64 t332, .int .i64 t333] 28 (0, 0)) (by (with_reducible repeat (first | refine blk_drewN ?_ _ | refine blk_drew ?_ | refine blk_alloc ?_ _)); exact BK335.out) hb); have n3_ := Aside0.mk (blk_below (g := gb343) (o := .cells #[.int .u8 t336, .string t337, .bool t338, .int .u8 t339, .int .i64 t340, .int .i64 t341] 28 (0, 0)) (by (with_reducible repeat (first | refine blk_drewN ?_ _ | refine blk_drew ?_ | refine blk_alloc ?_ _)); exact BK343.out) hb); have n4_ := Aside0.mk (below_step (by repeat (first | (with_reducible first | exact HB.out | apply below_alloc | apply pw_below_drewN | apply below_drew1 | refine below_set ?_ GE319.out | refine below_set ?_ GE327.out | refine below_set ?_ GE335.out | refine below_set ?_ GE343.out) | exact HB.out)) hb); clear BK319; clear BK327; clear BK335; clear BK343; clear HB; have BK319 := n0_; have BK327 := n1_; have BK335 := n2_; have BK343 := n3_; have HB := n4_; clear n0_ n1_ n2_ n3_ n4_; (try clear hb); (try clear hb2); (try clear hk); (try clear hi)) | ((with_reducible refine gate_callee (f := 19) rfl ?_); refine goesL_ (some 72) rfl rfl Try.func19 (by kernel_rfl) rfl #[.agg #[.int .u8 0, .string (⟨#[]⟩ : ByteArray), .bool false, .int .u8 a2, .int .i64 0, .int .i64 0]] rfl (by (try simp only [List.map_toArray, List.map_cons, List.map_nil]); first | done | rfl | (simp only [List.length_drop, List.length_take]; rfl)) ?_; (with_reducible refine (periluneref04_Range.calls 0 (⟨#[]⟩ : ByteArray) false a2 0 0 t346 t347 _ A74.out).mono ?_); rintro e w84 ⟨rfl, hb⟩; refine ⟨_, rfl, ?_⟩; have n0_ := Aside0.mk (blk_below (g := gb319) (o := .cells #[.int .u8 t312, .string t313, .bool t314, .int .u8 t315, .int .i64 t316, .int .i64 t317] 28 (0, 0)) (by (with_reducible repeat (first | refine blk_drewN ?_ _ | refine blk_drew ?_ | refine blk_alloc ?_ _)); exact BK319.out) hb); have n1_ := Aside0.mk (blk_below (g := gb327) (o := .cells #[.int .u8 t320, .string t321, .bool t322, .int .u8 t323, .int .i64 t324, .int .i64 t325] 28 (0, 0)) (by (with_reducible repeat (first | refine blk_drewN ?_ _ | refine blk_drew ?_ | refine blk_alloc ?_ _)); exact BK327.out) hb); have n2_ := Aside0.mk (blk_below (g := gb335) (o := .cells #[.int .u8 t328, .string t329, .bool t330, .int .u8 t331, .int .i64 t332, .int .i64 t333] 28 (0, 0)) (by (with_reducible repeat (first | refine blk_drewN ?_ _ | refine blk_drew ?_ | refine blk_alloc ?_ _)); exact BK335.out) hb); have n3_ := Aside0.mk (blk_below (g := gb343) (o := .cells #[.int .u8 t336, .string t337, .bool t338, .int .u8 t339, .int .i64 t340, .int .i64 t341] 28 (0, 0)) (by (with_reducible repeat (first | refine blk_drewN ?_ _ | refine blk_drew ?_ | refine blk_alloc ?_ _)); exact BK343.out) hb); have n4_ := Aside0.mk (below_step (by repeat (first | (with_reducible first | exact HB.out | apply below_alloc | apply pw_below_drewN | apply below_drew1 | refine below_set ?_ GE319.out | refine below_set ?_ GE327.out | refine below_set ?_ GE335.out | refine below_set ?_ GE343.out) | exact HB.out)) hb); clear BK319; clear BK327; clear BK335; clear BK343; clear HB; have BK319 := n0_; have BK327 := n1_; have BK335 := n2_; have BK343 := n3_; have HB := n4_; clear n0_ n1_ n2_ n3_ n4_; (try clear hb); (try clear hb2); (try clear hk); (try clear hi)))
            go_ret
            exact ⟨by first | rfl | (simp [errW_none, errW_some] <;> rfl) | (simp [*, errW_none, errW_some] <;> rfl), by repeat (first | (with_reducible first | exact HB.out | apply below_alloc | apply pw_below_drewN | apply below_drew1 | refine below_set ?_ GE319.out | refine below_set ?_ GE327.out | refine below_set ?_ GE335.out | refine below_set ?_ GE343.out) | exact HB.out)⟩
  · replace c7 := Bool.eq_false_iff.mpr c7
    subst c7
    have H1 : (some false) = some r := by rw [if_neg (show ¬ (false = true) by decide)] at H; exact H
    clear H
    have H := H1
    clear H1
    obtain rfl := Option.some.inj H
    go_enter Try.func3, Try.ntmps3
    go_wp2_with (first | ((with_reducible refine gate_callee (f := 12) rfl ?_); refine goesL_ (some 19) rfl rfl Try.func12 (by kernel_rfl) rfl #[] rfl (by (try simp only [List.map_toArray, List.map_cons, List.map_nil]); first | done | rfl | (simp only [List.length_drop, List.length_take]; rfl)) ?_; (with_reducible refine (isa_Names.calls k  t305 _ A4.out).mono ?_); rintro e w85 ⟨v306, rfl, ho0, hb⟩; refine ⟨_, rfl, ?_⟩; have n0_ := Aside0.mk (Kd.R_lower ho0 (below_size (by repeat (first | (with_reducible first | exact HB.out | apply below_alloc | apply pw_below_drewN | apply below_drew1) | exact HB.out)))); have n1_ := Aside0.mk (below_step (by repeat (first | (with_reducible first | exact HB.out | apply below_alloc | apply pw_below_drewN | apply below_drew1) | exact HB.out)) hb); clear HB; have HO307 := n0_; have HB := n1_; clear n0_ n1_; (try clear hb); (try clear hb2); (try clear hk); (try clear hi); (try clear ho0)) | ((with_reducible refine gate_callee (f := 13) rfl ?_); refine goesL_ (some 20) rfl rfl Try.func13 (by kernel_rfl) rfl #[] rfl (by (try simp only [List.map_toArray, List.map_cons, List.map_nil]); first | done | rfl | (simp only [List.length_drop, List.length_take]; rfl)) ?_; (with_reducible refine (periluneref04_Names.calls  t308 _ A5.out).mono ?_); rintro e w86 ⟨v309, rfl, ho0, hb⟩; refine ⟨_, rfl, ?_⟩; have n0_ := Aside0.mk (Kd.R_elder' (by (with_reducible repeat (first | apply Kd.R_alloc | apply Kd.R_drewN | apply Kd.R_drew)); exact HO307.out) (Kd.R_base ho0) hb); have n1_ := Aside0.mk (Kd.R_lower (Kd.R_new' ho0 (Kd.R_lt (by (with_reducible repeat (first | apply Kd.R_alloc | apply Kd.R_drewN | apply Kd.R_drew)); exact HO307.out))) (below_size (by repeat (first | (with_reducible first | exact HB.out | apply below_alloc | apply pw_below_drewN | apply below_drew1) | exact HB.out)))); have n2_ := Aside0.mk (below_step (by repeat (first | (with_reducible first | exact HB.out | apply below_alloc | apply pw_below_drewN | apply below_drew1) | exact HB.out)) hb); clear HO307; clear HB; have HO307 := n0_; have HO310 := n1_; have HB := n2_; clear n0_ n1_ n2_; (try clear hb); (try clear hb2); (try clear hk); (try clear hi); (try clear ho0); obtain ⟨Ao87, co87, eo87⟩ := Kd.R_slice HO307.out; subst eo87; obtain ⟨Ao88, co88, eo88⟩ := Kd.R_slice HO310.out; subst eo88) | ((with_reducible refine gate_callee (f := 11) rfl ?_); refine goesL_ (some 21) rfl rfl Try.func11 (by kernel_rfl) rfl #[.slice Ao87 t305.length co87, .slice Ao88 t308.length co88] rfl (by (try simp only [List.map_toArray, List.map_cons, List.map_nil]); first | done | rfl | (simp only [List.length_drop, List.length_take]; rfl)) ?_; (with_reducible refine (periluneref04_Texts.calls k _ _ t305 _ _ t308 false _ ?side1 ?side2 ?side3 ?side4 A6.out).mono ?_); (case side1 => repeat (first | exact (Kd.R_reads' HO307.out).2.2 | (with_reducible refine Kd.C_alloc ?_ _) | (with_reducible refine Kd.C_drewN ?_ _) | (with_reducible refine Kd.C_drew ?_))); (case side2 => exact (Kd.R_reads' HO307.out).2.1); (case side3 => repeat (first | exact (Kd.R_reads' HO310.out).2.2 | (with_reducible refine Kd.C_alloc ?_ _) | (with_reducible refine Kd.C_drewN ?_ _) | (with_reducible refine Kd.C_drew ?_))); (case side4 => exact (Kd.R_reads' HO310.out).2.1); rintro e w' ⟨rfl, ⟨nd, rfl⟩⟩; refine ⟨_, rfl, ?_⟩))
    go_ret
    exact ⟨by first | rfl | (simp [errW_none, errW_some] <;> rfl) | (simp [*, errW_none, errW_some] <;> rfl), by repeat (first | (with_reducible first | exact HB.out | apply below_alloc | apply pw_below_drewN | apply below_drew1) | exact HB.out)⟩


end Go.Proofs.Ytgaajaddaecejaa.PAll
