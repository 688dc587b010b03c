/- Chapter 5: a part of its proof (cut by program out of CpuA, CpuC, CpuM); no condition. -/
import Derived.BigQuiet
import Derived.Deep.QuietTactic
import Derived.Test.YtgbmaajfbbilhaaGreatKn17
import Derived.Test.YtgbmaajfbbilhaaGreatKn18
import Derived.Test.YtgbmaajfbbilhaaGreatKn20
set_option linter.unusedVariables false
set_option linter.unusedSimpArgs false
set_option linter.unusedSectionVars false
set_option maxRecDepth 100000
set_option maxHeartbeats 8000000
section
namespace Go.Proofs.YtgbmaajfbbilhaaGreat.Cpu
open Go.RowKit Go.Proofs.YtgbmaajfbbilhaaGreat.PAll Go.Proofs.YtgbmaajfbbilhaaGreat.One Go.Proofs.YtgbmaajfbbilhaaGreat.Mem Go.Proofs.YtgbmaajfbbilhaaGreat.Row Go.Proofs.YtgbmaajfbbilhaaGreatW.PrintWords Go.Proofs.YtgbmaajfbbilhaaGreatW.PrintLast Go.Proofs.YtgbmaajfbbilhaaGreatW.PrintMore Go.Proofs.YtgbmaajfbbilhaaGreat.Plain
theorem dq_ {P : Program} {f : FuncId} {args : Array Value} {w : World} {n : Nat} {v : Value} (h : Calls P f args (w.drewN n) fun e w' => e = .returned v ∧ Drawn0 (w.drewN n) w') : Calls P f args (w.drewN n) fun e w'' => e = .returned v ∧ ∃ m, w'' = w.drewN m :=
 Calls.quiet_of (h.mono fun e w' ⟨he, ⟨hm⟩⟩ => ⟨he, hm⟩)
theorem drawn_below {w W : World} (h : Drawn0 w W) : Below w.heap.size w W := by obtain ⟨n, rfl⟩ := h; exact pw_below_drewN (Below.refl _ _) _
structure RegAt (w : World) (q : Nat) (r : Rg) : Prop where
 c0 : w.cell? ⟨q, 0, none⟩ = some (.int .u16 r.a)
 c1 : w.cell? ⟨q, 1, none⟩ = some (.int .u16 r.l)
 c2 : w.cell? ⟨q, 2, none⟩ = some (.int .u16 r.q)
 c3 : w.cell? ⟨q, 3, none⟩ = some (.int .i64 r.z)
 c4 : w.cell? ⟨q, 4, none⟩ = some (.int .i64 r.eb)
 c5 : w.cell? ⟨q, 5, none⟩ = some (.int .i64 r.fb)
theorem RegAt.below {w w1 : World} {q : Nat} {r : Rg} (h : RegAt w q r) (hb : Below w.heap.size w w1) : RegAt w1 q r :=
 ⟨(hb.cell (World.block_lt_of_cell? _ _ h.c0)).trans h.c0, (hb.cell (World.block_lt_of_cell? _ _ h.c1)).trans h.c1, (hb.cell (World.block_lt_of_cell? _ _ h.c2)).trans h.c2, (hb.cell (World.block_lt_of_cell? _ _ h.c3)).trans h.c3, (hb.cell (World.block_lt_of_cell? _ _ h.c4)).trans h.c4, (hb.cell (World.block_lt_of_cell? _ _ h.c5)).trans h.c5⟩
def regL (r : Rg) (i : Int) : Int := if i = 1 then r.l else if i = 2 then r.q else if i = 3 then 256 * r.eb else if i = 4 then 1024 * r.fb else if i = 5 then r.z else if i = 6 then 1024 * r.fb + r.eb else 0
theorem regN_L (r : Rg) {i : Int} (h : i ≠ 0) (h7 : i < 8) (h0 : 0 ≤ i) : regN r i = extI (regL r i) := by
 have e : extI 0 = 0 := rfl
 unfold regN regL
 rw [if_neg h]
 repeat' split
 all_goals (first | rfl | omega)
theorem regL_b {r : Rg} (h : r.Ok) (i : Int) : 0 ≤ regL r i ∧ regL r i < 65536 := by
 have := h.l0; have := h.l1; have := h.q0; have := h.q1; have := h.e0; have := h.e1; have := h.f0; have := h.f1; have := h.z0; have := h.z1
 unfold regL
 repeat' split
 all_goals omega
theorem reg_ix (a b c d e f i v : Int) (h : (i = 1 ∧ v = a) ∨ (i = 2 ∧ v = b) ∨ (i = 3 ∧ v = c) ∨ (i = 4 ∧ v = d) ∨ (i = 5 ∧ v = e) ∨ (i = 6 ∧ v = f) ∨ (i = 7 ∧ v = 0)) (W : World) :
 (Instr.index 242 (.agg #[.int .u16 0, .int .u16 a, .int .u16 b, .int .u16 c, .int .u16 d, .int .u16 e, .int .u16 f, .int .u16 0]) (.int .i64 i)).run Tryz.prog W = .ok (.int .u16 v) W := by
 rcases h with ⟨rfl, rfl⟩ | ⟨rfl, rfl⟩ | ⟨rfl, rfl⟩ | ⟨rfl, rfl⟩ | ⟨rfl, rfl⟩ | ⟨rfl, rfl⟩ | ⟨rfl, rfl⟩ <;> kernel_rfl
theorem regL_cases (r : Rg) {i : Int} (h : i ≠ 0) (h0 : 0 ≤ i) (h1 : i < 8) : (i = 1 ∧ regL r i = r.l) ∨ (i = 2 ∧ regL r i = r.q) ∨ (i = 3 ∧ regL r i = 256 * r.eb) ∨ (i = 4 ∧ regL r i = 1024 * r.fb) ∨ (i = 5 ∧ regL r i = r.z) ∨ (i = 6 ∧ regL r i = 1024 * r.fb + r.eb) ∨ (i = 7 ∧ regL r i = 0) := by
 have hc : i = 1 ∨ i = 2 ∨ i = 3 ∨ i = 4 ∨ i = 5 ∨ i = 6 ∨ i = 7 := by omega
 rcases hc with rfl | rfl | rfl | rfl | rfl | rfl | rfl <;> simp [regL]
theorem register_c {q : Nat} {r : Rg} (w : World) (h : RegAt w q r) (ok : r.Ok) (i : Int) (i0 : 0 ≤ i) (i1 : i < 8) : Calls Tryz.prog 188 #[.pointer (some ⟨q, 0, none⟩), .int .i64 i] w fun e w' => e = .returned (.int .u16 (regN r i)) ∧ Drawn0 w w' := by
 obtain ⟨x0, x1, x2, x3, x4, x5⟩ := h
 by_cases hi : i = 0
 · subst hi
   go_enter Tryz.func188, Tryz.ntmps188
   go_wp2
   go_ret
   exact ⟨rfl, Drawn0.refl _⟩
 · have hb := regL_b ok i
   have hx := reg_ix r.l r.q (256 * r.eb) (1024 * r.fb) r.z (1024 * r.fb + r.eb) i (regL r i) (regL_cases r hi i0 i1)
   have c0 : (i == 0) = false := by simpa using hi
   rw [regN_L r hi i1 i0]
   have := ok.e0; have := ok.e1; have := ok.f0; have := ok.f1; have := ok.z0; have := ok.z1
   have e4 : IntKind.i64.wrap (r.eb * 256) = 256 * r.eb := by rw [wraps64 _ (by omega) (by omega)]; omega
   have e5 : IntKind.i64.wrap (r.fb * 1024) = 1024 * r.fb := by rw [wraps64 _ (by omega) (by omega)]; omega
   have f4 : IntKind.u16.wrap (256 * r.eb) = 256 * r.eb := u16w (by omega) (by omega)
   have f5 : IntKind.u16.wrap (1024 * r.fb) = 1024 * r.fb := u16w (by omega) (by omega)
   have f3 : IntKind.u16.wrap r.z = r.z := u16w (by omega) (by omega)
   have e6 : Go.bits .or .i64 (1024 * r.fb) r.eb = 1024 * r.fb + r.eb := or_apart 10 (by omega) (by omega) (by omega) (by omega) (by omega) (by omega)
   have f6 : IntKind.u16.wrap (1024 * r.fb + r.eb) = 1024 * r.fb + r.eb := u16w (by omega) (by omega)
   go_enter Tryz.func188, Tryz.ntmps188
   go_wp2
   go_quiet ((go_at_call 186; exact dq_ (ext_c _ hb.1 hb.2 _)))
   go_wp2
   go_ret
   exact ⟨rfl, by repeat (first | exact Drawn0.refl _ | apply Drawn0.step)⟩
structure VwAt (w : World) (A0 A1 A2 : Option Addr) (v : Vw) : Prop where
 ce : Kd.C (Kd.int .u16) w A0 v.e.length v.e
 cf : Kd.C (Kd.int .u16) w A1 v.f.length v.f
 cc : Kd.C (Kd.int .u16) w A2 v.c.length v.c
 be : ∀ i, 0 ≤ rd v.e i ∧ rd v.e i < 65536
 bf : ∀ i, 0 ≤ rd v.f i ∧ rd v.f i < 65536
 bc : ∀ i, 0 ≤ rd v.c i ∧ rd v.c i < 65536
theorem VwAt.below {w w1 : World} {A0 A1 A2 : Option Addr} {v : Vw} (h : VwAt w A0 A1 A2 v) (hb : Below w.heap.size w w1) : VwAt w1 A0 A1 A2 v :=
 ⟨Kd.C_below h.ce hb, Kd.C_below h.cf hb, Kd.C_below h.cc hb, h.be, h.bf, h.bc⟩
theorem element_f (l : List Int) (hl : ∀ i, 0 ≤ rd l i ∧ rd l i < 65536) {i : Int} (h : 0 ≤ i) : cpu_element.f l i = some (elemN l i) := by
 unfold cpu_element.f elemN
 by_cases c : i < (l.length : Int)
 · rw [if_pos c, if_pos c, if_pos h, and_32767 (hl i).1 (hl i).2]
 · rw [if_neg c, if_neg c]
theorem element_c {A : Option Addr} {c : Nat} {l : List Int} {i : Int} (w : World) (hC : Kd.C (Kd.int .u16) w A l.length l) (hl : ∀ i, 0 ≤ rd l i ∧ rd l i < 65536) (hc : l.length ≤ c) (h : 0 ≤ i) :
 Calls Tryz.prog 187 #[.slice A l.length c, .int .i64 i] w fun e w' => e = .returned (.int .u16 (elemN l i)) ∧ Drawn0 w w' := cpu_element.calls A c l i _ w hC hc (element_f l hl h)
section
variable {q : Nat} {r : Rg} {A0 A1 A2 : Option Addr} {c0 c1 c2 : Nat} {v : Vw} (w : World) (hr : RegAt w q r) (hv : VwAt w A0 A1 A2 v) (hc0 : v.e.length ≤ c0) (hc1 : v.f.length ≤ c1) (hc2 : v.c.length ≤ c2) (x : Sp)
include hr hv hc0 hc1 hc2
theorem look_f (h0 : 0 ≤ x.f1) (hf : x.f0 = 2) : Calls Tryz.prog 72 #[.pointer (some ⟨q, 0, none⟩), .agg #[.slice A0 v.e.length c0, .slice A1 v.f.length c1, .slice A2 v.c.length c2], .agg #[.int .u8 x.f0, .int .i64 x.f1]] w fun e w' => ∃ l : Value, e = .returned (.tuple #[.int .u16 (extI (elemN v.f x.f1)), l]) ∧ Kd.R k103 103 w' w.heap.size (fun _ => True) l [x] ∧ Below w.heap.size w w' := by
 have HB := Aside0.mk (Below.refl w.heap.size w)
 have RA := Aside0.mk hr
 have HV := Aside0.mk hv
 clear hr hv
 have y0 : (x.f0 == 2) = true := by simpa using hf
 have hu64 := Tryz.underlying103
 have hu29 := Tryz.underlying29
 go_enter Tryz.func72, Tryz.ntmps72
 go_upto_region 2 with (first | (refine boxq_ 4 #[.slice A0 v.e.length c0, .slice A1 v.f.length c1, .slice A2 v.c.length c2] 29 ?_; intro g4 hg wb K hb; (try have NE4_4 := nkb_ K4 hg); (try have NE5_4 := nkb_ K5 hg); have L4 := lkb_ HB hg; (try replace RA := Aside0.mk (RA.out.below hb)); (try replace HV := Aside0.mk (HV.out.below hb)); (try replace K4 := kbb_ K4 hb); (try replace K5 := kbb_ K5 hb); replace HB := hbs_ HB hb; have K4 := Aside0.mk K; clear K hb hg; (try have x5_0 : wb.cell? ⟨g5, 0, none⟩ = some (.int .u8 x.f0) := (blk_cell K5.out 0).trans rfl); (try have x5_1 : wb.cell? ⟨g5, 1, none⟩ = some (.int .i64 x.f1) := (blk_cell K5.out 1).trans rfl)) | (refine boxq_ 5 #[.int .u8 x.f0, .int .i64 x.f1] 103 ?_; intro g5 hg wb K hb; (try have NE4_5 := nkb_ K4 hg); (try have NE5_5 := nkb_ K5 hg); have L5 := lkb_ HB hg; (try replace RA := Aside0.mk (RA.out.below hb)); (try replace HV := Aside0.mk (HV.out.below hb)); (try replace K4 := kbb_ K4 hb); (try replace K5 := kbb_ K5 hb); replace HB := hbs_ HB hb; have K5 := Aside0.mk K; clear K hb hg; (try have x5_0 : wb.cell? ⟨g5, 0, none⟩ = some (.int .u8 x.f0) := (blk_cell K5.out 0).trans rfl); (try have x5_1 : wb.cell? ⟨g5, 1, none⟩ = some (.int .i64 x.f1) := (blk_cell K5.out 1).trans rfl)))
 have hb := below_drew (Below.refl wb.heap.size wb)
 replace RA := Aside0.mk (RA.out.below hb)
 replace HV := Aside0.mk (HV.out.below hb)
 replace K4 := kbb_ K4 hb
 replace K5 := kbb_ K5 hb
 replace HB := hbs_ HB hb
 clear hb
 refine start_ (n := 10) (S := fun w' => w'.cell? ⟨g4, 1, none⟩ = some (.slice A1 v.f.length c1) ∧ w'.cell? ⟨g5, 0, none⟩ = some (.int .u8 x.f0) ∧ w'.cell? ⟨g5, 1, none⟩ = some (.int .i64 x.f1)) (ds := []) #[false, false, false, false, false, false, false, false, false, false] (by kernel_rfl) rfl rfl ⟨(blk_cell K4.out 1).trans rfl, (blk_cell K5.out 0).trans rfl, (blk_cell K5.out 1).trans rfl⟩ (fun hHeld => ?_)
 generalize wb.drew = wd at HB K4 K5 RA HV hHeld ⊢
 refine pvq_ 0 (some 12) rfl rfl ?_
 refine pvq_ 2 (some 14) rfl rfl ?_
 refine tkq_ 1 (some 13) rfl rfl hHeld ?_
 refine tkq_ 3 (some 15) rfl rfl hHeld ?_
 refine tkq_ 6 (some 18) rfl rfl hHeld ?_
 refine join_ (σ := Value) 1 #[true, true, true, true, true, true, true, true, true, false] (fun s => [(16, .int .u16 (elemN v.f x.f1)), (17, .int .u16 (extI (elemN v.f x.f1))), (6, .int .u16 (extI (elemN v.f x.f1))), (19, s)]) (fun s w' => (w'.cell? ⟨g4, 1, none⟩ = some (.slice A1 v.f.length c1) ∧ w'.cell? ⟨g5, 0, none⟩ = some (.int .u8 x.f0) ∧ w'.cell? ⟨g5, 1, none⟩ = some (.int .i64 x.f1)) ∧ Kd.R k103 103 w' w.heap.size (fun _ => True) s [x] ∧ Below w.heap.size w w') ?_ ?_
 rotate_left
 · intro hCont
   refine two_ (i := 4) (j := 7) (Ni := some 16) (Nj := some 19) #[true, true, true, true, true, false, true, false, false, false] #[true, true, true, true, false, false, true, true, false, false] rfl rfl rfl rfl (by kernel_rfl) (by decide) (by decide) (fun K hK => ?_) (fun K hK => ?_)
   · skip
     refine goq_ Tryz.func187 #[.slice A1 v.f.length c1, .int .i64 x.f1] ?_
     with_reducible refine (element_c _ HV.out.cf HV.out.bf hc1 h0).mono ?_
     rintro e wc ⟨rfl, hd⟩
     refine ⟨_, rfl, ?_⟩
     have hb := drawn_below hd
     replace RA := Aside0.mk (RA.out.below hb)
     replace HV := Aside0.mk (HV.out.below hb)
     replace K4 := kbb_ K4 hb
     replace K5 := kbb_ K5 hb
     replace HB := hbs_ HB hb
     clear hb hd
     refine hK.out _ _ ⟨(blk_cell K4.out 1).trans rfl, (blk_cell K5.out 0).trans rfl, (blk_cell K5.out 1).trans rfl⟩ (fun hHeld => ?_)
     clear hK K
     refine nmq_ (some 16) ?_
     refine two_ (i := 5) (j := 7) (Ni := some 17) (Nj := some 19) #[true, true, true, true, true, true, true, false, false, false] #[true, true, true, true, true, false, true, true, false, false] rfl rfl rfl rfl (by kernel_rfl) (by decide) (by decide) (fun K hK => ?_) (fun K hK => ?_)
     · skip
       refine goq_ Tryz.func186 #[.int .u16 (elemN v.f x.f1)] ?_
       with_reducible refine (ext_c _ (elem_b _ _).1 (by have := (elem_b v.f x.f1).2; omega) _).mono ?_
       rintro e wc ⟨rfl, hd⟩
       refine ⟨_, rfl, ?_⟩
       have hb := drawn_below hd
       replace RA := Aside0.mk (RA.out.below hb)
       replace HV := Aside0.mk (HV.out.below hb)
       replace K4 := kbb_ K4 hb
       replace K5 := kbb_ K5 hb
       replace HB := hbs_ HB hb
       clear hb hd
       refine hK.out _ _ ⟨(blk_cell K4.out 1).trans rfl, (blk_cell K5.out 0).trans rfl, (blk_cell K5.out 1).trans rfl⟩ (fun hHeld => ?_)
       clear hK K
       refine nmq_ (some 17) ?_
       refine pvq_ 8 (some 6) rfl rfl ?_
       refine onq_ 7 (some 19) rfl rfl (fun K hK => ?_)
       refine Kd.R_lit_step k103 _ 103 ?hg (N := 19) ?hd (xs := ([x] : List Sp)) (inner := [.int .u8 x.f0, .int .i64 x.f1]) (ok := fun _ => True) (okp := fun _ => True) ?hr ?hp (fun _ hk => hk) trivial (Below.refl _ _) (Nat.le_refl _) (by simp) ?_; (case hd => rfl); (case hg => rfl); (case hr => first | (go_simp; done) | (go_simp; rfl)); (case hp => exact (Reps.c2 (show Kd.M k103 _ _ _ x [.int .u8 x.f0, .int .i64 x.f1] from (k103_mkM _ _ _ x)) (Reps.none _ _)))
       intro vl wl ho hb hg_ hnew_
       clear hg_ hnew_
       have HO := Aside0.mk (Kd.R_lower ho HB.out.size)
       replace RA := Aside0.mk (RA.out.below hb)
       replace HV := Aside0.mk (HV.out.below hb)
       replace K4 := kbb_ K4 hb
       replace K5 := kbb_ K5 hb
       replace HB := hbs_ HB hb
       clear ho hb
       refine hK.out _ _ ⟨(blk_cell K4.out 1).trans rfl, (blk_cell K5.out 0).trans rfl, (blk_cell K5.out 1).trans rfl⟩ (fun hHeld => ?_)
       clear hK K
       refine nmq_ (some 19) ?_
       exact norm_ (by simp only [putAll, Act.put, List.setIfInBounds_toArray, List.set_cons_zero, List.set_cons_succ]) (hCont vl _ ⟨⟨(blk_cell K4.out 1).trans rfl, (blk_cell K5.out 0).trans rfl, (blk_cell K5.out 1).trans rfl⟩, HO.out, HB.out⟩)
     · skip
       refine Kd.R_lit_step k103 _ 103 ?hg (N := 19) ?hd (xs := ([x] : List Sp)) (inner := [.int .u8 x.f0, .int .i64 x.f1]) (ok := fun _ => True) (okp := fun _ => True) ?hr ?hp (fun _ hk => hk) trivial (Below.refl _ _) (Nat.le_refl _) (by simp) ?_; (case hd => rfl); (case hg => rfl); (case hr => first | (go_simp; done) | (go_simp; rfl)); (case hp => exact (Reps.c2 (show Kd.M k103 _ _ _ x [.int .u8 x.f0, .int .i64 x.f1] from (k103_mkM _ _ _ x)) (Reps.none _ _)))
       intro vl wl ho hb hg_ hnew_
       clear hg_ hnew_
       have HO := Aside0.mk (Kd.R_lower ho HB.out.size)
       replace RA := Aside0.mk (RA.out.below hb)
       replace HV := Aside0.mk (HV.out.below hb)
       replace K4 := kbb_ K4 hb
       replace K5 := kbb_ K5 hb
       replace HB := hbs_ HB hb
       clear ho hb
       refine hK.out _ _ ⟨(blk_cell K4.out 1).trans rfl, (blk_cell K5.out 0).trans rfl, (blk_cell K5.out 1).trans rfl⟩ (fun hHeld => ?_)
       clear hK K
       refine nmq_ (some 19) ?_
       refine onq_ 5 (some 17) rfl rfl (fun K hK => ?_)
       refine goq_ Tryz.func186 #[.int .u16 (elemN v.f x.f1)] ?_
       with_reducible refine (ext_c _ (elem_b _ _).1 (by have := (elem_b v.f x.f1).2; omega) _).mono ?_
       rintro e wc ⟨rfl, hd⟩
       refine ⟨_, rfl, ?_⟩
       have hb := drawn_below hd
       (try replace HO := Aside0.mk (Kd.R_below HO.out hb)); replace RA := Aside0.mk (RA.out.below hb)
       replace HV := Aside0.mk (HV.out.below hb)
       replace K4 := kbb_ K4 hb
       replace K5 := kbb_ K5 hb
       replace HB := hbs_ HB hb
       clear hb hd
       refine hK.out _ _ ⟨(blk_cell K4.out 1).trans rfl, (blk_cell K5.out 0).trans rfl, (blk_cell K5.out 1).trans rfl⟩ (fun hHeld => ?_)
       clear hK K
       refine nmq_ (some 17) ?_
       refine pvq_ 8 (some 6) rfl rfl ?_
       exact norm_ (by simp only [putAll, Act.put, List.setIfInBounds_toArray, List.set_cons_zero, List.set_cons_succ]) (hCont vl _ ⟨⟨(blk_cell K4.out 1).trans rfl, (blk_cell K5.out 0).trans rfl, (blk_cell K5.out 1).trans rfl⟩, HO.out, HB.out⟩)
   · skip
     refine Kd.R_lit_step k103 _ 103 ?hg (N := 19) ?hd (xs := ([x] : List Sp)) (inner := [.int .u8 x.f0, .int .i64 x.f1]) (ok := fun _ => True) (okp := fun _ => True) ?hr ?hp (fun _ hk => hk) trivial (Below.refl _ _) (Nat.le_refl _) (by simp) ?_; (case hd => rfl); (case hg => rfl); (case hr => first | (go_simp; done) | (go_simp; rfl)); (case hp => exact (Reps.c2 (show Kd.M k103 _ _ _ x [.int .u8 x.f0, .int .i64 x.f1] from (k103_mkM _ _ _ x)) (Reps.none _ _)))
     intro vl wl ho hb hg_ hnew_
     clear hg_ hnew_
     have HO := Aside0.mk (Kd.R_lower ho HB.out.size)
     replace RA := Aside0.mk (RA.out.below hb)
     replace HV := Aside0.mk (HV.out.below hb)
     replace K4 := kbb_ K4 hb
     replace K5 := kbb_ K5 hb
     replace HB := hbs_ HB hb
     clear ho hb
     refine hK.out _ _ ⟨(blk_cell K4.out 1).trans rfl, (blk_cell K5.out 0).trans rfl, (blk_cell K5.out 1).trans rfl⟩ (fun hHeld => ?_)
     clear hK K
     refine nmq_ (some 19) ?_
     refine onq_ 4 (some 16) rfl rfl (fun K hK => ?_)
     refine goq_ Tryz.func187 #[.slice A1 v.f.length c1, .int .i64 x.f1] ?_
     with_reducible refine (element_c _ HV.out.cf HV.out.bf hc1 h0).mono ?_
     rintro e wc ⟨rfl, hd⟩
     refine ⟨_, rfl, ?_⟩
     have hb := drawn_below hd
     (try replace HO := Aside0.mk (Kd.R_below HO.out hb)); replace RA := Aside0.mk (RA.out.below hb)
     replace HV := Aside0.mk (HV.out.below hb)
     replace K4 := kbb_ K4 hb
     replace K5 := kbb_ K5 hb
     replace HB := hbs_ HB hb
     clear hb hd
     refine hK.out _ _ ⟨(blk_cell K4.out 1).trans rfl, (blk_cell K5.out 0).trans rfl, (blk_cell K5.out 1).trans rfl⟩ (fun hHeld => ?_)
     clear hK K
     refine nmq_ (some 16) ?_
     refine onq_ 5 (some 17) rfl rfl (fun K hK => ?_)
     refine goq_ Tryz.func186 #[.int .u16 (elemN v.f x.f1)] ?_
     with_reducible refine (ext_c _ (elem_b _ _).1 (by have := (elem_b v.f x.f1).2; omega) _).mono ?_
     rintro e wc ⟨rfl, hd⟩
     refine ⟨_, rfl, ?_⟩
     have hb := drawn_below hd
     (try replace HO := Aside0.mk (Kd.R_below HO.out hb)); replace RA := Aside0.mk (RA.out.below hb)
     replace HV := Aside0.mk (HV.out.below hb)
     replace K4 := kbb_ K4 hb
     replace K5 := kbb_ K5 hb
     replace HB := hbs_ HB hb
     clear hb hd
     refine hK.out _ _ ⟨(blk_cell K4.out 1).trans rfl, (blk_cell K5.out 0).trans rfl, (blk_cell K5.out 1).trans rfl⟩ (fun hHeld => ?_)
     clear hK K
     refine nmq_ (some 17) ?_
     refine pvq_ 8 (some 6) rfl rfl ?_
     exact norm_ (by simp only [putAll, Act.put, List.setIfInBounds_toArray, List.set_cons_zero, List.set_cons_succ]) (hCont vl _ ⟨⟨(blk_cell K4.out 1).trans rfl, (blk_cell K5.out 0).trans rfl, (blk_cell K5.out 1).trans rfl⟩, HO.out, HB.out⟩)
 rintro vl w6 ⟨hHeld, hO, hB⟩
 replace HB := Aside0.mk hB
 have HO := Aside0.mk hO
 clear hO hB
 refine norm_ (a' := ?_) ?_ ?_
 rotate_left
 · simp only [putAll, Act.put, List.setIfInBounds_toArray, List.set_cons_zero, List.set_cons_succ]
   rfl
 refine pvq_ 9 (some 7) rfl rfl ?_
 refine done_ (by kernel_rfl) ?_
 go_wp2
 go_ret2
 exact ⟨_, rfl, HO.out, HB.out⟩
theorem look_e (h0 : 0 ≤ x.f1) (hf : x.f0 ≠ 2) (hl : 8 ≤ x.f1) : Calls Tryz.prog 72 #[.pointer (some ⟨q, 0, none⟩), .agg #[.slice A0 v.e.length c0, .slice A1 v.f.length c1, .slice A2 v.c.length c2], .agg #[.int .u8 x.f0, .int .i64 x.f1]] w fun e w' => ∃ l : Value, e = .returned (.tuple #[.int .u16 (extI (elemN v.e x.f1)), l]) ∧ Kd.R k103 103 w' w.heap.size (fun _ => True) l [x] ∧ Below w.heap.size w w' := by
 have HB := Aside0.mk (Below.refl w.heap.size w)
 have RA := Aside0.mk hr
 have HV := Aside0.mk hv
 clear hr hv
 have y0 : (x.f0 == 2) = false := by simpa using hf
 have y1 : decide (x.f1 < 8) = false := decide_eq_false (by omega)
 have hu64 := Tryz.underlying103
 have hu29 := Tryz.underlying29
 go_enter Tryz.func72, Tryz.ntmps72
 go_upto_region 5 with (first | (refine boxq_ 4 #[.slice A0 v.e.length c0, .slice A1 v.f.length c1, .slice A2 v.c.length c2] 29 ?_; intro g4 hg wb K hb; (try have NE4_4 := nkb_ K4 hg); (try have NE5_4 := nkb_ K5 hg); have L4 := lkb_ HB hg; (try replace RA := Aside0.mk (RA.out.below hb)); (try replace HV := Aside0.mk (HV.out.below hb)); (try replace K4 := kbb_ K4 hb); (try replace K5 := kbb_ K5 hb); replace HB := hbs_ HB hb; have K4 := Aside0.mk K; clear K hb hg; (try have x5_0 : wb.cell? ⟨g5, 0, none⟩ = some (.int .u8 x.f0) := (blk_cell K5.out 0).trans rfl); (try have x5_1 : wb.cell? ⟨g5, 1, none⟩ = some (.int .i64 x.f1) := (blk_cell K5.out 1).trans rfl)) | (refine boxq_ 5 #[.int .u8 x.f0, .int .i64 x.f1] 103 ?_; intro g5 hg wb K hb; (try have NE4_5 := nkb_ K4 hg); (try have NE5_5 := nkb_ K5 hg); have L5 := lkb_ HB hg; (try replace RA := Aside0.mk (RA.out.below hb)); (try replace HV := Aside0.mk (HV.out.below hb)); (try replace K4 := kbb_ K4 hb); (try replace K5 := kbb_ K5 hb); replace HB := hbs_ HB hb; have K5 := Aside0.mk K; clear K hb hg; (try have x5_0 : wb.cell? ⟨g5, 0, none⟩ = some (.int .u8 x.f0) := (blk_cell K5.out 0).trans rfl); (try have x5_1 : wb.cell? ⟨g5, 1, none⟩ = some (.int .i64 x.f1) := (blk_cell K5.out 1).trans rfl)))
 have hb := below_drew (Below.refl wb.heap.size wb)
 replace RA := Aside0.mk (RA.out.below hb)
 replace HV := Aside0.mk (HV.out.below hb)
 replace K4 := kbb_ K4 hb
 replace K5 := kbb_ K5 hb
 replace HB := hbs_ HB hb
 clear hb
 refine start_ (n := 10) (S := fun w' => w'.cell? ⟨g4, 0, none⟩ = some (.slice A0 v.e.length c0) ∧ w'.cell? ⟨g5, 0, none⟩ = some (.int .u8 x.f0) ∧ w'.cell? ⟨g5, 1, none⟩ = some (.int .i64 x.f1)) (ds := []) #[false, false, false, false, false, false, false, false, false, false] (by kernel_rfl) rfl rfl ⟨(blk_cell K4.out 0).trans rfl, (blk_cell K5.out 0).trans rfl, (blk_cell K5.out 1).trans rfl⟩ (fun hHeld => ?_)
 generalize wb.drew = wd at HB K4 K5 RA HV hHeld ⊢
 refine pvq_ 0 (some 28) rfl rfl ?_
 refine pvq_ 2 (some 30) rfl rfl ?_
 refine tkq_ 1 (some 29) rfl rfl hHeld ?_
 refine tkq_ 3 (some 31) rfl rfl hHeld ?_
 refine tkq_ 6 (some 34) rfl rfl hHeld ?_
 refine join_ (σ := Value) 1 #[true, true, true, true, true, true, true, true, true, false] (fun s => [(32, .int .u16 (elemN v.e x.f1)), (33, .int .u16 (extI (elemN v.e x.f1))), (6, .int .u16 (extI (elemN v.e x.f1))), (35, s)]) (fun s w' => (w'.cell? ⟨g4, 0, none⟩ = some (.slice A0 v.e.length c0) ∧ w'.cell? ⟨g5, 0, none⟩ = some (.int .u8 x.f0) ∧ w'.cell? ⟨g5, 1, none⟩ = some (.int .i64 x.f1)) ∧ Kd.R k103 103 w' w.heap.size (fun _ => True) s [x] ∧ Below w.heap.size w w') ?_ ?_
 rotate_left
 · intro hCont
   refine two_ (i := 4) (j := 7) (Ni := some 32) (Nj := some 35) #[true, true, true, true, true, false, true, false, false, false] #[true, true, true, true, false, false, true, true, false, false] rfl rfl rfl rfl (by kernel_rfl) (by decide) (by decide) (fun K hK => ?_) (fun K hK => ?_)
   · skip
     refine goq_ Tryz.func187 #[.slice A0 v.e.length c0, .int .i64 x.f1] ?_
     with_reducible refine (element_c _ HV.out.ce HV.out.be hc0 h0).mono ?_
     rintro e wc ⟨rfl, hd⟩
     refine ⟨_, rfl, ?_⟩
     have hb := drawn_below hd
     replace RA := Aside0.mk (RA.out.below hb)
     replace HV := Aside0.mk (HV.out.below hb)
     replace K4 := kbb_ K4 hb
     replace K5 := kbb_ K5 hb
     replace HB := hbs_ HB hb
     clear hb hd
     refine hK.out _ _ ⟨(blk_cell K4.out 0).trans rfl, (blk_cell K5.out 0).trans rfl, (blk_cell K5.out 1).trans rfl⟩ (fun hHeld => ?_)
     clear hK K
     refine nmq_ (some 32) ?_
     refine two_ (i := 5) (j := 7) (Ni := some 33) (Nj := some 35) #[true, true, true, true, true, true, true, false, false, false] #[true, true, true, true, true, false, true, true, false, false] rfl rfl rfl rfl (by kernel_rfl) (by decide) (by decide) (fun K hK => ?_) (fun K hK => ?_)
     · skip
       refine goq_ Tryz.func186 #[.int .u16 (elemN v.e x.f1)] ?_
       with_reducible refine (ext_c _ (elem_b _ _).1 (by have := (elem_b v.e x.f1).2; omega) _).mono ?_
       rintro e wc ⟨rfl, hd⟩
       refine ⟨_, rfl, ?_⟩
       have hb := drawn_below hd
       replace RA := Aside0.mk (RA.out.below hb)
       replace HV := Aside0.mk (HV.out.below hb)
       replace K4 := kbb_ K4 hb
       replace K5 := kbb_ K5 hb
       replace HB := hbs_ HB hb
       clear hb hd
       refine hK.out _ _ ⟨(blk_cell K4.out 0).trans rfl, (blk_cell K5.out 0).trans rfl, (blk_cell K5.out 1).trans rfl⟩ (fun hHeld => ?_)
       clear hK K
       refine nmq_ (some 33) ?_
       refine pvq_ 8 (some 6) rfl rfl ?_
       refine onq_ 7 (some 35) rfl rfl (fun K hK => ?_)
       refine Kd.R_lit_step k103 _ 103 ?hg (N := 35) ?hd (xs := ([x] : List Sp)) (inner := [.int .u8 x.f0, .int .i64 x.f1]) (ok := fun _ => True) (okp := fun _ => True) ?hr ?hp (fun _ hk => hk) trivial (Below.refl _ _) (Nat.le_refl _) (by simp) ?_; (case hd => rfl); (case hg => rfl); (case hr => first | (go_simp; done) | (go_simp; rfl)); (case hp => exact (Reps.c2 (show Kd.M k103 _ _ _ x [.int .u8 x.f0, .int .i64 x.f1] from (k103_mkM _ _ _ x)) (Reps.none _ _)))
       intro vl wl ho hb hg_ hnew_
       clear hg_ hnew_
       have HO := Aside0.mk (Kd.R_lower ho HB.out.size)
       replace RA := Aside0.mk (RA.out.below hb)
       replace HV := Aside0.mk (HV.out.below hb)
       replace K4 := kbb_ K4 hb
       replace K5 := kbb_ K5 hb
       replace HB := hbs_ HB hb
       clear ho hb
       refine hK.out _ _ ⟨(blk_cell K4.out 0).trans rfl, (blk_cell K5.out 0).trans rfl, (blk_cell K5.out 1).trans rfl⟩ (fun hHeld => ?_)
       clear hK K
       refine nmq_ (some 35) ?_
       exact norm_ (by simp only [putAll, Act.put, List.setIfInBounds_toArray, List.set_cons_zero, List.set_cons_succ]) (hCont vl _ ⟨⟨(blk_cell K4.out 0).trans rfl, (blk_cell K5.out 0).trans rfl, (blk_cell K5.out 1).trans rfl⟩, HO.out, HB.out⟩)
     · skip
       refine Kd.R_lit_step k103 _ 103 ?hg (N := 35) ?hd (xs := ([x] : List Sp)) (inner := [.int .u8 x.f0, .int .i64 x.f1]) (ok := fun _ => True) (okp := fun _ => True) ?hr ?hp (fun _ hk => hk) trivial (Below.refl _ _) (Nat.le_refl _) (by simp) ?_; (case hd => rfl); (case hg => rfl); (case hr => first | (go_simp; done) | (go_simp; rfl)); (case hp => exact (Reps.c2 (show Kd.M k103 _ _ _ x [.int .u8 x.f0, .int .i64 x.f1] from (k103_mkM _ _ _ x)) (Reps.none _ _)))
       intro vl wl ho hb hg_ hnew_
       clear hg_ hnew_
       have HO := Aside0.mk (Kd.R_lower ho HB.out.size)
       replace RA := Aside0.mk (RA.out.below hb)
       replace HV := Aside0.mk (HV.out.below hb)
       replace K4 := kbb_ K4 hb
       replace K5 := kbb_ K5 hb
       replace HB := hbs_ HB hb
       clear ho hb
       refine hK.out _ _ ⟨(blk_cell K4.out 0).trans rfl, (blk_cell K5.out 0).trans rfl, (blk_cell K5.out 1).trans rfl⟩ (fun hHeld => ?_)
       clear hK K
       refine nmq_ (some 35) ?_
       refine onq_ 5 (some 33) rfl rfl (fun K hK => ?_)
       refine goq_ Tryz.func186 #[.int .u16 (elemN v.e x.f1)] ?_
       with_reducible refine (ext_c _ (elem_b _ _).1 (by have := (elem_b v.e x.f1).2; omega) _).mono ?_
       rintro e wc ⟨rfl, hd⟩
       refine ⟨_, rfl, ?_⟩
       have hb := drawn_below hd
       (try replace HO := Aside0.mk (Kd.R_below HO.out hb)); replace RA := Aside0.mk (RA.out.below hb)
       replace HV := Aside0.mk (HV.out.below hb)
       replace K4 := kbb_ K4 hb
       replace K5 := kbb_ K5 hb
       replace HB := hbs_ HB hb
       clear hb hd
       refine hK.out _ _ ⟨(blk_cell K4.out 0).trans rfl, (blk_cell K5.out 0).trans rfl, (blk_cell K5.out 1).trans rfl⟩ (fun hHeld => ?_)
       clear hK K
       refine nmq_ (some 33) ?_
       refine pvq_ 8 (some 6) rfl rfl ?_
       exact norm_ (by simp only [putAll, Act.put, List.setIfInBounds_toArray, List.set_cons_zero, List.set_cons_succ]) (hCont vl _ ⟨⟨(blk_cell K4.out 0).trans rfl, (blk_cell K5.out 0).trans rfl, (blk_cell K5.out 1).trans rfl⟩, HO.out, HB.out⟩)
   · skip
     refine Kd.R_lit_step k103 _ 103 ?hg (N := 35) ?hd (xs := ([x] : List Sp)) (inner := [.int .u8 x.f0, .int .i64 x.f1]) (ok := fun _ => True) (okp := fun _ => True) ?hr ?hp (fun _ hk => hk) trivial (Below.refl _ _) (Nat.le_refl _) (by simp) ?_; (case hd => rfl); (case hg => rfl); (case hr => first | (go_simp; done) | (go_simp; rfl)); (case hp => exact (Reps.c2 (show Kd.M k103 _ _ _ x [.int .u8 x.f0, .int .i64 x.f1] from (k103_mkM _ _ _ x)) (Reps.none _ _)))
     intro vl wl ho hb hg_ hnew_
     clear hg_ hnew_
     have HO := Aside0.mk (Kd.R_lower ho HB.out.size)
     replace RA := Aside0.mk (RA.out.below hb)
     replace HV := Aside0.mk (HV.out.below hb)
     replace K4 := kbb_ K4 hb
     replace K5 := kbb_ K5 hb
     replace HB := hbs_ HB hb
     clear ho hb
     refine hK.out _ _ ⟨(blk_cell K4.out 0).trans rfl, (blk_cell K5.out 0).trans rfl, (blk_cell K5.out 1).trans rfl⟩ (fun hHeld => ?_)
     clear hK K
     refine nmq_ (some 35) ?_
     refine onq_ 4 (some 32) rfl rfl (fun K hK => ?_)
     refine goq_ Tryz.func187 #[.slice A0 v.e.length c0, .int .i64 x.f1] ?_
     with_reducible refine (element_c _ HV.out.ce HV.out.be hc0 h0).mono ?_
     rintro e wc ⟨rfl, hd⟩
     refine ⟨_, rfl, ?_⟩
     have hb := drawn_below hd
     (try replace HO := Aside0.mk (Kd.R_below HO.out hb)); replace RA := Aside0.mk (RA.out.below hb)
     replace HV := Aside0.mk (HV.out.below hb)
     replace K4 := kbb_ K4 hb
     replace K5 := kbb_ K5 hb
     replace HB := hbs_ HB hb
     clear hb hd
     refine hK.out _ _ ⟨(blk_cell K4.out 0).trans rfl, (blk_cell K5.out 0).trans rfl, (blk_cell K5.out 1).trans rfl⟩ (fun hHeld => ?_)
     clear hK K
     refine nmq_ (some 32) ?_
     refine onq_ 5 (some 33) rfl rfl (fun K hK => ?_)
     refine goq_ Tryz.func186 #[.int .u16 (elemN v.e x.f1)] ?_
     with_reducible refine (ext_c _ (elem_b _ _).1 (by have := (elem_b v.e x.f1).2; omega) _).mono ?_
     rintro e wc ⟨rfl, hd⟩
     refine ⟨_, rfl, ?_⟩
     have hb := drawn_below hd
     (try replace HO := Aside0.mk (Kd.R_below HO.out hb)); replace RA := Aside0.mk (RA.out.below hb)
     replace HV := Aside0.mk (HV.out.below hb)
     replace K4 := kbb_ K4 hb
     replace K5 := kbb_ K5 hb
     replace HB := hbs_ HB hb
     clear hb hd
     refine hK.out _ _ ⟨(blk_cell K4.out 0).trans rfl, (blk_cell K5.out 0).trans rfl, (blk_cell K5.out 1).trans rfl⟩ (fun hHeld => ?_)
     clear hK K
     refine nmq_ (some 33) ?_
     refine pvq_ 8 (some 6) rfl rfl ?_
     exact norm_ (by simp only [putAll, Act.put, List.setIfInBounds_toArray, List.set_cons_zero, List.set_cons_succ]) (hCont vl _ ⟨⟨(blk_cell K4.out 0).trans rfl, (blk_cell K5.out 0).trans rfl, (blk_cell K5.out 1).trans rfl⟩, HO.out, HB.out⟩)
 rintro vl w6 ⟨hHeld, hO, hB⟩
 replace HB := Aside0.mk hB
 have HO := Aside0.mk hO
 clear hO hB
 refine norm_ (a' := ?_) ?_ ?_
 rotate_left
 · simp only [putAll, Act.put, List.setIfInBounds_toArray, List.set_cons_zero, List.set_cons_succ]
   rfl
 refine pvq_ 9 (some 7) rfl rfl ?_
 refine done_ (by kernel_rfl) ?_
 go_wp2
 go_ret2
 exact ⟨_, rfl, HO.out, HB.out⟩
theorem look_r (ok : r.Ok) (h0 : 0 ≤ x.f1) (hf : x.f0 ≠ 2) (hl : x.f1 < 8) : Calls Tryz.prog 72 #[.pointer (some ⟨q, 0, none⟩), .agg #[.slice A0 v.e.length c0, .slice A1 v.f.length c1, .slice A2 v.c.length c2], .agg #[.int .u8 x.f0, .int .i64 x.f1]] w fun e w' => e = .returned (.tuple #[.int .u16 (regN r x.f1), .slice none 0 0]) ∧ Below w.heap.size w w' := by
 have HB := Aside0.mk (Below.refl w.heap.size w)
 have RA := Aside0.mk hr
 clear hr hv
 have y0 : (x.f0 == 2) = false := by simpa using hf
 have y1 : decide (x.f1 < 8) = true := decide_eq_true hl
 have hu64 := Tryz.underlying103
 have hu29 := Tryz.underlying29
 go_enter Tryz.func72, Tryz.ntmps72
 go_wp2_with (first | (refine boxq_ 4 #[.slice A0 v.e.length c0, .slice A1 v.f.length c1, .slice A2 v.c.length c2] 29 ?_; intro g4 hg wb K hb; (try have NE4_4 := nkb_ K4 hg); (try have NE5_4 := nkb_ K5 hg); have L4 := lkb_ HB hg; (try replace RA := Aside0.mk (RA.out.below hb)); (try replace HV := Aside0.mk (HV.out.below hb)); (try replace K4 := kbb_ K4 hb); (try replace K5 := kbb_ K5 hb); replace HB := hbs_ HB hb; have K4 := Aside0.mk K; clear K hb hg; (try have x5_0 : wb.cell? ⟨g5, 0, none⟩ = some (.int .u8 x.f0) := (blk_cell K5.out 0).trans rfl); (try have x5_1 : wb.cell? ⟨g5, 1, none⟩ = some (.int .i64 x.f1) := (blk_cell K5.out 1).trans rfl)) | (refine boxq_ 5 #[.int .u8 x.f0, .int .i64 x.f1] 103 ?_; intro g5 hg wb K hb; (try have NE4_5 := nkb_ K4 hg); (try have NE5_5 := nkb_ K5 hg); have L5 := lkb_ HB hg; (try replace RA := Aside0.mk (RA.out.below hb)); (try replace HV := Aside0.mk (HV.out.below hb)); (try replace K4 := kbb_ K4 hb); (try replace K5 := kbb_ K5 hb); replace HB := hbs_ HB hb; have K5 := Aside0.mk K; clear K hb hg; (try have x5_0 : wb.cell? ⟨g5, 0, none⟩ = some (.int .u8 x.f0) := (blk_cell K5.out 0).trans rfl); (try have x5_1 : wb.cell? ⟨g5, 1, none⟩ = some (.int .i64 x.f1) := (blk_cell K5.out 1).trans rfl)) | (go_at_call 188; (with_reducible refine at_args #[.pointer (some ⟨q, 0, none⟩), .int .i64 x.f1] ?_); (with_reducible refine (register_c _ RA.out ok _ h0 hl).mono ?_); rintro e wc ⟨rfl, hd⟩; have hb := drawn_below hd; clear hd; (try replace RA := Aside0.mk (RA.out.below hb)); (try replace HV := Aside0.mk (HV.out.below hb)); (try replace K4 := kbb_ K4 hb); (try replace K5 := kbb_ K5 hb); replace HB := hbs_ HB hb; clear hb))
 go_ret2
 exact ⟨rfl, HB.out⟩
theorem look_c (ok : r.Ok) (h0 : 0 ≤ x.f1) : Calls Tryz.prog 72 #[.pointer (some ⟨q, 0, none⟩), .agg #[.slice A0 v.e.length c0, .slice A1 v.f.length c1, .slice A2 v.c.length c2], .agg #[.int .u8 x.f0, .int .i64 x.f1]] w fun e w' => ∃ l : Value, e = .returned (.tuple #[.int .u16 (lookN r v x).1, l]) ∧ Kd.R k103 103 w' w.heap.size (fun _ => True) l (if (lookN r v x).2 then [x] else []) ∧ Below w.heap.size w w' := by
 unfold lookN
 by_cases hf : x.f0 = 2
 · simp only [if_pos hf]; exact look_f w hr hv hc0 hc1 hc2 x h0 hf
 · simp only [if_neg hf]
   by_cases hl : x.f1 < 8
   · simp only [if_pos hl]; exact (look_r w hr hv hc0 hc1 hc2 x ok h0 hf hl).mono fun e w' ⟨he, hb⟩ => ⟨_, he, Kd.R_nil _ _ _ _ _, hb⟩
   · simp only [if_neg hl]; exact look_e w hr hv hc0 hc1 hc2 x h0 hf (by omega)
end
theorem unit_ix (i v : Int) (h : (i = 0 ∧ v = 0) ∨ (i = 1 ∧ v = 1) ∨ (i = 2 ∧ v = 65534) ∨ (i = 3 ∧ v = 0)) (W : World) : (Instr.index 265 (.agg #[.int .u16 0, .int .u16 1, .int .u16 65534, .int .u16 0]) (.int .u16 i)).run Tryz.prog W = .ok (.int .u16 v) W := by
 rcases h with ⟨rfl, rfl⟩ | ⟨rfl, rfl⟩ | ⟨rfl, rfl⟩ | ⟨rfl, rfl⟩ <;> kernel_rfl
theorem unit_cases (a : Int) (h0 : 0 ≤ a) (h1 : a ≤ 65535) : (a / 16384 = 0 ∧ unitI a = 0) ∨ (a / 16384 = 1 ∧ unitI a = 1) ∨ (a / 16384 = 2 ∧ unitI a = 65534) ∨ (a / 16384 = 3 ∧ unitI a = 0) := by
 have h : a / 16384 = 0 ∨ a / 16384 = 1 ∨ a / 16384 = 2 ∨ a / 16384 = 3 := by omega
 unfold unitI
 rcases h with h | h | h | h <;> simp [h]
theorem unit_c (a : Int) (h0 : 0 ≤ a) (h1 : a ≤ 65535) (w : World) : Calls Tryz.prog 216 #[.int .u16 a] w fun e w' => e = .returned (.int .u16 (unitI a)) ∧ Drawn0 w w' := by
 have hx := unit_ix (a / 16384) (unitI a) (unit_cases a h0 h1)
 go_enter Tryz.func216, Tryz.ntmps216
 go_wp2
 go_ret
 exact ⟨rfl, by repeat (first | exact Drawn0.refl _ | apply Drawn0.step)⟩
end Go.Proofs.YtgbmaajfbbilhaaGreat.Cpu
end
section
namespace Go.Proofs.YtgbmaajfbbilhaaGreat.Cpu
open Go.RowKit Go.Proofs.YtgbmaajfbbilhaaGreat.PAll Go.Proofs.YtgbmaajfbbilhaaGreat.One Go.Proofs.YtgbmaajfbbilhaaGreat.Mem Go.Proofs.YtgbmaajfbbilhaaGreat.Row Go.Proofs.YtgbmaajfbbilhaaGreatW.PrintWords Go.Proofs.YtgbmaajfbbilhaaGreatW.PrintLast Go.Proofs.YtgbmaajfbbilhaaGreatW.PrintMore Go.Proofs.YtgbmaajfbbilhaaGreat.Plain
structure Cx where
 w0 : World
 p : Nat
 g : Nat
 A0 : Option Addr
 A1 : Option Addr
 A2 : Option Addr
 c0 : Nat
 c1 : Nat
 c2 : Nat
 v : Vw
abbrev Cx.ve (c : Cx) : Value := .slice c.A0 c.v.e.length c.c0
abbrev Cx.vf (c : Cx) : Value := .slice c.A1 c.v.f.length c.c1
abbrev Cx.vc (c : Cx) : Value := .slice c.A2 c.v.c.length c.c2
abbrev Cx.at (c : Cx) : Value := .pointer (some ⟨c.p, 0, none⟩)
structure Cx.Ok (c : Cx) : Prop where
 va : VwAt c.w0 c.A0 c.A1 c.A2 c.v
 h0 : c.v.e.length ≤ c.c0
 h1 : c.v.f.length ≤ c.c1
 h2 : c.v.c.length ≤ c.c2
def St.sz (st : St) : Nat := st.reads.length + st.cells.length + st.outs.length
theorem see_sz (st : St) (v : Vw) (x : Sp) : (st.see v x).sz ≤ st.sz + 1 := by unfold St.see St.sz; split <;> simp <;> omega
theorem put_sz (st : St) (i x : Int) : (st.put i x).sz ≤ st.sz + 1 := by unfold St.put St.sz; split <;> simp <;> omega
theorem out_sz (st : St) (x : Int) : (st.out x).sz ≤ st.sz + 1 := by unfold St.out St.sz; repeat' split
                                                                     all_goals (simp <;> omega)
structure Cx.P (c : Cx) (n : Nat) (st : St) (w : World) : Prop where
 run : PRun c.w0.heap.size c.w0 c.p c.g c.ve c.vf c.vc st w
 ok : c.Ok
 sz : st.sz ≤ n
section
variable {c : Cx} {n : Nat} {st : St} {w w1 : World}
theorem Cx.P.below (h : c.P n st w) (hb : Below w.heap.size w w1) : c.P n st w1 := ⟨h.run.below hb, h.ok, h.sz⟩
theorem Cx.P.drawn (h : c.P n st w) (hd : Drawn0 w w1) : c.P n st w1 := ⟨h.run.drawn hd, h.ok, h.sz⟩
theorem Cx.P.drew (h : c.P n st w) : c.P n st w.drew := ⟨h.run.drew, h.ok, h.sz⟩
theorem Cx.P.fz (h : c.P n st w) (i : Nat) : w.frozen? ⟨c.p, i, none⟩ = false := h.run.fz i
theorem Cx.P.view (h : c.P n st w) : VwAt w c.A0 c.A1 c.A2 c.v := h.ok.va.below h.run.hb
theorem Cx.P.ra (h : c.P n st w) : RegAt w c.p st.r := ⟨h.run.c0, h.run.c1, h.run.c2, h.run.c3, h.run.c4, h.run.c5⟩
theorem Cx.P.bx (h : c.P n st w) : w.cell? ⟨c.g, 0, none⟩ = some c.at := h.run.bx
theorem Cx.P.c0 (h : c.P n st w) : w.cell? ⟨c.p, 0, none⟩ = some (.int .u16 (st.r.a)) := h.run.c0
theorem Cx.P.s0 (h : c.P n st w) (u : Int) : c.P n { st with r := { st.r with a := u } } (w.setCell ⟨c.p, 0, none⟩ (.int .u16 (u))) := ⟨h.run.s0 u, h.ok, h.sz⟩
theorem Cx.P.e0 {P : Program} {ops : Array Oper} {rest : List Oper} {o : Oper} {a : Act} {Q : Exit → Act → World → Prop} (h : c.P n st w) (hgd : o.guard = none) (ty : TypeId) (x v : Operand) (ho : o.op = .store ty x v) (hx : a.eval x = .pointer (some ⟨c.p, 0, none⟩)) (u : Int) (hv : a.eval v = .int .u16 (u)) (hi : (P.info? ty).map (·.size) = some 1) (k : ∀ ws, c.P n { st with r := { st.r with a := u } } ws → wpList P ops Q rest (a.put o.dst undef) ws) : wpList P ops Q (o :: rest) a w := store_cell_ hgd ty x v ho _ _ hx _ hv _ h.c0 (h.fz 0) rfl rfl hi (k _ (h.s0 u))
theorem Cx.P.c1 (h : c.P n st w) : w.cell? ⟨c.p, 1, none⟩ = some (.int .u16 (st.r.l)) := h.run.c1
theorem Cx.P.s1 (h : c.P n st w) (u : Int) : c.P n { st with r := { st.r with l := u } } (w.setCell ⟨c.p, 1, none⟩ (.int .u16 (u))) := ⟨h.run.s1 u, h.ok, h.sz⟩
theorem Cx.P.e1 {P : Program} {ops : Array Oper} {rest : List Oper} {o : Oper} {a : Act} {Q : Exit → Act → World → Prop} (h : c.P n st w) (hgd : o.guard = none) (ty : TypeId) (x v : Operand) (ho : o.op = .store ty x v) (hx : a.eval x = .pointer (some ⟨c.p, 1, none⟩)) (u : Int) (hv : a.eval v = .int .u16 (u)) (hi : (P.info? ty).map (·.size) = some 1) (k : ∀ ws, c.P n { st with r := { st.r with l := u } } ws → wpList P ops Q rest (a.put o.dst undef) ws) : wpList P ops Q (o :: rest) a w := store_cell_ hgd ty x v ho _ _ hx _ hv _ h.c1 (h.fz 1) rfl rfl hi (k _ (h.s1 u))
theorem Cx.P.c2 (h : c.P n st w) : w.cell? ⟨c.p, 2, none⟩ = some (.int .u16 (st.r.q)) := h.run.c2
theorem Cx.P.s2 (h : c.P n st w) (u : Int) : c.P n { st with r := { st.r with q := u } } (w.setCell ⟨c.p, 2, none⟩ (.int .u16 (u))) := ⟨h.run.s2 u, h.ok, h.sz⟩
theorem Cx.P.e2 {P : Program} {ops : Array Oper} {rest : List Oper} {o : Oper} {a : Act} {Q : Exit → Act → World → Prop} (h : c.P n st w) (hgd : o.guard = none) (ty : TypeId) (x v : Operand) (ho : o.op = .store ty x v) (hx : a.eval x = .pointer (some ⟨c.p, 2, none⟩)) (u : Int) (hv : a.eval v = .int .u16 (u)) (hi : (P.info? ty).map (·.size) = some 1) (k : ∀ ws, c.P n { st with r := { st.r with q := u } } ws → wpList P ops Q rest (a.put o.dst undef) ws) : wpList P ops Q (o :: rest) a w := store_cell_ hgd ty x v ho _ _ hx _ hv _ h.c2 (h.fz 2) rfl rfl hi (k _ (h.s2 u))
theorem Cx.P.c3 (h : c.P n st w) : w.cell? ⟨c.p, 3, none⟩ = some (.int .i64 (st.r.z)) := h.run.c3
theorem Cx.P.s3 (h : c.P n st w) (u : Int) : c.P n { st with r := { st.r with z := u } } (w.setCell ⟨c.p, 3, none⟩ (.int .i64 (u))) := ⟨h.run.s3 u, h.ok, h.sz⟩
theorem Cx.P.e3 {P : Program} {ops : Array Oper} {rest : List Oper} {o : Oper} {a : Act} {Q : Exit → Act → World → Prop} (h : c.P n st w) (hgd : o.guard = none) (ty : TypeId) (x v : Operand) (ho : o.op = .store ty x v) (hx : a.eval x = .pointer (some ⟨c.p, 3, none⟩)) (u : Int) (hv : a.eval v = .int .i64 (u)) (hi : (P.info? ty).map (·.size) = some 1) (k : ∀ ws, c.P n { st with r := { st.r with z := u } } ws → wpList P ops Q rest (a.put o.dst undef) ws) : wpList P ops Q (o :: rest) a w := store_cell_ hgd ty x v ho _ _ hx _ hv _ h.c3 (h.fz 3) rfl rfl hi (k _ (h.s3 u))
theorem Cx.P.c4 (h : c.P n st w) : w.cell? ⟨c.p, 4, none⟩ = some (.int .i64 (st.r.eb)) := h.run.c4
theorem Cx.P.s4 (h : c.P n st w) (u : Int) : c.P n { st with r := { st.r with eb := u } } (w.setCell ⟨c.p, 4, none⟩ (.int .i64 (u))) := ⟨h.run.s4 u, h.ok, h.sz⟩
theorem Cx.P.e4 {P : Program} {ops : Array Oper} {rest : List Oper} {o : Oper} {a : Act} {Q : Exit → Act → World → Prop} (h : c.P n st w) (hgd : o.guard = none) (ty : TypeId) (x v : Operand) (ho : o.op = .store ty x v) (hx : a.eval x = .pointer (some ⟨c.p, 4, none⟩)) (u : Int) (hv : a.eval v = .int .i64 (u)) (hi : (P.info? ty).map (·.size) = some 1) (k : ∀ ws, c.P n { st with r := { st.r with eb := u } } ws → wpList P ops Q rest (a.put o.dst undef) ws) : wpList P ops Q (o :: rest) a w := store_cell_ hgd ty x v ho _ _ hx _ hv _ h.c4 (h.fz 4) rfl rfl hi (k _ (h.s4 u))
theorem Cx.P.c5 (h : c.P n st w) : w.cell? ⟨c.p, 5, none⟩ = some (.int .i64 (st.r.fb)) := h.run.c5
theorem Cx.P.s5 (h : c.P n st w) (u : Int) : c.P n { st with r := { st.r with fb := u } } (w.setCell ⟨c.p, 5, none⟩ (.int .i64 (u))) := ⟨h.run.s5 u, h.ok, h.sz⟩
theorem Cx.P.e5 {P : Program} {ops : Array Oper} {rest : List Oper} {o : Oper} {a : Act} {Q : Exit → Act → World → Prop} (h : c.P n st w) (hgd : o.guard = none) (ty : TypeId) (x v : Operand) (ho : o.op = .store ty x v) (hx : a.eval x = .pointer (some ⟨c.p, 5, none⟩)) (u : Int) (hv : a.eval v = .int .i64 (u)) (hi : (P.info? ty).map (·.size) = some 1) (k : ∀ ws, c.P n { st with r := { st.r with fb := u } } ws → wpList P ops Q rest (a.put o.dst undef) ws) : wpList P ops Q (o :: rest) a w := store_cell_ hgd ty x v ho _ _ hx _ hv _ h.c5 (h.fz 5) rfl rfl hi (k _ (h.s5 u))
theorem Cx.P.c6 (h : c.P n st w) : w.cell? ⟨c.p, 6, none⟩ = some (.int .i64 (st.r.su)) := h.run.c6
theorem Cx.P.s6 (h : c.P n st w) (u : Int) : c.P n { st with r := { st.r with su := u } } (w.setCell ⟨c.p, 6, none⟩ (.int .i64 (u))) := ⟨h.run.s6 u, h.ok, h.sz⟩
theorem Cx.P.e6 {P : Program} {ops : Array Oper} {rest : List Oper} {o : Oper} {a : Act} {Q : Exit → Act → World → Prop} (h : c.P n st w) (hgd : o.guard = none) (ty : TypeId) (x v : Operand) (ho : o.op = .store ty x v) (hx : a.eval x = .pointer (some ⟨c.p, 6, none⟩)) (u : Int) (hv : a.eval v = .int .i64 (u)) (hi : (P.info? ty).map (·.size) = some 1) (k : ∀ ws, c.P n { st with r := { st.r with su := u } } ws → wpList P ops Q rest (a.put o.dst undef) ws) : wpList P ops Q (o :: rest) a w := store_cell_ hgd ty x v ho _ _ hx _ hv _ h.c6 (h.fz 6) rfl rfl hi (k _ (h.s6 u))
theorem Cx.P.c7 (h : c.P n st w) : w.cell? ⟨c.p, 7, none⟩ = some (.bool (st.r.ext)) := h.run.c7
theorem Cx.P.s7 (h : c.P n st w) (u : Bool) : c.P n { st with r := { st.r with ext := u } } (w.setCell ⟨c.p, 7, none⟩ (.bool (u))) := ⟨h.run.s7 u, h.ok, h.sz⟩
theorem Cx.P.e7 {P : Program} {ops : Array Oper} {rest : List Oper} {o : Oper} {a : Act} {Q : Exit → Act → World → Prop} (h : c.P n st w) (hgd : o.guard = none) (ty : TypeId) (x v : Operand) (ho : o.op = .store ty x v) (hx : a.eval x = .pointer (some ⟨c.p, 7, none⟩)) (u : Bool) (hv : a.eval v = .bool (u)) (hi : (P.info? ty).map (·.size) = some 1) (k : ∀ ws, c.P n { st with r := { st.r with ext := u } } ws → wpList P ops Q rest (a.put o.dst undef) ws) : wpList P ops Q (o :: rest) a w := store_cell_ hgd ty x v ho _ _ hx _ hv _ h.c7 (h.fz 7) rfl rfl hi (k _ (h.s7 u))
theorem Cx.P.c8 (h : c.P n st w) : w.cell? ⟨c.p, 8, none⟩ = some (.int .u16 (st.r.idx)) := h.run.c8
theorem Cx.P.s8 (h : c.P n st w) (u : Int) : c.P n { st with r := { st.r with idx := u } } (w.setCell ⟨c.p, 8, none⟩ (.int .u16 (u))) := ⟨h.run.s8 u, h.ok, h.sz⟩
theorem Cx.P.c9 (h : c.P n st w) : w.cell? ⟨c.p, 9, none⟩ = some (.bool (st.r.held)) := h.run.c9
theorem Cx.P.s9 (h : c.P n st w) (u : Bool) : c.P n { st with r := { st.r with held := u } } (w.setCell ⟨c.p, 9, none⟩ (.bool (u))) := ⟨h.run.s9 u, h.ok, h.sz⟩
theorem Cx.P.e9 {P : Program} {ops : Array Oper} {rest : List Oper} {o : Oper} {a : Act} {Q : Exit → Act → World → Prop} (h : c.P n st w) (hgd : o.guard = none) (ty : TypeId) (x v : Operand) (ho : o.op = .store ty x v) (hx : a.eval x = .pointer (some ⟨c.p, 9, none⟩)) (u : Bool) (hv : a.eval v = .bool (u)) (hi : (P.info? ty).map (·.size) = some 1) (k : ∀ ws, c.P n { st with r := { st.r with held := u } } ws → wpList P ops Q rest (a.put o.dst undef) ws) : wpList P ops Q (o :: rest) a w := store_cell_ hgd ty x v ho _ _ hx _ hv _ h.c9 (h.fz 9) rfl rfl hi (k _ (h.s9 u))
theorem Cx.P.c10 (h : c.P n st w) : w.cell? ⟨c.p, 10, none⟩ = some (.int .u16 (st.r.b)) := h.run.c10
theorem Cx.P.s10 (h : c.P n st w) (u : Int) : c.P n { st with r := { st.r with b := u } } (w.setCell ⟨c.p, 10, none⟩ (.int .u16 (u))) := ⟨h.run.s10 u, h.ok, h.sz⟩
theorem Cx.P.e10 {P : Program} {ops : Array Oper} {rest : List Oper} {o : Oper} {a : Act} {Q : Exit → Act → World → Prop} (h : c.P n st w) (hgd : o.guard = none) (ty : TypeId) (x v : Operand) (ho : o.op = .store ty x v) (hx : a.eval x = .pointer (some ⟨c.p, 10, none⟩)) (u : Int) (hv : a.eval v = .int .u16 (u)) (hi : (P.info? ty).map (·.size) = some 1) (k : ∀ ws, c.P n { st with r := { st.r with b := u } } ws → wpList P ops Q rest (a.put o.dst undef) ws) : wpList P ops Q (o :: rest) a w := store_cell_ hgd ty x v ho _ _ hx _ hv _ h.c10 (h.fz 10) rfl rfl hi (k _ (h.s10 u))
theorem Cx.P.c11 (h : c.P n st w) : w.cell? ⟨c.p, 11, none⟩ = some (.bool (st.r.inh)) := h.run.c11
theorem Cx.P.s11 (h : c.P n st w) (u : Bool) : c.P n { st with r := { st.r with inh := u } } (w.setCell ⟨c.p, 11, none⟩ (.bool (u))) := ⟨h.run.s11 u, h.ok, h.sz⟩
theorem Cx.P.e11 {P : Program} {ops : Array Oper} {rest : List Oper} {o : Oper} {a : Act} {Q : Exit → Act → World → Prop} (h : c.P n st w) (hgd : o.guard = none) (ty : TypeId) (x v : Operand) (ho : o.op = .store ty x v) (hx : a.eval x = .pointer (some ⟨c.p, 11, none⟩)) (u : Bool) (hv : a.eval v = .bool (u)) (hi : (P.info? ty).map (·.size) = some 1) (k : ∀ ws, c.P n { st with r := { st.r with inh := u } } ws → wpList P ops Q rest (a.put o.dst undef) ws) : wpList P ops Q (o :: rest) a w := store_cell_ hgd ty x v ho _ _ hx _ hv _ h.c11 (h.fz 11) rfl rfl hi (k _ (h.s11 u))
theorem Cx.P.c12 (h : c.P n st w) : w.cell? ⟨c.p, 12, none⟩ = some (.bool (st.r.srv)) := h.run.c12
theorem Cx.P.s12 (h : c.P n st w) (u : Bool) : c.P n { st with r := { st.r with srv := u } } (w.setCell ⟨c.p, 12, none⟩ (.bool (u))) := ⟨h.run.s12 u, h.ok, h.sz⟩
theorem Cx.P.e12 {P : Program} {ops : Array Oper} {rest : List Oper} {o : Oper} {a : Act} {Q : Exit → Act → World → Prop} (h : c.P n st w) (hgd : o.guard = none) (ty : TypeId) (x v : Operand) (ho : o.op = .store ty x v) (hx : a.eval x = .pointer (some ⟨c.p, 12, none⟩)) (u : Bool) (hv : a.eval v = .bool (u)) (hi : (P.info? ty).map (·.size) = some 1) (k : ∀ ws, c.P n { st with r := { st.r with srv := u } } ws → wpList P ops Q rest (a.put o.dst undef) ws) : wpList P ops Q (o :: rest) a w := store_cell_ hgd ty x v ho _ _ hx _ hv _ h.c12 (h.fz 12) rfl rfl hi (k _ (h.s12 u))
theorem Cx.P.c16 (h : c.P n st w) : w.cell? ⟨c.p, 16, none⟩ = some (.int .i64 (st.cyc)) := h.run.c16
theorem Cx.P.s16 (h : c.P n st w) (u : Int) : c.P n { st with cyc := u } (w.setCell ⟨c.p, 16, none⟩ (.int .i64 (u))) := ⟨h.run.s16 u, h.ok, h.sz⟩
theorem Cx.P.e16 {P : Program} {ops : Array Oper} {rest : List Oper} {o : Oper} {a : Act} {Q : Exit → Act → World → Prop} (h : c.P n st w) (hgd : o.guard = none) (ty : TypeId) (x v : Operand) (ho : o.op = .store ty x v) (hx : a.eval x = .pointer (some ⟨c.p, 16, none⟩)) (u : Int) (hv : a.eval v = .int .i64 (u)) (hi : (P.info? ty).map (·.size) = some 1) (k : ∀ ws, c.P n { st with cyc := u } ws → wpList P ops Q rest (a.put o.dst undef) ws) : wpList P ops Q (o :: rest) a w := store_cell_ hgd ty x v ho _ _ hx _ hv _ h.c16 (h.fz 16) rfl rfl hi (k _ (h.s16 u))
theorem Cx.P.c18 (h : c.P n st w) : w.cell? ⟨c.p, 18, none⟩ = some (c.ve) := h.run.c18
theorem Cx.P.c19 (h : c.P n st w) : w.cell? ⟨c.p, 19, none⟩ = some (c.vf) := h.run.c19
theorem Cx.P.c20 (h : c.P n st w) : w.cell? ⟨c.p, 20, none⟩ = some (c.vc) := h.run.c20
theorem Cx.P.c21 (h : c.P n st w) : w.cell? ⟨c.p, 21, none⟩ = some (.int .i64 (st.k)) := h.run.c21
theorem Cx.P.c22 (h : c.P n st w) : w.cell? ⟨c.p, 22, none⟩ = some (.int .u8 (st.sp.f0)) := h.run.c22
theorem Cx.P.c23 (h : c.P n st w) : w.cell? ⟨c.p, 23, none⟩ = some (.int .i64 (st.sp.f1)) := h.run.c23
end
structure Cx.R (c : Cx) (n : Nat) (st : St) (w : World) : Prop where
 run : RRun c.w0.heap.size c.w0 c.p c.ve c.vf c.vc st w
 ok : c.Ok
 sz : st.sz ≤ n
section
variable {c : Cx} {n : Nat} {st : St} {w w1 : World}
theorem Cx.R.below (h : c.R n st w) (hb : Below w.heap.size w w1) : c.R n st w1 := ⟨h.run.below hb, h.ok, h.sz⟩
theorem Cx.R.drawn (h : c.R n st w) (hd : Drawn0 w w1) : c.R n st w1 := ⟨h.run.drawn hd, h.ok, h.sz⟩
theorem Cx.R.drew (h : c.R n st w) : c.R n st w.drew := ⟨h.run.drew, h.ok, h.sz⟩
theorem Cx.R.view (h : c.R n st w) : VwAt w c.A0 c.A1 c.A2 c.v := h.ok.va.below h.run.hb
end
end Go.Proofs.YtgbmaajfbbilhaaGreat.Cpu
end
section
namespace Go.Proofs.YtgbmaajfbbilhaaGreat.Cpu
open Go.RowKit Go.Proofs.YtgbmaajfbbilhaaGreat.PAll Go.Proofs.YtgbmaajfbbilhaaGreat.One Go.Proofs.YtgbmaajfbbilhaaGreat.Mem Go.Proofs.YtgbmaajfbbilhaaGreat.Row Go.Proofs.YtgbmaajfbbilhaaGreatW.PrintWords Go.Proofs.YtgbmaajfbbilhaaGreatW.PrintLast Go.Proofs.YtgbmaajfbbilhaaGreatW.PrintMore Go.Proofs.YtgbmaajfbbilhaaGreat.Plain
section
variable {c : Cx} {n : Nat} {st : St} {w : World}
theorem skip_c (h : c.P n st w) (u : Int) (z0 : 0 ≤ st.r.z) (z1 : st.r.z ≤ 4095) (n0 : 0 ≤ u) (n1 : u ≤ 3) : Calls Tryz.prog 212 #[.pointer (some ⟨c.p, 0, none⟩), .int .i64 u] w fun e w' => e = .returned (.tuple #[]) ∧ c.P (n) ({ st with r := skipR st.r u }) w' := by
 have HR := Aside0.mk h
 clear h
 have x3 := HR.out.c3
 have e0 : wrap64 (st.r.z + u) = st.r.z + u := by unfold wrap64; omega
 have e1 : Go.bits .and .i64 (st.r.z + u) 4095 = (st.r.z + u) % 4096 := and_low 12 (by decide) (by omega) (by omega)
 have hu0 := Tryz.underlying124
 have hu1 := Tryz.underlying26
 have hu2 := Tryz.underlying34
 have hu3 := Tryz.underlying103
 have hu4 := Tryz.underlying29
 go_enter Tryz.func212, Tryz.ntmps212
 go_wp2_with (first | (refine HR.out.e3 rfl _ _ _ rfl rfl _ rfl ?hi ?_; (case hi => kernel_rfl); intro wc hR; replace HR := Aside0.mk hR; clear hR))
 first | (go_end0; exact ⟨rfl, HR.out⟩) | ((try simp only [Exit.inBlock, Exit.then]); refine bodyPost_ret (results_none rfl _ _ _) rfl ⟨rfl, HR.out⟩) | (go_ret; exact ⟨rfl, HR.out⟩)
theorem set_c (h : c.P n st w) (u : Int) (u0 : 0 ≤ u) (u1 : u < 65536) : Calls Tryz.prog 132 #[.pointer (some ⟨c.p, 0, none⟩), .int .u16 u] w fun e w' => e = .returned (.tuple #[]) ∧ c.P (n) (st.setA (extI u)) w' := by
 have HR := Aside0.mk h
 clear h
 have hu0 := Tryz.underlying124
 have hu1 := Tryz.underlying26
 have hu2 := Tryz.underlying34
 have hu3 := Tryz.underlying103
 have hu4 := Tryz.underlying29
 go_enter Tryz.func132, Tryz.ntmps132
 go_wp2_with (first | (go_at_call 186; (with_reducible refine at_args #[.int .u16 u] ?_); (with_reducible refine (ext_c _ u0 u1 _).mono ?_); rintro e wc ⟨rfl, hd⟩; replace HR := Aside0.mk (HR.out.drawn hd); clear hd) | (refine HR.out.e0 rfl _ _ _ rfl rfl _ rfl ?hi ?_; (case hi => kernel_rfl); intro wc hR; replace HR := Aside0.mk hR; clear hR))
 first | (go_end0; exact ⟨rfl, HR.out⟩) | ((try simp only [Exit.inBlock, Exit.then]); refine bodyPost_ret (results_none rfl _ _ _) rfl ⟨rfl, HR.out⟩) | (go_ret; exact ⟨rfl, HR.out⟩)
theorem a_c (h : c.P n st w) (ok : st.r.Ok) : Calls Tryz.prog 133 #[.pointer (some ⟨c.p, 0, none⟩)] w fun e w' => e = .returned (.int .u16 (corI st.r.a)) ∧ c.P (n) (st) w' := by
 have HR := Aside0.mk h
 clear h
 have x0 := HR.out.c0
 have hu0 := Tryz.underlying124
 have hu1 := Tryz.underlying26
 have hu2 := Tryz.underlying34
 have hu3 := Tryz.underlying103
 have hu4 := Tryz.underlying29
 go_enter Tryz.func133, Tryz.ntmps133
 go_wp2_with (first | (go_at_call 93; (with_reducible refine at_args #[.int .u16 st.r.a] ?_); (with_reducible refine (cor_c _ ok.a0 (by have := ok.a1; omega) _).mono ?_); rintro e wc ⟨rfl, hd⟩; replace HR := Aside0.mk (HR.out.drawn hd); clear hd; (try replace x0 := HR.out.c0)))
 first | (go_end0; exact ⟨rfl, HR.out⟩) | ((try simp only [Exit.inBlock, Exit.then]); refine bodyPost_ret (results_none rfl _ _ _) rfl ⟨rfl, HR.out⟩) | (go_ret; exact ⟨rfl, HR.out⟩)
theorem tcf_c (h : c.P n st w) : Calls Tryz.prog 106 #[.pointer (some ⟨c.p, 0, none⟩)] w fun e w' => e = .returned (.tuple #[]) ∧ c.P (n) (xTcf st) w' := by
 have HR := Aside0.mk h
 clear h
 have x21 := HR.out.c21
 have hu0 := Tryz.underlying124
 have hu1 := Tryz.underlying26
 have hu2 := Tryz.underlying34
 have hu3 := Tryz.underlying103
 have hu4 := Tryz.underlying29
 go_enter Tryz.func106, Tryz.ntmps106
 go_wp2_with (first | (refine HR.out.e3 rfl _ _ _ rfl rfl _ rfl ?hi ?_; (case hi => kernel_rfl); intro wc hR; replace HR := Aside0.mk hR; clear hR))
 first | (go_end0; exact ⟨rfl, HR.out⟩) | ((try simp only [Exit.inBlock, Exit.then]); refine bodyPost_ret (results_none rfl _ _ _) rfl ⟨rfl, HR.out⟩) | (go_ret; exact ⟨rfl, HR.out⟩)
theorem infoSpot : (Tryz.prog.info? 103).map (fun i => (i.zero, i.size, i.bytes)) = some (some (.agg #[.int .u8 0, .int .i64 0]), 2, 16) := by kernel_rfl
theorem infoCell : (Tryz.prog.info? 47).map (fun i => (i.zero, i.size, i.bytes)) = some (some (.agg #[.int .i64 0, .int .u16 0]), 2, 16) := by kernel_rfl
theorem seelen (st : St) (v : Vw) (x : Sp) {n : Nat} (h : st.sz ≤ n) (hn : n ≤ 90) : (st.reads.length + (if (lookN st.r v x).2 = true then [x] else []).length) * 16 ≤ 140737488355328 := by
 unfold St.sz at h
 split <;> simp <;> omega
theorem see_eq (st : St) (v : Vw) (x : Sp) : st.see v x = { st with reads := st.reads ++ (if (lookN st.r v x).2 = true then [x] else []) } := by unfold St.see; split <;> simp
theorem at_c (h : c.P n st w) (ok : st.r.Ok) (x : Sp) (h0 : 0 ≤ x.f1) (hn : n ≤ 90) : Calls Tryz.prog 214 #[.pointer (some ⟨c.p, 0, none⟩), .agg #[.int .u8 x.f0, .int .i64 x.f1]] w fun e w' => e = .returned (.int .u16 (lookN st.r c.v x).1) ∧ c.P (n + 1) (st.see c.v x) w' := by
 have HR := Aside0.mk h
 clear h
 have HB := Aside0.mk (Below.refl w.heap.size w)
 have hu0 := Tryz.underlying124
 have hu1 := Tryz.underlying26
 have hu2 := Tryz.underlying34
 have hu3 := Tryz.underlying103
 have hu4 := Tryz.underlying29
 go_enter Tryz.func214, Tryz.ntmps214
 go_upto_region 1 with (first | (refine boxq_ 3 #[.int .u8 x.f0, .int .i64 x.f1] 103 ?_; intro g3 hg wb K hb; (try have NE3_3 := nkb_ K3 hg); have L3 := lkb_ HB hg; (try replace HR := Aside0.mk (HR.out.below hb)); (try replace K3 := kbb_ K3 hb); replace HB := hbs_ HB hb; have K3 := Aside0.mk K; clear K hb hg))
 have hb := below_drew (Below.refl wb.heap.size wb)
 replace HR := Aside0.mk (HR.out.below hb)
 replace K3 := kbb_ K3 hb
 clear hb
 refine start_ (n := 14) (S := fun w' => w'.cell? ⟨g3, 0, none⟩ = some (.int .u8 x.f0) ∧ w'.cell? ⟨g3, 1, none⟩ = some (.int .i64 x.f1) ∧ w'.cell? ⟨c.p, 18, none⟩ = some c.ve ∧ w'.cell? ⟨c.p, 19, none⟩ = some c.vf ∧ w'.cell? ⟨c.p, 20, none⟩ = some c.vc) (ds := []) #[false, false, false, false, false, false, false, false, false, false, false, false, false, false] (by kernel_rfl) rfl rfl ⟨(blk_cell K3.out 0).trans rfl, (blk_cell K3.out 1).trans rfl, HR.out.c18, HR.out.c19, HR.out.c20⟩ (fun hHeld => ?_)
 generalize wb.drew = wd at HR K3 hHeld ⊢
 refine pvq_ 0 (some 8) rfl rfl ?_
 refine pvq_ 1 (some 9) rfl rfl ?_
 refine pvq_ 2 (some 10) rfl rfl ?_
 refine pvq_ 3 (some 11) rfl rfl ?_
 refine pvq_ 4 (some 12) rfl rfl ?_
 refine pvq_ 5 (some 13) rfl rfl ?_
 refine tkq_ 6 (some 14) rfl rfl hHeld ?_
 refine tkq_ 7 (some 15) rfl rfl hHeld ?_
 refine onq_ 8 (some 16) rfl rfl (fun K hK => ?_)
 refine goq_ Tryz.func72 #[.pointer (some ⟨c.p, 0, none⟩), .agg #[c.ve, c.vf, c.vc], .agg #[.int .u8 x.f0, .int .i64 x.f1]] ?_
 with_reducible refine (look_c _ HR.out.ra HR.out.view HR.out.ok.h0 HR.out.ok.h1 HR.out.ok.h2 x ok h0).mono ?_
 rintro e wc ⟨vl, rfl, hL, hb⟩
 refine ⟨_, rfl, ?_⟩
 have HL := Aside0.mk hL
 replace HR := Aside0.mk (HR.out.below hb)
 replace K3 := kbb_ K3 hb
 clear hL hb
 refine hK.out _ _ ⟨(blk_cell K3.out 0).trans rfl, (blk_cell K3.out 1).trans rfl, HR.out.c18, HR.out.c19, HR.out.c20⟩ (fun hHeld => ?_)
 clear hK K
 refine nmq_ (some 16) ?_
 refine pvq_ 9 (some 7) rfl rfl ?_
 refine pvq_ 10 (some 17) rfl rfl ?_
 refine pvq_ 11 (some 18) rfl rfl ?_
 refine pvq_ 12 (some 5) rfl rfl ?_
 refine pvq_ 13 (some 6) rfl rfl ?_
 refine done_ (by kernel_rfl) ?_
 obtain ⟨⟨vC, vO, vR, hF⟩, hok, hsz⟩ := HR.out
 have HLEN := seelen st c.v x hsz hn
 obtain ⟨L, eL⟩ : ∃ L, (if (lookN st.r c.v x).2 = true then [x] else []) = L := ⟨_, rfl⟩
 rw [eL] at HL HLEN
 replace HLEN := Aside0.mk HLEN
 replace eL := Lib.hid eL
 have HF := Aside0.mk hF
 obtain ⟨A, k, rfl, hk, hC⟩ := Kd.R_reads HL.out
 have HC := Aside0.mk hC
 have xR : wc.cell? ⟨c.p, 15, none⟩ = some vR := (blk_cell hF.blk 15).trans rfl
 clear hF hC HL HR
 go_wp2_with (first | ((with_reducible refine gate_builtin (b := .append) (xs := #[.tmp 24, .tmp 25]) rfl ?_); at_builtin; refine Kd.R_append_rows k103 (Rr := k103.K wc) (w0 := c.w0) c.w0.heap.size rfl (.tmp 24) (.tmp 25) 31 103 (.agg #[.int .u8 0, .int .i64 0]) 16 rfl Tryz.underlying31 infoSpot rfl (by decide) (by decide) vR st.reads _ A _ k (fun _ => True) (fun _ => False) rfl rfl HF.out.rr HC.out ?hKM (fun _ hk => hk.elim) (fun _ _ => trivial) HF.out.hb HF.out.base ?hl ?_; (case hKM => exact fun y cs hy => by obtain rfl := k103_open hy; exact k103_mkM _ _ _ y); (case hl => exact HLEN.out); intro v1 w1 hr hb hg hat; obtain ⟨B1, k1, e1, hk1, hC1⟩ := Kd.R_reads hr; rw [List.length_append] at e1; subst e1; replace HF := Aside0.mk (RunF.appR HF.out hr hb hg); clear hr hb hg hat hk1 hC1) | (refine store_cell_ rfl _ _ _ rfl c.p 15 rfl (.slice B1 (st.reads.length + L.length) k1) rfl vR ((blk_cell HF.out.blk 15).trans rfl) (blk_frozen HF.out.blk 15) rfl rfl ?hi ?_; (case hi => kernel_rfl); replace HF := Aside0.mk (RunF.set HF.out 15 (.slice B1 (st.reads.length + L.length) k1)); generalize World.setCell _ _ _ = wf at HF ⊢))
 go_ret
 refine ⟨rfl, ⟨?_, hok, Nat.le_trans (see_sz _ _ _) (by omega)⟩⟩
 rw [see_eq, eL.out]
 exact ⟨vC, vO, .slice B1 (st.reads.length + L.length) k1, HF.out⟩
theorem rdA_b {st : St} (ok : st.r.Ok) (v : Vw) : 0 ≤ rdA st v ∧ rdA st v < 65536 := by have := look_b ok v st.sp; unfold rdA; omega
theorem read_c (h : c.P n st w) (ok : st.r.Ok) (h0 : 0 ≤ st.sp.f1) (hn : n ≤ 90) : Calls Tryz.prog 118 #[.pointer (some ⟨c.p, 0, none⟩)] w fun e w' => e = .returned (.int .u16 (rdA st c.v)) ∧ c.P (n + 1) (st.rd c.v) w' := by
 have HR := Aside0.mk h
 clear h
 have x22 := HR.out.c22
 have x23 := HR.out.c23
 have hu0 := Tryz.underlying124
 have hu1 := Tryz.underlying26
 have hu2 := Tryz.underlying34
 have hu3 := Tryz.underlying103
 have hu4 := Tryz.underlying29
 go_enter Tryz.func118, Tryz.ntmps118
 go_wp2_with (first | (go_at_call 214; (with_reducible refine at_args #[.pointer (some ⟨c.p, 0, none⟩), .agg #[.int .u8 st.sp.f0, .int .i64 st.sp.f1]] ?_); (with_reducible refine (at_c HR.out ok st.sp h0 hn).mono ?_); rintro e wc ⟨rfl, hR⟩; replace HR := Aside0.mk hR; clear hR))
 first | (go_end0; exact ⟨rfl, HR.out⟩) | ((try simp only [Exit.inBlock, Exit.then]); refine bodyPost_ret (results_none rfl _ _ _) rfl ⟨rfl, HR.out⟩) | (go_ret; exact ⟨rfl, HR.out⟩)
theorem word_c (h : c.P n st w) (ok : st.r.Ok) (h0 : 0 ≤ st.sp.f1) (hn : n ≤ 90) : Calls Tryz.prog 122 #[.pointer (some ⟨c.p, 0, none⟩)] w fun e w' => e = .returned (.int .u16 (rdW st c.v)) ∧ c.P (n + 1) (st.rd c.v) w' := by
 have HR := Aside0.mk h
 clear h
 have hu0 := Tryz.underlying124
 have hu1 := Tryz.underlying26
 have hu2 := Tryz.underlying34
 have hu3 := Tryz.underlying103
 have hu4 := Tryz.underlying29
 go_enter Tryz.func122, Tryz.ntmps122
 go_wp2_with (first | (go_at_call 118; (with_reducible refine at_args #[.pointer (some ⟨c.p, 0, none⟩)] ?_); (with_reducible refine (read_c HR.out ok h0 hn).mono ?_); rintro e wc ⟨rfl, hR⟩; replace HR := Aside0.mk hR; clear hR) | (go_at_call 93; (with_reducible refine at_args #[.int .u16 (rdA st c.v)] ?_); (with_reducible refine (cor_c _ (rdA_b ok c.v).1 (rdA_b ok c.v).2 _).mono ?_); rintro e wc ⟨rfl, hd⟩; replace HR := Aside0.mk (HR.out.drawn hd); clear hd))
 first | (go_end0; exact ⟨rfl, HR.out⟩) | ((try simp only [Exit.inBlock, Exit.then]); refine bodyPost_ret (results_none rfl _ _ _) rfl ⟨rfl, HR.out⟩) | (go_ret; exact ⟨rfl, HR.out⟩)
theorem both_c0 (h : c.P n st w) (ok : st.r.Ok) (hk : st.k ≠ 2) : Calls Tryz.prog 105 #[.pointer (some ⟨c.p, 0, none⟩)] w fun e w' => e = .returned (.tuple #[]) ∧ c.P (n) (xTc st) w' := by
 have HR := Aside0.mk h
 clear h
 have x21 := HR.out.c21
 have x3 := HR.out.c3
 have x2 := HR.out.c2
 have y0 : (st.k == 2) = false := by simpa using hk
 have e3 : IntKind.u16.wrap st.r.z = st.r.z := u16w (by have := ok.z0; omega) (by have := ok.z1; omega)
 unfold xTc
 simp only [if_neg hk]
 have hu0 := Tryz.underlying124
 have hu1 := Tryz.underlying26
 have hu2 := Tryz.underlying34
 have hu3 := Tryz.underlying103
 have hu4 := Tryz.underlying29
 go_enter Tryz.func105, Tryz.ntmps105
 go_wp2_with (first | (refine HR.out.e2 rfl _ _ _ rfl rfl _ rfl ?hi ?_; (case hi => kernel_rfl); intro wc hR; replace HR := Aside0.mk hR; clear hR; (try replace x3 := HR.out.c3); (try replace x2 := HR.out.c2); (try replace x21 := HR.out.c21)) | (refine HR.out.e10 rfl _ _ _ rfl rfl _ rfl ?hi ?_; (case hi => kernel_rfl); intro wc hR; replace HR := Aside0.mk hR; clear hR; (try replace x2 := HR.out.c2); (try replace x3 := HR.out.c3); (try replace x21 := HR.out.c21)) | (refine HR.out.e9 rfl _ _ _ rfl rfl _ rfl ?hi ?_; (case hi => kernel_rfl); intro wc hR; replace HR := Aside0.mk hR; clear hR; (try replace x2 := HR.out.c2); (try replace x3 := HR.out.c3); (try replace x21 := HR.out.c21)) | (go_at_call 106; (with_reducible refine at_args #[.pointer (some ⟨c.p, 0, none⟩)] ?_); (with_reducible refine (tcf_c HR.out).mono ?_); rintro e wc ⟨rfl, hR⟩; replace HR := Aside0.mk hR; clear hR))
 first | (go_end0; exact ⟨rfl, HR.out⟩) | ((try simp only [Exit.inBlock, Exit.then]); refine bodyPost_ret (results_none rfl _ _ _) rfl ⟨rfl, HR.out⟩) | (go_ret; exact ⟨rfl, HR.out⟩)
theorem both_c1 (h : c.P n st w) (ok : st.r.Ok) (hk : st.k = 2) : Calls Tryz.prog 105 #[.pointer (some ⟨c.p, 0, none⟩)] w fun e w' => e = .returned (.tuple #[]) ∧ c.P (n) (xTc st) w' := by
 have HR := Aside0.mk h
 clear h
 have x21 := HR.out.c21
 have x3 := HR.out.c3
 have x2 := HR.out.c2
 have y0 : (st.k == 2) = true := by simpa using hk
 have e3 : IntKind.u16.wrap st.r.z = st.r.z := u16w (by have := ok.z0; omega) (by have := ok.z1; omega)
 unfold xTc
 simp only [if_pos hk]
 have hu0 := Tryz.underlying124
 have hu1 := Tryz.underlying26
 have hu2 := Tryz.underlying34
 have hu3 := Tryz.underlying103
 have hu4 := Tryz.underlying29
 go_enter Tryz.func105, Tryz.ntmps105
 go_wp2_with (first | (refine HR.out.e2 rfl _ _ _ rfl rfl _ rfl ?hi ?_; (case hi => kernel_rfl); intro wc hR; replace HR := Aside0.mk hR; clear hR; (try replace x3 := HR.out.c3); (try replace x2 := HR.out.c2); (try replace x21 := HR.out.c21)) | (refine HR.out.e10 rfl _ _ _ rfl rfl _ rfl ?hi ?_; (case hi => kernel_rfl); intro wc hR; replace HR := Aside0.mk hR; clear hR; (try replace x2 := HR.out.c2); (try replace x3 := HR.out.c3); (try replace x21 := HR.out.c21)) | (refine HR.out.e9 rfl _ _ _ rfl rfl _ rfl ?hi ?_; (case hi => kernel_rfl); intro wc hR; replace HR := Aside0.mk hR; clear hR; (try replace x2 := HR.out.c2); (try replace x3 := HR.out.c3); (try replace x21 := HR.out.c21)) | (go_at_call 106; (with_reducible refine at_args #[.pointer (some ⟨c.p, 0, none⟩)] ?_); (with_reducible refine (tcf_c HR.out).mono ?_); rintro e wc ⟨rfl, hR⟩; replace HR := Aside0.mk hR; clear hR))
 first | (go_end0; exact ⟨rfl, HR.out⟩) | ((try simp only [Exit.inBlock, Exit.then]); refine bodyPost_ret (results_none rfl _ _ _) rfl ⟨rfl, HR.out⟩) | (go_ret; exact ⟨rfl, HR.out⟩)
theorem branch_c (h : c.P n st w) (u : Bool) : Calls Tryz.prog 149 #[.pointer (some ⟨c.p, 0, none⟩), .bool u] w fun e w' => e = .returned (.tuple #[]) ∧ c.P (n) (xBranch st u) w' := by
 have HR := Aside0.mk h
 clear h
 have hu0 := Tryz.underlying124
 have hu1 := Tryz.underlying26
 have hu2 := Tryz.underlying34
 have hu3 := Tryz.underlying103
 have hu4 := Tryz.underlying29
 go_enter Tryz.func149, Tryz.ntmps149
 cases u
 · go_wp2_with (first | (refine HR.out.e16 rfl _ _ _ rfl rfl _ rfl ?hi ?_; (case hi => kernel_rfl); intro wc hR; replace HR := Aside0.mk hR; clear hR) | (go_at_call 106; (with_reducible refine at_args #[.pointer (some ⟨c.p, 0, none⟩)] ?_); (with_reducible refine (tcf_c HR.out).mono ?_); rintro e wc ⟨rfl, hR⟩; replace HR := Aside0.mk hR; clear hR))
   first | (go_end0; exact ⟨rfl, HR.out⟩) | ((try simp only [Exit.inBlock, Exit.then]); refine bodyPost_ret (results_none rfl _ _ _) rfl ⟨rfl, HR.out⟩)
 · go_wp2_with (first | (refine HR.out.e16 rfl _ _ _ rfl rfl _ rfl ?hi ?_; (case hi => kernel_rfl); intro wc hR; replace HR := Aside0.mk hR; clear hR) | (go_at_call 106; (with_reducible refine at_args #[.pointer (some ⟨c.p, 0, none⟩)] ?_); (with_reducible refine (tcf_c HR.out).mono ?_); rintro e wc ⟨rfl, hR⟩; replace HR := Aside0.mk hR; clear hR))
   first | (go_end0; exact ⟨rfl, HR.out⟩) | ((try simp only [Exit.inBlock, Exit.then]); refine bodyPost_ret (results_none rfl _ _ _) rfl ⟨rfl, HR.out⟩)
theorem store_0 (h : c.P n st w) (u : Int) (u0 : 0 ≤ u) (u1 : u ≤ 65535) : Calls Tryz.prog 217 #[.pointer (some ⟨c.p, 0, none⟩), .int .i64 0, .int .u16 u] w fun e w' => e = .returned (.tuple #[]) ∧ c.P (n) (st.put 0 u) w' := by
 have HR := Aside0.mk h
 clear h
 have hb := cor_b u0 u1
 have e3 : Go.bits .and .u16 (corI u / 256) 7 = corI u / 256 % 8 := and_7 (by omega) (by omega)
 have e5 : Go.bits .and .u16 (corI u) 4095 = corI u % 4096 := and_4095 (by omega) (by omega)
 have e6 : Go.bits .and .u16 (corI u) 7 = corI u % 8 := and_7 (by omega) (by omega)
 have e7 : IntKind.i64.wrap (corI u / 1024) = corI u / 1024 := wraps64 _ (by omega) (by omega)
 have e8 : wrap64 (corI u / 1024) = corI u / 1024 := by unfold wrap64; omega
 clear hb
 have hu0 := Tryz.underlying124
 have hu1 := Tryz.underlying26
 have hu2 := Tryz.underlying34
 have hu3 := Tryz.underlying103
 have hu4 := Tryz.underlying29
 go_enter Tryz.func217, Tryz.ntmps217
 go_wp2_with (first | (go_at_call 93; (with_reducible refine at_args #[.int .u16 u] ?_); (with_reducible refine (cor_c _ u0 (by omega) _).mono ?_); rintro e wc ⟨rfl, hd⟩; replace HR := Aside0.mk (HR.out.drawn hd); clear hd) | (refine HR.out.e0 rfl _ _ _ rfl rfl _ rfl ?hi ?_; (case hi => kernel_rfl); intro wc hR; replace HR := Aside0.mk hR; clear hR))
 first | (go_end0; exact ⟨rfl, HR.out⟩) | ((try simp only [Exit.inBlock, Exit.then]); refine bodyPost_ret (results_none rfl _ _ _) rfl ⟨rfl, HR.out⟩) | (go_ret; exact ⟨rfl, HR.out⟩)
theorem store_1 (h : c.P n st w) (u : Int) (u0 : 0 ≤ u) (u1 : u ≤ 65535) : Calls Tryz.prog 217 #[.pointer (some ⟨c.p, 0, none⟩), .int .i64 1, .int .u16 u] w fun e w' => e = .returned (.tuple #[]) ∧ c.P (n) (st.put 1 u) w' := by
 have HR := Aside0.mk h
 clear h
 have hb := cor_b u0 u1
 have e3 : Go.bits .and .u16 (corI u / 256) 7 = corI u / 256 % 8 := and_7 (by omega) (by omega)
 have e5 : Go.bits .and .u16 (corI u) 4095 = corI u % 4096 := and_4095 (by omega) (by omega)
 have e6 : Go.bits .and .u16 (corI u) 7 = corI u % 8 := and_7 (by omega) (by omega)
 have e7 : IntKind.i64.wrap (corI u / 1024) = corI u / 1024 := wraps64 _ (by omega) (by omega)
 have e8 : wrap64 (corI u / 1024) = corI u / 1024 := by unfold wrap64; omega
 clear hb
 have hu0 := Tryz.underlying124
 have hu1 := Tryz.underlying26
 have hu2 := Tryz.underlying34
 have hu3 := Tryz.underlying103
 have hu4 := Tryz.underlying29
 go_enter Tryz.func217, Tryz.ntmps217
 go_wp2_with (first | (go_at_call 93; (with_reducible refine at_args #[.int .u16 u] ?_); (with_reducible refine (cor_c _ u0 (by omega) _).mono ?_); rintro e wc ⟨rfl, hd⟩; replace HR := Aside0.mk (HR.out.drawn hd); clear hd) | (refine HR.out.e1 rfl _ _ _ rfl rfl _ rfl ?hi ?_; (case hi => kernel_rfl); intro wc hR; replace HR := Aside0.mk hR; clear hR))
 first | (go_end0; exact ⟨rfl, HR.out⟩) | ((try simp only [Exit.inBlock, Exit.then]); refine bodyPost_ret (results_none rfl _ _ _) rfl ⟨rfl, HR.out⟩) | (go_ret; exact ⟨rfl, HR.out⟩)
theorem store_2 (h : c.P n st w) (u : Int) (u0 : 0 ≤ u) (u1 : u ≤ 65535) : Calls Tryz.prog 217 #[.pointer (some ⟨c.p, 0, none⟩), .int .i64 2, .int .u16 u] w fun e w' => e = .returned (.tuple #[]) ∧ c.P (n) (st.put 2 u) w' := by
 have HR := Aside0.mk h
 clear h
 have hb := cor_b u0 u1
 have e3 : Go.bits .and .u16 (corI u / 256) 7 = corI u / 256 % 8 := and_7 (by omega) (by omega)
 have e5 : Go.bits .and .u16 (corI u) 4095 = corI u % 4096 := and_4095 (by omega) (by omega)
 have e6 : Go.bits .and .u16 (corI u) 7 = corI u % 8 := and_7 (by omega) (by omega)
 have e7 : IntKind.i64.wrap (corI u / 1024) = corI u / 1024 := wraps64 _ (by omega) (by omega)
 have e8 : wrap64 (corI u / 1024) = corI u / 1024 := by unfold wrap64; omega
 clear hb
 have hu0 := Tryz.underlying124
 have hu1 := Tryz.underlying26
 have hu2 := Tryz.underlying34
 have hu3 := Tryz.underlying103
 have hu4 := Tryz.underlying29
 go_enter Tryz.func217, Tryz.ntmps217
 go_wp2_with (first | (go_at_call 93; (with_reducible refine at_args #[.int .u16 u] ?_); (with_reducible refine (cor_c _ u0 (by omega) _).mono ?_); rintro e wc ⟨rfl, hd⟩; replace HR := Aside0.mk (HR.out.drawn hd); clear hd) | (refine HR.out.e2 rfl _ _ _ rfl rfl _ rfl ?hi ?_; (case hi => kernel_rfl); intro wc hR; replace HR := Aside0.mk hR; clear hR))
 first | (go_end0; exact ⟨rfl, HR.out⟩) | ((try simp only [Exit.inBlock, Exit.then]); refine bodyPost_ret (results_none rfl _ _ _) rfl ⟨rfl, HR.out⟩) | (go_ret; exact ⟨rfl, HR.out⟩)
theorem store_3 (h : c.P n st w) (u : Int) (u0 : 0 ≤ u) (u1 : u ≤ 65535) : Calls Tryz.prog 217 #[.pointer (some ⟨c.p, 0, none⟩), .int .i64 3, .int .u16 u] w fun e w' => e = .returned (.tuple #[]) ∧ c.P (n) (st.put 3 u) w' := by
 have HR := Aside0.mk h
 clear h
 have hb := cor_b u0 u1
 have e3 : Go.bits .and .u16 (corI u / 256) 7 = corI u / 256 % 8 := and_7 (by omega) (by omega)
 have e5 : Go.bits .and .u16 (corI u) 4095 = corI u % 4096 := and_4095 (by omega) (by omega)
 have e6 : Go.bits .and .u16 (corI u) 7 = corI u % 8 := and_7 (by omega) (by omega)
 have e7 : IntKind.i64.wrap (corI u / 1024) = corI u / 1024 := wraps64 _ (by omega) (by omega)
 have e8 : wrap64 (corI u / 1024) = corI u / 1024 := by unfold wrap64; omega
 clear hb
 have hu0 := Tryz.underlying124
 have hu1 := Tryz.underlying26
 have hu2 := Tryz.underlying34
 have hu3 := Tryz.underlying103
 have hu4 := Tryz.underlying29
 go_enter Tryz.func217, Tryz.ntmps217
 go_wp2_with (first | (go_at_call 93; (with_reducible refine at_args #[.int .u16 u] ?_); (with_reducible refine (cor_c _ u0 (by omega) _).mono ?_); rintro e wc ⟨rfl, hd⟩; replace HR := Aside0.mk (HR.out.drawn hd); clear hd) | (refine HR.out.e4 rfl _ _ _ rfl rfl _ rfl ?hi ?_; (case hi => kernel_rfl); intro wc hR; replace HR := Aside0.mk hR; clear hR))
 first | (go_end0; exact ⟨rfl, HR.out⟩) | ((try simp only [Exit.inBlock, Exit.then]); refine bodyPost_ret (results_none rfl _ _ _) rfl ⟨rfl, HR.out⟩) | (go_ret; exact ⟨rfl, HR.out⟩)
theorem store_4 (h : c.P n st w) (u : Int) (u0 : 0 ≤ u) (u1 : u ≤ 65535) : Calls Tryz.prog 217 #[.pointer (some ⟨c.p, 0, none⟩), .int .i64 4, .int .u16 u] w fun e w' => e = .returned (.tuple #[]) ∧ c.P (n) (st.put 4 u) w' := by
 have HR := Aside0.mk h
 clear h
 have hb := cor_b u0 u1
 have e3 : Go.bits .and .u16 (corI u / 256) 7 = corI u / 256 % 8 := and_7 (by omega) (by omega)
 have e5 : Go.bits .and .u16 (corI u) 4095 = corI u % 4096 := and_4095 (by omega) (by omega)
 have e6 : Go.bits .and .u16 (corI u) 7 = corI u % 8 := and_7 (by omega) (by omega)
 have e7 : IntKind.i64.wrap (corI u / 1024) = corI u / 1024 := wraps64 _ (by omega) (by omega)
 have e8 : wrap64 (corI u / 1024) = corI u / 1024 := by unfold wrap64; omega
 clear hb
 have hu0 := Tryz.underlying124
 have hu1 := Tryz.underlying26
 have hu2 := Tryz.underlying34
 have hu3 := Tryz.underlying103
 have hu4 := Tryz.underlying29
 go_enter Tryz.func217, Tryz.ntmps217
 go_wp2_with (first | (go_at_call 93; (with_reducible refine at_args #[.int .u16 u] ?_); (with_reducible refine (cor_c _ u0 (by omega) _).mono ?_); rintro e wc ⟨rfl, hd⟩; replace HR := Aside0.mk (HR.out.drawn hd); clear hd) | (refine HR.out.e5 rfl _ _ _ rfl rfl _ rfl ?hi ?_; (case hi => kernel_rfl); intro wc hR; replace HR := Aside0.mk hR; clear hR))
 first | (go_end0; exact ⟨rfl, HR.out⟩) | ((try simp only [Exit.inBlock, Exit.then]); refine bodyPost_ret (results_none rfl _ _ _) rfl ⟨rfl, HR.out⟩) | (go_ret; exact ⟨rfl, HR.out⟩)
theorem store_5 (h : c.P n st w) (u : Int) (u0 : 0 ≤ u) (u1 : u ≤ 65535) : Calls Tryz.prog 217 #[.pointer (some ⟨c.p, 0, none⟩), .int .i64 5, .int .u16 u] w fun e w' => e = .returned (.tuple #[]) ∧ c.P (n) (st.put 5 u) w' := by
 have HR := Aside0.mk h
 clear h
 have hb := cor_b u0 u1
 have e3 : Go.bits .and .u16 (corI u / 256) 7 = corI u / 256 % 8 := and_7 (by omega) (by omega)
 have e5 : Go.bits .and .u16 (corI u) 4095 = corI u % 4096 := and_4095 (by omega) (by omega)
 have e6 : Go.bits .and .u16 (corI u) 7 = corI u % 8 := and_7 (by omega) (by omega)
 have e7 : IntKind.i64.wrap (corI u / 1024) = corI u / 1024 := wraps64 _ (by omega) (by omega)
 have e8 : wrap64 (corI u / 1024) = corI u / 1024 := by unfold wrap64; omega
 clear hb
 have hu0 := Tryz.underlying124
 have hu1 := Tryz.underlying26
 have hu2 := Tryz.underlying34
 have hu3 := Tryz.underlying103
 have hu4 := Tryz.underlying29
 go_enter Tryz.func217, Tryz.ntmps217
 go_wp2_with (first | (go_at_call 93; (with_reducible refine at_args #[.int .u16 u] ?_); (with_reducible refine (cor_c _ u0 (by omega) _).mono ?_); rintro e wc ⟨rfl, hd⟩; replace HR := Aside0.mk (HR.out.drawn hd); clear hd) | (refine HR.out.e3 rfl _ _ _ rfl rfl _ rfl ?hi ?_; (case hi => kernel_rfl); intro wc hR; replace HR := Aside0.mk hR; clear hR))
 first | (go_end0; exact ⟨rfl, HR.out⟩) | ((try simp only [Exit.inBlock, Exit.then]); refine bodyPost_ret (results_none rfl _ _ _) rfl ⟨rfl, HR.out⟩) | (go_ret; exact ⟨rfl, HR.out⟩)
theorem store_6 (h : c.P n st w) (u : Int) (u0 : 0 ≤ u) (u1 : u ≤ 65535) : Calls Tryz.prog 217 #[.pointer (some ⟨c.p, 0, none⟩), .int .i64 6, .int .u16 u] w fun e w' => e = .returned (.tuple #[]) ∧ c.P (n) (st.put 6 u) w' := by
 have HR := Aside0.mk h
 clear h
 have hb := cor_b u0 u1
 have e3 : Go.bits .and .u16 (corI u / 256) 7 = corI u / 256 % 8 := and_7 (by omega) (by omega)
 have e5 : Go.bits .and .u16 (corI u) 4095 = corI u % 4096 := and_4095 (by omega) (by omega)
 have e6 : Go.bits .and .u16 (corI u) 7 = corI u % 8 := and_7 (by omega) (by omega)
 have e7 : IntKind.i64.wrap (corI u / 1024) = corI u / 1024 := wraps64 _ (by omega) (by omega)
 have e8 : wrap64 (corI u / 1024) = corI u / 1024 := by unfold wrap64; omega
 clear hb
 have hu0 := Tryz.underlying124
 have hu1 := Tryz.underlying26
 have hu2 := Tryz.underlying34
 have hu3 := Tryz.underlying103
 have hu4 := Tryz.underlying29
 go_enter Tryz.func217, Tryz.ntmps217
 go_wp2_with (first | (go_at_call 93; (with_reducible refine at_args #[.int .u16 u] ?_); (with_reducible refine (cor_c _ u0 (by omega) _).mono ?_); rintro e wc ⟨rfl, hd⟩; replace HR := Aside0.mk (HR.out.drawn hd); clear hd) | (refine HR.out.e5 rfl _ _ _ rfl rfl _ rfl ?hi ?_; (case hi => kernel_rfl); intro wc hR; replace HR := Aside0.mk hR; clear hR) | (refine HR.out.e4 rfl _ _ _ rfl rfl _ rfl ?hi ?_; (case hi => kernel_rfl); intro wc hR; replace HR := Aside0.mk hR; clear hR))
 first | (go_end0; exact ⟨rfl, HR.out⟩) | ((try simp only [Exit.inBlock, Exit.then]); refine bodyPost_ret (results_none rfl _ _ _) rfl ⟨rfl, HR.out⟩) | (go_ret; exact ⟨rfl, HR.out⟩)
theorem store_7 (h : c.P n st w) (u : Int) (u0 : 0 ≤ u) (u1 : u ≤ 65535) : Calls Tryz.prog 217 #[.pointer (some ⟨c.p, 0, none⟩), .int .i64 7, .int .u16 u] w fun e w' => e = .returned (.tuple #[]) ∧ c.P (n) (st.put 7 u) w' := by
 have HR := Aside0.mk h
 clear h
 have hb := cor_b u0 u1
 have e3 : Go.bits .and .u16 (corI u / 256) 7 = corI u / 256 % 8 := and_7 (by omega) (by omega)
 have e5 : Go.bits .and .u16 (corI u) 4095 = corI u % 4096 := and_4095 (by omega) (by omega)
 have e6 : Go.bits .and .u16 (corI u) 7 = corI u % 8 := and_7 (by omega) (by omega)
 have e7 : IntKind.i64.wrap (corI u / 1024) = corI u / 1024 := wraps64 _ (by omega) (by omega)
 have e8 : wrap64 (corI u / 1024) = corI u / 1024 := by unfold wrap64; omega
 clear hb
 have hu0 := Tryz.underlying124
 have hu1 := Tryz.underlying26
 have hu2 := Tryz.underlying34
 have hu3 := Tryz.underlying103
 have hu4 := Tryz.underlying29
 go_enter Tryz.func217, Tryz.ntmps217
 go_wp2_with (first | (go_at_call 93; (with_reducible refine at_args #[.int .u16 u] ?_); (with_reducible refine (cor_c _ u0 (by omega) _).mono ?_); rintro e wc ⟨rfl, hd⟩; replace HR := Aside0.mk (HR.out.drawn hd); clear hd))
 first | (go_end0; exact ⟨rfl, HR.out⟩) | ((try simp only [Exit.inBlock, Exit.then]); refine bodyPost_ret (results_none rfl _ _ _) rfl ⟨rfl, HR.out⟩) | (go_ret; exact ⟨rfl, HR.out⟩)
theorem RunF.freshC {B : Nat} {w0 w : World} {p T g : Nat} {bo : Option (Array Value)} {cs : Array Value} {vC vO vR : Value} {xc xo : List Cl} {xr : List Sp} (h : RunF B w0 p T g bo cs vC vO vR xc xo xr w) : ∀ k, w.heap.size ≤ k → True ∧ some k ≠ vO.ownBlock := fun k hk => ⟨trivial, fun e => absurd (Kd.R_lt h.ro k e.symm) (by omega)⟩
theorem RunF.freshO {B : Nat} {w0 w : World} {p T g : Nat} {bo : Option (Array Value)} {cs : Array Value} {vC vO vR : Value} {xc xo : List Cl} {xr : List Sp} (h : RunF B w0 p T g bo cs vC vO vR xc xo xr w) : ∀ k, w.heap.size ≤ k → True ∧ some k ≠ vC.ownBlock := fun k hk => ⟨trivial, fun e => absurd (Kd.R_lt h.rc k e.symm) (by omega)⟩
theorem store_d (h : c.P n st w) (i u : Int) (i0 : 8 ≤ i) (u0 : 0 ≤ u) (u1 : u ≤ 65535) (hn : n ≤ 90) : Calls Tryz.prog 217 #[.pointer (some ⟨c.p, 0, none⟩), .int .i64 i, .int .u16 u] w fun e w' => e = .returned (.tuple #[]) ∧ c.P (n + 1) (st.put i u) w' := by
 have HR := Aside0.mk h
 clear h
 have y0 : (i == 0) = false := by simpa using (show i ≠ 0 by omega)
 have y1 : (i == 1) = false := by simpa using (show i ≠ 1 by omega)
 have y2 : (i == 2) = false := by simpa using (show i ≠ 2 by omega)
 have y3 : (i == 3) = false := by simpa using (show i ≠ 3 by omega)
 have y4 : (i == 4) = false := by simpa using (show i ≠ 4 by omega)
 have y5 : (i == 5) = false := by simpa using (show i ≠ 5 by omega)
 have y6 : (i == 6) = false := by simpa using (show i ≠ 6 by omega)
 have y7 : (i == 7) = false := by simpa using (show i ≠ 7 by omega)
 have hu0 := Tryz.underlying124
 have hu1 := Tryz.underlying26
 have hu2 := Tryz.underlying34
 have hu3 := Tryz.underlying103
 have hu4 := Tryz.underlying29
 go_enter Tryz.func217, Tryz.ntmps217
 go_upto_region 2 with (first | (go_at_call 93; (with_reducible refine at_args #[.int .u16 u] ?_); (with_reducible refine (cor_c _ u0 (by omega) _).mono ?_); rintro e wc ⟨rfl, hd⟩; replace HR := Aside0.mk (HR.out.drawn hd); clear hd))
 obtain ⟨⟨vC, vO, vR, hF⟩, hok, hsz⟩ := HR.out
 have HF := Aside0.mk (hF.below (below_drew (Below.refl _ _)))
 have HLEN := Aside0.mk (show (st.cells.length + 1) * 16 ≤ 140737488355328 from by unfold St.sz at hsz; omega)
 clear hF HR
 refine start_ (n := 17) (S := fun w' => w'.cell? ⟨c.p, 13, none⟩ = some vC) (ds := [16]) #[false, false, false, false, false, false, false, false, false, false, false, false, false, false, false, false, false] (by kernel_rfl) rfl rfl ((blk_cell HF.out.blk 13).trans rfl) (fun hHeld => ?_)
 generalize wc.drew = wd at HF hHeld ⊢
 refine pvq_ 0 (some 10) rfl rfl ?_
 refine pvq_ 1 (some 11) rfl rfl ?_
 refine pvq_ 2 (some 12) rfl rfl ?_
 refine pvq_ 3 (some 13) rfl rfl ?_
 refine pvq_ 4 (some 14) rfl rfl ?_
 refine pvq_ 6 (some 16) rfl rfl ?_
 refine pvq_ 7 (some 17) rfl rfl ?_
 refine pvq_ 8 (some 18) rfl rfl ?_
 refine tkq_ 5 (some 15) rfl rfl hHeld ?_
 refine onq_ 9 (some 19) rfl rfl (fun K hK => ?_)
 refine goq_ Tryz.func253 #[.int .i64 i, .int .u16 (corI u)] ?_
 with_reducible refine (edit_c i (corI u) (cor_b u0 u1).1 (by have := (cor_b u0 u1).2; omega) _).mono ?_
 rintro e wc ⟨rfl, hb⟩
 refine ⟨_, rfl, ?_⟩
 replace HF := Aside0.mk (HF.out.below hb)
 clear hb
 refine hK.out _ _ ((blk_cell HF.out.blk 13).trans rfl) (fun hHeld => ?_)
 clear hK K
 refine nmq_ (some 19) ?_
 refine pvq_ 10 (some 20) rfl rfl ?_
 refine onq_ 11 (some 21) rfl rfl (fun K hK => ?_)
 refine Kd.R_lit_step k47 _ 47 ?hg (N := 21) ?hd (xs := ([⟨i, editI i (corI u)⟩] : List Cl)) (inner := [.int .i64 (i), .int .u16 (editI i (corI u))]) (ok := fun _ => True) (okp := fun _ => True) ?hr ?hp (fun _ hk => hk) trivial (Below.refl _ _) (Nat.le_refl _) (by simp) ?_; (case hd => rfl); (case hg => rfl); (case hr => first | (go_simp; done) | (go_simp; rfl)); (case hp => exact (Reps.c2 (show Kd.M k47 _ _ _ (⟨i, editI i (corI u)⟩ : Cl) [.int .i64 (i), .int .u16 (editI i (corI u))] from (k47_mkM _ _ _ (⟨i, editI i (corI u)⟩ : Cl))) (Reps.none _ _)))
 intro vl wl ho hb hg_ hnew_
 clear hg_ hnew_
 obtain ⟨A, k, rfl, hk, hC⟩ := Kd.R_reads ho
 have HC := Aside0.mk hC
 replace HF := Aside0.mk (HF.out.below hb)
 clear ho hb hC
 refine hK.out _ _ ((blk_cell HF.out.blk 13).trans rfl) (fun hHeld => ?_)
 clear hK K
 refine nmq_ (some 21) ?_
 refine onq_ 12 (some 22) rfl rfl (fun K hK => ?_)
 refine Kd.R_append_rows_step k47 (Rr := k47.K wl) (w0 := c.w0) c.w0.heap.size ?hw (.tmp 15) (.tmp 21) 30 47 (.agg #[.int .i64 0, .int .u16 0]) 16 ?ho Tryz.underlying30 infoCell rfl (by decide) (by decide) vC st.cells _ A _ k _ (fun _ => False) ?hs ?hx HF.out.rc HC.out ?hKM (fun _ hk => hk.elim) HF.out.freshC HF.out.hb HF.out.base ?hl ?_
 case hw => rfl
 case ho => rfl
 case hs => rfl
 case hx => rfl
 case hKM => exact fun y cs hy => by obtain rfl := k47_open hy; exact k47_mkM _ _ _ y
 case hl => exact HLEN.out
 intro v1 w1 hr hb hg hat
 obtain ⟨B1, k1, e1, hk1, hC1⟩ := Kd.R_reads hr
 rw [List.length_append] at e1
 subst e1
 replace HF := Aside0.mk (RunF.appC HF.out hr hb hg hat)
 clear hr hb hg hat hk1 hC1
 refine hK.out _ _ ((blk_cell HF.out.blk 13).trans rfl) (fun hHeld => ?_)
 clear hK K
 refine nmq_ (some 22) ?_
 refine pvq_ 13 (some 23) rfl rfl ?_
 refine pvq_ 14 (some 24) rfl rfl ?_
 refine pvq_ 15 (some 25) rfl rfl ?_
 refine laq_ 16 none rfl rfl (fun K hK => ?_)
 refine skip_ (w1 := World.setCell w1 ⟨c.p, 13, none⟩ (.slice B1 (st.cells.length + 1) k1)) (by rfl) rfl ?_ ?_
 · exact run_store_cell _ _ _ rfl c.p 13 rfl (.slice B1 (st.cells.length + 1) k1) rfl vC ((blk_cell HF.out.blk 13).trans rfl) (blk_frozen HF.out.blk 13) rfl rfl (by kernel_rfl)
 replace HF := Aside0.mk (RunF.set HF.out 13 (.slice B1 (st.cells.length + 1) k1))
 generalize World.setCell _ _ _ = wf at HF ⊢
 refine hK.out _ _ ?_
 clear hK K
 refine done_ (by kernel_rfl) ?_
 go_wp2
 first | go_end0 | ((try simp only [Exit.inBlock, Exit.then]); refine bodyPost_ret (results_none rfl _ _ _) rfl ?_)
 refine ⟨rfl, ⟨?_, hok, Nat.le_trans (put_sz _ _ _) (by omega)⟩⟩
 unfold St.put
 rw [if_neg (by omega)]
 exact ⟨(.slice B1 (st.cells.length + 1) k1), vO, vR, HF.out⟩
theorem store_c (h : c.P n st w) (i u : Int) (i0 : 0 ≤ i) (u0 : 0 ≤ u) (u1 : u ≤ 65535) (hn : n ≤ 90) : Calls Tryz.prog 217 #[.pointer (some ⟨c.p, 0, none⟩), .int .i64 i, .int .u16 u] w fun e w' => e = .returned (.tuple #[]) ∧ c.P (n + 1) (st.put i u) w' := by
 have up : ∀ {s : St} {w1 : World}, c.P n s w1 → c.P (n + 1) s w1 := fun h => ⟨h.run, h.ok, by have := h.sz; omega⟩
 by_cases hi : 8 ≤ i
 · exact store_d h i u hi u0 u1 hn
 · have hc : i = 0 ∨ i = 1 ∨ i = 2 ∨ i = 3 ∨ i = 4 ∨ i = 5 ∨ i = 6 ∨ i = 7 := by omega
   rcases hc with rfl | rfl | rfl | rfl | rfl | rfl | rfl | rfl
   · exact (store_0 h u u0 u1).mono fun e w' ⟨he, hp⟩ => ⟨he, up hp⟩
   · exact (store_1 h u u0 u1).mono fun e w' ⟨he, hp⟩ => ⟨he, up hp⟩
   · exact (store_2 h u u0 u1).mono fun e w' ⟨he, hp⟩ => ⟨he, up hp⟩
   · exact (store_3 h u u0 u1).mono fun e w' ⟨he, hp⟩ => ⟨he, up hp⟩
   · exact (store_4 h u u0 u1).mono fun e w' ⟨he, hp⟩ => ⟨he, up hp⟩
   · exact (store_5 h u u0 u1).mono fun e w' ⟨he, hp⟩ => ⟨he, up hp⟩
   · exact (store_6 h u u0 u1).mono fun e w' ⟨he, hp⟩ => ⟨he, up hp⟩
   · exact (store_7 h u u0 u1).mono fun e w' ⟨he, hp⟩ => ⟨he, up hp⟩
end
end Go.Proofs.YtgbmaajfbbilhaaGreat.Cpu
end
