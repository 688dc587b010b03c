/- Chapter 5: a part of its proof (cut by program out of CpuFt, CpuFe); no condition. -/
import Derived.Test.YtgbmaajfbbilhaaGreatKn20
import Derived.Test.YtgbmaajfbbilhaaGreatKn26
import Derived.Test.YtgbmaajfbbilhaaGreatKn30
set_option linter.unusedVariables false
set_option linter.unusedSimpArgs false
set_option linter.unusedSectionVars false
set_option maxRecDepth 100000
set_option maxHeartbeats 8000000
section
namespace Go.Proofs.YtgbmaajfbbilhaaGreat.Cpu
open Go.RowKit Go.Proofs.YtgbmaajfbbilhaaGreat.PAll Go.Proofs.YtgbmaajfbbilhaaGreat.One Go.Proofs.YtgbmaajfbbilhaaGreat.Mem Go.Proofs.YtgbmaajfbbilhaaGreatW.PrintWords Go.Proofs.YtgbmaajfbbilhaaGreatW.PrintLast Go.Proofs.YtgbmaajfbbilhaaGreatW.PrintMore Go.Proofs.YtgbmaajfbbilhaaGreat.Plain
def wdN (r : Rg) (v : Vw) : Int := if r.held = true then r.b else corI (loadN r v r.z).1
def fErr (r : Rg) (v : Vw) : Int := if r.may = false then 2 else if r.held = true then 0 else (loadN r v r.z).2.2
def fLst (r : Rg) (v : Vw) : List Sp := if r.held = true then [] else (loadN r v r.z).2.1
def fW (r : Rg) (v : Vw) : Int := addI (wdN r v) r.idx
def fC (r : Rg) (v : Vw) : Int := Isa.decN (fW r v) r.ext
def fK (r : Rg) (v : Vw) : Int := fW r v - Isa.baseN (fC r v)
def nxR (r : Rg) : Rg := { r with z := (r.z + 1) % 4096, held := false, ext := false, b := 0, idx := 0 }
def cycN (c : Int) : Int := (entOf c).2.2.2
def spotted (c : Int) : Bool := Isa.kdN c == 1 || (Isa.kdN c == 3 && c != 1)
def st0 (r : Rg) (v : Vw) : St := ⟨nxR r, [], [], fLst r v, cycN (fC r v), fC r v, fK r v, ⟨0, 0⟩⟩
def st1 (r : Rg) (v : Vw) : St := if spotted (fC r v) = true then { st0 r v with sp := (locN (nxR r) (fK r v)).1 } else st0 r v
def sErr (r : Rg) (v : Vw) : Int := if fErr r v ≠ 0 then fErr r v else if spotted (fC r v) = true then (locN (nxR r) (fK r v)).2 else 0
def stepN (r : Rg) (v : Vw) : St := exec (st1 r v) v (fC r v)
theorem load_b {r : Rg} (hk : r.Kinds) (v : Vw) (k : Int) : 0 ≤ (loadN r v k).1 ∧ (loadN r v k).1 ≤ 65535 := by
 unfold loadN
 cases hm : r.may
 · rw [if_pos rfl]; exact ⟨by decide, by decide⟩
 · rw [if_neg (by decide)]
   split
   · exact ⟨Int.le_refl 0, (by decide : (0 : Int) ≤ 65535)⟩
   · exact look_b (Rg.Ok.of_may hk hm) v _
theorem wd_b {r : Rg} (hk : r.Kinds) (hm : r.may = true) (v : Vw) : 0 ≤ wdN r v ∧ wdN r v ≤ 32767 := by
 have ok := Rg.Ok.of_may hk hm
 unfold wdN
 split
 · exact ⟨ok.b0, ok.b1⟩
 · have := load_b hk v r.z; exact cor_b this.1 this.2
theorem addI_b (a b : Int) : 0 ≤ addI a b ∧ addI a b ≤ 32767 := by unfold addI; split <;> omega
theorem fW_b (r : Rg) (v : Vw) : 0 ≤ fW r v ∧ fW r v ≤ 32767 := addI_b _ _
theorem dec_hit (w : Int) (x : Bool) (h0 : 0 ≤ w) (h1 : w ≤ 32767) : (1 ≤ Isa.decN w x ∧ Isa.decN w x ≤ 39) ∧ Isa.hitP (Isa.decN w x) w := by
 unfold Isa.decN
 split
 · have := Isa.decX_hit w h0 h1; exact ⟨⟨by omega, this.2.1⟩, this.2.2⟩
 · have := Isa.decB_hit w h0 h1; exact ⟨⟨this.1, by omega⟩, this.2.2⟩
theorem fC_b (r : Rg) (v : Vw) : 1 ≤ fC r v ∧ fC r v ≤ 39 := (dec_hit _ _ (fW_b r v).1 (fW_b r v).2).1
theorem fK_hit (r : Rg) (v : Vw) : Isa.loK (Isa.kdN (fC r v)) ≤ fK r v ∧ fK r v ≤ Isa.hiK (Isa.kdN (fC r v)) := by
 have := (dec_hit _ r.ext (fW_b r v).1 (fW_b r v).2).2; exact ⟨this.1, this.2.1⟩
theorem fK_b (r : Rg) (v : Vw) : 0 ≤ fK r v ∧ fK r v ≤ 4095 := by
 have h := fK_hit r v; have t := Isa.tab_in (fC_b r v)
 omega
theorem nx_ok {r : Rg} (ok : r.Ok) : (nxR r).Ok := by
 have := ok.z0
 exact ⟨ok.a0, ok.a1, ok.l0, ok.l1, ok.q0, ok.q1, by show 0 ≤ (r.z + 1) % 4096; omega, by show (r.z + 1) % 4096 ≤ 4095; omega, ok.e0, ok.e1, ok.f0, ok.f1, ok.s0, ok.s1, Int.le_refl 0, (by decide : (0 : Int) ≤ 32767), Int.le_refl 0, (by decide : (0 : Int) ≤ 32767)⟩
theorem fErr_may {r : Rg} {v : Vw} (h : fErr r v = 0) : r.may = true := by
 cases hm : r.may
 · unfold fErr at h; rw [if_pos hm] at h; omega
 · rfl
theorem fLst_len (r : Rg) (v : Vw) : (fLst r v).length ≤ 1 := by
 unfold fLst loadN
 repeat' split
 all_goals simp
theorem st1_r (r : Rg) (v : Vw) : (st1 r v).r = nxR r := by unfold st1; split <;> rfl
theorem st1_k (r : Rg) (v : Vw) : (st1 r v).k = fK r v := by unfold st1; split <;> rfl
theorem st1_sz (r : Rg) (v : Vw) : (st1 r v).sz ≤ 1 := by
 have := fLst_len r v
 unfold st1 St.sz; split <;> simpa [st0] using this
theorem sErr_f {r : Rg} {v : Vw} (h : sErr r v = 0) : fErr r v = 0 := by
 unfold sErr at h
 split at h
 · rename_i g; exact absurd h g
 · rename_i g; omega
end Go.Proofs.YtgbmaajfbbilhaaGreat.Cpu
end
section
namespace Go.Proofs.YtgbmaajfbbilhaaGreat.Cpu
open Go.RowKit Go.Proofs.YtgbmaajfbbilhaaGreat.PAll Go.Proofs.YtgbmaajfbbilhaaGreat.One Go.Proofs.YtgbmaajfbbilhaaGreat.Mem Go.Proofs.YtgbmaajfbbilhaaGreat.Row Go.Proofs.YtgbmaajfbbilhaaGreatW.PrintWords Go.Proofs.YtgbmaajfbbilhaaGreatW.PrintLast Go.Proofs.YtgbmaajfbbilhaaGreatW.PrintMore Go.Proofs.YtgbmaajfbbilhaaGreat.Plain
abbrev aNX (r : Rg) : Array Value := #[.int .u16 r.a, .int .u16 r.l, .int .u16 r.q, .int .i64 ((r.z + 1) % 4096), .int .i64 r.eb, .int .i64 r.fb, .int .i64 r.su, .bool false, .int .u16 0, .bool false, .int .u16 0, .bool r.inh, .bool r.srv]
abbrev aZO  : Array Value := #[.int .u8 0, .string (⟨#[]⟩ : ByteArray), .bool false, .int .u8 0, .int .i64 0, .int .i64 0]
abbrev aOC (r : Rg) (v : Vw) : Array Value := #[.int .u8 (fC r v), .string (Isa.opN (fC r v)).2.1, .bool (Isa.opN (fC r v)).2.2.1, .int .u8 (Isa.opN (fC r v)).2.2.2.1, .int .i64 (Isa.opN (fC r v)).2.2.2.2.1, .int .i64 (Isa.opN (fC r v)).2.2.2.2.2.1]
section
variable {r : Rg} {A0 A1 A2 : Option Addr} {c0 c1 c2 : Nat} {v : Vw}
theorem fetch_c (w : World) (hv : VwAt w A0 A1 A2 v) (hc0 : v.e.length ≤ c0) (hc1 : v.f.length ≤ c1) (hc2 : v.c.length ≤ c2) (hk : r.Kinds) (he : fErr r v = 0) : Calls Tryz.prog 52 #[.agg (aRG r), .agg (aVB v A0 A1 A2 c0 c1 c2)] w fun e w' => ∃ l : Value, e = .returned (.tuple #[.agg (aOC r v), .int .i64 (fK r v), .agg (aNX r), l, .int .i64 0]) ∧ Kd.R k103 103 w' w.heap.size (fun _ => True) l (fLst r v) ∧ Below w.heap.size w w' := by
 have hm := fErr_may he
 have OK := Aside0.mk (Rg.Ok.of_may hk hm)
 obtain ⟨W, hW⟩ : ∃ x, wdN r v = x := ⟨_, rfl⟩
 have WB : Aside0 (0 ≤ W ∧ W < 65536) := ⟨by have := wd_b hk hm v; rw [hW] at this; omega⟩
 have DEC : Aside0 (isa_Decode.f 40 (addI W r.idx) r.ext = some (fC r v, (Isa.opN (fC r v)).2.1, (Isa.opN (fC r v)).2.2.1, (Isa.opN (fC r v)).2.2.2.1, (Isa.opN (fC r v)).2.2.2.2.1, (Isa.opN (fC r v)).2.2.2.2.2.1, fK r v, 0)) := ⟨by
  have h := Isa.dec_prog (fW r v) r.ext (fW_b r v).1 (fW_b r v).2 0
  unfold fW at h
  rw [hW] at h
  rw [h]
  unfold Isa.pk fK fC fW
  rw [hW]
  rfl⟩
 have e0 : wrap64 (r.z + 1) = r.z + 1 := by have := OK.out.z0; have := OK.out.z1; unfold wrap64; omega
 have e1 : Go.bits .and .i64 (r.z + 1) 4095 = (r.z + 1) % 4096 := and_low 12 (by decide) (by have := OK.out.z0; omega) (by have := OK.out.z1; omega)
 rcases Bool.eq_false_or_eq_true r.held with hh | hh
 have EW : Aside0 (r.b = W) := ⟨by rw [← hW]; unfold wdN; rw [if_pos hh]⟩
 have FL : Aside0 (fLst r v = []) := ⟨by unfold fLst; rw [if_pos hh]⟩
 have MC : Aside0 (∀ w, Calls Tryz.prog 71 #[.agg #[.int .u16 r.a, .int .u16 r.l, .int .u16 r.q, .int .i64 r.z, .int .i64 r.eb, .int .i64 r.fb, .int .i64 r.su, .bool r.ext, .int .u16 r.idx, .bool true, .int .u16 r.b, .bool r.inh, .bool r.srv]] w fun e w' => e = .returned (.bool r.may) ∧ Below w.heap.size w w') := ⟨fun w => by have h := may_c r w; rw [hh] at h; exact h⟩
 have HB := Aside0.mk (Below.refl w.heap.size w)
 have HV := Aside0.mk hv
 have HK := Aside0.mk hk
 have HH := Aside0.mk hh
 clear hv hk hW he hh
 have hu26 := Tryz.underlying26
 have hu29 := Tryz.underlying29
 have hu41 := Tryz.underlying119
 go_enter Tryz.func52, Tryz.ntmps52
 go_upto_region 3 with (first | (refine boxq_ 2 (aRG r) 26 ?_; intro g2 hg wb K hb; (try have NE2_2 := nkb_ K2 hg); (try have NE3_2 := nkb_ K3 hg); (try have NE4_2 := nkb_ K4 hg); (try have NE6_2 := nkb_ K6 hg); have L2 := lkb_ HB hg; (try replace HL := Aside0.mk (Kd.R_below HL.out hb)); (try replace K2 := kbb_ K2 hb); (try replace K3 := kbb_ K3 hb); (try replace K4 := kbb_ K4 hb); (try replace K6 := kbb_ K6 hb); replace HB := hbs_ HB hb; have K2 := Aside0.mk K; clear K hb hg) | (refine boxq_ 3 (aVB v A0 A1 A2 c0 c1 c2) 29 ?_; intro g3 hg wb K hb; (try have NE2_3 := nkb_ K2 hg); (try have NE3_3 := nkb_ K3 hg); (try have NE4_3 := nkb_ K4 hg); (try have NE6_3 := nkb_ K6 hg); have L3 := lkb_ HB hg; (try replace HL := Aside0.mk (Kd.R_below HL.out hb)); (try replace K2 := kbb_ K2 hb); (try replace K3 := kbb_ K3 hb); (try replace K4 := kbb_ K4 hb); (try replace K6 := kbb_ K6 hb); replace HB := hbs_ HB hb; have K3 := Aside0.mk K; clear K hb hg) | (refine boxq_ 4 (aZO) 119 ?_; intro g4 hg wb K hb; (try have NE2_4 := nkb_ K2 hg); (try have NE3_4 := nkb_ K3 hg); (try have NE4_4 := nkb_ K4 hg); (try have NE6_4 := nkb_ K6 hg); have L4 := lkb_ HB hg; (try replace HL := Aside0.mk (Kd.R_below HL.out hb)); (try replace K2 := kbb_ K2 hb); (try replace K3 := kbb_ K3 hb); (try replace K4 := kbb_ K4 hb); (try replace K6 := kbb_ K6 hb); replace HB := hbs_ HB hb; have K4 := Aside0.mk K; clear K hb hg) | (refine boxq_ 6 (aZR) 26 ?_; intro g6 hg wb K hb; (try have NE2_6 := nkb_ K2 hg); (try have NE3_6 := nkb_ K3 hg); (try have NE4_6 := nkb_ K4 hg); (try have NE6_6 := nkb_ K6 hg); have L6 := lkb_ HB hg; (try replace HL := Aside0.mk (Kd.R_below HL.out hb)); (try replace K2 := kbb_ K2 hb); (try replace K3 := kbb_ K3 hb); (try replace K4 := kbb_ K4 hb); (try replace K6 := kbb_ K6 hb); replace HB := hbs_ HB hb; have K6 := Aside0.mk K; clear K hb hg) | (go_at_call 23; (with_reducible refine at_args #[.agg (aRG r), .agg (aVB v A0 A1 A2 c0 c1 c2), .int .i64 r.z] ?_); (with_reducible refine (load_c _ (HV.out.below HB.out) hc0 hc1 hc2 r.z HK.out).mono ?_); rintro e wc ⟨vl, rfl, hL, hb⟩; have HL := Aside0.mk (Kd.R_lower hL HB.out.size); clear hL; (try replace K2 := kbb_ K2 hb); (try replace K3 := kbb_ K3 hb); (try replace K4 := kbb_ K4 hb); (try replace K6 := kbb_ K6 hb); replace HB := hbs_ HB hb; clear hb) | (go_at_call 93; (with_reducible refine at_args #[.int .u16 (loadN r v r.z).1] ?_); (with_reducible refine (cor_c _ (load_b HK.out v r.z).1 (by have := (load_b HK.out v r.z).2; omega) _).mono ?_); rintro e wd ⟨rfl, ⟨nd, hd⟩⟩; have hb := drawn_below_ hd; clear hd; (try replace HL := Aside0.mk (Kd.R_below HL.out hb)); (try replace K2 := kbb_ K2 hb); (try replace K3 := kbb_ K3 hb); (try replace K4 := kbb_ K4 hb); (try replace K6 := kbb_ K6 hb); replace HB := hbs_ HB hb; clear hb) | (refine load_row_ rfl 26 _ rfl g2 rfl #[.int .u16 r.a, .int .u16 r.l, .int .u16 r.q, .int .i64 r.z, .int .i64 r.eb, .int .i64 r.fb, .int .i64 r.su, .bool r.ext, .int .u16 r.idx, .bool r.held, .int .u16 r.b, .bool r.inh, .bool r.srv] _ K2.out _ Tryz.underlying26 rfl (by kernel_rfl) ?_) | (refine load_row_ rfl 29 _ rfl g3 rfl #[.slice A0 v.e.length c0, .slice A1 v.f.length c1, .slice A2 v.c.length c2] _ K3.out _ Tryz.underlying29 rfl (by kernel_rfl) ?_) | (refine load_cell_ rfl 3 _ rfl g2 3 rfl (.int .i64 r.z) ((blk_cell K2.out 3).trans rfl) (fun _ => by kernel_rfl) ?_) | (refine load_cell_ rfl 4 _ rfl g2 9 rfl (.bool r.held) ((blk_cell K2.out 9).trans rfl) (fun _ => by kernel_rfl) ?_) | (refine load_cell_ rfl 24 _ rfl g2 10 rfl (.int .u16 r.b) ((blk_cell K2.out 10).trans rfl) (fun _ => by kernel_rfl) ?_))
 clear HL
 have x2_0 : wd.cell? ⟨g2, 0, none⟩ = some (.int .u16 r.a) := (blk_cell K2.out 0).trans rfl
 have x2_1 : wd.cell? ⟨g2, 1, none⟩ = some (.int .u16 r.l) := (blk_cell K2.out 1).trans rfl
 have x2_2 : wd.cell? ⟨g2, 2, none⟩ = some (.int .u16 r.q) := (blk_cell K2.out 2).trans rfl
 have x2_3 : wd.cell? ⟨g2, 3, none⟩ = some (.int .i64 r.z) := (blk_cell K2.out 3).trans rfl
 have x2_4 : wd.cell? ⟨g2, 4, none⟩ = some (.int .i64 r.eb) := (blk_cell K2.out 4).trans rfl
 have x2_5 : wd.cell? ⟨g2, 5, none⟩ = some (.int .i64 r.fb) := (blk_cell K2.out 5).trans rfl
 have x2_6 : wd.cell? ⟨g2, 6, none⟩ = some (.int .i64 r.su) := (blk_cell K2.out 6).trans rfl
 have x2_7 : wd.cell? ⟨g2, 7, none⟩ = some (.bool r.ext) := (blk_cell K2.out 7).trans rfl
 have x2_8 : wd.cell? ⟨g2, 8, none⟩ = some (.int .u16 r.idx) := (blk_cell K2.out 8).trans rfl
 have x2_9 : wd.cell? ⟨g2, 9, none⟩ = some (.bool r.held) := (blk_cell K2.out 9).trans rfl
 have x2_10 : wd.cell? ⟨g2, 10, none⟩ = some (.int .u16 r.b) := (blk_cell K2.out 10).trans rfl
 have x2_11 : wd.cell? ⟨g2, 11, none⟩ = some (.bool r.inh) := (blk_cell K2.out 11).trans rfl
 have x2_12 : wd.cell? ⟨g2, 12, none⟩ = some (.bool r.srv) := (blk_cell K2.out 12).trans rfl
 have hh := HH.out
 go_upto_region 4 with (first | (go_at_call 71; (with_reducible refine at_args #[.agg #[.int .u16 r.a, .int .u16 r.l, .int .u16 r.q, .int .i64 r.z, .int .i64 r.eb, .int .i64 r.fb, .int .i64 r.su, .bool r.ext, .int .u16 r.idx, .bool true, .int .u16 r.b, .bool r.inh, .bool r.srv]] ?_); (with_reducible refine (MC.out _).mono ?_); rintro e wc ⟨rfl, hb⟩; (try replace HL := Aside0.mk (Kd.R_below HL.out hb)); (try replace K2 := kbb_ K2 hb); (try replace K3 := kbb_ K3 hb); (try replace K4 := kbb_ K4 hb); (try replace K6 := kbb_ K6 hb); replace HB := hbs_ HB hb; clear hb))
 (try clear x2_0 x2_1 x2_2 x2_3 x2_4 x2_5 x2_6 x2_7 x2_8 x2_9 x2_10 x2_11 x2_12 hh)
 go_upto_region 7 with (first | (refine load_cell_ rfl 24 _ rfl g2 10 rfl (.int .u16 r.b) ((blk_cell K2.out 10).trans rfl) (fun _ => by kernel_rfl) ?_))
 obtain ⟨vl, hvl⟩ : ∃ x, x = Value.slice none 0 0 := ⟨_, rfl⟩
 have HL : Aside0 (Kd.R k103 103 wc w.heap.size (fun _ => True) vl (fLst r v)) := ⟨by rw [hvl, FL.out]; exact Kd.R_nil _ _ _ _ _⟩
 replace hvl := Aside0.mk hvl
 rw [EW.out]
 generalize hwx : wc = wx at *
 clear hwx
 rotate_left
 have EW : Aside0 (corI (loadN r v r.z).1 = W) := ⟨by rw [← hW]; unfold wdN; rw [if_neg (by simp [hh])]⟩
 have EL : Aside0 (fLst r v = (loadN r v r.z).2.1) := ⟨by unfold fLst; rw [if_neg (by simp [hh])]⟩
 have y1 : (loadN r v r.z).2.2 = 0 := by unfold fErr at he; rw [if_neg (by simp [hm]), if_neg (by simp [hh])] at he; exact he
 have HB := Aside0.mk (Below.refl w.heap.size w)
 have HV := Aside0.mk hv
 have HK := Aside0.mk hk
 have HH := Aside0.mk hh
 clear hv hk hW he hh hm
 have hu26 := Tryz.underlying26
 have hu29 := Tryz.underlying29
 have hu41 := Tryz.underlying119
 go_enter Tryz.func52, Tryz.ntmps52
 go_upto_region 3 with (first | (refine boxq_ 2 (aRG r) 26 ?_; intro g2 hg wb K hb; (try have NE2_2 := nkb_ K2 hg); (try have NE3_2 := nkb_ K3 hg); (try have NE4_2 := nkb_ K4 hg); (try have NE6_2 := nkb_ K6 hg); have L2 := lkb_ HB hg; (try replace HL := Aside0.mk (Kd.R_below HL.out hb)); (try replace K2 := kbb_ K2 hb); (try replace K3 := kbb_ K3 hb); (try replace K4 := kbb_ K4 hb); (try replace K6 := kbb_ K6 hb); replace HB := hbs_ HB hb; have K2 := Aside0.mk K; clear K hb hg) | (refine boxq_ 3 (aVB v A0 A1 A2 c0 c1 c2) 29 ?_; intro g3 hg wb K hb; (try have NE2_3 := nkb_ K2 hg); (try have NE3_3 := nkb_ K3 hg); (try have NE4_3 := nkb_ K4 hg); (try have NE6_3 := nkb_ K6 hg); have L3 := lkb_ HB hg; (try replace HL := Aside0.mk (Kd.R_below HL.out hb)); (try replace K2 := kbb_ K2 hb); (try replace K3 := kbb_ K3 hb); (try replace K4 := kbb_ K4 hb); (try replace K6 := kbb_ K6 hb); replace HB := hbs_ HB hb; have K3 := Aside0.mk K; clear K hb hg) | (refine boxq_ 4 (aZO) 119 ?_; intro g4 hg wb K hb; (try have NE2_4 := nkb_ K2 hg); (try have NE3_4 := nkb_ K3 hg); (try have NE4_4 := nkb_ K4 hg); (try have NE6_4 := nkb_ K6 hg); have L4 := lkb_ HB hg; (try replace HL := Aside0.mk (Kd.R_below HL.out hb)); (try replace K2 := kbb_ K2 hb); (try replace K3 := kbb_ K3 hb); (try replace K4 := kbb_ K4 hb); (try replace K6 := kbb_ K6 hb); replace HB := hbs_ HB hb; have K4 := Aside0.mk K; clear K hb hg) | (refine boxq_ 6 (aZR) 26 ?_; intro g6 hg wb K hb; (try have NE2_6 := nkb_ K2 hg); (try have NE3_6 := nkb_ K3 hg); (try have NE4_6 := nkb_ K4 hg); (try have NE6_6 := nkb_ K6 hg); have L6 := lkb_ HB hg; (try replace HL := Aside0.mk (Kd.R_below HL.out hb)); (try replace K2 := kbb_ K2 hb); (try replace K3 := kbb_ K3 hb); (try replace K4 := kbb_ K4 hb); (try replace K6 := kbb_ K6 hb); replace HB := hbs_ HB hb; have K6 := Aside0.mk K; clear K hb hg) | (go_at_call 23; (with_reducible refine at_args #[.agg (aRG r), .agg (aVB v A0 A1 A2 c0 c1 c2), .int .i64 r.z] ?_); (with_reducible refine (load_c _ (HV.out.below HB.out) hc0 hc1 hc2 r.z HK.out).mono ?_); rintro e wc ⟨vl, rfl, hL, hb⟩; have HL := Aside0.mk (Kd.R_lower hL HB.out.size); clear hL; (try replace K2 := kbb_ K2 hb); (try replace K3 := kbb_ K3 hb); (try replace K4 := kbb_ K4 hb); (try replace K6 := kbb_ K6 hb); replace HB := hbs_ HB hb; clear hb) | (go_at_call 93; (with_reducible refine at_args #[.int .u16 (loadN r v r.z).1] ?_); (with_reducible refine (cor_c _ (load_b HK.out v r.z).1 (by have := (load_b HK.out v r.z).2; omega) _).mono ?_); rintro e wd ⟨rfl, ⟨nd, hd⟩⟩; have hb := drawn_below_ hd; clear hd; (try replace HL := Aside0.mk (Kd.R_below HL.out hb)); (try replace K2 := kbb_ K2 hb); (try replace K3 := kbb_ K3 hb); (try replace K4 := kbb_ K4 hb); (try replace K6 := kbb_ K6 hb); replace HB := hbs_ HB hb; clear hb) | (refine load_row_ rfl 26 _ rfl g2 rfl #[.int .u16 r.a, .int .u16 r.l, .int .u16 r.q, .int .i64 r.z, .int .i64 r.eb, .int .i64 r.fb, .int .i64 r.su, .bool r.ext, .int .u16 r.idx, .bool r.held, .int .u16 r.b, .bool r.inh, .bool r.srv] _ K2.out _ Tryz.underlying26 rfl (by kernel_rfl) ?_) | (refine load_row_ rfl 29 _ rfl g3 rfl #[.slice A0 v.e.length c0, .slice A1 v.f.length c1, .slice A2 v.c.length c2] _ K3.out _ Tryz.underlying29 rfl (by kernel_rfl) ?_) | (refine load_cell_ rfl 3 _ rfl g2 3 rfl (.int .i64 r.z) ((blk_cell K2.out 3).trans rfl) (fun _ => by kernel_rfl) ?_) | (refine load_cell_ rfl 4 _ rfl g2 9 rfl (.bool r.held) ((blk_cell K2.out 9).trans rfl) (fun _ => by kernel_rfl) ?_) | (refine load_cell_ rfl 24 _ rfl g2 10 rfl (.int .u16 r.b) ((blk_cell K2.out 10).trans rfl) (fun _ => by kernel_rfl) ?_))
 have x2_9 : wd.cell? ⟨g2, 9, none⟩ = some (.bool r.held) := (blk_cell K2.out 9).trans rfl
 have hh := HH.out
 go_upto_region 4 with (first | fail)
 (try clear x2_9 hh)
 go_upto_region 7 with (first | fail)
 replace HL : Aside0 (Kd.R k103 103 wd w.heap.size (fun _ => True) vl (fLst r v)) := ⟨by rw [EL.out]; exact HL.out⟩
 clear y1
 rw [EW.out]
 generalize hwx : wd = wx at *
 clear hwx
 all_goals
  refine start_ (n := 15) (S := fun w' => w'.cell? ⟨g2, 8, none⟩ = some (.int .u16 r.idx) ∧ w'.cell? ⟨g2, 7, none⟩ = some (.bool r.ext)) (ds := [12]) #[false, false, false, false, false, false, false, false, false, false, false, false, false, false, false] (by kernel_rfl) rfl rfl ⟨(blk_cell K2.out 8).trans rfl, (blk_cell K2.out 7).trans rfl⟩ (fun hHeld => ?_)
  replace K2 := Aside0.mk (blk_drew K2.out)
  replace K4 := Aside0.mk (blk_drew K4.out)
  replace K6 := Aside0.mk (blk_drew K6.out)
  (try replace HL := Aside0.mk (Kd.R_drew HL.out))
  replace HB := Aside0.mk (below_drew1 HB.out)
  generalize wx.drew = wd at K2 K4 K6 HB hHeld HL ⊢
  refine pvq_ 0 (some 40) rfl rfl ?_
  refine pvq_ 1 (some 41) rfl rfl ?_
  refine pvq_ 4 (some 44) rfl rfl ?_
  refine tkq_ 2 (some 42) rfl rfl hHeld ?_
  refine tkq_ 5 (some 45) rfl rfl hHeld ?_
  refine join_ (σ := Nat) 3 #[true, true, true, true, true, true, true, true, true, true, true, true, false, false, false] (fun s => [(43, .int .u16 (addI (W) r.idx)), (46, .tuple #[.agg (aOC r v), .int .i64 (fK r v), .int .i64 0]), (39, .tuple #[.agg (aOC r v), .int .i64 (fK r v), .int .i64 0]), (47, .agg (aOC r v)), (48, .int .i64 (fK r v)), (49, .int .i64 0), (13, .pointer (some ⟨s, 0, none⟩))]) (fun s w' => (w'.cell? ⟨g2, 8, none⟩ = some (.int .u16 r.idx) ∧ w'.cell? ⟨g2, 7, none⟩ = some (.bool r.ext)) ∧ w'.heap[s]? = some (.cells (aZO) 119 (0, 0)) ∧ (g2 ≠ s ∧ g4 ≠ s ∧ g6 ≠ s ∧ w.heap.size ≤ s) ∧ w'.heap[g2]? = some (.cells (aRG r) 26 (0, 0)) ∧ w'.heap[g4]? = some (.cells (aZO) 119 (0, 0)) ∧ w'.heap[g6]? = some (.cells (aZR) 26 (0, 0)) ∧ Kd.R k103 103 w' w.heap.size (fun _ => True) vl (fLst r v) ∧ Below w.heap.size w w') ?_ ?_
  rotate_left
  · intro hCont
    refine two_ (i := 3) (j := 11) (Ni := some 43) (Nj := some 13) #[true, true, true, true, true, true, false, false, false, false, false, false, false, false, false] #[true, true, true, false, true, true, false, false, false, false, false, true, false, false, false] rfl rfl rfl rfl (by kernel_rfl) (by decide) (by decide) (fun K hK => ?_) (fun K hK => ?_)
    · skip
      refine goq_ Tryz.func102 #[.int .u16 (W), .int .u16 r.idx] ?_
      with_reducible refine (add_c _ _ WB.out.1 WB.out.2 OK.out.i0 (by have := OK.out.i1; omega) _).mono ?_
      rintro e wc ⟨rfl, hd⟩
      refine ⟨_, rfl, ?_⟩
      have hb := drawn_below hd
      clear hd
      replace K2 := kbb_ K2 hb
      replace K4 := kbb_ K4 hb
      replace K6 := kbb_ K6 hb
      (try replace HL := Aside0.mk (Kd.R_below HL.out hb))
      replace HB := hbs_ HB hb
      clear hb
      refine hK.out _ _ ⟨(blk_cell K2.out 8).trans rfl, (blk_cell K2.out 7).trans rfl⟩ (fun hHeld => ?_)
      clear hK K
      refine nmq_ (some 43) ?_
      refine two_ (i := 6) (j := 11) (Ni := some 46) (Nj := some 13) #[true, true, true, true, true, true, true, false, false, false, false, false, false, false, false] #[true, true, true, true, true, true, false, false, false, false, false, true, false, false, false] rfl rfl rfl rfl (by kernel_rfl) (by decide) (by decide) (fun K hK => ?_) (fun K hK => ?_)
      · skip
        refine goq_ Tryz.func101 #[.int .u16 (addI (W) r.idx), .bool r.ext] ?_
        with_reducible refine (isa_Decode.calls _ _ _ _ _ _ _ _ _ _ _ _ DEC.out).mono ?_
        rintro e wc ⟨rfl, hb⟩
        refine ⟨_, rfl, ?_⟩
        replace K2 := kbb_ K2 hb
        replace K4 := kbb_ K4 hb
        replace K6 := kbb_ K6 hb
        (try replace HL := Aside0.mk (Kd.R_below HL.out hb))
        replace HB := hbs_ HB hb
        clear hb
        refine hK.out _ _ ⟨(blk_cell K2.out 8).trans rfl, (blk_cell K2.out 7).trans rfl⟩ (fun hHeld => ?_)
        clear hK K
        refine nmq_ (some 46) ?_
        refine pvq_ 7 (some 39) rfl rfl ?_
        refine pvq_ 8 (some 47) rfl rfl ?_
        refine pvq_ 9 (some 48) rfl rfl ?_
        refine pvq_ 10 (some 49) rfl rfl ?_
        refine onq_ 11 (some 13) rfl rfl (fun K hK => ?_)
        refine value_ (w1 := World.alloc wc (.cells (aZO) 119)) (v := .pointer (some ⟨wc.heap.size, 0, none⟩)) (by rfl) rfl ?_ ?_
        · first | kernel_rfl | (go_simp; done) | (go_simp; rfl)
        have hb := below_alloc (Below.refl wc.heap.size wc) (.cells (aZO) 119)
        have K13 := Aside0.mk (blk_new wc (.cells (aZO) 119))
        obtain ⟨g13, hg⟩ : ∃ x, wc.heap.size = x := ⟨_, rfl⟩
        have NE2_13 := Aside0.mk (show g2 ≠ g13 from by have := blk_lt K2.out; omega)
        have NE4_13 := Aside0.mk (show g4 ≠ g13 from by have := blk_lt K4.out; omega)
        have NE6_13 := Aside0.mk (show g6 ≠ g13 from by have := blk_lt K6.out; omega)
        have L13 := Aside0.mk (show w.heap.size ≤ g13 from by rw [← hg]; exact HB.out.size)
        rw [hg] at hb K13 ⊢
        replace K2 := Aside0.mk (blk_below K2.out (by rw [hg]; exact hb))
        replace K4 := Aside0.mk (blk_below K4.out (by rw [hg]; exact hb))
        replace K6 := Aside0.mk (blk_below K6.out (by rw [hg]; exact hb))
        (try replace HL := Aside0.mk (Kd.R_below HL.out (by rw [hg]; exact hb)))
        replace HB := Aside0.mk (below_step HB.out (by rw [hg]; exact hb))
        clear hb hg
        generalize World.alloc wc (.cells (aZO) 119) = wa at K2 K4 K6 K13 HB HL ⊢
        refine hK.out _ _ ⟨(blk_cell K2.out 8).trans rfl, (blk_cell K2.out 7).trans rfl⟩ (fun hHeld => ?_)
        clear hK K
        refine nmq_ (some 13) ?_
        exact norm_ (by simp only [putAll, Act.put, List.setIfInBounds_toArray, List.set_cons_zero, List.set_cons_succ]) (hCont g13 _ ⟨⟨(blk_cell K2.out 8).trans rfl, (blk_cell K2.out 7).trans rfl⟩, K13.out, ⟨NE2_13.out, NE4_13.out, NE6_13.out, L13.out⟩, K2.out, K4.out, K6.out, HL.out, HB.out⟩)
      · skip
        refine value_ (w1 := World.alloc wc (.cells (aZO) 119)) (v := .pointer (some ⟨wc.heap.size, 0, none⟩)) (by rfl) rfl ?_ ?_
        · first | kernel_rfl | (go_simp; done) | (go_simp; rfl)
        have hb := below_alloc (Below.refl wc.heap.size wc) (.cells (aZO) 119)
        have K13 := Aside0.mk (blk_new wc (.cells (aZO) 119))
        obtain ⟨g13, hg⟩ : ∃ x, wc.heap.size = x := ⟨_, rfl⟩
        have NE2_13 := Aside0.mk (show g2 ≠ g13 from by have := blk_lt K2.out; omega)
        have NE4_13 := Aside0.mk (show g4 ≠ g13 from by have := blk_lt K4.out; omega)
        have NE6_13 := Aside0.mk (show g6 ≠ g13 from by have := blk_lt K6.out; omega)
        have L13 := Aside0.mk (show w.heap.size ≤ g13 from by rw [← hg]; exact HB.out.size)
        rw [hg] at hb K13 ⊢
        replace K2 := Aside0.mk (blk_below K2.out (by rw [hg]; exact hb))
        replace K4 := Aside0.mk (blk_below K4.out (by rw [hg]; exact hb))
        replace K6 := Aside0.mk (blk_below K6.out (by rw [hg]; exact hb))
        (try replace HL := Aside0.mk (Kd.R_below HL.out (by rw [hg]; exact hb)))
        replace HB := Aside0.mk (below_step HB.out (by rw [hg]; exact hb))
        clear hb hg
        generalize World.alloc wc (.cells (aZO) 119) = wa at K2 K4 K6 K13 HB HL ⊢
        refine hK.out _ _ ⟨(blk_cell K2.out 8).trans rfl, (blk_cell K2.out 7).trans rfl⟩ (fun hHeld => ?_)
        clear hK K
        refine nmq_ (some 13) ?_
        refine onq_ 6 (some 46) rfl rfl (fun K hK => ?_)
        refine goq_ Tryz.func101 #[.int .u16 (addI (W) r.idx), .bool r.ext] ?_
        with_reducible refine (isa_Decode.calls _ _ _ _ _ _ _ _ _ _ _ _ DEC.out).mono ?_
        rintro e wc ⟨rfl, hb⟩
        refine ⟨_, rfl, ?_⟩
        replace K2 := kbb_ K2 hb
        replace K4 := kbb_ K4 hb
        replace K6 := kbb_ K6 hb
        replace K13 := kbb_ K13 hb
        (try replace HL := Aside0.mk (Kd.R_below HL.out hb))
        replace HB := hbs_ HB hb
        clear hb
        refine hK.out _ _ ⟨(blk_cell K2.out 8).trans rfl, (blk_cell K2.out 7).trans rfl⟩ (fun hHeld => ?_)
        clear hK K
        refine nmq_ (some 46) ?_
        refine pvq_ 7 (some 39) rfl rfl ?_
        refine pvq_ 8 (some 47) rfl rfl ?_
        refine pvq_ 9 (some 48) rfl rfl ?_
        refine pvq_ 10 (some 49) rfl rfl ?_
        exact norm_ (by simp only [putAll, Act.put, List.setIfInBounds_toArray, List.set_cons_zero, List.set_cons_succ]) (hCont g13 _ ⟨⟨(blk_cell K2.out 8).trans rfl, (blk_cell K2.out 7).trans rfl⟩, K13.out, ⟨NE2_13.out, NE4_13.out, NE6_13.out, L13.out⟩, K2.out, K4.out, K6.out, HL.out, HB.out⟩)
    · skip
      refine value_ (w1 := World.alloc wd (.cells (aZO) 119)) (v := .pointer (some ⟨wd.heap.size, 0, none⟩)) (by rfl) rfl ?_ ?_
      · first | kernel_rfl | (go_simp; done) | (go_simp; rfl)
      have hb := below_alloc (Below.refl wd.heap.size wd) (.cells (aZO) 119)
      have K13 := Aside0.mk (blk_new wd (.cells (aZO) 119))
      obtain ⟨g13, hg⟩ : ∃ x, wd.heap.size = x := ⟨_, rfl⟩
      have NE2_13 := Aside0.mk (show g2 ≠ g13 from by have := blk_lt K2.out; omega)
      have NE4_13 := Aside0.mk (show g4 ≠ g13 from by have := blk_lt K4.out; omega)
      have NE6_13 := Aside0.mk (show g6 ≠ g13 from by have := blk_lt K6.out; omega)
      have L13 := Aside0.mk (show w.heap.size ≤ g13 from by rw [← hg]; exact HB.out.size)
      rw [hg] at hb K13 ⊢
      replace K2 := Aside0.mk (blk_below K2.out (by rw [hg]; exact hb))
      replace K4 := Aside0.mk (blk_below K4.out (by rw [hg]; exact hb))
      replace K6 := Aside0.mk (blk_below K6.out (by rw [hg]; exact hb))
      (try replace HL := Aside0.mk (Kd.R_below HL.out (by rw [hg]; exact hb)))
      replace HB := Aside0.mk (below_step HB.out (by rw [hg]; exact hb))
      clear hb hg
      generalize World.alloc wd (.cells (aZO) 119) = wa at K2 K4 K6 K13 HB HL ⊢
      refine hK.out _ _ ⟨(blk_cell K2.out 8).trans rfl, (blk_cell K2.out 7).trans rfl⟩ (fun hHeld => ?_)
      clear hK K
      refine nmq_ (some 13) ?_
      refine onq_ 3 (some 43) rfl rfl (fun K hK => ?_)
      refine goq_ Tryz.func102 #[.int .u16 (W), .int .u16 r.idx] ?_
      with_reducible refine (add_c _ _ WB.out.1 WB.out.2 OK.out.i0 (by have := OK.out.i1; omega) _).mono ?_
      rintro e wc ⟨rfl, hd⟩
      refine ⟨_, rfl, ?_⟩
      have hb := drawn_below hd
      clear hd
      replace K2 := kbb_ K2 hb
      replace K4 := kbb_ K4 hb
      replace K6 := kbb_ K6 hb
      replace K13 := kbb_ K13 hb
      (try replace HL := Aside0.mk (Kd.R_below HL.out hb))
      replace HB := hbs_ HB hb
      clear hb
      refine hK.out _ _ ⟨(blk_cell K2.out 8).trans rfl, (blk_cell K2.out 7).trans rfl⟩ (fun hHeld => ?_)
      clear hK K
      refine nmq_ (some 43) ?_
      refine onq_ 6 (some 46) rfl rfl (fun K hK => ?_)
      refine goq_ Tryz.func101 #[.int .u16 (addI (W) r.idx), .bool r.ext] ?_
      with_reducible refine (isa_Decode.calls _ _ _ _ _ _ _ _ _ _ _ _ DEC.out).mono ?_
      rintro e wc ⟨rfl, hb⟩
      refine ⟨_, rfl, ?_⟩
      replace K2 := kbb_ K2 hb
      replace K4 := kbb_ K4 hb
      replace K6 := kbb_ K6 hb
      replace K13 := kbb_ K13 hb
      (try replace HL := Aside0.mk (Kd.R_below HL.out hb))
      replace HB := hbs_ HB hb
      clear hb
      refine hK.out _ _ ⟨(blk_cell K2.out 8).trans rfl, (blk_cell K2.out 7).trans rfl⟩ (fun hHeld => ?_)
      clear hK K
      refine nmq_ (some 46) ?_
      refine pvq_ 7 (some 39) rfl rfl ?_
      refine pvq_ 8 (some 47) rfl rfl ?_
      refine pvq_ 9 (some 48) rfl rfl ?_
      refine pvq_ 10 (some 49) rfl rfl ?_
      exact norm_ (by simp only [putAll, Act.put, List.setIfInBounds_toArray, List.set_cons_zero, List.set_cons_succ]) (hCont g13 _ ⟨⟨(blk_cell K2.out 8).trans rfl, (blk_cell K2.out 7).trans rfl⟩, K13.out, ⟨NE2_13.out, NE4_13.out, NE6_13.out, L13.out⟩, K2.out, K4.out, K6.out, HL.out, HB.out⟩)
  rintro g13 w7 ⟨hHeld, k13, ⟨n2, n4, n6, l13⟩, k2, k4, k6, hl, hB⟩
  replace K2 := Aside0.mk k2
  replace K4 := Aside0.mk k4
  replace K6 := Aside0.mk k6
  have K13 := Aside0.mk k13
  have NE2_13 := Aside0.mk n2
  have NE4_13 := Aside0.mk n4
  have NE6_13 := Aside0.mk n6
  have L13 := Aside0.mk l13
  replace HB := Aside0.mk hB
  replace HL := Aside0.mk hl
  clear k13 k2 k4 k6 n2 n4 n6 l13 hB hl
  refine norm_ (a' := ?_) ?_ ?_
  rotate_left
  · simp only [putAll, Act.put, List.setIfInBounds_toArray, List.set_cons_zero, List.set_cons_succ]
    rfl
  refine laq_ 12 none rfl rfl (fun K hK => ?_)
  refine skip_ (w1 := World.setRow w7 g13 #[.int .u8 (fC r v), .string (Isa.opN (fC r v)).2.1, .bool (Isa.opN (fC r v)).2.2.1, .int .u8 (Isa.opN (fC r v)).2.2.2.1, .int .i64 (Isa.opN (fC r v)).2.2.2.2.1, .int .i64 (Isa.opN (fC r v)).2.2.2.2.2.1]) (by rfl) rfl ?_ ?_
  · refine run_store_row 119 (.tmp 13) (.tmp 47) ?_ g13 ?_ 119 _ #[.int .u8 (fC r v), .string (Isa.opN (fC r v)).2.1, .bool (Isa.opN (fC r v)).2.2.1, .int .u8 (Isa.opN (fC r v)).2.2.2.1, .int .i64 (Isa.opN (fC r v)).2.2.2.2.1, .int .i64 (Isa.opN (fC r v)).2.2.2.2.2.1] ?_ K13.out (by kernel_rfl) rfl (by kernel_rfl)
    · rfl
    · rfl
    · rfl
  (try replace HL := Aside0.mk (R_kb HL.out K13.out (fun q hq => by rw [ekS q hq]; decide) (keep_row _ g13 #[.int .u8 (fC r v), .string (Isa.opN (fC r v)).2.1, .bool (Isa.opN (fC r v)).2.2.1, .int .u8 (Isa.opN (fC r v)).2.2.2.1, .int .i64 (Isa.opN (fC r v)).2.2.2.2.1, .int .i64 (Isa.opN (fC r v)).2.2.2.2.2.1])))
  replace HB := Aside0.mk (below_setRow HB.out L13.out #[.int .u8 (fC r v), .string (Isa.opN (fC r v)).2.1, .bool (Isa.opN (fC r v)).2.2.1, .int .u8 (Isa.opN (fC r v)).2.2.2.1, .int .i64 (Isa.opN (fC r v)).2.2.2.2.1, .int .i64 (Isa.opN (fC r v)).2.2.2.2.2.1])
  replace K2 := Aside0.mk (blk_row_far K2.out (by first | exact NE2_13.out | exact NE13_2.out.symm) #[.int .u8 (fC r v), .string (Isa.opN (fC r v)).2.1, .bool (Isa.opN (fC r v)).2.2.1, .int .u8 (Isa.opN (fC r v)).2.2.2.1, .int .i64 (Isa.opN (fC r v)).2.2.2.2.1, .int .i64 (Isa.opN (fC r v)).2.2.2.2.2.1])
  replace K4 := Aside0.mk (blk_row_far K4.out (by first | exact NE4_13.out | exact NE13_4.out.symm) #[.int .u8 (fC r v), .string (Isa.opN (fC r v)).2.1, .bool (Isa.opN (fC r v)).2.2.1, .int .u8 (Isa.opN (fC r v)).2.2.2.1, .int .i64 (Isa.opN (fC r v)).2.2.2.2.1, .int .i64 (Isa.opN (fC r v)).2.2.2.2.2.1])
  replace K6 := Aside0.mk (blk_row_far K6.out (by first | exact NE6_13.out | exact NE13_6.out.symm) #[.int .u8 (fC r v), .string (Isa.opN (fC r v)).2.1, .bool (Isa.opN (fC r v)).2.2.1, .int .u8 (Isa.opN (fC r v)).2.2.2.1, .int .i64 (Isa.opN (fC r v)).2.2.2.2.1, .int .i64 (Isa.opN (fC r v)).2.2.2.2.2.1])
  replace K13 := Aside0.mk (blk_row K13.out #[.int .u8 (fC r v), .string (Isa.opN (fC r v)).2.1, .bool (Isa.opN (fC r v)).2.2.1, .int .u8 (Isa.opN (fC r v)).2.2.2.1, .int .i64 (Isa.opN (fC r v)).2.2.2.2.1, .int .i64 (Isa.opN (fC r v)).2.2.2.2.2.1])
  generalize World.setRow w7 g13 #[.int .u8 (fC r v), .string (Isa.opN (fC r v)).2.1, .bool (Isa.opN (fC r v)).2.2.1, .int .u8 (Isa.opN (fC r v)).2.2.2.1, .int .i64 (Isa.opN (fC r v)).2.2.2.2.1, .int .i64 (Isa.opN (fC r v)).2.2.2.2.2.1] = ws at K2 K4 K6 K13 HB HL ⊢
  refine hK.out _ _ ?_
  clear hK K
  refine pvq_ 13 (some 14) rfl rfl ?_
  refine pvq_ 14 (some 11) rfl rfl ?_
  refine done_ (by kernel_rfl) ?_
  go_upto_region 10 with (first | (refine store_cell_ rfl _ _ _ rfl g2 3 rfl (.int .i64 ((r.z + 1) % 4096)) rfl _ ((blk_cell K2.out 3).trans rfl) (blk_frozen K2.out 3) rfl rfl (by kernel_rfl) ?_; replace HL := Aside0.mk (show Kd.R _ _ (World.setCell _ ⟨g2, 3, none⟩ (.int .i64 ((r.z + 1) % 4096))) _ _ _ _ from Kd.R_set HL.out K2.out (fun q hq => by rw [ekS q hq]; decide) 3 _); replace K4 := Aside0.mk (show (World.setCell _ ⟨g2, 3, none⟩ (.int .i64 ((r.z + 1) % 4096))).heap[g4]? = _ from blk_far K4.out (by first | exact NE4_2.out | exact NE2_4.out.symm) _); replace K6 := Aside0.mk (show (World.setCell _ ⟨g2, 3, none⟩ (.int .i64 ((r.z + 1) % 4096))).heap[g6]? = _ from blk_far K6.out (by first | exact NE6_2.out | exact NE2_6.out.symm) _); replace K13 := Aside0.mk (show (World.setCell _ ⟨g2, 3, none⟩ (.int .i64 ((r.z + 1) % 4096))).heap[g13]? = _ from blk_far K13.out (by first | exact NE13_2.out | exact NE2_13.out.symm) _); replace HB := Aside0.mk (show Below _ _ (World.setCell _ ⟨g2, 3, none⟩ (.int .i64 ((r.z + 1) % 4096))) from below_set HB.out L2.out); replace K2 := Aside0.mk (show (World.setCell _ ⟨g2, 3, none⟩ (.int .i64 ((r.z + 1) % 4096))).heap[g2]? = some (.cells #[.int .u16 r.a, .int .u16 r.l, .int .u16 r.q, .int .i64 ((r.z + 1) % 4096), .int .i64 r.eb, .int .i64 r.fb, .int .i64 r.su, .bool r.ext, .int .u16 r.idx, .bool r.held, .int .u16 r.b, .bool r.inh, .bool r.srv] 26 (0, 0)) from blk_put K2.out 3 _ rfl); generalize World.setCell _ ⟨g2, 3, none⟩ (.int .i64 ((r.z + 1) % 4096)) = ws at K13 K2 K4 K6 HB HL ⊢) | (refine store_cell_ rfl _ _ _ rfl g2 9 rfl (.bool false) rfl _ ((blk_cell K2.out 9).trans rfl) (blk_frozen K2.out 9) rfl rfl (by kernel_rfl) ?_; replace HL := Aside0.mk (show Kd.R _ _ (World.setCell _ ⟨g2, 9, none⟩ (.bool false)) _ _ _ _ from Kd.R_set HL.out K2.out (fun q hq => by rw [ekS q hq]; decide) 9 _); replace K4 := Aside0.mk (show (World.setCell _ ⟨g2, 9, none⟩ (.bool false)).heap[g4]? = _ from blk_far K4.out (by first | exact NE4_2.out | exact NE2_4.out.symm) _); replace K6 := Aside0.mk (show (World.setCell _ ⟨g2, 9, none⟩ (.bool false)).heap[g6]? = _ from blk_far K6.out (by first | exact NE6_2.out | exact NE2_6.out.symm) _); replace K13 := Aside0.mk (show (World.setCell _ ⟨g2, 9, none⟩ (.bool false)).heap[g13]? = _ from blk_far K13.out (by first | exact NE13_2.out | exact NE2_13.out.symm) _); replace HB := Aside0.mk (show Below _ _ (World.setCell _ ⟨g2, 9, none⟩ (.bool false)) from below_set HB.out L2.out); replace K2 := Aside0.mk (show (World.setCell _ ⟨g2, 9, none⟩ (.bool false)).heap[g2]? = some (.cells #[.int .u16 r.a, .int .u16 r.l, .int .u16 r.q, .int .i64 ((r.z + 1) % 4096), .int .i64 r.eb, .int .i64 r.fb, .int .i64 r.su, .bool r.ext, .int .u16 r.idx, .bool false, .int .u16 r.b, .bool r.inh, .bool r.srv] 26 (0, 0)) from blk_put K2.out 9 _ rfl); generalize World.setCell _ ⟨g2, 9, none⟩ (.bool false) = ws at K13 K2 K4 K6 HB HL ⊢) | (refine store_cell_ rfl _ _ _ rfl g2 7 rfl (.bool false) rfl _ ((blk_cell K2.out 7).trans rfl) (blk_frozen K2.out 7) rfl rfl (by kernel_rfl) ?_; replace HL := Aside0.mk (show Kd.R _ _ (World.setCell _ ⟨g2, 7, none⟩ (.bool false)) _ _ _ _ from Kd.R_set HL.out K2.out (fun q hq => by rw [ekS q hq]; decide) 7 _); replace K4 := Aside0.mk (show (World.setCell _ ⟨g2, 7, none⟩ (.bool false)).heap[g4]? = _ from blk_far K4.out (by first | exact NE4_2.out | exact NE2_4.out.symm) _); replace K6 := Aside0.mk (show (World.setCell _ ⟨g2, 7, none⟩ (.bool false)).heap[g6]? = _ from blk_far K6.out (by first | exact NE6_2.out | exact NE2_6.out.symm) _); replace K13 := Aside0.mk (show (World.setCell _ ⟨g2, 7, none⟩ (.bool false)).heap[g13]? = _ from blk_far K13.out (by first | exact NE13_2.out | exact NE2_13.out.symm) _); replace HB := Aside0.mk (show Below _ _ (World.setCell _ ⟨g2, 7, none⟩ (.bool false)) from below_set HB.out L2.out); replace K2 := Aside0.mk (show (World.setCell _ ⟨g2, 7, none⟩ (.bool false)).heap[g2]? = some (.cells #[.int .u16 r.a, .int .u16 r.l, .int .u16 r.q, .int .i64 ((r.z + 1) % 4096), .int .i64 r.eb, .int .i64 r.fb, .int .i64 r.su, .bool false, .int .u16 r.idx, .bool false, .int .u16 r.b, .bool r.inh, .bool r.srv] 26 (0, 0)) from blk_put K2.out 7 _ rfl); generalize World.setCell _ ⟨g2, 7, none⟩ (.bool false) = ws at K13 K2 K4 K6 HB HL ⊢) | (refine store_cell_ rfl _ _ _ rfl g2 10 rfl (.int .u16 0) rfl _ ((blk_cell K2.out 10).trans rfl) (blk_frozen K2.out 10) rfl rfl (by kernel_rfl) ?_; replace HL := Aside0.mk (show Kd.R _ _ (World.setCell _ ⟨g2, 10, none⟩ (.int .u16 0)) _ _ _ _ from Kd.R_set HL.out K2.out (fun q hq => by rw [ekS q hq]; decide) 10 _); replace K4 := Aside0.mk (show (World.setCell _ ⟨g2, 10, none⟩ (.int .u16 0)).heap[g4]? = _ from blk_far K4.out (by first | exact NE4_2.out | exact NE2_4.out.symm) _); replace K6 := Aside0.mk (show (World.setCell _ ⟨g2, 10, none⟩ (.int .u16 0)).heap[g6]? = _ from blk_far K6.out (by first | exact NE6_2.out | exact NE2_6.out.symm) _); replace K13 := Aside0.mk (show (World.setCell _ ⟨g2, 10, none⟩ (.int .u16 0)).heap[g13]? = _ from blk_far K13.out (by first | exact NE13_2.out | exact NE2_13.out.symm) _); replace HB := Aside0.mk (show Below _ _ (World.setCell _ ⟨g2, 10, none⟩ (.int .u16 0)) from below_set HB.out L2.out); replace K2 := Aside0.mk (show (World.setCell _ ⟨g2, 10, none⟩ (.int .u16 0)).heap[g2]? = some (.cells #[.int .u16 r.a, .int .u16 r.l, .int .u16 r.q, .int .i64 ((r.z + 1) % 4096), .int .i64 r.eb, .int .i64 r.fb, .int .i64 r.su, .bool false, .int .u16 r.idx, .bool false, .int .u16 0, .bool r.inh, .bool r.srv] 26 (0, 0)) from blk_put K2.out 10 _ rfl); generalize World.setCell _ ⟨g2, 10, none⟩ (.int .u16 0) = ws at K13 K2 K4 K6 HB HL ⊢) | (refine store_cell_ rfl _ _ _ rfl g2 8 rfl (.int .u16 0) rfl _ ((blk_cell K2.out 8).trans rfl) (blk_frozen K2.out 8) rfl rfl (by kernel_rfl) ?_; replace HL := Aside0.mk (show Kd.R _ _ (World.setCell _ ⟨g2, 8, none⟩ (.int .u16 0)) _ _ _ _ from Kd.R_set HL.out K2.out (fun q hq => by rw [ekS q hq]; decide) 8 _); replace K4 := Aside0.mk (show (World.setCell _ ⟨g2, 8, none⟩ (.int .u16 0)).heap[g4]? = _ from blk_far K4.out (by first | exact NE4_2.out | exact NE2_4.out.symm) _); replace K6 := Aside0.mk (show (World.setCell _ ⟨g2, 8, none⟩ (.int .u16 0)).heap[g6]? = _ from blk_far K6.out (by first | exact NE6_2.out | exact NE2_6.out.symm) _); replace K13 := Aside0.mk (show (World.setCell _ ⟨g2, 8, none⟩ (.int .u16 0)).heap[g13]? = _ from blk_far K13.out (by first | exact NE13_2.out | exact NE2_13.out.symm) _); replace HB := Aside0.mk (show Below _ _ (World.setCell _ ⟨g2, 8, none⟩ (.int .u16 0)) from below_set HB.out L2.out); replace K2 := Aside0.mk (show (World.setCell _ ⟨g2, 8, none⟩ (.int .u16 0)).heap[g2]? = some (.cells #[.int .u16 r.a, .int .u16 r.l, .int .u16 r.q, .int .i64 ((r.z + 1) % 4096), .int .i64 r.eb, .int .i64 r.fb, .int .i64 r.su, .bool false, .int .u16 0, .bool false, .int .u16 0, .bool r.inh, .bool r.srv] 26 (0, 0)) from blk_put K2.out 8 _ rfl); generalize World.setCell _ ⟨g2, 8, none⟩ (.int .u16 0) = ws at K13 K2 K4 K6 HB HL ⊢) | (refine load_cell_ rfl 3 _ rfl g2 3 rfl (.int .i64 r.z) ((blk_cell K2.out 3).trans rfl) (fun _ => by kernel_rfl) ?_))
  refine start_ (n := 10) (S := fun w' => w'.cell? ⟨g13, 0, none⟩ = some (.int .u8 (fC r v)) ∧ w'.cell? ⟨g13, 1, none⟩ = some (.string (Isa.opN (fC r v)).2.1) ∧ w'.cell? ⟨g13, 2, none⟩ = some (.bool (Isa.opN (fC r v)).2.2.1) ∧ w'.cell? ⟨g13, 3, none⟩ = some (.int .u8 (Isa.opN (fC r v)).2.2.2.1) ∧ w'.cell? ⟨g13, 4, none⟩ = some (.int .i64 (Isa.opN (fC r v)).2.2.2.2.1) ∧ w'.cell? ⟨g13, 5, none⟩ = some (.int .i64 (Isa.opN (fC r v)).2.2.2.2.2.1) ∧ w'.cell? ⟨g2, 0, none⟩ = some (.int .u16 r.a) ∧ w'.cell? ⟨g2, 1, none⟩ = some (.int .u16 r.l) ∧ w'.cell? ⟨g2, 2, none⟩ = some (.int .u16 r.q) ∧ w'.cell? ⟨g2, 3, none⟩ = some (.int .i64 ((r.z + 1) % 4096)) ∧ w'.cell? ⟨g2, 4, none⟩ = some (.int .i64 r.eb) ∧ w'.cell? ⟨g2, 5, none⟩ = some (.int .i64 r.fb) ∧ w'.cell? ⟨g2, 6, none⟩ = some (.int .i64 r.su) ∧ w'.cell? ⟨g2, 7, none⟩ = some (.bool false) ∧ w'.cell? ⟨g2, 8, none⟩ = some (.int .u16 0) ∧ w'.cell? ⟨g2, 9, none⟩ = some (.bool false) ∧ w'.cell? ⟨g2, 10, none⟩ = some (.int .u16 0) ∧ w'.cell? ⟨g2, 11, none⟩ = some (.bool r.inh) ∧ w'.cell? ⟨g2, 12, none⟩ = some (.bool r.srv)) (ds := [7]) #[false, false, false, false, false, false, false, false, false, false] (by kernel_rfl) rfl rfl ⟨(blk_cell K13.out 0).trans rfl, (blk_cell K13.out 1).trans rfl, (blk_cell K13.out 2).trans rfl, (blk_cell K13.out 3).trans rfl, (blk_cell K13.out 4).trans rfl, (blk_cell K13.out 5).trans rfl, (blk_cell K2.out 0).trans rfl, (blk_cell K2.out 1).trans rfl, (blk_cell K2.out 2).trans rfl, (blk_cell K2.out 3).trans rfl, (blk_cell K2.out 4).trans rfl, (blk_cell K2.out 5).trans rfl, (blk_cell K2.out 6).trans rfl, (blk_cell K2.out 7).trans rfl, (blk_cell K2.out 8).trans rfl, (blk_cell K2.out 9).trans rfl, (blk_cell K2.out 10).trans rfl, (blk_cell K2.out 11).trans rfl, (blk_cell K2.out 12).trans rfl⟩ (fun hHeld => ?_)
  replace K2 := Aside0.mk (blk_drew K2.out)
  replace K4 := Aside0.mk (blk_drew K4.out)
  replace K6 := Aside0.mk (blk_drew K6.out)
  replace K13 := Aside0.mk (blk_drew K13.out)
  (try replace HL := Aside0.mk (Kd.R_drew HL.out))
  replace HB := Aside0.mk (below_drew1 HB.out)
  generalize ws.drew = wd at K2 K4 K6 K13 HB hHeld HL ⊢
  refine pvq_ 1 (some 60) rfl rfl ?_
  refine pvq_ 3 (some 62) rfl rfl ?_
  refine pvq_ 4 (some 63) rfl rfl ?_
  refine tkq_ 0 (some 59) rfl rfl hHeld ?_
  refine tkq_ 2 (some 61) rfl rfl hHeld ?_
  refine onq_ 5 none rfl rfl (fun K hK => ?_)
  refine skip_ (w1 := World.setRow wd g4 #[.int .u8 (fC r v), .string (Isa.opN (fC r v)).2.1, .bool (Isa.opN (fC r v)).2.2.1, .int .u8 (Isa.opN (fC r v)).2.2.2.1, .int .i64 (Isa.opN (fC r v)).2.2.2.2.1, .int .i64 (Isa.opN (fC r v)).2.2.2.2.2.1]) (by rfl) rfl ?_ ?_
  · refine run_store_row 119 (.tmp 4) (.tmp 59) ?_ g4 ?_ 119 _ #[.int .u8 (fC r v), .string (Isa.opN (fC r v)).2.1, .bool (Isa.opN (fC r v)).2.2.1, .int .u8 (Isa.opN (fC r v)).2.2.2.1, .int .i64 (Isa.opN (fC r v)).2.2.2.2.1, .int .i64 (Isa.opN (fC r v)).2.2.2.2.2.1] ?_ K4.out (by kernel_rfl) rfl (by kernel_rfl)
    · rfl
    · rfl
    · rfl
  (try replace HL := Aside0.mk (R_kb HL.out K4.out (fun q hq => by rw [ekS q hq]; decide) (keep_row _ g4 #[.int .u8 (fC r v), .string (Isa.opN (fC r v)).2.1, .bool (Isa.opN (fC r v)).2.2.1, .int .u8 (Isa.opN (fC r v)).2.2.2.1, .int .i64 (Isa.opN (fC r v)).2.2.2.2.1, .int .i64 (Isa.opN (fC r v)).2.2.2.2.2.1])))
  replace HB := Aside0.mk (below_setRow HB.out L4.out #[.int .u8 (fC r v), .string (Isa.opN (fC r v)).2.1, .bool (Isa.opN (fC r v)).2.2.1, .int .u8 (Isa.opN (fC r v)).2.2.2.1, .int .i64 (Isa.opN (fC r v)).2.2.2.2.1, .int .i64 (Isa.opN (fC r v)).2.2.2.2.2.1])
  replace K2 := Aside0.mk (blk_row_far K2.out (by first | exact NE2_4.out | exact NE4_2.out.symm) #[.int .u8 (fC r v), .string (Isa.opN (fC r v)).2.1, .bool (Isa.opN (fC r v)).2.2.1, .int .u8 (Isa.opN (fC r v)).2.2.2.1, .int .i64 (Isa.opN (fC r v)).2.2.2.2.1, .int .i64 (Isa.opN (fC r v)).2.2.2.2.2.1])
  replace K6 := Aside0.mk (blk_row_far K6.out (by first | exact NE6_4.out | exact NE4_6.out.symm) #[.int .u8 (fC r v), .string (Isa.opN (fC r v)).2.1, .bool (Isa.opN (fC r v)).2.2.1, .int .u8 (Isa.opN (fC r v)).2.2.2.1, .int .i64 (Isa.opN (fC r v)).2.2.2.2.1, .int .i64 (Isa.opN (fC r v)).2.2.2.2.2.1])
  replace K13 := Aside0.mk (blk_row_far K13.out (by first | exact NE13_4.out | exact NE4_13.out.symm) #[.int .u8 (fC r v), .string (Isa.opN (fC r v)).2.1, .bool (Isa.opN (fC r v)).2.2.1, .int .u8 (Isa.opN (fC r v)).2.2.2.1, .int .i64 (Isa.opN (fC r v)).2.2.2.2.1, .int .i64 (Isa.opN (fC r v)).2.2.2.2.2.1])
  replace K4 := Aside0.mk (blk_row K4.out #[.int .u8 (fC r v), .string (Isa.opN (fC r v)).2.1, .bool (Isa.opN (fC r v)).2.2.1, .int .u8 (Isa.opN (fC r v)).2.2.2.1, .int .i64 (Isa.opN (fC r v)).2.2.2.2.1, .int .i64 (Isa.opN (fC r v)).2.2.2.2.2.1])
  generalize World.setRow wd g4 #[.int .u8 (fC r v), .string (Isa.opN (fC r v)).2.1, .bool (Isa.opN (fC r v)).2.2.1, .int .u8 (Isa.opN (fC r v)).2.2.2.1, .int .i64 (Isa.opN (fC r v)).2.2.2.2.1, .int .i64 (Isa.opN (fC r v)).2.2.2.2.2.1] = wa at K2 K4 K6 K13 HB HL ⊢
  refine hK.out _ _ ⟨(blk_cell K13.out 0).trans rfl, (blk_cell K13.out 1).trans rfl, (blk_cell K13.out 2).trans rfl, (blk_cell K13.out 3).trans rfl, (blk_cell K13.out 4).trans rfl, (blk_cell K13.out 5).trans rfl, (blk_cell K2.out 0).trans rfl, (blk_cell K2.out 1).trans rfl, (blk_cell K2.out 2).trans rfl, (blk_cell K2.out 3).trans rfl, (blk_cell K2.out 4).trans rfl, (blk_cell K2.out 5).trans rfl, (blk_cell K2.out 6).trans rfl, (blk_cell K2.out 7).trans rfl, (blk_cell K2.out 8).trans rfl, (blk_cell K2.out 9).trans rfl, (blk_cell K2.out 10).trans rfl, (blk_cell K2.out 11).trans rfl, (blk_cell K2.out 12).trans rfl⟩ (fun hHeld => ?_)
  clear hK K
  refine pvq_ 6 (some 5) rfl rfl ?_
  refine laq_ 7 none rfl rfl (fun K hK => ?_)
  refine skip_ (w1 := World.setRow wa g6 #[.int .u16 r.a, .int .u16 r.l, .int .u16 r.q, .int .i64 ((r.z + 1) % 4096), .int .i64 r.eb, .int .i64 r.fb, .int .i64 r.su, .bool false, .int .u16 0, .bool false, .int .u16 0, .bool r.inh, .bool r.srv]) (by rfl) rfl ?_ ?_
  · refine run_store_row 26 (.tmp 6) (.tmp 61) ?_ g6 ?_ 26 _ #[.int .u16 r.a, .int .u16 r.l, .int .u16 r.q, .int .i64 ((r.z + 1) % 4096), .int .i64 r.eb, .int .i64 r.fb, .int .i64 r.su, .bool false, .int .u16 0, .bool false, .int .u16 0, .bool r.inh, .bool r.srv] ?_ K6.out (by kernel_rfl) rfl (by kernel_rfl)
    · rfl
    · rfl
    · rfl
  (try replace HL := Aside0.mk (R_kb HL.out K6.out (fun q hq => by rw [ekS q hq]; decide) (keep_row _ g6 #[.int .u16 r.a, .int .u16 r.l, .int .u16 r.q, .int .i64 ((r.z + 1) % 4096), .int .i64 r.eb, .int .i64 r.fb, .int .i64 r.su, .bool false, .int .u16 0, .bool false, .int .u16 0, .bool r.inh, .bool r.srv])))
  replace HB := Aside0.mk (below_setRow HB.out L6.out #[.int .u16 r.a, .int .u16 r.l, .int .u16 r.q, .int .i64 ((r.z + 1) % 4096), .int .i64 r.eb, .int .i64 r.fb, .int .i64 r.su, .bool false, .int .u16 0, .bool false, .int .u16 0, .bool r.inh, .bool r.srv])
  replace K2 := Aside0.mk (blk_row_far K2.out (by first | exact NE2_6.out | exact NE6_2.out.symm) #[.int .u16 r.a, .int .u16 r.l, .int .u16 r.q, .int .i64 ((r.z + 1) % 4096), .int .i64 r.eb, .int .i64 r.fb, .int .i64 r.su, .bool false, .int .u16 0, .bool false, .int .u16 0, .bool r.inh, .bool r.srv])
  replace K4 := Aside0.mk (blk_row_far K4.out (by first | exact NE4_6.out | exact NE6_4.out.symm) #[.int .u16 r.a, .int .u16 r.l, .int .u16 r.q, .int .i64 ((r.z + 1) % 4096), .int .i64 r.eb, .int .i64 r.fb, .int .i64 r.su, .bool false, .int .u16 0, .bool false, .int .u16 0, .bool r.inh, .bool r.srv])
  replace K13 := Aside0.mk (blk_row_far K13.out (by first | exact NE13_6.out | exact NE6_13.out.symm) #[.int .u16 r.a, .int .u16 r.l, .int .u16 r.q, .int .i64 ((r.z + 1) % 4096), .int .i64 r.eb, .int .i64 r.fb, .int .i64 r.su, .bool false, .int .u16 0, .bool false, .int .u16 0, .bool r.inh, .bool r.srv])
  replace K6 := Aside0.mk (blk_row K6.out #[.int .u16 r.a, .int .u16 r.l, .int .u16 r.q, .int .i64 ((r.z + 1) % 4096), .int .i64 r.eb, .int .i64 r.fb, .int .i64 r.su, .bool false, .int .u16 0, .bool false, .int .u16 0, .bool r.inh, .bool r.srv])
  generalize World.setRow wa g6 #[.int .u16 r.a, .int .u16 r.l, .int .u16 r.q, .int .i64 ((r.z + 1) % 4096), .int .i64 r.eb, .int .i64 r.fb, .int .i64 r.su, .bool false, .int .u16 0, .bool false, .int .u16 0, .bool r.inh, .bool r.srv] = wb at K2 K4 K6 K13 HB HL ⊢
  refine hK.out _ _ ?_
  clear hK K
  refine pvq_ 8 (some 7) rfl rfl ?_
  refine pvq_ 9 (some 8) rfl rfl ?_
  refine done_ (by kernel_rfl) ?_
  go_wp2
  refine bodyPost_ret (results_list (rs := [.cell 4 119, .tmp 5, .cell 6 26, .tmp 7, .tmp 8]) rfl (by simp) (.cell g4 119 (aOC r v) (0, 0) _ rfl K4.out Tryz.underlying119 rfl (by kernel_rfl) (.tmp (.cell g6 26 (aNX r) (0, 0) _ rfl K6.out Tryz.underlying26 rfl (by kernel_rfl) (.tmp (.tmp .nil)))))) rfl ?_
  (try have hvl := hvl.out)
  (try subst hvl)
  exact ⟨_, rfl, HL.out, HB.out⟩
end
end Go.Proofs.YtgbmaajfbbilhaaGreat.Cpu
end
