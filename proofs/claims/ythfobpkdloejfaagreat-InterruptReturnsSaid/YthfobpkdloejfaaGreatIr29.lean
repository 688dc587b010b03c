/- Chapter 5: a part of its proof (cut by program out of IsaF, IsaD, FY); no condition. -/
import Derived.Maps.OwnOps
import Derived.Maps.Views
import Derived.Test.YthfobpkdloejfaaGreatIr21
import Derived.Test.YthfobpkdloejfaaGreatIr28
set_option linter.unusedVariables false
set_option linter.unusedSimpArgs false
set_option linter.unusedSectionVars false
set_option maxRecDepth 100000
set_option maxHeartbeats 8000000
section
namespace Go.Proofs.YthfobpkdloejfaaGreat.PAll
open Go.RowKit Go.Proofs.YthfobpkdloejfaaGreat.Row Go.Proofs.YthfobpkdloejfaaGreatW.PrintWords Go.Proofs.YthfobpkdloejfaaGreatW.PrintLast Go.Proofs.YthfobpkdloejfaaGreatW.PrintMore
open Go.Maps Go.WideMaps
def NAMES : List ByteArray := ENT.map (·.1)
def nmL (k : Nat) : List UInt8 := (NAMES.getD k ByteArray.empty).data.toList
def Dm : Nat → DataW Unit
 | 0 => .map []
 | k + 1 => (Dm k).put (.string (nmL k)) (.lit (.int .u8 ((k : Int) + 1)))
theorem names_f : isa_Names.f 41 = some NAMES := by kernel_rfl
theorem law9 : Keyed Tryz.prog 9 := string_keyed Tryz.underlying9
theorem key9 (s : ByteArray) (h : s.size ≤ maxLen) : keyOf Tryz.prog 9 (.string s) = some (.string s.data.toList) := keyOf_string_mk Tryz.underlying9 h
theorem names_len : NAMES.length = 39 := by kernel_rfl
theorem names_size : ∀ s ∈ NAMES, s.size ≤ maxLen := by
 have h : NAMES.all (fun s => decide (s.size ≤ 100)) = true := by kernel_rfl
 intro s hs
 have := of_decide_eq_true (List.all_eq_true.1 h s hs)
 unfold maxLen; omega
theorem names_at (k : Nat) : (NAMES.getD k ByteArray.empty).size ≤ maxLen := by
 by_cases h : k < NAMES.length
 · rw [List.getD_eq_getElem?_getD, List.getElem?_eq_getElem h]
   exact names_size _ (List.getElem_mem h)
 · rw [List.getD_eq_getElem?_getD, List.getElem?_eq_none (by omega)]
   decide
theorem wf_u8 {a : Int} (h0 : 0 ≤ a) (h1 : a < 256) : (Lit.int .u8 a).wf = true := by
 simp [Lit.wf, IntKind.min, IntKind.max, IntKind.signed, IntKind.bits]; omega
theorem own_base {w : World} {base n : Nat} {e : TypeId} {size : Nat} {ad : Addr} {c : Nat} {xs : List Value} (h : w.ownsRow base e size (.slice (some ad) n c) n xs) : base ≤ ad.block := by
 rcases h.2 with ⟨h1, _⟩ | ⟨g, cap, cur, h1, h2, _⟩
 · cases h1
 · injection h1 with e1 _ _
   injection e1 with e1
   subst e1
   exact h2
theorem _root_.Go.World.ownsMap.below_ {H : Type} {w w1 : World} {P : Program} {k : TypeId} {R : Value → Option (DataW H × List MemPlace)} {b n : Nat} {D : DataW H} (h : w.ownsMap P k R b n D) (hb : Below w.heap.size w w1) : w1.ownsMap P k R b n D := by
 obtain ⟨es, clock, hh, r⟩ := h
 exact ⟨es, clock, (hb.block b (blk_lt hh)).trans hh, r⟩
theorem KeepBut.of_grown_ {w w1 : World} {b : Nat} (h : w.grownBy w1 (some b)) : KeepBut w w1 b none := ⟨h.size, fun i hi hne _ => h.block i hi (by simpa using hne)⟩
theorem index_c (w : World) : Calls Tryz.prog 149 #[] w fun e w' => e = .returned (.map (some w.heap.size)) ∧ w'.ownsMap Tryz.prog 9 (plainElem (H := Unit) Tryz.prog 38) w.heap.size 39 (Dm 39) ∧ Below w.heap.size w w' := by
 have hmm := @run_makeMap Tryz.prog
 go_enter Tryz.func149, Tryz.ntmps149
 go_wp2_with (go_at_call 177; (with_reducible refine (isa_Names.calls 41 NAMES _ names_f).mono ?_); rintro e w1 ⟨v, rfl, hR, hb⟩; obtain ⟨A, c, rfl, hc, hC⟩ := Kd.R_reads hR; have HB := Aside0.mk hb; have HR := Aside0.mk hR; have HC := Aside0.mk hC; clear hb hR hC)
 obtain ⟨ad, eA, hx0⟩ := Kd.at_string HC.out 0 (by omega) (by rw [names_len]; omega)
 subst eA
 have hne : ad.block ≠ w.heap.size := by
  have h := HR.out
  obtain ⟨inner, ho⟩ := Kd.R_own h
  have hb0 := own_base ho
  simp only [World.size_alloc] at hb0
  omega
 clear hx0
 have HN := Aside0.mk hne
 clear hne
 have HM : w1.ownsMap Tryz.prog 9 (plainElem (H := Unit) Tryz.prog 38) w.heap.size 0 (Dm 0) := (World.ownsMap_made w Tryz.prog _ _).below_ HB.out
 have HW := Aside0.mk ((below_alloc (Below.refl w.heap.size w) _).trans (HB.out.mono (by simp)))
 clear HB HR
 rw [names_len] at HC ⊢
 rw [show ((39 : Nat) : Int) = 39 from rfl]
 go_loopw [7] (fun i wr => ∃ k : Nat, k ≤ 39 ∧ i = .int .i64 k ∧ Aside0 (wr.ownsMap Tryz.prog 9 (plainElem (H := Unit) Tryz.prog 38) w.heap.size k (Dm k)) ∧ Aside0 (Below w.heap.size w wr) ∧ Aside0 (Kd.C Kd.string wr (some ad) 39 NAMES))
  (fun i _ => 39 - (intOf i).toNat)
 case atStart => exact ⟨0, by omega, rfl, ⟨HM⟩, HW, HC⟩
 case round =>
  clear HM HW HC
  obtain ⟨k, hk, rfl, HM, HW, HC⟩ := hrel
  by_cases hlt : k < 39
  · obtain ⟨ad2, e2, hx⟩ := Kd.at_string HC.out (k : Int) (by omega) (by omega)
    injection e2 with e3
    subst e3
    rw [Int.toNat_natCast] at hx
    have hs : rdOf ByteArray.empty NAMES (k : Int) = NAMES.getD k ByteArray.empty := by simp [rdOf]
    rw [hs] at hx
    clear hs
    have hkey : keyOf Tryz.prog 9 (.string (NAMES.getD k ByteArray.empty)) = some (.string (nmL k)) := key9 _ (names_at k)
    obtain ⟨s, hsn⟩ : ∃ s, NAMES.getD k ByteArray.empty = s := ⟨_, rfl⟩
    rw [hsn] at hx hkey
    clear hsn
    have HK := Lib.hid hkey
    clear hkey
    have ew : IntKind.u8.wrap ((k : Int) + 1) = (k : Int) + 1 := by rw [IntKind.wrap_u8]; omega
    go_wp2_with (first | (at_mapUpdate; refine wpList_mapUpdate_own _ rfl _ _ _ 145 rfl 9 38 law9 Tryz.underlying145 _ w.heap.size k _ rfl HM.out ?hn _ _ _ rfl rfl HK.out _ [] (plainElem_int Tryz.underlying38 ?hw) ?_; (case hn => (unfold maxLen; omega)); (case hw => exact wf_u8 (by omega) (by omega)); intro w2 hm hg; have n1 := Aside0.mk hm; have n2 := Aside0.mk (HW.out.grown hg HW.out.size (fun j hj => by cases hj; exact Nat.le_refl _)); have n3 := Aside0.mk (Kd.C_keep ByteArray.empty HC.out (KeepBut.of_grown_ hg) (fun a e _ => by cases e; exact HN.out)); clear HM HW HC hm hg hx ew))
    go_roundw
    case rel => exact ⟨k + 1, by omega, by go_num, n1, n2, n3⟩
    case measure => simp [intOf]; omega
  · obtain rfl : k = 39 := by omega
    go_wp2
    go_ret
    exact ⟨rfl, HM.out, HW.out⟩
end Go.Proofs.YthfobpkdloejfaaGreat.PAll
end
section
namespace Go.Proofs.YthfobpkdloejfaaGreat.PAll
open Go.RowKit Go.Proofs.YthfobpkdloejfaaGreat.Row Go.Proofs.YthfobpkdloejfaaGreatW.PrintWords Go.Proofs.YthfobpkdloejfaaGreatW.PrintLast Go.Proofs.YthfobpkdloejfaaGreatW.PrintMore
def decC (k : Nat) (a0 : Int) (a1 : Bool) : Option Int := if a1 = true then isa_find.f k a0 20 39 else if a0 = 3 then some 4 else if a0 = 4 then some 3 else if a0 = 6 then some 2 else if a0 = 20495 then some 14 else isa_find.f k a0 1 19
def isa_Decode.f (k : Nat) (a0 : Int) (a1 : Bool) : Option (Int × ByteArray × Bool × Int × Int × Int × Int × Int) := if a0 > 32767 then some (0, (⟨#[]⟩ : ByteArray), false, 0, 0, 0, 0, 3) else if 0 ≤ a0 then ((decC k a0 a1).bind fun c => (isa_Of.f c).bind fun o => (isa_row.f c).bind fun b => some (o.1, o.2.1, o.2.2.1, o.2.2.2.1, o.2.2.2.2.1, o.2.2.2.2.2.1, wrap64 (a0 - b.2.2.1), o.2.2.2.2.2.2)) else none
theorem w64_ {n : Int} (h0 : -9223372036854775808 ≤ n) (h1 : n ≤ 9223372036854775807) : wrap64 n = n := by unfold wrap64; omega
theorem cell_row_far {w : World} {g g' i : Nat} {v : Value} (h : w.cell? ⟨g', i, none⟩ = some v) (hne : g' ≠ g) (cs : Array Value) : (w.setRow g cs).cell? ⟨g', i, none⟩ = some v := (cell_setRow_other w g cs ⟨g', i, none⟩ hne).trans h
theorem Decode_1 (k : Nat) (a0 : Int) (c : Int) (o1 : Int) (o2 : ByteArray) (o3 : Bool) (o4 o5 o6 o7 : Int) (b1 : ByteArray) (b2 b3 b4 : Int) (h0 : 0 ≤ a0) (h1 : a0 ≤ 32767) (hf : isa_find.f k a0 20 39 = some c) (ho : isa_Of.f c = some (o1, o2, o3, o4, o5, o6, o7)) (hr : isa_row.f c = some (b1, b2, b3, b4)) (w : World) :
 Calls Tryz.prog 45 #[.int .u16 a0, .bool true] w fun e w' => e = .returned (.tuple #[.agg #[.int .u8 o1, .string o2, .bool o3, .int .u8 o4, .int .i64 o5, .int .i64 o6], .int .i64 (wrap64 (a0 - b3)), .int .i64 o7]) ∧ Below w.heap.size w w' := by
 have HB0 := Aside0.mk (Below.refl w.heap.size w)
 have HB := HB0
 have c0 : decide (32767 < a0) = false := decide_eq_false (by omega)
 have e0 : wrap64 a0 = a0 := w64_ (by omega) (by omega)
 have FD := Aside0.mk hf
 clear h0 h1 hf
 have OF := Aside0.mk ho
 have RW := Aside0.mk hr
 clear ho hr
 go_enter Tryz.func45, Tryz.ntmps45
 go_upto_region 13 with (first | ((with_reducible refine gate_dst (N := 4) rfl ?_); refine box_event ?hg (N := 4) ?hd (cs := #[.int .u8 0, .string (⟨#[]⟩ : ByteArray), .bool false, .int .u8 0, .int .i64 0, .int .i64 0]) (t := 41) ?hr ?_; (case hd => rfl); (case hg => rfl); (case hr => kernel_rfl); intro g hg w4 K hb; have HB := Aside0.mk (below_step HB.out hb); have K4 := Aside0.mk K; have L4 := Aside0.mk (show w.heap.size ≤ g from by rw [hg]; exact HB0.out.size); clear K hb hg HB0) | (go_at_call 77; (with_reducible refine (isa_find.calls k a0 20 39 c _ FD.out).mono ?_); rintro e wf ⟨rfl, hb⟩; replace HB := hbs_ HB hb; replace K4 := kbb_ K4 hb; clear hb))
 have HB0 := HB
 go_upto_region 14 with (first | (go_at_call 78; (with_reducible refine (isa_Of.calls _ _ _ _ _ _ _ _ _ OF.out).mono ?_); rintro e wo ⟨rfl, hb⟩; replace HB := hbs_ HB hb; replace K4 := kbb_ K4 hb; replace HB0 := HB; clear hb) | ((with_reducible refine gate_dst (N := 8) rfl ?_); refine box_event ?hg (N := 8) ?hd (cs := #[.int .u8 0, .string (⟨#[]⟩ : ByteArray), .bool false, .int .u8 0, .int .i64 0, .int .i64 0]) (t := 41) ?hr ?_; (case hd => rfl); (case hg => rfl); (case hr => kernel_rfl); intro g8 hg w8 K hb; replace HB := hbs_ HB hb; have K8 := Aside0.mk K; have NE := Aside0.mk (show g8 ≠ g from by have := blk_lt K4.out; rw [hg]; omega); have L8 := Aside0.mk (show w.heap.size ≤ g8 from by rw [hg]; exact HB0.out.size); replace K4 := kbb_ K4 hb; clear K hb hg HB0) | (refine store_row_ rfl 41 (.tmp 8) (.tmp 37) rfl g8 rfl 41 _ #[.int .u8 o1, .string o2, .bool o3, .int .u8 o4, .int .i64 o5, .int .i64 o6] rfl K8.out ?hi ?hs ?h1 ?_; (case hi => kernel_rfl); (case hs => rfl); (case h1 => kernel_rfl)))
 replace HB := Aside0.mk (below_setRow HB.out L8.out #[.int .u8 o1, .string o2, .bool o3, .int .u8 o4, .int .i64 o5, .int .i64 o6])
 replace K4 := Aside0.mk (blk_row_far K4.out NE.out.symm #[.int .u8 o1, .string o2, .bool o3, .int .u8 o4, .int .i64 o5, .int .i64 o6])
 have K8b := Aside0.mk (blk_row K8.out #[.int .u8 o1, .string o2, .bool o3, .int .u8 o4, .int .i64 o5, .int .i64 o6])
 clear K8
 generalize World.setRow _ g8 #[.int .u8 o1, .string o2, .bool o3, .int .u8 o4, .int .i64 o5, .int .i64 o6] = wr at HB K4 K8b ⊢
 have x0 : wr.cell? ⟨g8, 0, none⟩ = some (.int .u8 o1) := (blk_cell K8b.out 0).trans rfl
 have x1 : wr.cell? ⟨g8, 1, none⟩ = some (.string o2) := (blk_cell K8b.out 1).trans rfl
 have x2 : wr.cell? ⟨g8, 2, none⟩ = some (.bool o3) := (blk_cell K8b.out 2).trans rfl
 have x3 : wr.cell? ⟨g8, 3, none⟩ = some (.int .u8 o4) := (blk_cell K8b.out 3).trans rfl
 have x4 : wr.cell? ⟨g8, 4, none⟩ = some (.int .i64 o5) := (blk_cell K8b.out 4).trans rfl
 have x5 : wr.cell? ⟨g8, 5, none⟩ = some (.int .i64 o6) := (blk_cell K8b.out 5).trans rfl
 have hfld := fld57_2
 refine start_ (n := 11) (S := fun w' => w'.cell? ⟨g8, 0, none⟩ = some (.int .u8 o1) ∧ w'.cell? ⟨g8, 1, none⟩ = some (.string o2) ∧ w'.cell? ⟨g8, 2, none⟩ = some (.bool o3) ∧ w'.cell? ⟨g8, 3, none⟩ = some (.int .u8 o4) ∧ w'.cell? ⟨g8, 4, none⟩ = some (.int .i64 o5) ∧ w'.cell? ⟨g8, 5, none⟩ = some (.int .i64 o6)) (ds := []) #[false, false, false, false, false, false, false, false, false, false, false] (by kernel_rfl) rfl rfl ⟨x0, x1, x2, x3, x4, x5⟩ (fun hHeld => ?_)
 replace HB : Aside0 (Below w.heap.size w wr.drew) := ⟨below_drew1 HB.out⟩
 replace K4 : Aside0 (wr.drew.heap[g]? = some (.cells #[.int .u8 0, .string (⟨#[]⟩ : ByteArray), .bool false, .int .u8 0, .int .i64 0, .int .i64 0] 41 (0, 0))) := ⟨blk_drew K4.out⟩
 change wr.drew.cell? _ = _ at x0
 change wr.drew.cell? _ = _ at x1
 change wr.drew.cell? _ = _ at x2
 change wr.drew.cell? _ = _ at x3
 change wr.drew.cell? _ = _ at x4
 change wr.drew.cell? _ = _ at x5
 generalize wr.drew = wd at HB K4 x0 x1 x2 x3 x4 x5 hHeld ⊢
 refine pvq_ 1 (some 40) rfl rfl ?_
 refine pvq_ 2 (some 41) rfl rfl ?_
 refine pvq_ 3 (some 42) rfl rfl ?_
 refine pvq_ 7 (some 46) rfl rfl ?_
 refine tkq_ 0 (some 39) rfl rfl hHeld ?_
 refine onq_ 4 (some 43) rfl rfl (fun K hK => ?_)
 refine goq_ Tryz.func79 #[.int .u8 c] ?_
 with_reducible refine (isa_row.calls _ _ _ _ _ _ RW.out).mono ?_
 rintro e w2 ⟨rfl, hbz⟩
 refine ⟨_, rfl, ?_⟩
 replace x0 := (hbz.cell (World.block_lt_of_cell? _ _ x0)).trans x0
 replace x1 := (hbz.cell (World.block_lt_of_cell? _ _ x1)).trans x1
 replace x2 := (hbz.cell (World.block_lt_of_cell? _ _ x2)).trans x2
 replace x3 := (hbz.cell (World.block_lt_of_cell? _ _ x3)).trans x3
 replace x4 := (hbz.cell (World.block_lt_of_cell? _ _ x4)).trans x4
 replace x5 := (hbz.cell (World.block_lt_of_cell? _ _ x5)).trans x5
 replace K4 := Aside0.mk (blk_below K4.out hbz)
 replace HB := Aside0.mk (below_step HB.out hbz)
 clear hbz
 refine hK.out _ _ ⟨x0, x1, x2, x3, x4, x5⟩ (fun hHeld => ?_)
 clear hK K
 refine nmq_ (some 43) ?_
 refine pvq_ 5 (some 44) rfl rfl ?_
 refine pvq_ 6 (some 45) rfl rfl ?_
 refine onq_ 8 none rfl rfl (fun K hK => ?_)
 refine skip_ (w1 := World.setRow w2 g #[.int .u8 o1, .string o2, .bool o3, .int .u8 o4, .int .i64 o5, .int .i64 o6]) (by rfl) rfl ?_ ?_
 · refine run_store_row 41 (.tmp 4) (.tmp 39) ?_ g ?_ 41 _ #[.int .u8 o1, .string o2, .bool o3, .int .u8 o4, .int .i64 o5, .int .i64 o6] ?_ K4.out (by kernel_rfl) rfl (by kernel_rfl)
   · rfl
   · rfl
   · rfl
 replace HB := Aside0.mk (below_setRow HB.out L4.out #[.int .u8 o1, .string o2, .bool o3, .int .u8 o4, .int .i64 o5, .int .i64 o6])
 replace K4 := Aside0.mk (blk_row K4.out #[.int .u8 o1, .string o2, .bool o3, .int .u8 o4, .int .i64 o5, .int .i64 o6])
 replace x0 := (cell_row_far x0 NE.out #[.int .u8 o1, .string o2, .bool o3, .int .u8 o4, .int .i64 o5, .int .i64 o6])
 replace x1 := (cell_row_far x1 NE.out #[.int .u8 o1, .string o2, .bool o3, .int .u8 o4, .int .i64 o5, .int .i64 o6])
 replace x2 := (cell_row_far x2 NE.out #[.int .u8 o1, .string o2, .bool o3, .int .u8 o4, .int .i64 o5, .int .i64 o6])
 replace x3 := (cell_row_far x3 NE.out #[.int .u8 o1, .string o2, .bool o3, .int .u8 o4, .int .i64 o5, .int .i64 o6])
 replace x4 := (cell_row_far x4 NE.out #[.int .u8 o1, .string o2, .bool o3, .int .u8 o4, .int .i64 o5, .int .i64 o6])
 replace x5 := (cell_row_far x5 NE.out #[.int .u8 o1, .string o2, .bool o3, .int .u8 o4, .int .i64 o5, .int .i64 o6])
 refine hK.out _ _ ⟨x0, x1, x2, x3, x4, x5⟩ (fun hHeld => ?_)
 clear hK K
 refine pvq_ 9 (some 5) rfl rfl ?_
 refine pvq_ 10 (some 6) rfl rfl ?_
 refine done_ (by kernel_rfl) ?_
 go_wp2
 refine bodyPost_ret (results_list (rs := [.cell 4 41, .tmp 5, .tmp 6]) rfl (by simp) (.cell g 41 #[.int .u8 o1, .string o2, .bool o3, .int .u8 o4, .int .i64 o5, .int .i64 o6] (0, 0) _ rfl K4.out Tryz.underlying41 rfl (by kernel_rfl) (.tmp (.tmp .nil)))) rfl ⟨rfl, HB.out⟩
theorem Decode_w3 (o1 : Int) (o2 : ByteArray) (o3 : Bool) (o4 o5 o6 o7 : Int) (b1 : ByteArray) (b2 b3 b4 : Int)  (ho : isa_Of.f 4 = some (o1, o2, o3, o4, o5, o6, o7)) (hr : isa_row.f 4 = some (b1, b2, b3, b4)) (w : World) :
 Calls Tryz.prog 45 #[.int .u16 3, .bool false] w fun e w' => e = .returned (.tuple #[.agg #[.int .u8 o1, .string o2, .bool o3, .int .u8 o4, .int .i64 o5, .int .i64 o6], .int .i64 (wrap64 (3 - b3)), .int .i64 o7]) ∧ Below w.heap.size w w' := by
 have HB0 := Aside0.mk (Below.refl w.heap.size w)
 have HB := HB0
 have e0 : wrap64 3 = 3 := w64_ (by decide) (by decide)
 have OF := Aside0.mk ho
 have RW := Aside0.mk hr
 clear ho hr
 go_enter Tryz.func45, Tryz.ntmps45
 go_upto_region 13 with (first | ((with_reducible refine gate_dst (N := 4) rfl ?_); refine box_event ?hg (N := 4) ?hd (cs := #[.int .u8 0, .string (⟨#[]⟩ : ByteArray), .bool false, .int .u8 0, .int .i64 0, .int .i64 0]) (t := 41) ?hr ?_; (case hd => rfl); (case hg => rfl); (case hr => kernel_rfl); intro g hg w4 K hb; have HB := Aside0.mk (below_step HB.out hb); have K4 := Aside0.mk K; have L4 := Aside0.mk (show w.heap.size ≤ g from by rw [hg]; exact HB0.out.size); clear K hb hg HB0) | ((with_reducible refine gate_dst (N := 28) rfl ?_); refine Kd.event_run (v := .agg #[.int .u8 0, .int .u8 0, .int .u8 0, .int .u8 4, .int .u8 3, .int .u8 0, .int .u8 2]) (w1 := w4) rfl ?hr2 ?_; (case hr2 => kernel_rfl)) | ((with_reducible refine gate_dst (N := 30) rfl ?_); refine Kd.event_run (v := .int .u8 4) (w1 := w4) rfl ?hr2 ?_; (case hr2 => kernel_rfl)))
 have HB0 := HB
 go_upto_region 14 with (first | (go_at_call 78; (with_reducible refine (isa_Of.calls _ _ _ _ _ _ _ _ _ OF.out).mono ?_); rintro e wo ⟨rfl, hb⟩; replace HB := hbs_ HB hb; replace K4 := kbb_ K4 hb; replace HB0 := HB; clear hb) | ((with_reducible refine gate_dst (N := 8) rfl ?_); refine box_event ?hg (N := 8) ?hd (cs := #[.int .u8 0, .string (⟨#[]⟩ : ByteArray), .bool false, .int .u8 0, .int .i64 0, .int .i64 0]) (t := 41) ?hr ?_; (case hd => rfl); (case hg => rfl); (case hr => kernel_rfl); intro g8 hg w8 K hb; replace HB := hbs_ HB hb; have K8 := Aside0.mk K; have NE := Aside0.mk (show g8 ≠ g from by have := blk_lt K4.out; rw [hg]; omega); have L8 := Aside0.mk (show w.heap.size ≤ g8 from by rw [hg]; exact HB0.out.size); replace K4 := kbb_ K4 hb; clear K hb hg HB0) | (refine store_row_ rfl 41 (.tmp 8) (.tmp 37) rfl g8 rfl 41 _ #[.int .u8 o1, .string o2, .bool o3, .int .u8 o4, .int .i64 o5, .int .i64 o6] rfl K8.out ?hi ?hs ?h1 ?_; (case hi => kernel_rfl); (case hs => rfl); (case h1 => kernel_rfl)))
 replace HB := Aside0.mk (below_setRow HB.out L8.out #[.int .u8 o1, .string o2, .bool o3, .int .u8 o4, .int .i64 o5, .int .i64 o6])
 replace K4 := Aside0.mk (blk_row_far K4.out NE.out.symm #[.int .u8 o1, .string o2, .bool o3, .int .u8 o4, .int .i64 o5, .int .i64 o6])
 have K8b := Aside0.mk (blk_row K8.out #[.int .u8 o1, .string o2, .bool o3, .int .u8 o4, .int .i64 o5, .int .i64 o6])
 clear K8
 generalize World.setRow _ g8 #[.int .u8 o1, .string o2, .bool o3, .int .u8 o4, .int .i64 o5, .int .i64 o6] = wr at HB K4 K8b ⊢
 have x0 : wr.cell? ⟨g8, 0, none⟩ = some (.int .u8 o1) := (blk_cell K8b.out 0).trans rfl
 have x1 : wr.cell? ⟨g8, 1, none⟩ = some (.string o2) := (blk_cell K8b.out 1).trans rfl
 have x2 : wr.cell? ⟨g8, 2, none⟩ = some (.bool o3) := (blk_cell K8b.out 2).trans rfl
 have x3 : wr.cell? ⟨g8, 3, none⟩ = some (.int .u8 o4) := (blk_cell K8b.out 3).trans rfl
 have x4 : wr.cell? ⟨g8, 4, none⟩ = some (.int .i64 o5) := (blk_cell K8b.out 4).trans rfl
 have x5 : wr.cell? ⟨g8, 5, none⟩ = some (.int .i64 o6) := (blk_cell K8b.out 5).trans rfl
 have hfld := fld57_2
 refine start_ (n := 11) (S := fun w' => w'.cell? ⟨g8, 0, none⟩ = some (.int .u8 o1) ∧ w'.cell? ⟨g8, 1, none⟩ = some (.string o2) ∧ w'.cell? ⟨g8, 2, none⟩ = some (.bool o3) ∧ w'.cell? ⟨g8, 3, none⟩ = some (.int .u8 o4) ∧ w'.cell? ⟨g8, 4, none⟩ = some (.int .i64 o5) ∧ w'.cell? ⟨g8, 5, none⟩ = some (.int .i64 o6)) (ds := []) #[false, false, false, false, false, false, false, false, false, false, false] (by kernel_rfl) rfl rfl ⟨x0, x1, x2, x3, x4, x5⟩ (fun hHeld => ?_)
 replace HB : Aside0 (Below w.heap.size w wr.drew) := ⟨below_drew1 HB.out⟩
 replace K4 : Aside0 (wr.drew.heap[g]? = some (.cells #[.int .u8 0, .string (⟨#[]⟩ : ByteArray), .bool false, .int .u8 0, .int .i64 0, .int .i64 0] 41 (0, 0))) := ⟨blk_drew K4.out⟩
 change wr.drew.cell? _ = _ at x0
 change wr.drew.cell? _ = _ at x1
 change wr.drew.cell? _ = _ at x2
 change wr.drew.cell? _ = _ at x3
 change wr.drew.cell? _ = _ at x4
 change wr.drew.cell? _ = _ at x5
 generalize wr.drew = wd at HB K4 x0 x1 x2 x3 x4 x5 hHeld ⊢
 refine pvq_ 1 (some 40) rfl rfl ?_
 refine pvq_ 2 (some 41) rfl rfl ?_
 refine pvq_ 3 (some 42) rfl rfl ?_
 refine pvq_ 7 (some 46) rfl rfl ?_
 refine tkq_ 0 (some 39) rfl rfl hHeld ?_
 refine onq_ 4 (some 43) rfl rfl (fun K hK => ?_)
 refine goq_ Tryz.func79 #[.int .u8 4] ?_
 with_reducible refine (isa_row.calls _ _ _ _ _ _ RW.out).mono ?_
 rintro e w2 ⟨rfl, hbz⟩
 refine ⟨_, rfl, ?_⟩
 replace x0 := (hbz.cell (World.block_lt_of_cell? _ _ x0)).trans x0
 replace x1 := (hbz.cell (World.block_lt_of_cell? _ _ x1)).trans x1
 replace x2 := (hbz.cell (World.block_lt_of_cell? _ _ x2)).trans x2
 replace x3 := (hbz.cell (World.block_lt_of_cell? _ _ x3)).trans x3
 replace x4 := (hbz.cell (World.block_lt_of_cell? _ _ x4)).trans x4
 replace x5 := (hbz.cell (World.block_lt_of_cell? _ _ x5)).trans x5
 replace K4 := Aside0.mk (blk_below K4.out hbz)
 replace HB := Aside0.mk (below_step HB.out hbz)
 clear hbz
 refine hK.out _ _ ⟨x0, x1, x2, x3, x4, x5⟩ (fun hHeld => ?_)
 clear hK K
 refine nmq_ (some 43) ?_
 refine pvq_ 5 (some 44) rfl rfl ?_
 refine pvq_ 6 (some 45) rfl rfl ?_
 refine onq_ 8 none rfl rfl (fun K hK => ?_)
 refine skip_ (w1 := World.setRow w2 g #[.int .u8 o1, .string o2, .bool o3, .int .u8 o4, .int .i64 o5, .int .i64 o6]) (by rfl) rfl ?_ ?_
 · refine run_store_row 41 (.tmp 4) (.tmp 39) ?_ g ?_ 41 _ #[.int .u8 o1, .string o2, .bool o3, .int .u8 o4, .int .i64 o5, .int .i64 o6] ?_ K4.out (by kernel_rfl) rfl (by kernel_rfl)
   · rfl
   · rfl
   · rfl
 replace HB := Aside0.mk (below_setRow HB.out L4.out #[.int .u8 o1, .string o2, .bool o3, .int .u8 o4, .int .i64 o5, .int .i64 o6])
 replace K4 := Aside0.mk (blk_row K4.out #[.int .u8 o1, .string o2, .bool o3, .int .u8 o4, .int .i64 o5, .int .i64 o6])
 replace x0 := (cell_row_far x0 NE.out #[.int .u8 o1, .string o2, .bool o3, .int .u8 o4, .int .i64 o5, .int .i64 o6])
 replace x1 := (cell_row_far x1 NE.out #[.int .u8 o1, .string o2, .bool o3, .int .u8 o4, .int .i64 o5, .int .i64 o6])
 replace x2 := (cell_row_far x2 NE.out #[.int .u8 o1, .string o2, .bool o3, .int .u8 o4, .int .i64 o5, .int .i64 o6])
 replace x3 := (cell_row_far x3 NE.out #[.int .u8 o1, .string o2, .bool o3, .int .u8 o4, .int .i64 o5, .int .i64 o6])
 replace x4 := (cell_row_far x4 NE.out #[.int .u8 o1, .string o2, .bool o3, .int .u8 o4, .int .i64 o5, .int .i64 o6])
 replace x5 := (cell_row_far x5 NE.out #[.int .u8 o1, .string o2, .bool o3, .int .u8 o4, .int .i64 o5, .int .i64 o6])
 refine hK.out _ _ ⟨x0, x1, x2, x3, x4, x5⟩ (fun hHeld => ?_)
 clear hK K
 refine pvq_ 9 (some 5) rfl rfl ?_
 refine pvq_ 10 (some 6) rfl rfl ?_
 refine done_ (by kernel_rfl) ?_
 go_wp2
 refine bodyPost_ret (results_list (rs := [.cell 4 41, .tmp 5, .tmp 6]) rfl (by simp) (.cell g 41 #[.int .u8 o1, .string o2, .bool o3, .int .u8 o4, .int .i64 o5, .int .i64 o6] (0, 0) _ rfl K4.out Tryz.underlying41 rfl (by kernel_rfl) (.tmp (.tmp .nil)))) rfl ⟨rfl, HB.out⟩
theorem Decode_w4 (o1 : Int) (o2 : ByteArray) (o3 : Bool) (o4 o5 o6 o7 : Int) (b1 : ByteArray) (b2 b3 b4 : Int)  (ho : isa_Of.f 3 = some (o1, o2, o3, o4, o5, o6, o7)) (hr : isa_row.f 3 = some (b1, b2, b3, b4)) (w : World) :
 Calls Tryz.prog 45 #[.int .u16 4, .bool false] w fun e w' => e = .returned (.tuple #[.agg #[.int .u8 o1, .string o2, .bool o3, .int .u8 o4, .int .i64 o5, .int .i64 o6], .int .i64 (wrap64 (4 - b3)), .int .i64 o7]) ∧ Below w.heap.size w w' := by
 have HB0 := Aside0.mk (Below.refl w.heap.size w)
 have HB := HB0
 have e0 : wrap64 4 = 4 := w64_ (by decide) (by decide)
 have OF := Aside0.mk ho
 have RW := Aside0.mk hr
 clear ho hr
 go_enter Tryz.func45, Tryz.ntmps45
 go_upto_region 13 with (first | ((with_reducible refine gate_dst (N := 4) rfl ?_); refine box_event ?hg (N := 4) ?hd (cs := #[.int .u8 0, .string (⟨#[]⟩ : ByteArray), .bool false, .int .u8 0, .int .i64 0, .int .i64 0]) (t := 41) ?hr ?_; (case hd => rfl); (case hg => rfl); (case hr => kernel_rfl); intro g hg w4 K hb; have HB := Aside0.mk (below_step HB.out hb); have K4 := Aside0.mk K; have L4 := Aside0.mk (show w.heap.size ≤ g from by rw [hg]; exact HB0.out.size); clear K hb hg HB0) | ((with_reducible refine gate_dst (N := 28) rfl ?_); refine Kd.event_run (v := .agg #[.int .u8 0, .int .u8 0, .int .u8 0, .int .u8 4, .int .u8 3, .int .u8 0, .int .u8 2]) (w1 := w4) rfl ?hr2 ?_; (case hr2 => kernel_rfl)) | ((with_reducible refine gate_dst (N := 30) rfl ?_); refine Kd.event_run (v := .int .u8 3) (w1 := w4) rfl ?hr2 ?_; (case hr2 => kernel_rfl)))
 have HB0 := HB
 go_upto_region 14 with (first | (go_at_call 78; (with_reducible refine (isa_Of.calls _ _ _ _ _ _ _ _ _ OF.out).mono ?_); rintro e wo ⟨rfl, hb⟩; replace HB := hbs_ HB hb; replace K4 := kbb_ K4 hb; replace HB0 := HB; clear hb) | ((with_reducible refine gate_dst (N := 8) rfl ?_); refine box_event ?hg (N := 8) ?hd (cs := #[.int .u8 0, .string (⟨#[]⟩ : ByteArray), .bool false, .int .u8 0, .int .i64 0, .int .i64 0]) (t := 41) ?hr ?_; (case hd => rfl); (case hg => rfl); (case hr => kernel_rfl); intro g8 hg w8 K hb; replace HB := hbs_ HB hb; have K8 := Aside0.mk K; have NE := Aside0.mk (show g8 ≠ g from by have := blk_lt K4.out; rw [hg]; omega); have L8 := Aside0.mk (show w.heap.size ≤ g8 from by rw [hg]; exact HB0.out.size); replace K4 := kbb_ K4 hb; clear K hb hg HB0) | (refine store_row_ rfl 41 (.tmp 8) (.tmp 37) rfl g8 rfl 41 _ #[.int .u8 o1, .string o2, .bool o3, .int .u8 o4, .int .i64 o5, .int .i64 o6] rfl K8.out ?hi ?hs ?h1 ?_; (case hi => kernel_rfl); (case hs => rfl); (case h1 => kernel_rfl)))
 replace HB := Aside0.mk (below_setRow HB.out L8.out #[.int .u8 o1, .string o2, .bool o3, .int .u8 o4, .int .i64 o5, .int .i64 o6])
 replace K4 := Aside0.mk (blk_row_far K4.out NE.out.symm #[.int .u8 o1, .string o2, .bool o3, .int .u8 o4, .int .i64 o5, .int .i64 o6])
 have K8b := Aside0.mk (blk_row K8.out #[.int .u8 o1, .string o2, .bool o3, .int .u8 o4, .int .i64 o5, .int .i64 o6])
 clear K8
 generalize World.setRow _ g8 #[.int .u8 o1, .string o2, .bool o3, .int .u8 o4, .int .i64 o5, .int .i64 o6] = wr at HB K4 K8b ⊢
 have x0 : wr.cell? ⟨g8, 0, none⟩ = some (.int .u8 o1) := (blk_cell K8b.out 0).trans rfl
 have x1 : wr.cell? ⟨g8, 1, none⟩ = some (.string o2) := (blk_cell K8b.out 1).trans rfl
 have x2 : wr.cell? ⟨g8, 2, none⟩ = some (.bool o3) := (blk_cell K8b.out 2).trans rfl
 have x3 : wr.cell? ⟨g8, 3, none⟩ = some (.int .u8 o4) := (blk_cell K8b.out 3).trans rfl
 have x4 : wr.cell? ⟨g8, 4, none⟩ = some (.int .i64 o5) := (blk_cell K8b.out 4).trans rfl
 have x5 : wr.cell? ⟨g8, 5, none⟩ = some (.int .i64 o6) := (blk_cell K8b.out 5).trans rfl
 have hfld := fld57_2
 refine start_ (n := 11) (S := fun w' => w'.cell? ⟨g8, 0, none⟩ = some (.int .u8 o1) ∧ w'.cell? ⟨g8, 1, none⟩ = some (.string o2) ∧ w'.cell? ⟨g8, 2, none⟩ = some (.bool o3) ∧ w'.cell? ⟨g8, 3, none⟩ = some (.int .u8 o4) ∧ w'.cell? ⟨g8, 4, none⟩ = some (.int .i64 o5) ∧ w'.cell? ⟨g8, 5, none⟩ = some (.int .i64 o6)) (ds := []) #[false, false, false, false, false, false, false, false, false, false, false] (by kernel_rfl) rfl rfl ⟨x0, x1, x2, x3, x4, x5⟩ (fun hHeld => ?_)
 replace HB : Aside0 (Below w.heap.size w wr.drew) := ⟨below_drew1 HB.out⟩
 replace K4 : Aside0 (wr.drew.heap[g]? = some (.cells #[.int .u8 0, .string (⟨#[]⟩ : ByteArray), .bool false, .int .u8 0, .int .i64 0, .int .i64 0] 41 (0, 0))) := ⟨blk_drew K4.out⟩
 change wr.drew.cell? _ = _ at x0
 change wr.drew.cell? _ = _ at x1
 change wr.drew.cell? _ = _ at x2
 change wr.drew.cell? _ = _ at x3
 change wr.drew.cell? _ = _ at x4
 change wr.drew.cell? _ = _ at x5
 generalize wr.drew = wd at HB K4 x0 x1 x2 x3 x4 x5 hHeld ⊢
 refine pvq_ 1 (some 40) rfl rfl ?_
 refine pvq_ 2 (some 41) rfl rfl ?_
 refine pvq_ 3 (some 42) rfl rfl ?_
 refine pvq_ 7 (some 46) rfl rfl ?_
 refine tkq_ 0 (some 39) rfl rfl hHeld ?_
 refine onq_ 4 (some 43) rfl rfl (fun K hK => ?_)
 refine goq_ Tryz.func79 #[.int .u8 3] ?_
 with_reducible refine (isa_row.calls _ _ _ _ _ _ RW.out).mono ?_
 rintro e w2 ⟨rfl, hbz⟩
 refine ⟨_, rfl, ?_⟩
 replace x0 := (hbz.cell (World.block_lt_of_cell? _ _ x0)).trans x0
 replace x1 := (hbz.cell (World.block_lt_of_cell? _ _ x1)).trans x1
 replace x2 := (hbz.cell (World.block_lt_of_cell? _ _ x2)).trans x2
 replace x3 := (hbz.cell (World.block_lt_of_cell? _ _ x3)).trans x3
 replace x4 := (hbz.cell (World.block_lt_of_cell? _ _ x4)).trans x4
 replace x5 := (hbz.cell (World.block_lt_of_cell? _ _ x5)).trans x5
 replace K4 := Aside0.mk (blk_below K4.out hbz)
 replace HB := Aside0.mk (below_step HB.out hbz)
 clear hbz
 refine hK.out _ _ ⟨x0, x1, x2, x3, x4, x5⟩ (fun hHeld => ?_)
 clear hK K
 refine nmq_ (some 43) ?_
 refine pvq_ 5 (some 44) rfl rfl ?_
 refine pvq_ 6 (some 45) rfl rfl ?_
 refine onq_ 8 none rfl rfl (fun K hK => ?_)
 refine skip_ (w1 := World.setRow w2 g #[.int .u8 o1, .string o2, .bool o3, .int .u8 o4, .int .i64 o5, .int .i64 o6]) (by rfl) rfl ?_ ?_
 · refine run_store_row 41 (.tmp 4) (.tmp 39) ?_ g ?_ 41 _ #[.int .u8 o1, .string o2, .bool o3, .int .u8 o4, .int .i64 o5, .int .i64 o6] ?_ K4.out (by kernel_rfl) rfl (by kernel_rfl)
   · rfl
   · rfl
   · rfl
 replace HB := Aside0.mk (below_setRow HB.out L4.out #[.int .u8 o1, .string o2, .bool o3, .int .u8 o4, .int .i64 o5, .int .i64 o6])
 replace K4 := Aside0.mk (blk_row K4.out #[.int .u8 o1, .string o2, .bool o3, .int .u8 o4, .int .i64 o5, .int .i64 o6])
 replace x0 := (cell_row_far x0 NE.out #[.int .u8 o1, .string o2, .bool o3, .int .u8 o4, .int .i64 o5, .int .i64 o6])
 replace x1 := (cell_row_far x1 NE.out #[.int .u8 o1, .string o2, .bool o3, .int .u8 o4, .int .i64 o5, .int .i64 o6])
 replace x2 := (cell_row_far x2 NE.out #[.int .u8 o1, .string o2, .bool o3, .int .u8 o4, .int .i64 o5, .int .i64 o6])
 replace x3 := (cell_row_far x3 NE.out #[.int .u8 o1, .string o2, .bool o3, .int .u8 o4, .int .i64 o5, .int .i64 o6])
 replace x4 := (cell_row_far x4 NE.out #[.int .u8 o1, .string o2, .bool o3, .int .u8 o4, .int .i64 o5, .int .i64 o6])
 replace x5 := (cell_row_far x5 NE.out #[.int .u8 o1, .string o2, .bool o3, .int .u8 o4, .int .i64 o5, .int .i64 o6])
 refine hK.out _ _ ⟨x0, x1, x2, x3, x4, x5⟩ (fun hHeld => ?_)
 clear hK K
 refine pvq_ 9 (some 5) rfl rfl ?_
 refine pvq_ 10 (some 6) rfl rfl ?_
 refine done_ (by kernel_rfl) ?_
 go_wp2
 refine bodyPost_ret (results_list (rs := [.cell 4 41, .tmp 5, .tmp 6]) rfl (by simp) (.cell g 41 #[.int .u8 o1, .string o2, .bool o3, .int .u8 o4, .int .i64 o5, .int .i64 o6] (0, 0) _ rfl K4.out Tryz.underlying41 rfl (by kernel_rfl) (.tmp (.tmp .nil)))) rfl ⟨rfl, HB.out⟩
theorem Decode_w6 (o1 : Int) (o2 : ByteArray) (o3 : Bool) (o4 o5 o6 o7 : Int) (b1 : ByteArray) (b2 b3 b4 : Int)  (ho : isa_Of.f 2 = some (o1, o2, o3, o4, o5, o6, o7)) (hr : isa_row.f 2 = some (b1, b2, b3, b4)) (w : World) :
 Calls Tryz.prog 45 #[.int .u16 6, .bool false] w fun e w' => e = .returned (.tuple #[.agg #[.int .u8 o1, .string o2, .bool o3, .int .u8 o4, .int .i64 o5, .int .i64 o6], .int .i64 (wrap64 (6 - b3)), .int .i64 o7]) ∧ Below w.heap.size w w' := by
 have HB0 := Aside0.mk (Below.refl w.heap.size w)
 have HB := HB0
 have e0 : wrap64 6 = 6 := w64_ (by decide) (by decide)
 have OF := Aside0.mk ho
 have RW := Aside0.mk hr
 clear ho hr
 go_enter Tryz.func45, Tryz.ntmps45
 go_upto_region 13 with (first | ((with_reducible refine gate_dst (N := 4) rfl ?_); refine box_event ?hg (N := 4) ?hd (cs := #[.int .u8 0, .string (⟨#[]⟩ : ByteArray), .bool false, .int .u8 0, .int .i64 0, .int .i64 0]) (t := 41) ?hr ?_; (case hd => rfl); (case hg => rfl); (case hr => kernel_rfl); intro g hg w4 K hb; have HB := Aside0.mk (below_step HB.out hb); have K4 := Aside0.mk K; have L4 := Aside0.mk (show w.heap.size ≤ g from by rw [hg]; exact HB0.out.size); clear K hb hg HB0) | ((with_reducible refine gate_dst (N := 28) rfl ?_); refine Kd.event_run (v := .agg #[.int .u8 0, .int .u8 0, .int .u8 0, .int .u8 4, .int .u8 3, .int .u8 0, .int .u8 2]) (w1 := w4) rfl ?hr2 ?_; (case hr2 => kernel_rfl)) | ((with_reducible refine gate_dst (N := 30) rfl ?_); refine Kd.event_run (v := .int .u8 2) (w1 := w4) rfl ?hr2 ?_; (case hr2 => kernel_rfl)))
 have HB0 := HB
 go_upto_region 14 with (first | (go_at_call 78; (with_reducible refine (isa_Of.calls _ _ _ _ _ _ _ _ _ OF.out).mono ?_); rintro e wo ⟨rfl, hb⟩; replace HB := hbs_ HB hb; replace K4 := kbb_ K4 hb; replace HB0 := HB; clear hb) | ((with_reducible refine gate_dst (N := 8) rfl ?_); refine box_event ?hg (N := 8) ?hd (cs := #[.int .u8 0, .string (⟨#[]⟩ : ByteArray), .bool false, .int .u8 0, .int .i64 0, .int .i64 0]) (t := 41) ?hr ?_; (case hd => rfl); (case hg => rfl); (case hr => kernel_rfl); intro g8 hg w8 K hb; replace HB := hbs_ HB hb; have K8 := Aside0.mk K; have NE := Aside0.mk (show g8 ≠ g from by have := blk_lt K4.out; rw [hg]; omega); have L8 := Aside0.mk (show w.heap.size ≤ g8 from by rw [hg]; exact HB0.out.size); replace K4 := kbb_ K4 hb; clear K hb hg HB0) | (refine store_row_ rfl 41 (.tmp 8) (.tmp 37) rfl g8 rfl 41 _ #[.int .u8 o1, .string o2, .bool o3, .int .u8 o4, .int .i64 o5, .int .i64 o6] rfl K8.out ?hi ?hs ?h1 ?_; (case hi => kernel_rfl); (case hs => rfl); (case h1 => kernel_rfl)))
 replace HB := Aside0.mk (below_setRow HB.out L8.out #[.int .u8 o1, .string o2, .bool o3, .int .u8 o4, .int .i64 o5, .int .i64 o6])
 replace K4 := Aside0.mk (blk_row_far K4.out NE.out.symm #[.int .u8 o1, .string o2, .bool o3, .int .u8 o4, .int .i64 o5, .int .i64 o6])
 have K8b := Aside0.mk (blk_row K8.out #[.int .u8 o1, .string o2, .bool o3, .int .u8 o4, .int .i64 o5, .int .i64 o6])
 clear K8
 generalize World.setRow _ g8 #[.int .u8 o1, .string o2, .bool o3, .int .u8 o4, .int .i64 o5, .int .i64 o6] = wr at HB K4 K8b ⊢
 have x0 : wr.cell? ⟨g8, 0, none⟩ = some (.int .u8 o1) := (blk_cell K8b.out 0).trans rfl
 have x1 : wr.cell? ⟨g8, 1, none⟩ = some (.string o2) := (blk_cell K8b.out 1).trans rfl
 have x2 : wr.cell? ⟨g8, 2, none⟩ = some (.bool o3) := (blk_cell K8b.out 2).trans rfl
 have x3 : wr.cell? ⟨g8, 3, none⟩ = some (.int .u8 o4) := (blk_cell K8b.out 3).trans rfl
 have x4 : wr.cell? ⟨g8, 4, none⟩ = some (.int .i64 o5) := (blk_cell K8b.out 4).trans rfl
 have x5 : wr.cell? ⟨g8, 5, none⟩ = some (.int .i64 o6) := (blk_cell K8b.out 5).trans rfl
 have hfld := fld57_2
 refine start_ (n := 11) (S := fun w' => w'.cell? ⟨g8, 0, none⟩ = some (.int .u8 o1) ∧ w'.cell? ⟨g8, 1, none⟩ = some (.string o2) ∧ w'.cell? ⟨g8, 2, none⟩ = some (.bool o3) ∧ w'.cell? ⟨g8, 3, none⟩ = some (.int .u8 o4) ∧ w'.cell? ⟨g8, 4, none⟩ = some (.int .i64 o5) ∧ w'.cell? ⟨g8, 5, none⟩ = some (.int .i64 o6)) (ds := []) #[false, false, false, false, false, false, false, false, false, false, false] (by kernel_rfl) rfl rfl ⟨x0, x1, x2, x3, x4, x5⟩ (fun hHeld => ?_)
 replace HB : Aside0 (Below w.heap.size w wr.drew) := ⟨below_drew1 HB.out⟩
 replace K4 : Aside0 (wr.drew.heap[g]? = some (.cells #[.int .u8 0, .string (⟨#[]⟩ : ByteArray), .bool false, .int .u8 0, .int .i64 0, .int .i64 0] 41 (0, 0))) := ⟨blk_drew K4.out⟩
 change wr.drew.cell? _ = _ at x0
 change wr.drew.cell? _ = _ at x1
 change wr.drew.cell? _ = _ at x2
 change wr.drew.cell? _ = _ at x3
 change wr.drew.cell? _ = _ at x4
 change wr.drew.cell? _ = _ at x5
 generalize wr.drew = wd at HB K4 x0 x1 x2 x3 x4 x5 hHeld ⊢
 refine pvq_ 1 (some 40) rfl rfl ?_
 refine pvq_ 2 (some 41) rfl rfl ?_
 refine pvq_ 3 (some 42) rfl rfl ?_
 refine pvq_ 7 (some 46) rfl rfl ?_
 refine tkq_ 0 (some 39) rfl rfl hHeld ?_
 refine onq_ 4 (some 43) rfl rfl (fun K hK => ?_)
 refine goq_ Tryz.func79 #[.int .u8 2] ?_
 with_reducible refine (isa_row.calls _ _ _ _ _ _ RW.out).mono ?_
 rintro e w2 ⟨rfl, hbz⟩
 refine ⟨_, rfl, ?_⟩
 replace x0 := (hbz.cell (World.block_lt_of_cell? _ _ x0)).trans x0
 replace x1 := (hbz.cell (World.block_lt_of_cell? _ _ x1)).trans x1
 replace x2 := (hbz.cell (World.block_lt_of_cell? _ _ x2)).trans x2
 replace x3 := (hbz.cell (World.block_lt_of_cell? _ _ x3)).trans x3
 replace x4 := (hbz.cell (World.block_lt_of_cell? _ _ x4)).trans x4
 replace x5 := (hbz.cell (World.block_lt_of_cell? _ _ x5)).trans x5
 replace K4 := Aside0.mk (blk_below K4.out hbz)
 replace HB := Aside0.mk (below_step HB.out hbz)
 clear hbz
 refine hK.out _ _ ⟨x0, x1, x2, x3, x4, x5⟩ (fun hHeld => ?_)
 clear hK K
 refine nmq_ (some 43) ?_
 refine pvq_ 5 (some 44) rfl rfl ?_
 refine pvq_ 6 (some 45) rfl rfl ?_
 refine onq_ 8 none rfl rfl (fun K hK => ?_)
 refine skip_ (w1 := World.setRow w2 g #[.int .u8 o1, .string o2, .bool o3, .int .u8 o4, .int .i64 o5, .int .i64 o6]) (by rfl) rfl ?_ ?_
 · refine run_store_row 41 (.tmp 4) (.tmp 39) ?_ g ?_ 41 _ #[.int .u8 o1, .string o2, .bool o3, .int .u8 o4, .int .i64 o5, .int .i64 o6] ?_ K4.out (by kernel_rfl) rfl (by kernel_rfl)
   · rfl
   · rfl
   · rfl
 replace HB := Aside0.mk (below_setRow HB.out L4.out #[.int .u8 o1, .string o2, .bool o3, .int .u8 o4, .int .i64 o5, .int .i64 o6])
 replace K4 := Aside0.mk (blk_row K4.out #[.int .u8 o1, .string o2, .bool o3, .int .u8 o4, .int .i64 o5, .int .i64 o6])
 replace x0 := (cell_row_far x0 NE.out #[.int .u8 o1, .string o2, .bool o3, .int .u8 o4, .int .i64 o5, .int .i64 o6])
 replace x1 := (cell_row_far x1 NE.out #[.int .u8 o1, .string o2, .bool o3, .int .u8 o4, .int .i64 o5, .int .i64 o6])
 replace x2 := (cell_row_far x2 NE.out #[.int .u8 o1, .string o2, .bool o3, .int .u8 o4, .int .i64 o5, .int .i64 o6])
 replace x3 := (cell_row_far x3 NE.out #[.int .u8 o1, .string o2, .bool o3, .int .u8 o4, .int .i64 o5, .int .i64 o6])
 replace x4 := (cell_row_far x4 NE.out #[.int .u8 o1, .string o2, .bool o3, .int .u8 o4, .int .i64 o5, .int .i64 o6])
 replace x5 := (cell_row_far x5 NE.out #[.int .u8 o1, .string o2, .bool o3, .int .u8 o4, .int .i64 o5, .int .i64 o6])
 refine hK.out _ _ ⟨x0, x1, x2, x3, x4, x5⟩ (fun hHeld => ?_)
 clear hK K
 refine pvq_ 9 (some 5) rfl rfl ?_
 refine pvq_ 10 (some 6) rfl rfl ?_
 refine done_ (by kernel_rfl) ?_
 go_wp2
 refine bodyPost_ret (results_list (rs := [.cell 4 41, .tmp 5, .tmp 6]) rfl (by simp) (.cell g 41 #[.int .u8 o1, .string o2, .bool o3, .int .u8 o4, .int .i64 o5, .int .i64 o6] (0, 0) _ rfl K4.out Tryz.underlying41 rfl (by kernel_rfl) (.tmp (.tmp .nil)))) rfl ⟨rfl, HB.out⟩
theorem Decode_w20495 (o1 : Int) (o2 : ByteArray) (o3 : Bool) (o4 o5 o6 o7 : Int) (b1 : ByteArray) (b2 b3 b4 : Int)  (ho : isa_Of.f 14 = some (o1, o2, o3, o4, o5, o6, o7)) (hr : isa_row.f 14 = some (b1, b2, b3, b4)) (w : World) :
 Calls Tryz.prog 45 #[.int .u16 20495, .bool false] w fun e w' => e = .returned (.tuple #[.agg #[.int .u8 o1, .string o2, .bool o3, .int .u8 o4, .int .i64 o5, .int .i64 o6], .int .i64 (wrap64 (20495 - b3)), .int .i64 o7]) ∧ Below w.heap.size w w' := by
 have HB0 := Aside0.mk (Below.refl w.heap.size w)
 have HB := HB0
 have e0 : wrap64 20495 = 20495 := w64_ (by decide) (by decide)
 have OF := Aside0.mk ho
 have RW := Aside0.mk hr
 clear ho hr
 go_enter Tryz.func45, Tryz.ntmps45
 go_upto_region 13 with (first | ((with_reducible refine gate_dst (N := 4) rfl ?_); refine box_event ?hg (N := 4) ?hd (cs := #[.int .u8 0, .string (⟨#[]⟩ : ByteArray), .bool false, .int .u8 0, .int .i64 0, .int .i64 0]) (t := 41) ?hr ?_; (case hd => rfl); (case hg => rfl); (case hr => kernel_rfl); intro g hg w4 K hb; have HB := Aside0.mk (below_step HB.out hb); have K4 := Aside0.mk K; have L4 := Aside0.mk (show w.heap.size ≤ g from by rw [hg]; exact HB0.out.size); clear K hb hg HB0))
 have HB0 := HB
 go_upto_region 14 with (first | (go_at_call 78; (with_reducible refine (isa_Of.calls _ _ _ _ _ _ _ _ _ OF.out).mono ?_); rintro e wo ⟨rfl, hb⟩; replace HB := hbs_ HB hb; replace K4 := kbb_ K4 hb; replace HB0 := HB; clear hb) | ((with_reducible refine gate_dst (N := 8) rfl ?_); refine box_event ?hg (N := 8) ?hd (cs := #[.int .u8 0, .string (⟨#[]⟩ : ByteArray), .bool false, .int .u8 0, .int .i64 0, .int .i64 0]) (t := 41) ?hr ?_; (case hd => rfl); (case hg => rfl); (case hr => kernel_rfl); intro g8 hg w8 K hb; replace HB := hbs_ HB hb; have K8 := Aside0.mk K; have NE := Aside0.mk (show g8 ≠ g from by have := blk_lt K4.out; rw [hg]; omega); have L8 := Aside0.mk (show w.heap.size ≤ g8 from by rw [hg]; exact HB0.out.size); replace K4 := kbb_ K4 hb; clear K hb hg HB0) | (refine store_row_ rfl 41 (.tmp 8) (.tmp 37) rfl g8 rfl 41 _ #[.int .u8 o1, .string o2, .bool o3, .int .u8 o4, .int .i64 o5, .int .i64 o6] rfl K8.out ?hi ?hs ?h1 ?_; (case hi => kernel_rfl); (case hs => rfl); (case h1 => kernel_rfl)))
 replace HB := Aside0.mk (below_setRow HB.out L8.out #[.int .u8 o1, .string o2, .bool o3, .int .u8 o4, .int .i64 o5, .int .i64 o6])
 replace K4 := Aside0.mk (blk_row_far K4.out NE.out.symm #[.int .u8 o1, .string o2, .bool o3, .int .u8 o4, .int .i64 o5, .int .i64 o6])
 have K8b := Aside0.mk (blk_row K8.out #[.int .u8 o1, .string o2, .bool o3, .int .u8 o4, .int .i64 o5, .int .i64 o6])
 clear K8
 generalize World.setRow _ g8 #[.int .u8 o1, .string o2, .bool o3, .int .u8 o4, .int .i64 o5, .int .i64 o6] = wr at HB K4 K8b ⊢
 have x0 : wr.cell? ⟨g8, 0, none⟩ = some (.int .u8 o1) := (blk_cell K8b.out 0).trans rfl
 have x1 : wr.cell? ⟨g8, 1, none⟩ = some (.string o2) := (blk_cell K8b.out 1).trans rfl
 have x2 : wr.cell? ⟨g8, 2, none⟩ = some (.bool o3) := (blk_cell K8b.out 2).trans rfl
 have x3 : wr.cell? ⟨g8, 3, none⟩ = some (.int .u8 o4) := (blk_cell K8b.out 3).trans rfl
 have x4 : wr.cell? ⟨g8, 4, none⟩ = some (.int .i64 o5) := (blk_cell K8b.out 4).trans rfl
 have x5 : wr.cell? ⟨g8, 5, none⟩ = some (.int .i64 o6) := (blk_cell K8b.out 5).trans rfl
 have hfld := fld57_2
 refine start_ (n := 11) (S := fun w' => w'.cell? ⟨g8, 0, none⟩ = some (.int .u8 o1) ∧ w'.cell? ⟨g8, 1, none⟩ = some (.string o2) ∧ w'.cell? ⟨g8, 2, none⟩ = some (.bool o3) ∧ w'.cell? ⟨g8, 3, none⟩ = some (.int .u8 o4) ∧ w'.cell? ⟨g8, 4, none⟩ = some (.int .i64 o5) ∧ w'.cell? ⟨g8, 5, none⟩ = some (.int .i64 o6)) (ds := []) #[false, false, false, false, false, false, false, false, false, false, false] (by kernel_rfl) rfl rfl ⟨x0, x1, x2, x3, x4, x5⟩ (fun hHeld => ?_)
 replace HB : Aside0 (Below w.heap.size w wr.drew) := ⟨below_drew1 HB.out⟩
 replace K4 : Aside0 (wr.drew.heap[g]? = some (.cells #[.int .u8 0, .string (⟨#[]⟩ : ByteArray), .bool false, .int .u8 0, .int .i64 0, .int .i64 0] 41 (0, 0))) := ⟨blk_drew K4.out⟩
 change wr.drew.cell? _ = _ at x0
 change wr.drew.cell? _ = _ at x1
 change wr.drew.cell? _ = _ at x2
 change wr.drew.cell? _ = _ at x3
 change wr.drew.cell? _ = _ at x4
 change wr.drew.cell? _ = _ at x5
 generalize wr.drew = wd at HB K4 x0 x1 x2 x3 x4 x5 hHeld ⊢
 refine pvq_ 1 (some 40) rfl rfl ?_
 refine pvq_ 2 (some 41) rfl rfl ?_
 refine pvq_ 3 (some 42) rfl rfl ?_
 refine pvq_ 7 (some 46) rfl rfl ?_
 refine tkq_ 0 (some 39) rfl rfl hHeld ?_
 refine onq_ 4 (some 43) rfl rfl (fun K hK => ?_)
 refine goq_ Tryz.func79 #[.int .u8 14] ?_
 with_reducible refine (isa_row.calls _ _ _ _ _ _ RW.out).mono ?_
 rintro e w2 ⟨rfl, hbz⟩
 refine ⟨_, rfl, ?_⟩
 replace x0 := (hbz.cell (World.block_lt_of_cell? _ _ x0)).trans x0
 replace x1 := (hbz.cell (World.block_lt_of_cell? _ _ x1)).trans x1
 replace x2 := (hbz.cell (World.block_lt_of_cell? _ _ x2)).trans x2
 replace x3 := (hbz.cell (World.block_lt_of_cell? _ _ x3)).trans x3
 replace x4 := (hbz.cell (World.block_lt_of_cell? _ _ x4)).trans x4
 replace x5 := (hbz.cell (World.block_lt_of_cell? _ _ x5)).trans x5
 replace K4 := Aside0.mk (blk_below K4.out hbz)
 replace HB := Aside0.mk (below_step HB.out hbz)
 clear hbz
 refine hK.out _ _ ⟨x0, x1, x2, x3, x4, x5⟩ (fun hHeld => ?_)
 clear hK K
 refine nmq_ (some 43) ?_
 refine pvq_ 5 (some 44) rfl rfl ?_
 refine pvq_ 6 (some 45) rfl rfl ?_
 refine onq_ 8 none rfl rfl (fun K hK => ?_)
 refine skip_ (w1 := World.setRow w2 g #[.int .u8 o1, .string o2, .bool o3, .int .u8 o4, .int .i64 o5, .int .i64 o6]) (by rfl) rfl ?_ ?_
 · refine run_store_row 41 (.tmp 4) (.tmp 39) ?_ g ?_ 41 _ #[.int .u8 o1, .string o2, .bool o3, .int .u8 o4, .int .i64 o5, .int .i64 o6] ?_ K4.out (by kernel_rfl) rfl (by kernel_rfl)
   · rfl
   · rfl
   · rfl
 replace HB := Aside0.mk (below_setRow HB.out L4.out #[.int .u8 o1, .string o2, .bool o3, .int .u8 o4, .int .i64 o5, .int .i64 o6])
 replace K4 := Aside0.mk (blk_row K4.out #[.int .u8 o1, .string o2, .bool o3, .int .u8 o4, .int .i64 o5, .int .i64 o6])
 replace x0 := (cell_row_far x0 NE.out #[.int .u8 o1, .string o2, .bool o3, .int .u8 o4, .int .i64 o5, .int .i64 o6])
 replace x1 := (cell_row_far x1 NE.out #[.int .u8 o1, .string o2, .bool o3, .int .u8 o4, .int .i64 o5, .int .i64 o6])
 replace x2 := (cell_row_far x2 NE.out #[.int .u8 o1, .string o2, .bool o3, .int .u8 o4, .int .i64 o5, .int .i64 o6])
 replace x3 := (cell_row_far x3 NE.out #[.int .u8 o1, .string o2, .bool o3, .int .u8 o4, .int .i64 o5, .int .i64 o6])
 replace x4 := (cell_row_far x4 NE.out #[.int .u8 o1, .string o2, .bool o3, .int .u8 o4, .int .i64 o5, .int .i64 o6])
 replace x5 := (cell_row_far x5 NE.out #[.int .u8 o1, .string o2, .bool o3, .int .u8 o4, .int .i64 o5, .int .i64 o6])
 refine hK.out _ _ ⟨x0, x1, x2, x3, x4, x5⟩ (fun hHeld => ?_)
 clear hK K
 refine pvq_ 9 (some 5) rfl rfl ?_
 refine pvq_ 10 (some 6) rfl rfl ?_
 refine done_ (by kernel_rfl) ?_
 go_wp2
 refine bodyPost_ret (results_list (rs := [.cell 4 41, .tmp 5, .tmp 6]) rfl (by simp) (.cell g 41 #[.int .u8 o1, .string o2, .bool o3, .int .u8 o4, .int .i64 o5, .int .i64 o6] (0, 0) _ rfl K4.out Tryz.underlying41 rfl (by kernel_rfl) (.tmp (.tmp .nil)))) rfl ⟨rfl, HB.out⟩
theorem Decode_2 (k : Nat) (a0 : Int) (c : Int) (o1 : Int) (o2 : ByteArray) (o3 : Bool) (o4 o5 o6 o7 : Int) (b1 : ByteArray) (b2 b3 b4 : Int) (h0 : 0 ≤ a0) (h1 : a0 ≤ 32767) (n3 : a0 ≠ 3) (n4 : a0 ≠ 4) (n6 : a0 ≠ 6) (n5 : a0 ≠ 20495) (hf : isa_find.f k a0 1 19 = some c) (ho : isa_Of.f c = some (o1, o2, o3, o4, o5, o6, o7)) (hr : isa_row.f c = some (b1, b2, b3, b4)) (w : World) :
 Calls Tryz.prog 45 #[.int .u16 a0, .bool false] w fun e w' => e = .returned (.tuple #[.agg #[.int .u8 o1, .string o2, .bool o3, .int .u8 o4, .int .i64 o5, .int .i64 o6], .int .i64 (wrap64 (a0 - b3)), .int .i64 o7]) ∧ Below w.heap.size w w' := by
 have HB0 := Aside0.mk (Below.refl w.heap.size w)
 have HB := HB0
 have c0 : decide (32767 < a0) = false := decide_eq_false (by omega)
 have e0 : wrap64 a0 = a0 := w64_ (by omega) (by omega)
 have d3 : (a0 == 3) = false := by simpa using n3
 have d4 : (a0 == 4) = false := by simpa using n4
 have d6 : (a0 == 6) = false := by simpa using n6
 have d5 : (a0 == 20495) = false := by simpa using n5
 have FD := Aside0.mk hf
 clear h0 h1 hf n3 n4 n6 n5
 have OF := Aside0.mk ho
 have RW := Aside0.mk hr
 clear ho hr
 go_enter Tryz.func45, Tryz.ntmps45
 go_upto_region 13 with (first | ((with_reducible refine gate_dst (N := 4) rfl ?_); refine box_event ?hg (N := 4) ?hd (cs := #[.int .u8 0, .string (⟨#[]⟩ : ByteArray), .bool false, .int .u8 0, .int .i64 0, .int .i64 0]) (t := 41) ?hr ?_; (case hd => rfl); (case hg => rfl); (case hr => kernel_rfl); intro g hg w4 K hb; have HB := Aside0.mk (below_step HB.out hb); have K4 := Aside0.mk K; have L4 := Aside0.mk (show w.heap.size ≤ g from by rw [hg]; exact HB0.out.size); clear K hb hg HB0) | (go_at_call 77; (with_reducible refine (isa_find.calls k a0 1 19 c _ FD.out).mono ?_); rintro e wf ⟨rfl, hb⟩; replace HB := hbs_ HB hb; replace K4 := kbb_ K4 hb; clear hb))
 have HB0 := HB
 go_upto_region 14 with (first | (go_at_call 78; (with_reducible refine (isa_Of.calls _ _ _ _ _ _ _ _ _ OF.out).mono ?_); rintro e wo ⟨rfl, hb⟩; replace HB := hbs_ HB hb; replace K4 := kbb_ K4 hb; replace HB0 := HB; clear hb) | ((with_reducible refine gate_dst (N := 8) rfl ?_); refine box_event ?hg (N := 8) ?hd (cs := #[.int .u8 0, .string (⟨#[]⟩ : ByteArray), .bool false, .int .u8 0, .int .i64 0, .int .i64 0]) (t := 41) ?hr ?_; (case hd => rfl); (case hg => rfl); (case hr => kernel_rfl); intro g8 hg w8 K hb; replace HB := hbs_ HB hb; have K8 := Aside0.mk K; have NE := Aside0.mk (show g8 ≠ g from by have := blk_lt K4.out; rw [hg]; omega); have L8 := Aside0.mk (show w.heap.size ≤ g8 from by rw [hg]; exact HB0.out.size); replace K4 := kbb_ K4 hb; clear K hb hg HB0) | (refine store_row_ rfl 41 (.tmp 8) (.tmp 37) rfl g8 rfl 41 _ #[.int .u8 o1, .string o2, .bool o3, .int .u8 o4, .int .i64 o5, .int .i64 o6] rfl K8.out ?hi ?hs ?h1 ?_; (case hi => kernel_rfl); (case hs => rfl); (case h1 => kernel_rfl)))
 replace HB := Aside0.mk (below_setRow HB.out L8.out #[.int .u8 o1, .string o2, .bool o3, .int .u8 o4, .int .i64 o5, .int .i64 o6])
 replace K4 := Aside0.mk (blk_row_far K4.out NE.out.symm #[.int .u8 o1, .string o2, .bool o3, .int .u8 o4, .int .i64 o5, .int .i64 o6])
 have K8b := Aside0.mk (blk_row K8.out #[.int .u8 o1, .string o2, .bool o3, .int .u8 o4, .int .i64 o5, .int .i64 o6])
 clear K8
 generalize World.setRow _ g8 #[.int .u8 o1, .string o2, .bool o3, .int .u8 o4, .int .i64 o5, .int .i64 o6] = wr at HB K4 K8b ⊢
 have x0 : wr.cell? ⟨g8, 0, none⟩ = some (.int .u8 o1) := (blk_cell K8b.out 0).trans rfl
 have x1 : wr.cell? ⟨g8, 1, none⟩ = some (.string o2) := (blk_cell K8b.out 1).trans rfl
 have x2 : wr.cell? ⟨g8, 2, none⟩ = some (.bool o3) := (blk_cell K8b.out 2).trans rfl
 have x3 : wr.cell? ⟨g8, 3, none⟩ = some (.int .u8 o4) := (blk_cell K8b.out 3).trans rfl
 have x4 : wr.cell? ⟨g8, 4, none⟩ = some (.int .i64 o5) := (blk_cell K8b.out 4).trans rfl
 have x5 : wr.cell? ⟨g8, 5, none⟩ = some (.int .i64 o6) := (blk_cell K8b.out 5).trans rfl
 have hfld := fld57_2
 refine start_ (n := 11) (S := fun w' => w'.cell? ⟨g8, 0, none⟩ = some (.int .u8 o1) ∧ w'.cell? ⟨g8, 1, none⟩ = some (.string o2) ∧ w'.cell? ⟨g8, 2, none⟩ = some (.bool o3) ∧ w'.cell? ⟨g8, 3, none⟩ = some (.int .u8 o4) ∧ w'.cell? ⟨g8, 4, none⟩ = some (.int .i64 o5) ∧ w'.cell? ⟨g8, 5, none⟩ = some (.int .i64 o6)) (ds := []) #[false, false, false, false, false, false, false, false, false, false, false] (by kernel_rfl) rfl rfl ⟨x0, x1, x2, x3, x4, x5⟩ (fun hHeld => ?_)
 replace HB : Aside0 (Below w.heap.size w wr.drew) := ⟨below_drew1 HB.out⟩
 replace K4 : Aside0 (wr.drew.heap[g]? = some (.cells #[.int .u8 0, .string (⟨#[]⟩ : ByteArray), .bool false, .int .u8 0, .int .i64 0, .int .i64 0] 41 (0, 0))) := ⟨blk_drew K4.out⟩
 change wr.drew.cell? _ = _ at x0
 change wr.drew.cell? _ = _ at x1
 change wr.drew.cell? _ = _ at x2
 change wr.drew.cell? _ = _ at x3
 change wr.drew.cell? _ = _ at x4
 change wr.drew.cell? _ = _ at x5
 generalize wr.drew = wd at HB K4 x0 x1 x2 x3 x4 x5 hHeld ⊢
 refine pvq_ 1 (some 40) rfl rfl ?_
 refine pvq_ 2 (some 41) rfl rfl ?_
 refine pvq_ 3 (some 42) rfl rfl ?_
 refine pvq_ 7 (some 46) rfl rfl ?_
 refine tkq_ 0 (some 39) rfl rfl hHeld ?_
 refine onq_ 4 (some 43) rfl rfl (fun K hK => ?_)
 refine goq_ Tryz.func79 #[.int .u8 c] ?_
 with_reducible refine (isa_row.calls _ _ _ _ _ _ RW.out).mono ?_
 rintro e w2 ⟨rfl, hbz⟩
 refine ⟨_, rfl, ?_⟩
 replace x0 := (hbz.cell (World.block_lt_of_cell? _ _ x0)).trans x0
 replace x1 := (hbz.cell (World.block_lt_of_cell? _ _ x1)).trans x1
 replace x2 := (hbz.cell (World.block_lt_of_cell? _ _ x2)).trans x2
 replace x3 := (hbz.cell (World.block_lt_of_cell? _ _ x3)).trans x3
 replace x4 := (hbz.cell (World.block_lt_of_cell? _ _ x4)).trans x4
 replace x5 := (hbz.cell (World.block_lt_of_cell? _ _ x5)).trans x5
 replace K4 := Aside0.mk (blk_below K4.out hbz)
 replace HB := Aside0.mk (below_step HB.out hbz)
 clear hbz
 refine hK.out _ _ ⟨x0, x1, x2, x3, x4, x5⟩ (fun hHeld => ?_)
 clear hK K
 refine nmq_ (some 43) ?_
 refine pvq_ 5 (some 44) rfl rfl ?_
 refine pvq_ 6 (some 45) rfl rfl ?_
 refine onq_ 8 none rfl rfl (fun K hK => ?_)
 refine skip_ (w1 := World.setRow w2 g #[.int .u8 o1, .string o2, .bool o3, .int .u8 o4, .int .i64 o5, .int .i64 o6]) (by rfl) rfl ?_ ?_
 · refine run_store_row 41 (.tmp 4) (.tmp 39) ?_ g ?_ 41 _ #[.int .u8 o1, .string o2, .bool o3, .int .u8 o4, .int .i64 o5, .int .i64 o6] ?_ K4.out (by kernel_rfl) rfl (by kernel_rfl)
   · rfl
   · rfl
   · rfl
 replace HB := Aside0.mk (below_setRow HB.out L4.out #[.int .u8 o1, .string o2, .bool o3, .int .u8 o4, .int .i64 o5, .int .i64 o6])
 replace K4 := Aside0.mk (blk_row K4.out #[.int .u8 o1, .string o2, .bool o3, .int .u8 o4, .int .i64 o5, .int .i64 o6])
 replace x0 := (cell_row_far x0 NE.out #[.int .u8 o1, .string o2, .bool o3, .int .u8 o4, .int .i64 o5, .int .i64 o6])
 replace x1 := (cell_row_far x1 NE.out #[.int .u8 o1, .string o2, .bool o3, .int .u8 o4, .int .i64 o5, .int .i64 o6])
 replace x2 := (cell_row_far x2 NE.out #[.int .u8 o1, .string o2, .bool o3, .int .u8 o4, .int .i64 o5, .int .i64 o6])
 replace x3 := (cell_row_far x3 NE.out #[.int .u8 o1, .string o2, .bool o3, .int .u8 o4, .int .i64 o5, .int .i64 o6])
 replace x4 := (cell_row_far x4 NE.out #[.int .u8 o1, .string o2, .bool o3, .int .u8 o4, .int .i64 o5, .int .i64 o6])
 replace x5 := (cell_row_far x5 NE.out #[.int .u8 o1, .string o2, .bool o3, .int .u8 o4, .int .i64 o5, .int .i64 o6])
 refine hK.out _ _ ⟨x0, x1, x2, x3, x4, x5⟩ (fun hHeld => ?_)
 clear hK K
 refine pvq_ 9 (some 5) rfl rfl ?_
 refine pvq_ 10 (some 6) rfl rfl ?_
 refine done_ (by kernel_rfl) ?_
 go_wp2
 refine bodyPost_ret (results_list (rs := [.cell 4 41, .tmp 5, .tmp 6]) rfl (by simp) (.cell g 41 #[.int .u8 o1, .string o2, .bool o3, .int .u8 o4, .int .i64 o5, .int .i64 o6] (0, 0) _ rfl K4.out Tryz.underlying41 rfl (by kernel_rfl) (.tmp (.tmp .nil)))) rfl ⟨rfl, HB.out⟩
theorem Decode_0 (a0 : Int) (a1 : Bool) (h : a0 > 32767) (w : World) :
 Calls Tryz.prog 45 #[.int .u16 a0, .bool a1] w fun e w' => e = .returned (.tuple #[.agg #[.int .u8 0, .string (⟨#[]⟩ : ByteArray), .bool false, .int .u8 0, .int .i64 0, .int .i64 0], .int .i64 0, .int .i64 3]) ∧ Below w.heap.size w w' := by
 have HB0 := Aside0.mk (Below.refl w.heap.size w)
 have HB := HB0
 have c0 : decide (32767 < a0) = true := decide_eq_true h
 clear h
 go_enter Tryz.func45, Tryz.ntmps45
 go_wp2_with (first | ((with_reducible refine gate_dst (N := 4) rfl ?_); refine box_event ?hg (N := 4) ?hd (cs := #[.int .u8 0, .string (⟨#[]⟩ : ByteArray), .bool false, .int .u8 0, .int .i64 0, .int .i64 0]) (t := 41) ?hr ?_; (case hd => rfl); (case hg => rfl); (case hr => kernel_rfl); intro g hg w4 K hb; have HB := Aside0.mk (below_step HB.out hb); have K4 := Aside0.mk K; have L4 := Aside0.mk (show w.heap.size ≤ g from by rw [hg]; exact HB0.out.size); clear K hb hg HB0) | ((with_reducible refine gate_dst (N := 12) rfl ?_); refine Kd.event_run (v := .agg #[.int .u8 0, .string (⟨#[]⟩ : ByteArray), .bool false, .int .u8 0, .int .i64 0, .int .i64 0]) (w1 := w4) rfl ?hr2 ?_; (case hr2 => kernel_rfl)) | (refine store_row_ rfl 41 (.tmp 4) (.tmp 12) rfl g rfl 41 _ #[.int .u8 0, .string (⟨#[]⟩ : ByteArray), .bool false, .int .u8 0, .int .i64 0, .int .i64 0] rfl K4.out ?hi ?hs ?h1 ?_; (case hi => kernel_rfl); (case hs => rfl); (case h1 => kernel_rfl)))
 refine bodyPost_ret (results_list (rs := [.cell 4 41, .tmp 5, .tmp 6]) rfl (by simp) (.cell g 41 #[.int .u8 0, .string (⟨#[]⟩ : ByteArray), .bool false, .int .u8 0, .int .i64 0, .int .i64 0] (0, 0) _ rfl (blk_row K4.out _) Tryz.underlying41 rfl (by kernel_rfl) (.tmp (.tmp .nil)))) rfl ⟨rfl, below_setRow HB.out L4.out _⟩
theorem isa_Decode.calls (k : Nat) (a0 : Int) (a1 : Bool) (r1 : Int) (r2 : ByteArray) (r3 : Bool) (r4 : Int) (r5 : Int) (r6 : Int) (r7 : Int) (r8 : Int) (w : World) (h : isa_Decode.f k a0 a1 = some (r1, r2, r3, r4, r5, r6, r7, r8)) :
 Calls Tryz.prog 45 #[.int .u16 a0, .bool a1] w fun e w' => e = .returned (.tuple #[.agg #[.int .u8 r1, .string r2, .bool r3, .int .u8 r4, .int .i64 r5, .int .i64 r6], .int .i64 r7, .int .i64 r8]) ∧ Below w.heap.size w w' := by
 unfold isa_Decode.f at h
 by_cases hc : a0 > 32767
 · rw [if_pos hc] at h
   cases h
   exact Decode_0 a0 a1 hc w
 rw [if_neg hc] at h
 by_cases h0 : 0 ≤ a0
 case neg => rw [if_neg h0] at h; cases h
 rw [if_pos h0] at h
 obtain ⟨c, hd, h⟩ := Option.bind_eq_some_iff.mp h
 obtain ⟨⟨o1, o2, o3, o4, o5, o6, o7⟩, ho, h⟩ := Option.bind_eq_some_iff.mp h
 obtain ⟨⟨b1, b2, b3, b4⟩, hr, h⟩ := Option.bind_eq_some_iff.mp h
 cases h
 unfold decC at hd
 cases a1 with
 | true => rw [if_pos rfl] at hd; exact Decode_1 k a0 c _ _ _ _ _ _ _ _ _ _ _ h0 (by omega) hd ho hr w
 | false =>
  rw [if_neg (by decide)] at hd
  by_cases n3 : a0 = 3
  · rw [if_pos n3] at hd; cases hd; subst n3; exact Decode_w3 _ _ _ _ _ _ _ _ _ _ _ ho hr w
  rw [if_neg n3] at hd
  by_cases n4 : a0 = 4
  · rw [if_pos n4] at hd; cases hd; subst n4; exact Decode_w4 _ _ _ _ _ _ _ _ _ _ _ ho hr w
  rw [if_neg n4] at hd
  by_cases n6 : a0 = 6
  · rw [if_pos n6] at hd; cases hd; subst n6; exact Decode_w6 _ _ _ _ _ _ _ _ _ _ _ ho hr w
  rw [if_neg n6] at hd
  by_cases n5 : a0 = 20495
  · rw [if_pos n5] at hd; cases hd; subst n5; exact Decode_w20495 _ _ _ _ _ _ _ _ _ _ _ ho hr w
  rw [if_neg n5] at hd
  exact Decode_2 k a0 c _ _ _ _ _ _ _ _ _ _ _ h0 (by omega) n3 n4 n6 n5 hd ho hr w
end Go.Proofs.YthfobpkdloejfaaGreat.PAll
end
