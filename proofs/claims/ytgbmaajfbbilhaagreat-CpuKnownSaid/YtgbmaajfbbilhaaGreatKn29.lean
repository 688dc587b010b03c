/- Chapter 5: a part of its proof (cut by program out of IsaF, IsaD, FY); no condition. -/
import Derived.Maps.OwnOps
import Derived.Maps.Views
import Derived.Test.YtgbmaajfbbilhaaGreatKn20
import Derived.Test.YtgbmaajfbbilhaaGreatKn28
set_option linter.unusedVariables false
set_option linter.unusedSimpArgs false
set_option linter.unusedSectionVars false
set_option maxRecDepth 100000
set_option maxHeartbeats 8000000
section
namespace Go.Proofs.YtgbmaajfbbilhaaGreat.PAll
open Go.RowKit Go.Proofs.YtgbmaajfbbilhaaGreat.Row Go.Proofs.YtgbmaajfbbilhaaGreatW.PrintWords Go.Proofs.YtgbmaajfbbilhaaGreatW.PrintLast Go.Proofs.YtgbmaajfbbilhaaGreatW.PrintMore
open Go.Maps Go.WideMaps
def NAMES : List ByteArray := ENT.map (·.1)
def nmL (k : Nat) : List UInt8 := (NAMES.getD k ByteArray.empty).data.toList
def Dm : Nat → DataW Unit
 | 0 => .map []
 | k + 1 => (Dm k).put (.string (nmL k)) (.lit (.int .u8 ((k : Int) + 1)))
def codeD : Nat → List UInt8 → Int
 | 0, _ => 0
 | k + 1, l => if l = nmL k then (k : Int) + 1 else codeD k l
theorem Dm_map : ∀ k, IsMap (Dm k)
 | 0 => ⟨_, rfl⟩
 | k + 1 => by
  obtain ⟨es, he⟩ := Dm_map k
  exact ⟨_, by rw [Dm, he]; rfl⟩
theorem Dm_at (l : List UInt8) : ∀ k, (Dm k).atKey (.string l) (.lit (.int .u8 0)) = .lit (.int .u8 (codeD k l))
 | 0 => rfl
 | k + 1 => by
  rw [Dm, codeD]
  by_cases h : l = nmL k
  · rw [if_pos h, h]
    exact atKey_put_same (Dm_map k) (by simp [WideAt.IsKeyLit]) _ _
  · rw [if_neg h, atKey_put_other (fun e => h (by simpa using e)), Dm_at l k]
theorem names_f : isa_Names.f 41 = some NAMES := by kernel_rfl
theorem law9 : Keyed Tryz.prog 9 := string_keyed Tryz.underlying9
theorem zero22 (w : World) : (zeroValue 32).run Tryz.prog w = .ok (.int .u8 0) w := by kernel_rfl
theorem key9 (s : ByteArray) (h : s.size ≤ maxLen) : keyOf Tryz.prog 9 (.string s) = some (.string s.data.toList) := keyOf_string_mk Tryz.underlying9 h
theorem names_len : NAMES.length = 39 := by kernel_rfl
theorem names_size : ∀ s ∈ NAMES, s.size ≤ maxLen := by
 have h : NAMES.all (fun s => decide (s.size ≤ 100)) = true := by kernel_rfl
 intro s hs
 have := of_decide_eq_true (List.all_eq_true.1 h s hs)
 unfold maxLen; omega
theorem names_at (k : Nat) : (NAMES.getD k ByteArray.empty).size ≤ maxLen := by
 by_cases h : k < NAMES.length
 · rw [List.getD_eq_getElem?_getD, List.getElem?_eq_getElem h]
   exact names_size _ (List.getElem_mem h)
 · rw [List.getD_eq_getElem?_getD, List.getElem?_eq_none (by omega)]
   decide
theorem wf_u8 {a : Int} (h0 : 0 ≤ a) (h1 : a < 256) : (Lit.int .u8 a).wf = true := by
 simp [Lit.wf, IntKind.min, IntKind.max, IntKind.signed, IntKind.bits]; omega
theorem own_base {w : World} {base n : Nat} {e : TypeId} {size : Nat} {ad : Addr} {c : Nat} {xs : List Value} (h : w.ownsRow base e size (.slice (some ad) n c) n xs) : base ≤ ad.block := by
 rcases h.2 with ⟨h1, _⟩ | ⟨g, cap, cur, h1, h2, _⟩
 · cases h1
 · injection h1 with e1 _ _
   injection e1 with e1
   subst e1
   exact h2
theorem _root_.Go.World.ownsMap.below_ {H : Type} {w w1 : World} {P : Program} {k : TypeId} {R : Value → Option (DataW H × List MemPlace)} {b n : Nat} {D : DataW H} (h : w.ownsMap P k R b n D) (hb : Below w.heap.size w w1) : w1.ownsMap P k R b n D := by
 obtain ⟨es, clock, hh, r⟩ := h
 exact ⟨es, clock, (hb.block b (blk_lt hh)).trans hh, r⟩
theorem KeepBut.of_grown_ {w w1 : World} {b : Nat} (h : w.grownBy w1 (some b)) : KeepBut w w1 b none := ⟨h.size, fun i hi hne _ => h.block i hi (by simpa using hne)⟩
theorem index_c (w : World) : Calls Tryz.prog 182 #[] w fun e w' => e = .returned (.map (some w.heap.size)) ∧ w'.ownsMap Tryz.prog 9 (plainElem (H := Unit) Tryz.prog 32) w.heap.size 39 (Dm 39) ∧ Below w.heap.size w w' := by
 have hmm := @run_makeMap Tryz.prog
 go_enter Tryz.func182, Tryz.ntmps182
 go_wp2_with (go_at_call 232; (with_reducible refine (isa_Names.calls 41 NAMES _ names_f).mono ?_); rintro e w1 ⟨v, rfl, hR, hb⟩; obtain ⟨A, c, rfl, hc, hC⟩ := Kd.R_reads hR; have HB := Aside0.mk hb; have HR := Aside0.mk hR; have HC := Aside0.mk hC; clear hb hR hC)
 obtain ⟨ad, eA, hx0⟩ := Kd.at_string HC.out 0 (by omega) (by rw [names_len]; omega)
 subst eA
 have hne : ad.block ≠ w.heap.size := by
  have h := HR.out
  obtain ⟨inner, ho⟩ := Kd.R_own h
  have hb0 := own_base ho
  simp only [World.size_alloc] at hb0
  omega
 clear hx0
 have HN := Aside0.mk hne
 clear hne
 have HM : w1.ownsMap Tryz.prog 9 (plainElem (H := Unit) Tryz.prog 32) w.heap.size 0 (Dm 0) := (World.ownsMap_made w Tryz.prog _ _).below_ HB.out
 have HW := Aside0.mk ((below_alloc (Below.refl w.heap.size w) _).trans (HB.out.mono (by simp)))
 clear HB HR
 rw [names_len] at HC ⊢
 rw [show ((39 : Nat) : Int) = 39 from rfl]
 go_loopw [7] (fun i wr => ∃ k : Nat, k ≤ 39 ∧ i = .int .i64 k ∧ Aside0 (wr.ownsMap Tryz.prog 9 (plainElem (H := Unit) Tryz.prog 32) w.heap.size k (Dm k)) ∧ Aside0 (Below w.heap.size w wr) ∧ Aside0 (Kd.C Kd.string wr (some ad) 39 NAMES))
  (fun i _ => 39 - (intOf i).toNat)
 case atStart => exact ⟨0, by omega, rfl, ⟨HM⟩, HW, HC⟩
 case round =>
  clear HM HW HC
  obtain ⟨k, hk, rfl, HM, HW, HC⟩ := hrel
  by_cases hlt : k < 39
  · obtain ⟨ad2, e2, hx⟩ := Kd.at_string HC.out (k : Int) (by omega) (by omega)
    injection e2 with e3
    subst e3
    rw [Int.toNat_natCast] at hx
    have hs : rdOf ByteArray.empty NAMES (k : Int) = NAMES.getD k ByteArray.empty := by simp [rdOf]
    rw [hs] at hx
    clear hs
    have hkey : keyOf Tryz.prog 9 (.string (NAMES.getD k ByteArray.empty)) = some (.string (nmL k)) := key9 _ (names_at k)
    obtain ⟨s, hsn⟩ : ∃ s, NAMES.getD k ByteArray.empty = s := ⟨_, rfl⟩
    rw [hsn] at hx hkey
    clear hsn
    have HK := Lib.hid hkey
    clear hkey
    have ew : IntKind.u8.wrap ((k : Int) + 1) = (k : Int) + 1 := by rw [IntKind.wrap_u8]; omega
    go_wp2_with (first | (at_mapUpdate; refine wpList_mapUpdate_own _ rfl _ _ _ 199 rfl 9 32 law9 Tryz.underlying199 _ w.heap.size k _ rfl HM.out ?hn _ _ _ rfl rfl HK.out _ [] (plainElem_int Tryz.underlying32 ?hw) ?_; (case hn => (unfold maxLen; omega)); (case hw => exact wf_u8 (by omega) (by omega)); intro w2 hm hg; have n1 := Aside0.mk hm; have n2 := Aside0.mk (HW.out.grown hg HW.out.size (fun j hj => by cases hj; exact Nat.le_refl _)); have n3 := Aside0.mk (Kd.C_keep ByteArray.empty HC.out (KeepBut.of_grown_ hg) (fun a e _ => by cases e; exact HN.out)); clear HM HW HC hm hg hx ew))
    go_roundw
    case rel => exact ⟨k + 1, by omega, by go_num, n1, n2, n3⟩
    case measure => simp [intOf]; omega
  · obtain rfl : k = 39 := by omega
    go_wp2
    go_ret
    exact ⟨rfl, HM.out, HW.out⟩
def isa_Find.f (k : Nat) (a0 : ByteArray) : Option (Int × ByteArray × Bool × Int × Int × Int × Int) := if a0.size ≤ 140737488351232 then isa_Of.f (codeD 39 a0.data.toList) else none
theorem isa_Find.calls (k : Nat) (a0 : ByteArray) (r1 : Int) (r2 : ByteArray) (r3 : Bool) (r4 : Int) (r5 : Int) (r6 : Int) (r7 : Int) (w : World) (h : isa_Find.f k a0 = some (r1, r2, r3, r4, r5, r6, r7)) :
 Calls Tryz.prog 67 #[.string a0] w fun e w' => e = .returned (.tuple #[.agg #[.int .u8 r1, .string r2, .bool r3, .int .u8 r4, .int .i64 r5, .int .i64 r6], .int .i64 r7]) ∧ Below w.heap.size w w' := by
 have HB := Aside0.mk (Below.refl w.heap.size w)
 unfold isa_Find.f at h
 split at h
 case isFalse => cases h
 rename_i hs
 have H := Aside0.mk h
 have HK := Aside0.mk (key9 a0 (by unfold maxLen; omega))
 clear h hs
 go_enter Tryz.func67, Tryz.ntmps67
 go_wp2_with (first | ((with_reducible refine gate_dst (N := 2) rfl ?_); refine box_event ?hg (N := 2) ?hd (cs := #[.int .u8 0, .string (⟨#[]⟩ : ByteArray), .bool false, .int .u8 0, .int .i64 0, .int .i64 0]) (t := 119) ?hr ?_; (case hd => rfl); (case hg => rfl); (case hr => kernel_rfl); intro g hg w1 K hb; have H1 := Aside0.mk (below_step HB.out hb); have HG := Aside0.mk K; have Hg := Aside0.mk hg; clear K hb hg HB) | (go_at_call 182; (with_reducible refine (index_c _).mono ?_); rintro e w2 ⟨rfl, hm, hb⟩; have H2 := Aside0.mk (below_step H1.out hb); have HG2 := Aside0.mk (blk_below HG.out hb); have HM := Aside0.mk hm; clear hb hm H1 HG) | (at_lookup; refine wpList_lookup_own_int _ rfl _ _ 199 rfl 9 32 .u8 law9 Tryz.underlying199 Tryz.underlying32 (zero22 _) _ 39 _ rfl HM.out _ _ rfl HK.out ?_; intro c hat hwc; rw [Dm_at] at hat; injection hat with h1; injection h1 with h2 h3; subst h3; clear hwc h2) | (go_at_call 181; (with_reducible refine (isa_Of.calls _ _ _ _ _ _ _ _ _ H.out).mono ?_); rintro e w3 ⟨rfl, hb⟩; have H3 := Aside0.mk (below_step H2.out hb); have HG3 := Aside0.mk (blk_below HG2.out hb); clear hb HM H2 HG2) | (refine store_row_ rfl 119 (.tmp 2) (.tmp 8) rfl g rfl 119 _ #[.int .u8 r1, .string r2, .bool r3, .int .u8 r4, .int .i64 r5, .int .i64 r6] rfl HG3.out ?hi ?hs ?h1 ?_; (case hi => kernel_rfl); (case hs => rfl); (case h1 => kernel_rfl)))
 refine bodyPost_ret (results_list (rs := [.cell 2 119, .tmp 3]) rfl (by simp) (.cell g 119 #[.int .u8 r1, .string r2, .bool r3, .int .u8 r4, .int .i64 r5, .int .i64 r6] (0, 0) _ rfl (blk_row HG3.out _) Tryz.underlying119 rfl (by kernel_rfl) (.tmp .nil))) rfl ⟨rfl, below_setRow H3.out (Nat.le_of_eq Hg.out.symm) _⟩
end Go.Proofs.YtgbmaajfbbilhaaGreat.PAll
end
section
namespace Go.Proofs.YtgbmaajfbbilhaaGreat.PAll
open Go.RowKit Go.Proofs.YtgbmaajfbbilhaaGreat.Row Go.Proofs.YtgbmaajfbbilhaaGreatW.PrintWords Go.Proofs.YtgbmaajfbbilhaaGreatW.PrintLast Go.Proofs.YtgbmaajfbbilhaaGreatW.PrintMore
def decC (k : Nat) (a0 : Int) (a1 : Bool) : Option Int := if a1 = true then isa_find.f k a0 20 39 else if a0 = 3 then some 4 else if a0 = 4 then some 3 else if a0 = 6 then some 2 else if a0 = 20495 then some 14 else isa_find.f k a0 1 19
def isa_Decode.f (k : Nat) (a0 : Int) (a1 : Bool) : Option (Int × ByteArray × Bool × Int × Int × Int × Int × Int) := if a0 > 32767 then some (0, (⟨#[]⟩ : ByteArray), false, 0, 0, 0, 0, 3) else if 0 ≤ a0 then ((decC k a0 a1).bind fun c => (isa_Of.f c).bind fun o => (isa_row.f c).bind fun b => some (o.1, o.2.1, o.2.2.1, o.2.2.2.1, o.2.2.2.2.1, o.2.2.2.2.2.1, wrap64 (a0 - b.2.2.1), o.2.2.2.2.2.2)) else none
theorem w64_ {n : Int} (h0 : -9223372036854775808 ≤ n) (h1 : n ≤ 9223372036854775807) : wrap64 n = n := by unfold wrap64; omega
theorem cell_row_far {w : World} {g g' i : Nat} {v : Value} (h : w.cell? ⟨g', i, none⟩ = some v) (hne : g' ≠ g) (cs : Array Value) : (w.setRow g cs).cell? ⟨g', i, none⟩ = some v := (cell_setRow_other w g cs ⟨g', i, none⟩ hne).trans h
theorem Decode_1 (k : Nat) (a0 : Int) (c : Int) (o1 : Int) (o2 : ByteArray) (o3 : Bool) (o4 o5 o6 o7 : Int) (b1 : ByteArray) (b2 b3 b4 : Int) (h0 : 0 ≤ a0) (h1 : a0 ≤ 32767) (hf : isa_find.f k a0 20 39 = some c) (ho : isa_Of.f c = some (o1, o2, o3, o4, o5, o6, o7)) (hr : isa_row.f c = some (b1, b2, b3, b4)) (w : World) :
 Calls Tryz.prog 101 #[.int .u16 a0, .bool true] w fun e w' => e = .returned (.tuple #[.agg #[.int .u8 o1, .string o2, .bool o3, .int .u8 o4, .int .i64 o5, .int .i64 o6], .int .i64 (wrap64 (a0 - b3)), .int .i64 o7]) ∧ Below w.heap.size w w' := by
 have HB0 := Aside0.mk (Below.refl w.heap.size w)
 have HB := HB0
 have c0 : decide (32767 < a0) = false := decide_eq_false (by omega)
 have e0 : wrap64 a0 = a0 := w64_ (by omega) (by omega)
 have FD := Aside0.mk hf
 clear h0 h1 hf
 have OF := Aside0.mk ho
 have RW := Aside0.mk hr
 clear ho hr
 go_enter Tryz.func101, Tryz.ntmps101
 go_upto_region 13 with (first | ((with_reducible refine gate_dst (N := 4) rfl ?_); refine box_event ?hg (N := 4) ?hd (cs := #[.int .u8 0, .string (⟨#[]⟩ : ByteArray), .bool false, .int .u8 0, .int .i64 0, .int .i64 0]) (t := 119) ?hr ?_; (case hd => rfl); (case hg => rfl); (case hr => kernel_rfl); intro g hg w4 K hb; have HB := Aside0.mk (below_step HB.out hb); have K4 := Aside0.mk K; have L4 := Aside0.mk (show w.heap.size ≤ g from by rw [hg]; exact HB0.out.size); clear K hb hg HB0) | (go_at_call 209; (with_reducible refine (isa_find.calls k a0 20 39 c _ FD.out).mono ?_); rintro e wf ⟨rfl, hb⟩; replace HB := hbs_ HB hb; replace K4 := kbb_ K4 hb; clear hb))
 have HB0 := HB
 go_upto_region 14 with (first | (go_at_call 181; (with_reducible refine (isa_Of.calls _ _ _ _ _ _ _ _ _ OF.out).mono ?_); rintro e wo ⟨rfl, hb⟩; replace HB := hbs_ HB hb; replace K4 := kbb_ K4 hb; replace HB0 := HB; clear hb) | ((with_reducible refine gate_dst (N := 8) rfl ?_); refine box_event ?hg (N := 8) ?hd (cs := #[.int .u8 0, .string (⟨#[]⟩ : ByteArray), .bool false, .int .u8 0, .int .i64 0, .int .i64 0]) (t := 119) ?hr ?_; (case hd => rfl); (case hg => rfl); (case hr => kernel_rfl); intro g8 hg w8 K hb; replace HB := hbs_ HB hb; have K8 := Aside0.mk K; have NE := Aside0.mk (show g8 ≠ g from by have := blk_lt K4.out; rw [hg]; omega); have L8 := Aside0.mk (show w.heap.size ≤ g8 from by rw [hg]; exact HB0.out.size); replace K4 := kbb_ K4 hb; clear K hb hg HB0) | (refine store_row_ rfl 119 (.tmp 8) (.tmp 37) rfl g8 rfl 119 _ #[.int .u8 o1, .string o2, .bool o3, .int .u8 o4, .int .i64 o5, .int .i64 o6] rfl K8.out ?hi ?hs ?h1 ?_; (case hi => kernel_rfl); (case hs => rfl); (case h1 => kernel_rfl)))
 replace HB := Aside0.mk (below_setRow HB.out L8.out #[.int .u8 o1, .string o2, .bool o3, .int .u8 o4, .int .i64 o5, .int .i64 o6])
 replace K4 := Aside0.mk (blk_row_far K4.out NE.out.symm #[.int .u8 o1, .string o2, .bool o3, .int .u8 o4, .int .i64 o5, .int .i64 o6])
 have K8b := Aside0.mk (blk_row K8.out #[.int .u8 o1, .string o2, .bool o3, .int .u8 o4, .int .i64 o5, .int .i64 o6])
 clear K8
 generalize World.setRow _ g8 #[.int .u8 o1, .string o2, .bool o3, .int .u8 o4, .int .i64 o5, .int .i64 o6] = wr at HB K4 K8b ⊢
 have x0 : wr.cell? ⟨g8, 0, none⟩ = some (.int .u8 o1) := (blk_cell K8b.out 0).trans rfl
 have x1 : wr.cell? ⟨g8, 1, none⟩ = some (.string o2) := (blk_cell K8b.out 1).trans rfl
 have x2 : wr.cell? ⟨g8, 2, none⟩ = some (.bool o3) := (blk_cell K8b.out 2).trans rfl
 have x3 : wr.cell? ⟨g8, 3, none⟩ = some (.int .u8 o4) := (blk_cell K8b.out 3).trans rfl
 have x4 : wr.cell? ⟨g8, 4, none⟩ = some (.int .i64 o5) := (blk_cell K8b.out 4).trans rfl
 have x5 : wr.cell? ⟨g8, 5, none⟩ = some (.int .i64 o6) := (blk_cell K8b.out 5).trans rfl
 have hfld := fld57_2
 refine start_ (n := 11) (S := fun w' => w'.cell? ⟨g8, 0, none⟩ = some (.int .u8 o1) ∧ w'.cell? ⟨g8, 1, none⟩ = some (.string o2) ∧ w'.cell? ⟨g8, 2, none⟩ = some (.bool o3) ∧ w'.cell? ⟨g8, 3, none⟩ = some (.int .u8 o4) ∧ w'.cell? ⟨g8, 4, none⟩ = some (.int .i64 o5) ∧ w'.cell? ⟨g8, 5, none⟩ = some (.int .i64 o6)) (ds := []) #[false, false, false, false, false, false, false, false, false, false, false] (by kernel_rfl) rfl rfl ⟨x0, x1, x2, x3, x4, x5⟩ (fun hHeld => ?_)
 replace HB : Aside0 (Below w.heap.size w wr.drew) := ⟨below_drew1 HB.out⟩
 replace K4 : Aside0 (wr.drew.heap[g]? = some (.cells #[.int .u8 0, .string (⟨#[]⟩ : ByteArray), .bool false, .int .u8 0, .int .i64 0, .int .i64 0] 119 (0, 0))) := ⟨blk_drew K4.out⟩
 change wr.drew.cell? _ = _ at x0
 change wr.drew.cell? _ = _ at x1
 change wr.drew.cell? _ = _ at x2
 change wr.drew.cell? _ = _ at x3
 change wr.drew.cell? _ = _ at x4
 change wr.drew.cell? _ = _ at x5
 generalize wr.drew = wd at HB K4 x0 x1 x2 x3 x4 x5 hHeld ⊢
 refine pvq_ 1 (some 40) rfl rfl ?_
 refine pvq_ 2 (some 41) rfl rfl ?_
 refine pvq_ 3 (some 42) rfl rfl ?_
 refine pvq_ 7 (some 46) rfl rfl ?_
 refine tkq_ 0 (some 39) rfl rfl hHeld ?_
 refine onq_ 4 (some 43) rfl rfl (fun K hK => ?_)
 refine goq_ Tryz.func184 #[.int .u8 c] ?_
 with_reducible refine (isa_row.calls _ _ _ _ _ _ RW.out).mono ?_
 rintro e w2 ⟨rfl, hbz⟩
 refine ⟨_, rfl, ?_⟩
 replace x0 := (hbz.cell (World.block_lt_of_cell? _ _ x0)).trans x0
 replace x1 := (hbz.cell (World.block_lt_of_cell? _ _ x1)).trans x1
 replace x2 := (hbz.cell (World.block_lt_of_cell? _ _ x2)).trans x2
 replace x3 := (hbz.cell (World.block_lt_of_cell? _ _ x3)).trans x3
 replace x4 := (hbz.cell (World.block_lt_of_cell? _ _ x4)).trans x4
 replace x5 := (hbz.cell (World.block_lt_of_cell? _ _ x5)).trans x5
 replace K4 := Aside0.mk (blk_below K4.out hbz)
 replace HB := Aside0.mk (below_step HB.out hbz)
 clear hbz
 refine hK.out _ _ ⟨x0, x1, x2, x3, x4, x5⟩ (fun hHeld => ?_)
 clear hK K
 refine nmq_ (some 43) ?_
 refine pvq_ 5 (some 44) rfl rfl ?_
 refine pvq_ 6 (some 45) rfl rfl ?_
 refine onq_ 8 none rfl rfl (fun K hK => ?_)
 refine skip_ (w1 := World.setRow w2 g #[.int .u8 o1, .string o2, .bool o3, .int .u8 o4, .int .i64 o5, .int .i64 o6]) (by rfl) rfl ?_ ?_
 · refine run_store_row 119 (.tmp 4) (.tmp 39) ?_ g ?_ 119 _ #[.int .u8 o1, .string o2, .bool o3, .int .u8 o4, .int .i64 o5, .int .i64 o6] ?_ K4.out (by kernel_rfl) rfl (by kernel_rfl)
   · rfl
   · rfl
   · rfl
 replace HB := Aside0.mk (below_setRow HB.out L4.out #[.int .u8 o1, .string o2, .bool o3, .int .u8 o4, .int .i64 o5, .int .i64 o6])
 replace K4 := Aside0.mk (blk_row K4.out #[.int .u8 o1, .string o2, .bool o3, .int .u8 o4, .int .i64 o5, .int .i64 o6])
 replace x0 := (cell_row_far x0 NE.out #[.int .u8 o1, .string o2, .bool o3, .int .u8 o4, .int .i64 o5, .int .i64 o6])
 replace x1 := (cell_row_far x1 NE.out #[.int .u8 o1, .string o2, .bool o3, .int .u8 o4, .int .i64 o5, .int .i64 o6])
 replace x2 := (cell_row_far x2 NE.out #[.int .u8 o1, .string o2, .bool o3, .int .u8 o4, .int .i64 o5, .int .i64 o6])
 replace x3 := (cell_row_far x3 NE.out #[.int .u8 o1, .string o2, .bool o3, .int .u8 o4, .int .i64 o5, .int .i64 o6])
 replace x4 := (cell_row_far x4 NE.out #[.int .u8 o1, .string o2, .bool o3, .int .u8 o4, .int .i64 o5, .int .i64 o6])
 replace x5 := (cell_row_far x5 NE.out #[.int .u8 o1, .string o2, .bool o3, .int .u8 o4, .int .i64 o5, .int .i64 o6])
 refine hK.out _ _ ⟨x0, x1, x2, x3, x4, x5⟩ (fun hHeld => ?_)
 clear hK K
 refine pvq_ 9 (some 5) rfl rfl ?_
 refine pvq_ 10 (some 6) rfl rfl ?_
 refine done_ (by kernel_rfl) ?_
 go_wp2
 refine bodyPost_ret (results_list (rs := [.cell 4 119, .tmp 5, .tmp 6]) rfl (by simp) (.cell g 119 #[.int .u8 o1, .string o2, .bool o3, .int .u8 o4, .int .i64 o5, .int .i64 o6] (0, 0) _ rfl K4.out Tryz.underlying119 rfl (by kernel_rfl) (.tmp (.tmp .nil)))) rfl ⟨rfl, HB.out⟩
theorem Decode_w3 (o1 : Int) (o2 : ByteArray) (o3 : Bool) (o4 o5 o6 o7 : Int) (b1 : ByteArray) (b2 b3 b4 : Int)  (ho : isa_Of.f 4 = some (o1, o2, o3, o4, o5, o6, o7)) (hr : isa_row.f 4 = some (b1, b2, b3, b4)) (w : World) :
 Calls Tryz.prog 101 #[.int .u16 3, .bool false] w fun e w' => e = .returned (.tuple #[.agg #[.int .u8 o1, .string o2, .bool o3, .int .u8 o4, .int .i64 o5, .int .i64 o6], .int .i64 (wrap64 (3 - b3)), .int .i64 o7]) ∧ Below w.heap.size w w' := by
 have HB0 := Aside0.mk (Below.refl w.heap.size w)
 have HB := HB0
 have e0 : wrap64 3 = 3 := w64_ (by decide) (by decide)
 have OF := Aside0.mk ho
 have RW := Aside0.mk hr
 clear ho hr
 go_enter Tryz.func101, Tryz.ntmps101
 go_upto_region 13 with (first | ((with_reducible refine gate_dst (N := 4) rfl ?_); refine box_event ?hg (N := 4) ?hd (cs := #[.int .u8 0, .string (⟨#[]⟩ : ByteArray), .bool false, .int .u8 0, .int .i64 0, .int .i64 0]) (t := 119) ?hr ?_; (case hd => rfl); (case hg => rfl); (case hr => kernel_rfl); intro g hg w4 K hb; have HB := Aside0.mk (below_step HB.out hb); have K4 := Aside0.mk K; have L4 := Aside0.mk (show w.heap.size ≤ g from by rw [hg]; exact HB0.out.size); clear K hb hg HB0) | ((with_reducible refine gate_dst (N := 28) rfl ?_); refine Kd.event_run (v := .agg #[.int .u8 0, .int .u8 0, .int .u8 0, .int .u8 4, .int .u8 3, .int .u8 0, .int .u8 2]) (w1 := w4) rfl ?hr2 ?_; (case hr2 => kernel_rfl)) | ((with_reducible refine gate_dst (N := 30) rfl ?_); refine Kd.event_run (v := .int .u8 4) (w1 := w4) rfl ?hr2 ?_; (case hr2 => kernel_rfl)))
 have HB0 := HB
 go_upto_region 14 with (first | (go_at_call 181; (with_reducible refine (isa_Of.calls _ _ _ _ _ _ _ _ _ OF.out).mono ?_); rintro e wo ⟨rfl, hb⟩; replace HB := hbs_ HB hb; replace K4 := kbb_ K4 hb; replace HB0 := HB; clear hb) | ((with_reducible refine gate_dst (N := 8) rfl ?_); refine box_event ?hg (N := 8) ?hd (cs := #[.int .u8 0, .string (⟨#[]⟩ : ByteArray), .bool false, .int .u8 0, .int .i64 0, .int .i64 0]) (t := 119) ?hr ?_; (case hd => rfl); (case hg => rfl); (case hr => kernel_rfl); intro g8 hg w8 K hb; replace HB := hbs_ HB hb; have K8 := Aside0.mk K; have NE := Aside0.mk (show g8 ≠ g from by have := blk_lt K4.out; rw [hg]; omega); have L8 := Aside0.mk (show w.heap.size ≤ g8 from by rw [hg]; exact HB0.out.size); replace K4 := kbb_ K4 hb; clear K hb hg HB0) | (refine store_row_ rfl 119 (.tmp 8) (.tmp 37) rfl g8 rfl 119 _ #[.int .u8 o1, .string o2, .bool o3, .int .u8 o4, .int .i64 o5, .int .i64 o6] rfl K8.out ?hi ?hs ?h1 ?_; (case hi => kernel_rfl); (case hs => rfl); (case h1 => kernel_rfl)))
 replace HB := Aside0.mk (below_setRow HB.out L8.out #[.int .u8 o1, .string o2, .bool o3, .int .u8 o4, .int .i64 o5, .int .i64 o6])
 replace K4 := Aside0.mk (blk_row_far K4.out NE.out.symm #[.int .u8 o1, .string o2, .bool o3, .int .u8 o4, .int .i64 o5, .int .i64 o6])
 have K8b := Aside0.mk (blk_row K8.out #[.int .u8 o1, .string o2, .bool o3, .int .u8 o4, .int .i64 o5, .int .i64 o6])
 clear K8
 generalize World.setRow _ g8 #[.int .u8 o1, .string o2, .bool o3, .int .u8 o4, .int .i64 o5, .int .i64 o6] = wr at HB K4 K8b ⊢
 have x0 : wr.cell? ⟨g8, 0, none⟩ = some (.int .u8 o1) := (blk_cell K8b.out 0).trans rfl
 have x1 : wr.cell? ⟨g8, 1, none⟩ = some (.string o2) := (blk_cell K8b.out 1).trans rfl
 have x2 : wr.cell? ⟨g8, 2, none⟩ = some (.bool o3) := (blk_cell K8b.out 2).trans rfl
 have x3 : wr.cell? ⟨g8, 3, none⟩ = some (.int .u8 o4) := (blk_cell K8b.out 3).trans rfl
 have x4 : wr.cell? ⟨g8, 4, none⟩ = some (.int .i64 o5) := (blk_cell K8b.out 4).trans rfl
 have x5 : wr.cell? ⟨g8, 5, none⟩ = some (.int .i64 o6) := (blk_cell K8b.out 5).trans rfl
 have hfld := fld57_2
 refine start_ (n := 11) (S := fun w' => w'.cell? ⟨g8, 0, none⟩ = some (.int .u8 o1) ∧ w'.cell? ⟨g8, 1, none⟩ = some (.string o2) ∧ w'.cell? ⟨g8, 2, none⟩ = some (.bool o3) ∧ w'.cell? ⟨g8, 3, none⟩ = some (.int .u8 o4) ∧ w'.cell? ⟨g8, 4, none⟩ = some (.int .i64 o5) ∧ w'.cell? ⟨g8, 5, none⟩ = some (.int .i64 o6)) (ds := []) #[false, false, false, false, false, false, false, false, false, false, false] (by kernel_rfl) rfl rfl ⟨x0, x1, x2, x3, x4, x5⟩ (fun hHeld => ?_)
 replace HB : Aside0 (Below w.heap.size w wr.drew) := ⟨below_drew1 HB.out⟩
 replace K4 : Aside0 (wr.drew.heap[g]? = some (.cells #[.int .u8 0, .string (⟨#[]⟩ : ByteArray), .bool false, .int .u8 0, .int .i64 0, .int .i64 0] 119 (0, 0))) := ⟨blk_drew K4.out⟩
 change wr.drew.cell? _ = _ at x0
 change wr.drew.cell? _ = _ at x1
 change wr.drew.cell? _ = _ at x2
 change wr.drew.cell? _ = _ at x3
 change wr.drew.cell? _ = _ at x4
 change wr.drew.cell? _ = _ at x5
 generalize wr.drew = wd at HB K4 x0 x1 x2 x3 x4 x5 hHeld ⊢
 refine pvq_ 1 (some 40) rfl rfl ?_
 refine pvq_ 2 (some 41) rfl rfl ?_
 refine pvq_ 3 (some 42) rfl rfl ?_
 refine pvq_ 7 (some 46) rfl rfl ?_
 refine tkq_ 0 (some 39) rfl rfl hHeld ?_
 refine onq_ 4 (some 43) rfl rfl (fun K hK => ?_)
 refine goq_ Tryz.func184 #[.int .u8 4] ?_
 with_reducible refine (isa_row.calls _ _ _ _ _ _ RW.out).mono ?_
 rintro e w2 ⟨rfl, hbz⟩
 refine ⟨_, rfl, ?_⟩
 replace x0 := (hbz.cell (World.block_lt_of_cell? _ _ x0)).trans x0
 replace x1 := (hbz.cell (World.block_lt_of_cell? _ _ x1)).trans x1
 replace x2 := (hbz.cell (World.block_lt_of_cell? _ _ x2)).trans x2
 replace x3 := (hbz.cell (World.block_lt_of_cell? _ _ x3)).trans x3
 replace x4 := (hbz.cell (World.block_lt_of_cell? _ _ x4)).trans x4
 replace x5 := (hbz.cell (World.block_lt_of_cell? _ _ x5)).trans x5
 replace K4 := Aside0.mk (blk_below K4.out hbz)
 replace HB := Aside0.mk (below_step HB.out hbz)
 clear hbz
 refine hK.out _ _ ⟨x0, x1, x2, x3, x4, x5⟩ (fun hHeld => ?_)
 clear hK K
 refine nmq_ (some 43) ?_
 refine pvq_ 5 (some 44) rfl rfl ?_
 refine pvq_ 6 (some 45) rfl rfl ?_
 refine onq_ 8 none rfl rfl (fun K hK => ?_)
 refine skip_ (w1 := World.setRow w2 g #[.int .u8 o1, .string o2, .bool o3, .int .u8 o4, .int .i64 o5, .int .i64 o6]) (by rfl) rfl ?_ ?_
 · refine run_store_row 119 (.tmp 4) (.tmp 39) ?_ g ?_ 119 _ #[.int .u8 o1, .string o2, .bool o3, .int .u8 o4, .int .i64 o5, .int .i64 o6] ?_ K4.out (by kernel_rfl) rfl (by kernel_rfl)
   · rfl
   · rfl
   · rfl
 replace HB := Aside0.mk (below_setRow HB.out L4.out #[.int .u8 o1, .string o2, .bool o3, .int .u8 o4, .int .i64 o5, .int .i64 o6])
 replace K4 := Aside0.mk (blk_row K4.out #[.int .u8 o1, .string o2, .bool o3, .int .u8 o4, .int .i64 o5, .int .i64 o6])
 replace x0 := (cell_row_far x0 NE.out #[.int .u8 o1, .string o2, .bool o3, .int .u8 o4, .int .i64 o5, .int .i64 o6])
 replace x1 := (cell_row_far x1 NE.out #[.int .u8 o1, .string o2, .bool o3, .int .u8 o4, .int .i64 o5, .int .i64 o6])
 replace x2 := (cell_row_far x2 NE.out #[.int .u8 o1, .string o2, .bool o3, .int .u8 o4, .int .i64 o5, .int .i64 o6])
 replace x3 := (cell_row_far x3 NE.out #[.int .u8 o1, .string o2, .bool o3, .int .u8 o4, .int .i64 o5, .int .i64 o6])
 replace x4 := (cell_row_far x4 NE.out #[.int .u8 o1, .string o2, .bool o3, .int .u8 o4, .int .i64 o5, .int .i64 o6])
 replace x5 := (cell_row_far x5 NE.out #[.int .u8 o1, .string o2, .bool o3, .int .u8 o4, .int .i64 o5, .int .i64 o6])
 refine hK.out _ _ ⟨x0, x1, x2, x3, x4, x5⟩ (fun hHeld => ?_)
 clear hK K
 refine pvq_ 9 (some 5) rfl rfl ?_
 refine pvq_ 10 (some 6) rfl rfl ?_
 refine done_ (by kernel_rfl) ?_
 go_wp2
 refine bodyPost_ret (results_list (rs := [.cell 4 119, .tmp 5, .tmp 6]) rfl (by simp) (.cell g 119 #[.int .u8 o1, .string o2, .bool o3, .int .u8 o4, .int .i64 o5, .int .i64 o6] (0, 0) _ rfl K4.out Tryz.underlying119 rfl (by kernel_rfl) (.tmp (.tmp .nil)))) rfl ⟨rfl, HB.out⟩
theorem Decode_w4 (o1 : Int) (o2 : ByteArray) (o3 : Bool) (o4 o5 o6 o7 : Int) (b1 : ByteArray) (b2 b3 b4 : Int)  (ho : isa_Of.f 3 = some (o1, o2, o3, o4, o5, o6, o7)) (hr : isa_row.f 3 = some (b1, b2, b3, b4)) (w : World) :
 Calls Tryz.prog 101 #[.int .u16 4, .bool false] w fun e w' => e = .returned (.tuple #[.agg #[.int .u8 o1, .string o2, .bool o3, .int .u8 o4, .int .i64 o5, .int .i64 o6], .int .i64 (wrap64 (4 - b3)), .int .i64 o7]) ∧ Below w.heap.size w w' := by
 have HB0 := Aside0.mk (Below.refl w.heap.size w)
 have HB := HB0
 have e0 : wrap64 4 = 4 := w64_ (by decide) (by decide)
 have OF := Aside0.mk ho
 have RW := Aside0.mk hr
 clear ho hr
 go_enter Tryz.func101, Tryz.ntmps101
 go_upto_region 13 with (first | ((with_reducible refine gate_dst (N := 4) rfl ?_); refine box_event ?hg (N := 4) ?hd (cs := #[.int .u8 0, .string (⟨#[]⟩ : ByteArray), .bool false, .int .u8 0, .int .i64 0, .int .i64 0]) (t := 119) ?hr ?_; (case hd => rfl); (case hg => rfl); (case hr => kernel_rfl); intro g hg w4 K hb; have HB := Aside0.mk (below_step HB.out hb); have K4 := Aside0.mk K; have L4 := Aside0.mk (show w.heap.size ≤ g from by rw [hg]; exact HB0.out.size); clear K hb hg HB0) | ((with_reducible refine gate_dst (N := 28) rfl ?_); refine Kd.event_run (v := .agg #[.int .u8 0, .int .u8 0, .int .u8 0, .int .u8 4, .int .u8 3, .int .u8 0, .int .u8 2]) (w1 := w4) rfl ?hr2 ?_; (case hr2 => kernel_rfl)) | ((with_reducible refine gate_dst (N := 30) rfl ?_); refine Kd.event_run (v := .int .u8 3) (w1 := w4) rfl ?hr2 ?_; (case hr2 => kernel_rfl)))
 have HB0 := HB
 go_upto_region 14 with (first | (go_at_call 181; (with_reducible refine (isa_Of.calls _ _ _ _ _ _ _ _ _ OF.out).mono ?_); rintro e wo ⟨rfl, hb⟩; replace HB := hbs_ HB hb; replace K4 := kbb_ K4 hb; replace HB0 := HB; clear hb) | ((with_reducible refine gate_dst (N := 8) rfl ?_); refine box_event ?hg (N := 8) ?hd (cs := #[.int .u8 0, .string (⟨#[]⟩ : ByteArray), .bool false, .int .u8 0, .int .i64 0, .int .i64 0]) (t := 119) ?hr ?_; (case hd => rfl); (case hg => rfl); (case hr => kernel_rfl); intro g8 hg w8 K hb; replace HB := hbs_ HB hb; have K8 := Aside0.mk K; have NE := Aside0.mk (show g8 ≠ g from by have := blk_lt K4.out; rw [hg]; omega); have L8 := Aside0.mk (show w.heap.size ≤ g8 from by rw [hg]; exact HB0.out.size); replace K4 := kbb_ K4 hb; clear K hb hg HB0) | (refine store_row_ rfl 119 (.tmp 8) (.tmp 37) rfl g8 rfl 119 _ #[.int .u8 o1, .string o2, .bool o3, .int .u8 o4, .int .i64 o5, .int .i64 o6] rfl K8.out ?hi ?hs ?h1 ?_; (case hi => kernel_rfl); (case hs => rfl); (case h1 => kernel_rfl)))
 replace HB := Aside0.mk (below_setRow HB.out L8.out #[.int .u8 o1, .string o2, .bool o3, .int .u8 o4, .int .i64 o5, .int .i64 o6])
 replace K4 := Aside0.mk (blk_row_far K4.out NE.out.symm #[.int .u8 o1, .string o2, .bool o3, .int .u8 o4, .int .i64 o5, .int .i64 o6])
 have K8b := Aside0.mk (blk_row K8.out #[.int .u8 o1, .string o2, .bool o3, .int .u8 o4, .int .i64 o5, .int .i64 o6])
 clear K8
 generalize World.setRow _ g8 #[.int .u8 o1, .string o2, .bool o3, .int .u8 o4, .int .i64 o5, .int .i64 o6] = wr at HB K4 K8b ⊢
 have x0 : wr.cell? ⟨g8, 0, none⟩ = some (.int .u8 o1) := (blk_cell K8b.out 0).trans rfl
 have x1 : wr.cell? ⟨g8, 1, none⟩ = some (.string o2) := (blk_cell K8b.out 1).trans rfl
 have x2 : wr.cell? ⟨g8, 2, none⟩ = some (.bool o3) := (blk_cell K8b.out 2).trans rfl
 have x3 : wr.cell? ⟨g8, 3, none⟩ = some (.int .u8 o4) := (blk_cell K8b.out 3).trans rfl
 have x4 : wr.cell? ⟨g8, 4, none⟩ = some (.int .i64 o5) := (blk_cell K8b.out 4).trans rfl
 have x5 : wr.cell? ⟨g8, 5, none⟩ = some (.int .i64 o6) := (blk_cell K8b.out 5).trans rfl
 have hfld := fld57_2
 refine start_ (n := 11) (S := fun w' => w'.cell? ⟨g8, 0, none⟩ = some (.int .u8 o1) ∧ w'.cell? ⟨g8, 1, none⟩ = some (.string o2) ∧ w'.cell? ⟨g8, 2, none⟩ = some (.bool o3) ∧ w'.cell? ⟨g8, 3, none⟩ = some (.int .u8 o4) ∧ w'.cell? ⟨g8, 4, none⟩ = some (.int .i64 o5) ∧ w'.cell? ⟨g8, 5, none⟩ = some (.int .i64 o6)) (ds := []) #[false, false, false, false, false, false, false, false, false, false, false] (by kernel_rfl) rfl rfl ⟨x0, x1, x2, x3, x4, x5⟩ (fun hHeld => ?_)
 replace HB : Aside0 (Below w.heap.size w wr.drew) := ⟨below_drew1 HB.out⟩
 replace K4 : Aside0 (wr.drew.heap[g]? = some (.cells #[.int .u8 0, .string (⟨#[]⟩ : ByteArray), .bool false, .int .u8 0, .int .i64 0, .int .i64 0] 119 (0, 0))) := ⟨blk_drew K4.out⟩
 change wr.drew.cell? _ = _ at x0
 change wr.drew.cell? _ = _ at x1
 change wr.drew.cell? _ = _ at x2
 change wr.drew.cell? _ = _ at x3
 change wr.drew.cell? _ = _ at x4
 change wr.drew.cell? _ = _ at x5
 generalize wr.drew = wd at HB K4 x0 x1 x2 x3 x4 x5 hHeld ⊢
 refine pvq_ 1 (some 40) rfl rfl ?_
 refine pvq_ 2 (some 41) rfl rfl ?_
 refine pvq_ 3 (some 42) rfl rfl ?_
 refine pvq_ 7 (some 46) rfl rfl ?_
 refine tkq_ 0 (some 39) rfl rfl hHeld ?_
 refine onq_ 4 (some 43) rfl rfl (fun K hK => ?_)
 refine goq_ Tryz.func184 #[.int .u8 3] ?_
 with_reducible refine (isa_row.calls _ _ _ _ _ _ RW.out).mono ?_
 rintro e w2 ⟨rfl, hbz⟩
 refine ⟨_, rfl, ?_⟩
 replace x0 := (hbz.cell (World.block_lt_of_cell? _ _ x0)).trans x0
 replace x1 := (hbz.cell (World.block_lt_of_cell? _ _ x1)).trans x1
 replace x2 := (hbz.cell (World.block_lt_of_cell? _ _ x2)).trans x2
 replace x3 := (hbz.cell (World.block_lt_of_cell? _ _ x3)).trans x3
 replace x4 := (hbz.cell (World.block_lt_of_cell? _ _ x4)).trans x4
 replace x5 := (hbz.cell (World.block_lt_of_cell? _ _ x5)).trans x5
 replace K4 := Aside0.mk (blk_below K4.out hbz)
 replace HB := Aside0.mk (below_step HB.out hbz)
 clear hbz
 refine hK.out _ _ ⟨x0, x1, x2, x3, x4, x5⟩ (fun hHeld => ?_)
 clear hK K
 refine nmq_ (some 43) ?_
 refine pvq_ 5 (some 44) rfl rfl ?_
 refine pvq_ 6 (some 45) rfl rfl ?_
 refine onq_ 8 none rfl rfl (fun K hK => ?_)
 refine skip_ (w1 := World.setRow w2 g #[.int .u8 o1, .string o2, .bool o3, .int .u8 o4, .int .i64 o5, .int .i64 o6]) (by rfl) rfl ?_ ?_
 · refine run_store_row 119 (.tmp 4) (.tmp 39) ?_ g ?_ 119 _ #[.int .u8 o1, .string o2, .bool o3, .int .u8 o4, .int .i64 o5, .int .i64 o6] ?_ K4.out (by kernel_rfl) rfl (by kernel_rfl)
   · rfl
   · rfl
   · rfl
 replace HB := Aside0.mk (below_setRow HB.out L4.out #[.int .u8 o1, .string o2, .bool o3, .int .u8 o4, .int .i64 o5, .int .i64 o6])
 replace K4 := Aside0.mk (blk_row K4.out #[.int .u8 o1, .string o2, .bool o3, .int .u8 o4, .int .i64 o5, .int .i64 o6])
 replace x0 := (cell_row_far x0 NE.out #[.int .u8 o1, .string o2, .bool o3, .int .u8 o4, .int .i64 o5, .int .i64 o6])
 replace x1 := (cell_row_far x1 NE.out #[.int .u8 o1, .string o2, .bool o3, .int .u8 o4, .int .i64 o5, .int .i64 o6])
 replace x2 := (cell_row_far x2 NE.out #[.int .u8 o1, .string o2, .bool o3, .int .u8 o4, .int .i64 o5, .int .i64 o6])
 replace x3 := (cell_row_far x3 NE.out #[.int .u8 o1, .string o2, .bool o3, .int .u8 o4, .int .i64 o5, .int .i64 o6])
 replace x4 := (cell_row_far x4 NE.out #[.int .u8 o1, .string o2, .bool o3, .int .u8 o4, .int .i64 o5, .int .i64 o6])
 replace x5 := (cell_row_far x5 NE.out #[.int .u8 o1, .string o2, .bool o3, .int .u8 o4, .int .i64 o5, .int .i64 o6])
 refine hK.out _ _ ⟨x0, x1, x2, x3, x4, x5⟩ (fun hHeld => ?_)
 clear hK K
 refine pvq_ 9 (some 5) rfl rfl ?_
 refine pvq_ 10 (some 6) rfl rfl ?_
 refine done_ (by kernel_rfl) ?_
 go_wp2
 refine bodyPost_ret (results_list (rs := [.cell 4 119, .tmp 5, .tmp 6]) rfl (by simp) (.cell g 119 #[.int .u8 o1, .string o2, .bool o3, .int .u8 o4, .int .i64 o5, .int .i64 o6] (0, 0) _ rfl K4.out Tryz.underlying119 rfl (by kernel_rfl) (.tmp (.tmp .nil)))) rfl ⟨rfl, HB.out⟩
theorem Decode_w6 (o1 : Int) (o2 : ByteArray) (o3 : Bool) (o4 o5 o6 o7 : Int) (b1 : ByteArray) (b2 b3 b4 : Int)  (ho : isa_Of.f 2 = some (o1, o2, o3, o4, o5, o6, o7)) (hr : isa_row.f 2 = some (b1, b2, b3, b4)) (w : World) :
 Calls Tryz.prog 101 #[.int .u16 6, .bool false] w fun e w' => e = .returned (.tuple #[.agg #[.int .u8 o1, .string o2, .bool o3, .int .u8 o4, .int .i64 o5, .int .i64 o6], .int .i64 (wrap64 (6 - b3)), .int .i64 o7]) ∧ Below w.heap.size w w' := by
 have HB0 := Aside0.mk (Below.refl w.heap.size w)
 have HB := HB0
 have e0 : wrap64 6 = 6 := w64_ (by decide) (by decide)
 have OF := Aside0.mk ho
 have RW := Aside0.mk hr
 clear ho hr
 go_enter Tryz.func101, Tryz.ntmps101
 go_upto_region 13 with (first | ((with_reducible refine gate_dst (N := 4) rfl ?_); refine box_event ?hg (N := 4) ?hd (cs := #[.int .u8 0, .string (⟨#[]⟩ : ByteArray), .bool false, .int .u8 0, .int .i64 0, .int .i64 0]) (t := 119) ?hr ?_; (case hd => rfl); (case hg => rfl); (case hr => kernel_rfl); intro g hg w4 K hb; have HB := Aside0.mk (below_step HB.out hb); have K4 := Aside0.mk K; have L4 := Aside0.mk (show w.heap.size ≤ g from by rw [hg]; exact HB0.out.size); clear K hb hg HB0) | ((with_reducible refine gate_dst (N := 28) rfl ?_); refine Kd.event_run (v := .agg #[.int .u8 0, .int .u8 0, .int .u8 0, .int .u8 4, .int .u8 3, .int .u8 0, .int .u8 2]) (w1 := w4) rfl ?hr2 ?_; (case hr2 => kernel_rfl)) | ((with_reducible refine gate_dst (N := 30) rfl ?_); refine Kd.event_run (v := .int .u8 2) (w1 := w4) rfl ?hr2 ?_; (case hr2 => kernel_rfl)))
 have HB0 := HB
 go_upto_region 14 with (first | (go_at_call 181; (with_reducible refine (isa_Of.calls _ _ _ _ _ _ _ _ _ OF.out).mono ?_); rintro e wo ⟨rfl, hb⟩; replace HB := hbs_ HB hb; replace K4 := kbb_ K4 hb; replace HB0 := HB; clear hb) | ((with_reducible refine gate_dst (N := 8) rfl ?_); refine box_event ?hg (N := 8) ?hd (cs := #[.int .u8 0, .string (⟨#[]⟩ : ByteArray), .bool false, .int .u8 0, .int .i64 0, .int .i64 0]) (t := 119) ?hr ?_; (case hd => rfl); (case hg => rfl); (case hr => kernel_rfl); intro g8 hg w8 K hb; replace HB := hbs_ HB hb; have K8 := Aside0.mk K; have NE := Aside0.mk (show g8 ≠ g from by have := blk_lt K4.out; rw [hg]; omega); have L8 := Aside0.mk (show w.heap.size ≤ g8 from by rw [hg]; exact HB0.out.size); replace K4 := kbb_ K4 hb; clear K hb hg HB0) | (refine store_row_ rfl 119 (.tmp 8) (.tmp 37) rfl g8 rfl 119 _ #[.int .u8 o1, .string o2, .bool o3, .int .u8 o4, .int .i64 o5, .int .i64 o6] rfl K8.out ?hi ?hs ?h1 ?_; (case hi => kernel_rfl); (case hs => rfl); (case h1 => kernel_rfl)))
 replace HB := Aside0.mk (below_setRow HB.out L8.out #[.int .u8 o1, .string o2, .bool o3, .int .u8 o4, .int .i64 o5, .int .i64 o6])
 replace K4 := Aside0.mk (blk_row_far K4.out NE.out.symm #[.int .u8 o1, .string o2, .bool o3, .int .u8 o4, .int .i64 o5, .int .i64 o6])
 have K8b := Aside0.mk (blk_row K8.out #[.int .u8 o1, .string o2, .bool o3, .int .u8 o4, .int .i64 o5, .int .i64 o6])
 clear K8
 generalize World.setRow _ g8 #[.int .u8 o1, .string o2, .bool o3, .int .u8 o4, .int .i64 o5, .int .i64 o6] = wr at HB K4 K8b ⊢
 have x0 : wr.cell? ⟨g8, 0, none⟩ = some (.int .u8 o1) := (blk_cell K8b.out 0).trans rfl
 have x1 : wr.cell? ⟨g8, 1, none⟩ = some (.string o2) := (blk_cell K8b.out 1).trans rfl
 have x2 : wr.cell? ⟨g8, 2, none⟩ = some (.bool o3) := (blk_cell K8b.out 2).trans rfl
 have x3 : wr.cell? ⟨g8, 3, none⟩ = some (.int .u8 o4) := (blk_cell K8b.out 3).trans rfl
 have x4 : wr.cell? ⟨g8, 4, none⟩ = some (.int .i64 o5) := (blk_cell K8b.out 4).trans rfl
 have x5 : wr.cell? ⟨g8, 5, none⟩ = some (.int .i64 o6) := (blk_cell K8b.out 5).trans rfl
 have hfld := fld57_2
 refine start_ (n := 11) (S := fun w' => w'.cell? ⟨g8, 0, none⟩ = some (.int .u8 o1) ∧ w'.cell? ⟨g8, 1, none⟩ = some (.string o2) ∧ w'.cell? ⟨g8, 2, none⟩ = some (.bool o3) ∧ w'.cell? ⟨g8, 3, none⟩ = some (.int .u8 o4) ∧ w'.cell? ⟨g8, 4, none⟩ = some (.int .i64 o5) ∧ w'.cell? ⟨g8, 5, none⟩ = some (.int .i64 o6)) (ds := []) #[false, false, false, false, false, false, false, false, false, false, false] (by kernel_rfl) rfl rfl ⟨x0, x1, x2, x3, x4, x5⟩ (fun hHeld => ?_)
 replace HB : Aside0 (Below w.heap.size w wr.drew) := ⟨below_drew1 HB.out⟩
 replace K4 : Aside0 (wr.drew.heap[g]? = some (.cells #[.int .u8 0, .string (⟨#[]⟩ : ByteArray), .bool false, .int .u8 0, .int .i64 0, .int .i64 0] 119 (0, 0))) := ⟨blk_drew K4.out⟩
 change wr.drew.cell? _ = _ at x0
 change wr.drew.cell? _ = _ at x1
 change wr.drew.cell? _ = _ at x2
 change wr.drew.cell? _ = _ at x3
 change wr.drew.cell? _ = _ at x4
 change wr.drew.cell? _ = _ at x5
 generalize wr.drew = wd at HB K4 x0 x1 x2 x3 x4 x5 hHeld ⊢
 refine pvq_ 1 (some 40) rfl rfl ?_
 refine pvq_ 2 (some 41) rfl rfl ?_
 refine pvq_ 3 (some 42) rfl rfl ?_
 refine pvq_ 7 (some 46) rfl rfl ?_
 refine tkq_ 0 (some 39) rfl rfl hHeld ?_
 refine onq_ 4 (some 43) rfl rfl (fun K hK => ?_)
 refine goq_ Tryz.func184 #[.int .u8 2] ?_
 with_reducible refine (isa_row.calls _ _ _ _ _ _ RW.out).mono ?_
 rintro e w2 ⟨rfl, hbz⟩
 refine ⟨_, rfl, ?_⟩
 replace x0 := (hbz.cell (World.block_lt_of_cell? _ _ x0)).trans x0
 replace x1 := (hbz.cell (World.block_lt_of_cell? _ _ x1)).trans x1
 replace x2 := (hbz.cell (World.block_lt_of_cell? _ _ x2)).trans x2
 replace x3 := (hbz.cell (World.block_lt_of_cell? _ _ x3)).trans x3
 replace x4 := (hbz.cell (World.block_lt_of_cell? _ _ x4)).trans x4
 replace x5 := (hbz.cell (World.block_lt_of_cell? _ _ x5)).trans x5
 replace K4 := Aside0.mk (blk_below K4.out hbz)
 replace HB := Aside0.mk (below_step HB.out hbz)
 clear hbz
 refine hK.out _ _ ⟨x0, x1, x2, x3, x4, x5⟩ (fun hHeld => ?_)
 clear hK K
 refine nmq_ (some 43) ?_
 refine pvq_ 5 (some 44) rfl rfl ?_
 refine pvq_ 6 (some 45) rfl rfl ?_
 refine onq_ 8 none rfl rfl (fun K hK => ?_)
 refine skip_ (w1 := World.setRow w2 g #[.int .u8 o1, .string o2, .bool o3, .int .u8 o4, .int .i64 o5, .int .i64 o6]) (by rfl) rfl ?_ ?_
 · refine run_store_row 119 (.tmp 4) (.tmp 39) ?_ g ?_ 119 _ #[.int .u8 o1, .string o2, .bool o3, .int .u8 o4, .int .i64 o5, .int .i64 o6] ?_ K4.out (by kernel_rfl) rfl (by kernel_rfl)
   · rfl
   · rfl
   · rfl
 replace HB := Aside0.mk (below_setRow HB.out L4.out #[.int .u8 o1, .string o2, .bool o3, .int .u8 o4, .int .i64 o5, .int .i64 o6])
 replace K4 := Aside0.mk (blk_row K4.out #[.int .u8 o1, .string o2, .bool o3, .int .u8 o4, .int .i64 o5, .int .i64 o6])
 replace x0 := (cell_row_far x0 NE.out #[.int .u8 o1, .string o2, .bool o3, .int .u8 o4, .int .i64 o5, .int .i64 o6])
 replace x1 := (cell_row_far x1 NE.out #[.int .u8 o1, .string o2, .bool o3, .int .u8 o4, .int .i64 o5, .int .i64 o6])
 replace x2 := (cell_row_far x2 NE.out #[.int .u8 o1, .string o2, .bool o3, .int .u8 o4, .int .i64 o5, .int .i64 o6])
 replace x3 := (cell_row_far x3 NE.out #[.int .u8 o1, .string o2, .bool o3, .int .u8 o4, .int .i64 o5, .int .i64 o6])
 replace x4 := (cell_row_far x4 NE.out #[.int .u8 o1, .string o2, .bool o3, .int .u8 o4, .int .i64 o5, .int .i64 o6])
 replace x5 := (cell_row_far x5 NE.out #[.int .u8 o1, .string o2, .bool o3, .int .u8 o4, .int .i64 o5, .int .i64 o6])
 refine hK.out _ _ ⟨x0, x1, x2, x3, x4, x5⟩ (fun hHeld => ?_)
 clear hK K
 refine pvq_ 9 (some 5) rfl rfl ?_
 refine pvq_ 10 (some 6) rfl rfl ?_
 refine done_ (by kernel_rfl) ?_
 go_wp2
 refine bodyPost_ret (results_list (rs := [.cell 4 119, .tmp 5, .tmp 6]) rfl (by simp) (.cell g 119 #[.int .u8 o1, .string o2, .bool o3, .int .u8 o4, .int .i64 o5, .int .i64 o6] (0, 0) _ rfl K4.out Tryz.underlying119 rfl (by kernel_rfl) (.tmp (.tmp .nil)))) rfl ⟨rfl, HB.out⟩
theorem Decode_w20495 (o1 : Int) (o2 : ByteArray) (o3 : Bool) (o4 o5 o6 o7 : Int) (b1 : ByteArray) (b2 b3 b4 : Int)  (ho : isa_Of.f 14 = some (o1, o2, o3, o4, o5, o6, o7)) (hr : isa_row.f 14 = some (b1, b2, b3, b4)) (w : World) :
 Calls Tryz.prog 101 #[.int .u16 20495, .bool false] w fun e w' => e = .returned (.tuple #[.agg #[.int .u8 o1, .string o2, .bool o3, .int .u8 o4, .int .i64 o5, .int .i64 o6], .int .i64 (wrap64 (20495 - b3)), .int .i64 o7]) ∧ Below w.heap.size w w' := by
 have HB0 := Aside0.mk (Below.refl w.heap.size w)
 have HB := HB0
 have e0 : wrap64 20495 = 20495 := w64_ (by decide) (by decide)
 have OF := Aside0.mk ho
 have RW := Aside0.mk hr
 clear ho hr
 go_enter Tryz.func101, Tryz.ntmps101
 go_upto_region 13 with (first | ((with_reducible refine gate_dst (N := 4) rfl ?_); refine box_event ?hg (N := 4) ?hd (cs := #[.int .u8 0, .string (⟨#[]⟩ : ByteArray), .bool false, .int .u8 0, .int .i64 0, .int .i64 0]) (t := 119) ?hr ?_; (case hd => rfl); (case hg => rfl); (case hr => kernel_rfl); intro g hg w4 K hb; have HB := Aside0.mk (below_step HB.out hb); have K4 := Aside0.mk K; have L4 := Aside0.mk (show w.heap.size ≤ g from by rw [hg]; exact HB0.out.size); clear K hb hg HB0))
 have HB0 := HB
 go_upto_region 14 with (first | (go_at_call 181; (with_reducible refine (isa_Of.calls _ _ _ _ _ _ _ _ _ OF.out).mono ?_); rintro e wo ⟨rfl, hb⟩; replace HB := hbs_ HB hb; replace K4 := kbb_ K4 hb; replace HB0 := HB; clear hb) | ((with_reducible refine gate_dst (N := 8) rfl ?_); refine box_event ?hg (N := 8) ?hd (cs := #[.int .u8 0, .string (⟨#[]⟩ : ByteArray), .bool false, .int .u8 0, .int .i64 0, .int .i64 0]) (t := 119) ?hr ?_; (case hd => rfl); (case hg => rfl); (case hr => kernel_rfl); intro g8 hg w8 K hb; replace HB := hbs_ HB hb; have K8 := Aside0.mk K; have NE := Aside0.mk (show g8 ≠ g from by have := blk_lt K4.out; rw [hg]; omega); have L8 := Aside0.mk (show w.heap.size ≤ g8 from by rw [hg]; exact HB0.out.size); replace K4 := kbb_ K4 hb; clear K hb hg HB0) | (refine store_row_ rfl 119 (.tmp 8) (.tmp 37) rfl g8 rfl 119 _ #[.int .u8 o1, .string o2, .bool o3, .int .u8 o4, .int .i64 o5, .int .i64 o6] rfl K8.out ?hi ?hs ?h1 ?_; (case hi => kernel_rfl); (case hs => rfl); (case h1 => kernel_rfl)))
 replace HB := Aside0.mk (below_setRow HB.out L8.out #[.int .u8 o1, .string o2, .bool o3, .int .u8 o4, .int .i64 o5, .int .i64 o6])
 replace K4 := Aside0.mk (blk_row_far K4.out NE.out.symm #[.int .u8 o1, .string o2, .bool o3, .int .u8 o4, .int .i64 o5, .int .i64 o6])
 have K8b := Aside0.mk (blk_row K8.out #[.int .u8 o1, .string o2, .bool o3, .int .u8 o4, .int .i64 o5, .int .i64 o6])
 clear K8
 generalize World.setRow _ g8 #[.int .u8 o1, .string o2, .bool o3, .int .u8 o4, .int .i64 o5, .int .i64 o6] = wr at HB K4 K8b ⊢
 have x0 : wr.cell? ⟨g8, 0, none⟩ = some (.int .u8 o1) := (blk_cell K8b.out 0).trans rfl
 have x1 : wr.cell? ⟨g8, 1, none⟩ = some (.string o2) := (blk_cell K8b.out 1).trans rfl
 have x2 : wr.cell? ⟨g8, 2, none⟩ = some (.bool o3) := (blk_cell K8b.out 2).trans rfl
 have x3 : wr.cell? ⟨g8, 3, none⟩ = some (.int .u8 o4) := (blk_cell K8b.out 3).trans rfl
 have x4 : wr.cell? ⟨g8, 4, none⟩ = some (.int .i64 o5) := (blk_cell K8b.out 4).trans rfl
 have x5 : wr.cell? ⟨g8, 5, none⟩ = some (.int .i64 o6) := (blk_cell K8b.out 5).trans rfl
 have hfld := fld57_2
 refine start_ (n := 11) (S := fun w' => w'.cell? ⟨g8, 0, none⟩ = some (.int .u8 o1) ∧ w'.cell? ⟨g8, 1, none⟩ = some (.string o2) ∧ w'.cell? ⟨g8, 2, none⟩ = some (.bool o3) ∧ w'.cell? ⟨g8, 3, none⟩ = some (.int .u8 o4) ∧ w'.cell? ⟨g8, 4, none⟩ = some (.int .i64 o5) ∧ w'.cell? ⟨g8, 5, none⟩ = some (.int .i64 o6)) (ds := []) #[false, false, false, false, false, false, false, false, false, false, false] (by kernel_rfl) rfl rfl ⟨x0, x1, x2, x3, x4, x5⟩ (fun hHeld => ?_)
 replace HB : Aside0 (Below w.heap.size w wr.drew) := ⟨below_drew1 HB.out⟩
 replace K4 : Aside0 (wr.drew.heap[g]? = some (.cells #[.int .u8 0, .string (⟨#[]⟩ : ByteArray), .bool false, .int .u8 0, .int .i64 0, .int .i64 0] 119 (0, 0))) := ⟨blk_drew K4.out⟩
 change wr.drew.cell? _ = _ at x0
 change wr.drew.cell? _ = _ at x1
 change wr.drew.cell? _ = _ at x2
 change wr.drew.cell? _ = _ at x3
 change wr.drew.cell? _ = _ at x4
 change wr.drew.cell? _ = _ at x5
 generalize wr.drew = wd at HB K4 x0 x1 x2 x3 x4 x5 hHeld ⊢
 refine pvq_ 1 (some 40) rfl rfl ?_
 refine pvq_ 2 (some 41) rfl rfl ?_
 refine pvq_ 3 (some 42) rfl rfl ?_
 refine pvq_ 7 (some 46) rfl rfl ?_
 refine tkq_ 0 (some 39) rfl rfl hHeld ?_
 refine onq_ 4 (some 43) rfl rfl (fun K hK => ?_)
 refine goq_ Tryz.func184 #[.int .u8 14] ?_
 with_reducible refine (isa_row.calls _ _ _ _ _ _ RW.out).mono ?_
 rintro e w2 ⟨rfl, hbz⟩
 refine ⟨_, rfl, ?_⟩
 replace x0 := (hbz.cell (World.block_lt_of_cell? _ _ x0)).trans x0
 replace x1 := (hbz.cell (World.block_lt_of_cell? _ _ x1)).trans x1
 replace x2 := (hbz.cell (World.block_lt_of_cell? _ _ x2)).trans x2
 replace x3 := (hbz.cell (World.block_lt_of_cell? _ _ x3)).trans x3
 replace x4 := (hbz.cell (World.block_lt_of_cell? _ _ x4)).trans x4
 replace x5 := (hbz.cell (World.block_lt_of_cell? _ _ x5)).trans x5
 replace K4 := Aside0.mk (blk_below K4.out hbz)
 replace HB := Aside0.mk (below_step HB.out hbz)
 clear hbz
 refine hK.out _ _ ⟨x0, x1, x2, x3, x4, x5⟩ (fun hHeld => ?_)
 clear hK K
 refine nmq_ (some 43) ?_
 refine pvq_ 5 (some 44) rfl rfl ?_
 refine pvq_ 6 (some 45) rfl rfl ?_
 refine onq_ 8 none rfl rfl (fun K hK => ?_)
 refine skip_ (w1 := World.setRow w2 g #[.int .u8 o1, .string o2, .bool o3, .int .u8 o4, .int .i64 o5, .int .i64 o6]) (by rfl) rfl ?_ ?_
 · refine run_store_row 119 (.tmp 4) (.tmp 39) ?_ g ?_ 119 _ #[.int .u8 o1, .string o2, .bool o3, .int .u8 o4, .int .i64 o5, .int .i64 o6] ?_ K4.out (by kernel_rfl) rfl (by kernel_rfl)
   · rfl
   · rfl
   · rfl
 replace HB := Aside0.mk (below_setRow HB.out L4.out #[.int .u8 o1, .string o2, .bool o3, .int .u8 o4, .int .i64 o5, .int .i64 o6])
 replace K4 := Aside0.mk (blk_row K4.out #[.int .u8 o1, .string o2, .bool o3, .int .u8 o4, .int .i64 o5, .int .i64 o6])
 replace x0 := (cell_row_far x0 NE.out #[.int .u8 o1, .string o2, .bool o3, .int .u8 o4, .int .i64 o5, .int .i64 o6])
 replace x1 := (cell_row_far x1 NE.out #[.int .u8 o1, .string o2, .bool o3, .int .u8 o4, .int .i64 o5, .int .i64 o6])
 replace x2 := (cell_row_far x2 NE.out #[.int .u8 o1, .string o2, .bool o3, .int .u8 o4, .int .i64 o5, .int .i64 o6])
 replace x3 := (cell_row_far x3 NE.out #[.int .u8 o1, .string o2, .bool o3, .int .u8 o4, .int .i64 o5, .int .i64 o6])
 replace x4 := (cell_row_far x4 NE.out #[.int .u8 o1, .string o2, .bool o3, .int .u8 o4, .int .i64 o5, .int .i64 o6])
 replace x5 := (cell_row_far x5 NE.out #[.int .u8 o1, .string o2, .bool o3, .int .u8 o4, .int .i64 o5, .int .i64 o6])
 refine hK.out _ _ ⟨x0, x1, x2, x3, x4, x5⟩ (fun hHeld => ?_)
 clear hK K
 refine pvq_ 9 (some 5) rfl rfl ?_
 refine pvq_ 10 (some 6) rfl rfl ?_
 refine done_ (by kernel_rfl) ?_
 go_wp2
 refine bodyPost_ret (results_list (rs := [.cell 4 119, .tmp 5, .tmp 6]) rfl (by simp) (.cell g 119 #[.int .u8 o1, .string o2, .bool o3, .int .u8 o4, .int .i64 o5, .int .i64 o6] (0, 0) _ rfl K4.out Tryz.underlying119 rfl (by kernel_rfl) (.tmp (.tmp .nil)))) rfl ⟨rfl, HB.out⟩
theorem Decode_2 (k : Nat) (a0 : Int) (c : Int) (o1 : Int) (o2 : ByteArray) (o3 : Bool) (o4 o5 o6 o7 : Int) (b1 : ByteArray) (b2 b3 b4 : Int) (h0 : 0 ≤ a0) (h1 : a0 ≤ 32767) (n3 : a0 ≠ 3) (n4 : a0 ≠ 4) (n6 : a0 ≠ 6) (n5 : a0 ≠ 20495) (hf : isa_find.f k a0 1 19 = some c) (ho : isa_Of.f c = some (o1, o2, o3, o4, o5, o6, o7)) (hr : isa_row.f c = some (b1, b2, b3, b4)) (w : World) :
 Calls Tryz.prog 101 #[.int .u16 a0, .bool false] w fun e w' => e = .returned (.tuple #[.agg #[.int .u8 o1, .string o2, .bool o3, .int .u8 o4, .int .i64 o5, .int .i64 o6], .int .i64 (wrap64 (a0 - b3)), .int .i64 o7]) ∧ Below w.heap.size w w' := by
 have HB0 := Aside0.mk (Below.refl w.heap.size w)
 have HB := HB0
 have c0 : decide (32767 < a0) = false := decide_eq_false (by omega)
 have e0 : wrap64 a0 = a0 := w64_ (by omega) (by omega)
 have d3 : (a0 == 3) = false := by simpa using n3
 have d4 : (a0 == 4) = false := by simpa using n4
 have d6 : (a0 == 6) = false := by simpa using n6
 have d5 : (a0 == 20495) = false := by simpa using n5
 have FD := Aside0.mk hf
 clear h0 h1 hf n3 n4 n6 n5
 have OF := Aside0.mk ho
 have RW := Aside0.mk hr
 clear ho hr
 go_enter Tryz.func101, Tryz.ntmps101
 go_upto_region 13 with (first | ((with_reducible refine gate_dst (N := 4) rfl ?_); refine box_event ?hg (N := 4) ?hd (cs := #[.int .u8 0, .string (⟨#[]⟩ : ByteArray), .bool false, .int .u8 0, .int .i64 0, .int .i64 0]) (t := 119) ?hr ?_; (case hd => rfl); (case hg => rfl); (case hr => kernel_rfl); intro g hg w4 K hb; have HB := Aside0.mk (below_step HB.out hb); have K4 := Aside0.mk K; have L4 := Aside0.mk (show w.heap.size ≤ g from by rw [hg]; exact HB0.out.size); clear K hb hg HB0) | (go_at_call 209; (with_reducible refine (isa_find.calls k a0 1 19 c _ FD.out).mono ?_); rintro e wf ⟨rfl, hb⟩; replace HB := hbs_ HB hb; replace K4 := kbb_ K4 hb; clear hb))
 have HB0 := HB
 go_upto_region 14 with (first | (go_at_call 181; (with_reducible refine (isa_Of.calls _ _ _ _ _ _ _ _ _ OF.out).mono ?_); rintro e wo ⟨rfl, hb⟩; replace HB := hbs_ HB hb; replace K4 := kbb_ K4 hb; replace HB0 := HB; clear hb) | ((with_reducible refine gate_dst (N := 8) rfl ?_); refine box_event ?hg (N := 8) ?hd (cs := #[.int .u8 0, .string (⟨#[]⟩ : ByteArray), .bool false, .int .u8 0, .int .i64 0, .int .i64 0]) (t := 119) ?hr ?_; (case hd => rfl); (case hg => rfl); (case hr => kernel_rfl); intro g8 hg w8 K hb; replace HB := hbs_ HB hb; have K8 := Aside0.mk K; have NE := Aside0.mk (show g8 ≠ g from by have := blk_lt K4.out; rw [hg]; omega); have L8 := Aside0.mk (show w.heap.size ≤ g8 from by rw [hg]; exact HB0.out.size); replace K4 := kbb_ K4 hb; clear K hb hg HB0) | (refine store_row_ rfl 119 (.tmp 8) (.tmp 37) rfl g8 rfl 119 _ #[.int .u8 o1, .string o2, .bool o3, .int .u8 o4, .int .i64 o5, .int .i64 o6] rfl K8.out ?hi ?hs ?h1 ?_; (case hi => kernel_rfl); (case hs => rfl); (case h1 => kernel_rfl)))
 replace HB := Aside0.mk (below_setRow HB.out L8.out #[.int .u8 o1, .string o2, .bool o3, .int .u8 o4, .int .i64 o5, .int .i64 o6])
 replace K4 := Aside0.mk (blk_row_far K4.out NE.out.symm #[.int .u8 o1, .string o2, .bool o3, .int .u8 o4, .int .i64 o5, .int .i64 o6])
 have K8b := Aside0.mk (blk_row K8.out #[.int .u8 o1, .string o2, .bool o3, .int .u8 o4, .int .i64 o5, .int .i64 o6])
 clear K8
 generalize World.setRow _ g8 #[.int .u8 o1, .string o2, .bool o3, .int .u8 o4, .int .i64 o5, .int .i64 o6] = wr at HB K4 K8b ⊢
 have x0 : wr.cell? ⟨g8, 0, none⟩ = some (.int .u8 o1) := (blk_cell K8b.out 0).trans rfl
 have x1 : wr.cell? ⟨g8, 1, none⟩ = some (.string o2) := (blk_cell K8b.out 1).trans rfl
 have x2 : wr.cell? ⟨g8, 2, none⟩ = some (.bool o3) := (blk_cell K8b.out 2).trans rfl
 have x3 : wr.cell? ⟨g8, 3, none⟩ = some (.int .u8 o4) := (blk_cell K8b.out 3).trans rfl
 have x4 : wr.cell? ⟨g8, 4, none⟩ = some (.int .i64 o5) := (blk_cell K8b.out 4).trans rfl
 have x5 : wr.cell? ⟨g8, 5, none⟩ = some (.int .i64 o6) := (blk_cell K8b.out 5).trans rfl
 have hfld := fld57_2
 refine start_ (n := 11) (S := fun w' => w'.cell? ⟨g8, 0, none⟩ = some (.int .u8 o1) ∧ w'.cell? ⟨g8, 1, none⟩ = some (.string o2) ∧ w'.cell? ⟨g8, 2, none⟩ = some (.bool o3) ∧ w'.cell? ⟨g8, 3, none⟩ = some (.int .u8 o4) ∧ w'.cell? ⟨g8, 4, none⟩ = some (.int .i64 o5) ∧ w'.cell? ⟨g8, 5, none⟩ = some (.int .i64 o6)) (ds := []) #[false, false, false, false, false, false, false, false, false, false, false] (by kernel_rfl) rfl rfl ⟨x0, x1, x2, x3, x4, x5⟩ (fun hHeld => ?_)
 replace HB : Aside0 (Below w.heap.size w wr.drew) := ⟨below_drew1 HB.out⟩
 replace K4 : Aside0 (wr.drew.heap[g]? = some (.cells #[.int .u8 0, .string (⟨#[]⟩ : ByteArray), .bool false, .int .u8 0, .int .i64 0, .int .i64 0] 119 (0, 0))) := ⟨blk_drew K4.out⟩
 change wr.drew.cell? _ = _ at x0
 change wr.drew.cell? _ = _ at x1
 change wr.drew.cell? _ = _ at x2
 change wr.drew.cell? _ = _ at x3
 change wr.drew.cell? _ = _ at x4
 change wr.drew.cell? _ = _ at x5
 generalize wr.drew = wd at HB K4 x0 x1 x2 x3 x4 x5 hHeld ⊢
 refine pvq_ 1 (some 40) rfl rfl ?_
 refine pvq_ 2 (some 41) rfl rfl ?_
 refine pvq_ 3 (some 42) rfl rfl ?_
 refine pvq_ 7 (some 46) rfl rfl ?_
 refine tkq_ 0 (some 39) rfl rfl hHeld ?_
 refine onq_ 4 (some 43) rfl rfl (fun K hK => ?_)
 refine goq_ Tryz.func184 #[.int .u8 c] ?_
 with_reducible refine (isa_row.calls _ _ _ _ _ _ RW.out).mono ?_
 rintro e w2 ⟨rfl, hbz⟩
 refine ⟨_, rfl, ?_⟩
 replace x0 := (hbz.cell (World.block_lt_of_cell? _ _ x0)).trans x0
 replace x1 := (hbz.cell (World.block_lt_of_cell? _ _ x1)).trans x1
 replace x2 := (hbz.cell (World.block_lt_of_cell? _ _ x2)).trans x2
 replace x3 := (hbz.cell (World.block_lt_of_cell? _ _ x3)).trans x3
 replace x4 := (hbz.cell (World.block_lt_of_cell? _ _ x4)).trans x4
 replace x5 := (hbz.cell (World.block_lt_of_cell? _ _ x5)).trans x5
 replace K4 := Aside0.mk (blk_below K4.out hbz)
 replace HB := Aside0.mk (below_step HB.out hbz)
 clear hbz
 refine hK.out _ _ ⟨x0, x1, x2, x3, x4, x5⟩ (fun hHeld => ?_)
 clear hK K
 refine nmq_ (some 43) ?_
 refine pvq_ 5 (some 44) rfl rfl ?_
 refine pvq_ 6 (some 45) rfl rfl ?_
 refine onq_ 8 none rfl rfl (fun K hK => ?_)
 refine skip_ (w1 := World.setRow w2 g #[.int .u8 o1, .string o2, .bool o3, .int .u8 o4, .int .i64 o5, .int .i64 o6]) (by rfl) rfl ?_ ?_
 · refine run_store_row 119 (.tmp 4) (.tmp 39) ?_ g ?_ 119 _ #[.int .u8 o1, .string o2, .bool o3, .int .u8 o4, .int .i64 o5, .int .i64 o6] ?_ K4.out (by kernel_rfl) rfl (by kernel_rfl)
   · rfl
   · rfl
   · rfl
 replace HB := Aside0.mk (below_setRow HB.out L4.out #[.int .u8 o1, .string o2, .bool o3, .int .u8 o4, .int .i64 o5, .int .i64 o6])
 replace K4 := Aside0.mk (blk_row K4.out #[.int .u8 o1, .string o2, .bool o3, .int .u8 o4, .int .i64 o5, .int .i64 o6])
 replace x0 := (cell_row_far x0 NE.out #[.int .u8 o1, .string o2, .bool o3, .int .u8 o4, .int .i64 o5, .int .i64 o6])
 replace x1 := (cell_row_far x1 NE.out #[.int .u8 o1, .string o2, .bool o3, .int .u8 o4, .int .i64 o5, .int .i64 o6])
 replace x2 := (cell_row_far x2 NE.out #[.int .u8 o1, .string o2, .bool o3, .int .u8 o4, .int .i64 o5, .int .i64 o6])
 replace x3 := (cell_row_far x3 NE.out #[.int .u8 o1, .string o2, .bool o3, .int .u8 o4, .int .i64 o5, .int .i64 o6])
 replace x4 := (cell_row_far x4 NE.out #[.int .u8 o1, .string o2, .bool o3, .int .u8 o4, .int .i64 o5, .int .i64 o6])
 replace x5 := (cell_row_far x5 NE.out #[.int .u8 o1, .string o2, .bool o3, .int .u8 o4, .int .i64 o5, .int .i64 o6])
 refine hK.out _ _ ⟨x0, x1, x2, x3, x4, x5⟩ (fun hHeld => ?_)
 clear hK K
 refine pvq_ 9 (some 5) rfl rfl ?_
 refine pvq_ 10 (some 6) rfl rfl ?_
 refine done_ (by kernel_rfl) ?_
 go_wp2
 refine bodyPost_ret (results_list (rs := [.cell 4 119, .tmp 5, .tmp 6]) rfl (by simp) (.cell g 119 #[.int .u8 o1, .string o2, .bool o3, .int .u8 o4, .int .i64 o5, .int .i64 o6] (0, 0) _ rfl K4.out Tryz.underlying119 rfl (by kernel_rfl) (.tmp (.tmp .nil)))) rfl ⟨rfl, HB.out⟩
theorem Decode_0 (a0 : Int) (a1 : Bool) (h : a0 > 32767) (w : World) :
 Calls Tryz.prog 101 #[.int .u16 a0, .bool a1] w fun e w' => e = .returned (.tuple #[.agg #[.int .u8 0, .string (⟨#[]⟩ : ByteArray), .bool false, .int .u8 0, .int .i64 0, .int .i64 0], .int .i64 0, .int .i64 3]) ∧ Below w.heap.size w w' := by
 have HB0 := Aside0.mk (Below.refl w.heap.size w)
 have HB := HB0
 have c0 : decide (32767 < a0) = true := decide_eq_true h
 clear h
 go_enter Tryz.func101, Tryz.ntmps101
 go_wp2_with (first | ((with_reducible refine gate_dst (N := 4) rfl ?_); refine box_event ?hg (N := 4) ?hd (cs := #[.int .u8 0, .string (⟨#[]⟩ : ByteArray), .bool false, .int .u8 0, .int .i64 0, .int .i64 0]) (t := 119) ?hr ?_; (case hd => rfl); (case hg => rfl); (case hr => kernel_rfl); intro g hg w4 K hb; have HB := Aside0.mk (below_step HB.out hb); have K4 := Aside0.mk K; have L4 := Aside0.mk (show w.heap.size ≤ g from by rw [hg]; exact HB0.out.size); clear K hb hg HB0) | ((with_reducible refine gate_dst (N := 12) rfl ?_); refine Kd.event_run (v := .agg #[.int .u8 0, .string (⟨#[]⟩ : ByteArray), .bool false, .int .u8 0, .int .i64 0, .int .i64 0]) (w1 := w4) rfl ?hr2 ?_; (case hr2 => kernel_rfl)) | (refine store_row_ rfl 119 (.tmp 4) (.tmp 12) rfl g rfl 119 _ #[.int .u8 0, .string (⟨#[]⟩ : ByteArray), .bool false, .int .u8 0, .int .i64 0, .int .i64 0] rfl K4.out ?hi ?hs ?h1 ?_; (case hi => kernel_rfl); (case hs => rfl); (case h1 => kernel_rfl)))
 refine bodyPost_ret (results_list (rs := [.cell 4 119, .tmp 5, .tmp 6]) rfl (by simp) (.cell g 119 #[.int .u8 0, .string (⟨#[]⟩ : ByteArray), .bool false, .int .u8 0, .int .i64 0, .int .i64 0] (0, 0) _ rfl (blk_row K4.out _) Tryz.underlying119 rfl (by kernel_rfl) (.tmp (.tmp .nil)))) rfl ⟨rfl, below_setRow HB.out L4.out _⟩
theorem isa_Decode.calls (k : Nat) (a0 : Int) (a1 : Bool) (r1 : Int) (r2 : ByteArray) (r3 : Bool) (r4 : Int) (r5 : Int) (r6 : Int) (r7 : Int) (r8 : Int) (w : World) (h : isa_Decode.f k a0 a1 = some (r1, r2, r3, r4, r5, r6, r7, r8)) :
 Calls Tryz.prog 101 #[.int .u16 a0, .bool a1] w fun e w' => e = .returned (.tuple #[.agg #[.int .u8 r1, .string r2, .bool r3, .int .u8 r4, .int .i64 r5, .int .i64 r6], .int .i64 r7, .int .i64 r8]) ∧ Below w.heap.size w w' := by
 unfold isa_Decode.f at h
 by_cases hc : a0 > 32767
 · rw [if_pos hc] at h
   cases h
   exact Decode_0 a0 a1 hc w
 rw [if_neg hc] at h
 by_cases h0 : 0 ≤ a0
 case neg => rw [if_neg h0] at h; cases h
 rw [if_pos h0] at h
 obtain ⟨c, hd, h⟩ := Option.bind_eq_some_iff.mp h
 obtain ⟨⟨o1, o2, o3, o4, o5, o6, o7⟩, ho, h⟩ := Option.bind_eq_some_iff.mp h
 obtain ⟨⟨b1, b2, b3, b4⟩, hr, h⟩ := Option.bind_eq_some_iff.mp h
 cases h
 unfold decC at hd
 cases a1 with
 | true => rw [if_pos rfl] at hd; exact Decode_1 k a0 c _ _ _ _ _ _ _ _ _ _ _ h0 (by omega) hd ho hr w
 | false =>
  rw [if_neg (by decide)] at hd
  by_cases n3 : a0 = 3
  · rw [if_pos n3] at hd; cases hd; subst n3; exact Decode_w3 _ _ _ _ _ _ _ _ _ _ _ ho hr w
  rw [if_neg n3] at hd
  by_cases n4 : a0 = 4
  · rw [if_pos n4] at hd; cases hd; subst n4; exact Decode_w4 _ _ _ _ _ _ _ _ _ _ _ ho hr w
  rw [if_neg n4] at hd
  by_cases n6 : a0 = 6
  · rw [if_pos n6] at hd; cases hd; subst n6; exact Decode_w6 _ _ _ _ _ _ _ _ _ _ _ ho hr w
  rw [if_neg n6] at hd
  by_cases n5 : a0 = 20495
  · rw [if_pos n5] at hd; cases hd; subst n5; exact Decode_w20495 _ _ _ _ _ _ _ _ _ _ _ ho hr w
  rw [if_neg n5] at hd
  exact Decode_2 k a0 c _ _ _ _ _ _ _ _ _ _ _ h0 (by omega) n3 n4 n6 n5 hd ho hr w
end Go.Proofs.YtgbmaajfbbilhaaGreat.PAll
end
section
namespace Go.Proofs.YtgbmaajfbbilhaaGreat.PAll
open Go.RowKit Go.Proofs.YtgbmaajfbbilhaaGreatW.PrintWords Go.Proofs.YtgbmaajfbbilhaaGreatW.PrintLast Go.Proofs.YtgbmaajfbbilhaaGreatW.PrintMore
mutual
def isa_Encode.j0 : Nat → Int → Bool → ByteArray → Int → Int → Int → Option (Int × Int)
 | 0, _, _, _, _, _, _ => none
 | k + 1, x1, x30, x418000, x418001, x418002, x418003 => if x30 = true then (some (0, 3)) else (if x418000.toList = ([84, 67] : List UInt8) then (if x1 = 3 then (isa_Encode.j1 k x1 true x418000 x418001 x418002 x418003) else (if x1 = 4 then (isa_Encode.j1 k x1 true x418000 x418001 x418002 x418003) else (isa_Encode.j1 k x1 (x1 == 6) x418000 x418001 x418002 x418003))) else (isa_Encode.j1 k x1 false x418000 x418001 x418002 x418003))
def isa_Encode.j1 : Nat → Int → Bool → ByteArray → Int → Int → Int → Option (Int × Int)
 | 0, _, _, _, _, _, _ => none
 | k + 1, x1, x31, x418000, x418001, x418002, x418003 => if x31 = true then (some (0, 3)) else (if x418000.toList = ([73, 78, 68, 69, 88] : List UInt8) then (if x1 = 15 then (some (0, 3)) else (some (IntKind.u16.wrap (wrap64 (x418002 + x1)), 0))) else (some (IntKind.u16.wrap (wrap64 (x418002 + x1)), 0)))
end
def isa_Encode.f (k : Nat) (a0_0 : Int) (a0_1 : ByteArray) (a0_2 : Bool) (a0_3 : Int) (a0_4 : Int) (a0_5 : Int) (a1 : Int) : Option (Int × Int) := (isa_valid.f a0_0).bind fun t412 => (if t412 = true then ((isa_row.f a0_0).bind fun bt413 => ((isa_Range.f 0 (⟨#[]⟩ : ByteArray) false bt413.2.1 0 0).bind fun bt418 => (if a1 < bt418.1 then (isa_Encode.j0 k a1 true bt413.1 bt413.2.1 bt413.2.2.1 bt413.2.2.2) else (isa_Encode.j0 k a1 (decide (a1 > bt418.2)) bt413.1 bt413.2.1 bt413.2.2.1 bt413.2.2.2)))) else (some (0, 7)))
theorem isa_Encode.calls (k : Nat) (a0_0 : Int) (a0_1 : ByteArray) (a0_2 : Bool) (a0_3 : Int) (a0_4 : Int) (a0_5 : Int) (a1 : Int) (r1 : Int) (r2 : Int) (w : World) (h : isa_Encode.f k a0_0 a0_1 a0_2 a0_3 a0_4 a0_5 a1 = some (r1, r2)) :
 Calls Tryz.prog 68 #[.agg #[.int .u8 a0_0, .string a0_1, .bool a0_2, .int .u8 a0_3, .int .i64 a0_4, .int .i64 a0_5], .int .i64 a1] w fun e w' => e = .returned (.tuple #[.int .u16 r1, .int .i64 r2]) ∧ Below w.heap.size w w' := by
 have hu119 := Tryz.underlying119
 have hu203 := Tryz.underlying203
 have HB := Aside0.mk (Below.refl w.heap.size w)
 have H : ((isa_valid.f a0_0).bind fun t412 => (if t412 = true then ((isa_row.f a0_0).bind fun bt413 => ((isa_Range.f 0 (⟨#[]⟩ : ByteArray) false bt413.2.1 0 0).bind fun bt418 => (if a1 < bt418.1 then (isa_Encode.j0 k a1 true bt413.1 bt413.2.1 bt413.2.2.1 bt413.2.2.2) else (isa_Encode.j0 k a1 (decide (a1 > bt418.2)) bt413.1 bt413.2.1 bt413.2.2.1 bt413.2.2.2)))) else (some (0, 7)))) = some (r1, r2) := h
 clear h
 replace H := Option.bind_eq_some_iff.mp H
 obtain ⟨t412, A30, H⟩ := H
 replace H : (if t412 = true then ((isa_row.f a0_0).bind fun bt413 => ((isa_Range.f 0 (⟨#[]⟩ : ByteArray) false bt413.2.1 0 0).bind fun bt418 => (if a1 < bt418.1 then (isa_Encode.j0 k a1 true bt413.1 bt413.2.1 bt413.2.2.1 bt413.2.2.2) else (isa_Encode.j0 k a1 (decide (a1 > bt418.2)) bt413.1 bt413.2.1 bt413.2.2.1 bt413.2.2.2)))) else (some (0, 7))) = some (r1, r2) := H
 have A3 := Aside0.mk A30
 clear A30
 by_cases c4 : t412 = true
 · subst c4
   have H1 : ((isa_row.f a0_0).bind fun bt413 => ((isa_Range.f 0 (⟨#[]⟩ : ByteArray) false bt413.2.1 0 0).bind fun bt418 => (if a1 < bt418.1 then (isa_Encode.j0 k a1 true bt413.1 bt413.2.1 bt413.2.2.1 bt413.2.2.2) else (isa_Encode.j0 k a1 (decide (a1 > bt418.2)) bt413.1 bt413.2.1 bt413.2.2.1 bt413.2.2.2)))) = some (r1, r2) := by rw [if_pos rfl] at H; exact H
   clear H
   have H := H1
   clear H1
   replace H := Option.bind_eq_some_iff.mp H
   obtain ⟨⟨t413, t414, t415, t416⟩, A50, H⟩ := H
   replace H : ((isa_Range.f 0 (⟨#[]⟩ : ByteArray) false t414 0 0).bind fun bt418 => (if a1 < bt418.1 then (isa_Encode.j0 k a1 true t413 t414 t415 t416) else (isa_Encode.j0 k a1 (decide (a1 > bt418.2)) t413 t414 t415 t416))) = some (r1, r2) := H
   have A5 := Aside0.mk A50
   clear A50
   replace H := Option.bind_eq_some_iff.mp H
   obtain ⟨⟨t418, t419⟩, A60, H⟩ := H
   replace H : (if a1 < t418 then (isa_Encode.j0 k a1 true t413 t414 t415 t416) else (isa_Encode.j0 k a1 (decide (a1 > t419)) t413 t414 t415 t416)) = some (r1, r2) := H
   have A6 := Aside0.mk A60
   clear A60
   have HC7 := Aside0.mk H
   clear H
   go_enter Tryz.func68, Tryz.ntmps68
   go_upto_region 5 with (first | ((with_reducible refine gate_dst (N := 2) rfl ?_); refine box_event ?hg (N := 2) ?hd (cs := #[.int .u8 a0_0, .string a0_1, .bool a0_2, .int .u8 a0_3, .int .i64 a0_4, .int .i64 a0_5]) (t := 119) ?hr ?_; (case hd => rfl); (case hg => rfl); (case hr => first | (go_simp; done) | (go_simp; rfl)); intro gb411 hg w8 hbox hb; have n0_ := Aside0.mk (below_step (by repeat (first | (with_reducible first | exact HB.out | apply below_alloc | apply pw_below_drewN | apply below_drew1) | exact HB.out)) hb); have n1_ := Aside0.mk (hbox); have n2_ := Aside0.mk ((by rw [hg]; exact (below_size (by repeat (first | (with_reducible first | exact HB.out | apply below_alloc | apply pw_below_drewN | apply below_drew1) | exact HB.out))) : w.heap.size ≤ gb411)); have n3_ := Aside0.mk ((by rw [hg]; exact (below_size (by repeat (first | (with_reducible first | exact HB.out | apply below_alloc | apply pw_below_drewN | apply below_drew1) | exact HB.out))) : w.heap.size ≤ gb411)); clear HB; have HB := n0_; have BK411 := n1_; have GW411 := n2_; have GE411 := n3_; clear n0_ n1_ n2_ n3_; clear hb hbox hg; have hcz9_0 : w8.cell? ⟨gb411, 0, none⟩ = some (.int .u8 a0_0) := (blk_cell BK411.out 0).trans rfl; have hcz9_1 : w8.cell? ⟨gb411, 1, none⟩ = some (.string a0_1) := (blk_cell BK411.out 1).trans rfl; have hcz9_2 : w8.cell? ⟨gb411, 2, none⟩ = some (.bool a0_2) := (blk_cell BK411.out 2).trans rfl; have hcz9_3 : w8.cell? ⟨gb411, 3, none⟩ = some (.int .u8 a0_3) := (blk_cell BK411.out 3).trans rfl; have hcz9_4 : w8.cell? ⟨gb411, 4, none⟩ = some (.int .i64 a0_4) := (blk_cell BK411.out 4).trans rfl; have hcz9_5 : w8.cell? ⟨gb411, 5, none⟩ = some (.int .i64 a0_5) := (blk_cell BK411.out 5).trans rfl; have hfz9_0 := blk_frozen BK411.out 0; have hfz9_1 := blk_frozen BK411.out 1; have hfz9_2 := blk_frozen BK411.out 2; have hfz9_3 := blk_frozen BK411.out 3; have hfz9_4 := blk_frozen BK411.out 4; have hfz9_5 := blk_frozen BK411.out 5) | ((with_reducible refine gate_callee (f := 183) rfl ?_); refine goesL_ (some 11) rfl rfl Tryz.func183 (by kernel_rfl) rfl #[.int .u8 a0_0] rfl (by (try simp only [List.map_toArray, List.map_cons, List.map_nil]); first | done | rfl | (simp only [List.length_drop, List.length_take]; rfl)) ?_; (with_reducible refine (isa_valid.calls a0_0 true _ A3.out).mono ?_); rintro e w' ⟨rfl, ⟨nd, rfl⟩⟩; refine ⟨_, rfl, ?_⟩; (try (rw [drewN_self w8]; generalize hq_ : World.drewN w8 _ = w8; have n0_ : Aside0 (w8.heap[gb411]? = some (.cells #[.int .u8 a0_0, .string a0_1, .bool a0_2, .int .u8 a0_3, .int .i64 a0_4, .int .i64 a0_5] 119 (0, 0))) := ⟨by rw [← hq_]; exact (by (with_reducible repeat (first | refine blk_drewN ?_ _ | refine blk_drew ?_ | refine blk_alloc ?_ _)); exact BK411.out)⟩; have n1_ : Aside0 (Below w.heap.size w w8) := ⟨by rw [← hq_]; exact (by repeat (first | (with_reducible first | exact HB.out | apply below_alloc | apply pw_below_drewN | apply below_drew1 | refine below_set ?_ GE411.out) | exact HB.out))⟩; clear BK411 HB hq_; have BK411 := n0_; have HB := n1_; clear n0_ n1_; have hcr411_0 : w8.cell? ⟨gb411, 0, none⟩ = some (.int .u8 a0_0) := (blk_cell BK411.out 0).trans rfl; have hfr411_0 := blk_frozen BK411.out 0; have hcr411_1 : w8.cell? ⟨gb411, 1, none⟩ = some (.string a0_1) := (blk_cell BK411.out 1).trans rfl; have hfr411_1 := blk_frozen BK411.out 1; have hcr411_2 : w8.cell? ⟨gb411, 2, none⟩ = some (.bool a0_2) := (blk_cell BK411.out 2).trans rfl; have hfr411_2 := blk_frozen BK411.out 2; have hcr411_3 : w8.cell? ⟨gb411, 3, none⟩ = some (.int .u8 a0_3) := (blk_cell BK411.out 3).trans rfl; have hfr411_3 := blk_frozen BK411.out 3; have hcr411_4 : w8.cell? ⟨gb411, 4, none⟩ = some (.int .i64 a0_4) := (blk_cell BK411.out 4).trans rfl; have hfr411_4 := blk_frozen BK411.out 4; have hcr411_5 : w8.cell? ⟨gb411, 5, none⟩ = some (.int .i64 a0_5) := (blk_cell BK411.out 5).trans rfl; have hfr411_5 := blk_frozen BK411.out 5))) | ((with_reducible refine gate_callee (f := 184) rfl ?_); refine goesL_ (some 15) rfl rfl Tryz.func184 (by kernel_rfl) rfl #[.int .u8 a0_0] rfl (by (try simp only [List.map_toArray, List.map_cons, List.map_nil]); first | done | rfl | (simp only [List.length_drop, List.length_take]; rfl)) ?_; (with_reducible refine (isa_row.calls a0_0 t413 t414 t415 t416 _ A5.out).mono ?_); rintro e w10 ⟨rfl, hb⟩; refine ⟨_, rfl, ?_⟩; have n0_ := Aside0.mk (blk_below (g := gb411) (o := .cells #[.int .u8 a0_0, .string a0_1, .bool a0_2, .int .u8 a0_3, .int .i64 a0_4, .int .i64 a0_5] 119 (0, 0)) (by (with_reducible repeat (first | refine blk_drewN ?_ _ | refine blk_drew ?_ | refine blk_alloc ?_ _)); exact BK411.out) hb); have n1_ := Aside0.mk (below_step (by repeat (first | (with_reducible first | exact HB.out | apply below_alloc | apply pw_below_drewN | apply below_drew1 | refine below_set ?_ GE411.out) | exact HB.out)) hb); clear BK411; clear HB; have BK411 := n0_; have HB := n1_; clear n0_ n1_; (try clear hb); (try clear hb2); (try clear hk); (try clear hi)) | ((with_reducible refine gate_dst (N := 6) rfl ?_); refine box_event ?hg (N := 6) ?hd (cs := #[.string (⟨#[]⟩ : ByteArray), .int .u8 0, .int .i64 0, .int .i64 0]) (t := 203) ?hr ?_; (case hd => rfl); (case hg => rfl); (case hr => first | (go_simp; done) | (go_simp; rfl)); intro gb417 hg w11 hbox hb; have n0_ := Aside0.mk (blk_below (g := gb411) (o := .cells #[.int .u8 a0_0, .string a0_1, .bool a0_2, .int .u8 a0_3, .int .i64 a0_4, .int .i64 a0_5] 119 (0, 0)) (by (with_reducible repeat (first | refine blk_drewN ?_ _ | refine blk_drew ?_ | refine blk_alloc ?_ _)); exact BK411.out) hb); have n1_ := Aside0.mk (below_step (by repeat (first | (with_reducible first | exact HB.out | apply below_alloc | apply pw_below_drewN | apply below_drew1 | refine below_set ?_ GE411.out) | exact HB.out)) hb); have n2_ := Aside0.mk (hbox); have n3_ := Aside0.mk ((by rw [hg]; exact (below_size (by repeat (first | (with_reducible first | exact HB.out | apply below_alloc | apply pw_below_drewN | apply below_drew1 | refine below_set ?_ GE411.out) | exact HB.out))) : w.heap.size ≤ gb417)); have n4_ := Aside0.mk ((by rw [hg]; exact (below_size (by repeat (first | (with_reducible first | exact HB.out | apply below_alloc | apply pw_below_drewN | apply below_drew1 | refine below_set ?_ GE411.out) | exact HB.out))) : w.heap.size ≤ gb417)); have n5_ := Aside0.mk ((by rw [hg]; exact Nat.ne_of_lt (blk_lt (g := gb411) (o := .cells #[.int .u8 a0_0, .string a0_1, .bool a0_2, .int .u8 a0_3, .int .i64 a0_4, .int .i64 a0_5] 119 (0, 0)) (by (with_reducible repeat (first | refine blk_drewN ?_ _ | refine blk_drew ?_ | refine blk_alloc ?_ _)); exact BK411.out)) : gb411 ≠ gb417)); have n6_ := Aside0.mk ((by rw [hg]; exact Nat.ne_of_gt (blk_lt (g := gb411) (o := .cells #[.int .u8 a0_0, .string a0_1, .bool a0_2, .int .u8 a0_3, .int .i64 a0_4, .int .i64 a0_5] 119 (0, 0)) (by (with_reducible repeat (first | refine blk_drewN ?_ _ | refine blk_drew ?_ | refine blk_alloc ?_ _)); exact BK411.out)) : gb417 ≠ gb411)); clear BK411; clear HB; have BK411 := n0_; have HB := n1_; have BK417 := n2_; have GW417 := n3_; have GE417 := n4_; have NB411_417 := n5_; have NB417_411 := n6_; clear n0_ n1_ n2_ n3_ n4_ n5_ n6_; clear hb hbox hg; have hnb12 := NB417_411.out; have hnc12 := NB411_417.out; have hcz13_0 : w11.cell? ⟨gb417, 0, none⟩ = some (.string (⟨#[]⟩ : ByteArray)) := (blk_cell BK417.out 0).trans rfl; have hcz13_1 : w11.cell? ⟨gb417, 1, none⟩ = some (.int .u8 0) := (blk_cell BK417.out 1).trans rfl; have hcz13_2 : w11.cell? ⟨gb417, 2, none⟩ = some (.int .i64 0) := (blk_cell BK417.out 2).trans rfl; have hcz13_3 : w11.cell? ⟨gb417, 3, none⟩ = some (.int .i64 0) := (blk_cell BK417.out 3).trans rfl; have hfz13_0 := blk_frozen BK417.out 0; have hfz13_1 := blk_frozen BK417.out 1; have hfz13_2 := blk_frozen BK417.out 2; have hfz13_3 := blk_frozen BK417.out 3) | ((with_reducible refine gate_callee (f := 185) rfl ?_); refine goesL_ (some 20) rfl rfl Tryz.func185 (by kernel_rfl) rfl #[.agg #[.int .u8 0, .string (⟨#[]⟩ : ByteArray), .bool false, .int .u8 t414, .int .i64 0, .int .i64 0]] rfl (by (try simp only [List.map_toArray, List.map_cons, List.map_nil]); first | done | rfl | (simp only [List.length_drop, List.length_take]; rfl)) ?_; (with_reducible refine (isa_Range.calls 0 (⟨#[]⟩ : ByteArray) false t414 0 0 t418 t419 _ A6.out).mono ?_); rintro e w14 ⟨rfl, hb⟩; refine ⟨_, rfl, ?_⟩; have n0_ := Aside0.mk (blk_below (g := gb411) (o := .cells #[.int .u8 a0_0, .string a0_1, .bool a0_2, .int .u8 a0_3, .int .i64 a0_4, .int .i64 a0_5] 119 (0, 0)) (by (with_reducible repeat (first | refine blk_drewN ?_ _ | refine blk_drew ?_ | refine blk_alloc ?_ _)); refine blk_far ?_ NB411_417.out _; (with_reducible repeat (first | refine blk_drewN ?_ _ | refine blk_drew ?_ | refine blk_alloc ?_ _)); refine blk_far ?_ NB411_417.out _; (with_reducible repeat (first | refine blk_drewN ?_ _ | refine blk_drew ?_ | refine blk_alloc ?_ _)); refine blk_far ?_ NB411_417.out _; (with_reducible repeat (first | refine blk_drewN ?_ _ | refine blk_drew ?_ | refine blk_alloc ?_ _)); refine blk_far ?_ NB411_417.out _; (with_reducible repeat (first | refine blk_drewN ?_ _ | refine blk_drew ?_ | refine blk_alloc ?_ _)); exact BK411.out) hb); have n1_ := Aside0.mk (blk_below (g := gb417) (o := .cells #[.string t413, .int .u8 t414, .int .i64 t415, .int .i64 t416] 203 (0, 0)) (by (with_reducible repeat (first | refine blk_drewN ?_ _ | refine blk_drew ?_ | refine blk_alloc ?_ _)); refine blk_put (cs := #[.string t413, .int .u8 t414, .int .i64 t415, .int .i64 0]) ?_ 3 _ rfl; (with_reducible repeat (first | refine blk_drewN ?_ _ | refine blk_drew ?_ | refine blk_alloc ?_ _)); refine blk_put (cs := #[.string t413, .int .u8 t414, .int .i64 0, .int .i64 0]) ?_ 2 _ rfl; (with_reducible repeat (first | refine blk_drewN ?_ _ | refine blk_drew ?_ | refine blk_alloc ?_ _)); refine blk_put (cs := #[.string t413, .int .u8 0, .int .i64 0, .int .i64 0]) ?_ 1 _ rfl; (with_reducible repeat (first | refine blk_drewN ?_ _ | refine blk_drew ?_ | refine blk_alloc ?_ _)); refine blk_put (cs := #[.string (⟨#[]⟩ : ByteArray), .int .u8 0, .int .i64 0, .int .i64 0]) ?_ 0 _ rfl; (with_reducible repeat (first | refine blk_drewN ?_ _ | refine blk_drew ?_ | refine blk_alloc ?_ _)); exact BK417.out) hb); have n2_ := Aside0.mk (below_step (by repeat (first | (with_reducible first | exact HB.out | apply below_alloc | apply pw_below_drewN | apply below_drew1 | refine below_set ?_ GE411.out | refine below_set ?_ GE417.out) | exact HB.out)) hb); clear BK411; clear BK417; clear HB; have BK411 := n0_; have BK417 := n1_; have HB := n2_; clear n0_ n1_ n2_; (try clear hb); (try clear hb2); (try clear hk); (try clear hi)))
   (try simp only [Act.put, List.setIfInBounds_toArray, List.set_cons_zero, List.set_cons_succ])
   go_cut [30] (fun v30 wc => ∃ (kq : Nat) (x30_6 : Bool), v30 = .bool x30_6 ∧ Aside0 (isa_Encode.j0 kq a1 x30_6 t413 t414 t415 t416 = some (r1, r2)) ∧ Aside0 (kq ≤ k) ∧ Aside0 (wc.heap[gb411]? = some (.cells #[.int .u8 a0_0, .string a0_1, .bool a0_2, .int .u8 a0_3, .int .i64 a0_4, .int .i64 a0_5] 119 (0, 0))) ∧ Aside0 (wc.heap[gb417]? = some (.cells #[.string t413, .int .u8 t414, .int .i64 t415, .int .i64 t416] 203 (0, 0))) ∧ Aside0 (Below w.heap.size w wc))
   case first =>
    have H := HC7.out
    clear HC7
    by_cases c15 : a1 < t418
    · rw [if_pos c15] at H
      have c15b0 : decide (a1 < t418) = true := decide_eq_true c15
      clear c15
      (first | rw [c15b0] | (simp only [i64_w, i32_w]; rw [c15b0]) | skip)
      have H' := Aside0.mk H
      clear H
      go_wp2
      go_meet
      case rel => exact ⟨_, (true), (by first | rfl | (simp; done) | (simp [*]; done)), H', ⟨by first | omega | exact Nat.le_refl _⟩, ⟨by (with_reducible repeat (first | refine blk_drewN ?_ _ | refine blk_drew ?_ | refine blk_alloc ?_ _)); exact BK411.out⟩, ⟨by (with_reducible repeat (first | refine blk_drewN ?_ _ | refine blk_drew ?_ | refine blk_alloc ?_ _)); exact BK417.out⟩, ⟨by repeat (first | (with_reducible first | exact HB.out | apply below_alloc | apply pw_below_drewN | apply below_drew1 | refine below_set ?_ GE411.out | refine below_set ?_ GE417.out) | exact HB.out)⟩⟩
    · rw [if_neg c15] at H
      have c15b0 : decide (a1 < t418) = false := decide_eq_false c15
      clear c15
      (first | rw [c15b0] | (simp only [i64_w, i32_w]; rw [c15b0]) | skip)
      have H' := Aside0.mk H
      clear H
      go_wp2
      go_meet
      case rel => exact ⟨_, (decide (a1 > t419)), (by first | rfl | (simp; done) | (simp [*]; done)), H', ⟨by first | omega | exact Nat.le_refl _⟩, ⟨by (with_reducible repeat (first | refine blk_drewN ?_ _ | refine blk_drew ?_ | refine blk_alloc ?_ _)); exact BK411.out⟩, ⟨by (with_reducible repeat (first | refine blk_drewN ?_ _ | refine blk_drew ?_ | refine blk_alloc ?_ _)); exact BK417.out⟩, ⟨by repeat (first | (with_reducible first | exact HB.out | apply below_alloc | apply pw_below_drewN | apply below_drew1 | refine below_set ?_ GE411.out | refine below_set ?_ GE417.out) | exact HB.out)⟩⟩
   case rest =>
    clear HC7
    try clear c1
    try clear p2
    try clear c4
    try clear c6
    try clear c12
    try clear c15
    try clear c15b0
    try clear hcz13_0
    try clear hcz13_1
    try clear hcz13_2
    try clear hcz13_3
    try clear hcz9_0
    try clear hcz9_1
    try clear hcz9_2
    try clear hcz9_3
    try clear hcz9_4
    try clear hcz9_5
    try clear hfz13_0
    try clear hfz13_1
    try clear hfz13_2
    try clear hfz13_3
    try clear hfz9_0
    try clear hfz9_1
    try clear hfz9_2
    try clear hfz9_3
    try clear hfz9_4
    try clear hfz9_5
    obtain ⟨kq, x30_6, rfl, HA, HJ6, BK411, BK417, HB⟩ := hcut
    cases kq with
    | zero => exact absurd HA.out (by simp [isa_Encode.j0])
    | succ kj6 =>
     have H := HA.out
     clear HA
     simp only [isa_Encode.j0] at H
     by_cases c16 : x30_6 = true
     · subst c16
       have H1 : (some (0, 3)) = some (r1, r2) := by rw [if_pos rfl] at H; exact H
       clear H
       have H := H1
       clear H1
       simp only [Option.some.injEq, Prod.mk.injEq] at H
       obtain ⟨rfl, rfl⟩ := H
       go_wp2
       go_ret2
       exact ⟨by first | rfl | (simp [errW_none, errW_some] <;> rfl) | (simp [*, errW_none, errW_some] <;> rfl), by repeat (first | (with_reducible first | exact HB.out | apply below_alloc | apply pw_below_drewN | apply below_drew1 | refine below_set ?_ GE411.out | refine below_set ?_ GE417.out) | exact HB.out)⟩
     · replace c16 := Bool.eq_false_iff.mpr c16
       subst c16
       have H1 : (if t413.toList = ([84, 67] : List UInt8) then (if a1 = 3 then (isa_Encode.j1 kj6 a1 true t413 t414 t415 t416) else (if a1 = 4 then (isa_Encode.j1 kj6 a1 true t413 t414 t415 t416) else (isa_Encode.j1 kj6 a1 (a1 == 6) t413 t414 t415 t416))) else (isa_Encode.j1 kj6 a1 false t413 t414 t415 t416)) = some (r1, r2) := by rw [if_neg (show ¬ (false = true) by decide)] at H; exact H
       clear H
       have H := H1
       clear H1
       have HC17 := Aside0.mk H
       clear H
       go_upto_region 7 with (fail)
       go_cut [31] (fun v31 wc => ∃ (kq : Nat) (x31_16 : Bool), v31 = .bool x31_16 ∧ Aside0 (isa_Encode.j1 kq a1 x31_16 t413 t414 t415 t416 = some (r1, r2)) ∧ Aside0 (kq ≤ kj6) ∧ Aside0 (wc.heap[gb411]? = some (.cells #[.int .u8 a0_0, .string a0_1, .bool a0_2, .int .u8 a0_3, .int .i64 a0_4, .int .i64 a0_5] 119 (0, 0))) ∧ Aside0 (wc.heap[gb417]? = some (.cells #[.string t413, .int .u8 t414, .int .i64 t415, .int .i64 t416] 203 (0, 0))) ∧ Aside0 (Below w.heap.size w wc))
       case first =>
        have H := HC17.out
        clear HC17
        by_cases c18 : t413.toList = ([84, 67] : List UInt8)
        · rw [if_pos c18] at H
          have c18b0 : (t413.toList == ([84, 67] : List UInt8)) = true := beq_iff_eq.mpr c18
          have c18b1 : (t413.toList != ([84, 67] : List UInt8)) = false := bne_eq_false_iff_eq.mpr c18
          clear c18
          (first | rw [c18b0] | (simp only [i64_w, i32_w]; rw [c18b0]) | skip)
          by_cases c19 : a1 = 3
          · rw [if_pos c19] at H
            have c19b0 : (a1 == 3) = true := beq_iff_eq.mpr c19
            have c19b1 : (a1 != 3) = false := bne_eq_false_iff_eq.mpr c19
            clear c19
            have H' := Aside0.mk H
            clear H
            have hnb20 := NB417_411.out
            have hnc20 := NB411_417.out
            have hcz21_0 : wc.cell? ⟨gb417, 0, none⟩ = some (.string t413) := (blk_cell BK417.out 0).trans rfl
            have hcz21_1 : wc.cell? ⟨gb417, 1, none⟩ = some (.int .u8 t414) := (blk_cell BK417.out 1).trans rfl
            have hcz21_2 : wc.cell? ⟨gb417, 2, none⟩ = some (.int .i64 t415) := (blk_cell BK417.out 2).trans rfl
            have hcz21_3 : wc.cell? ⟨gb417, 3, none⟩ = some (.int .i64 t416) := (blk_cell BK417.out 3).trans rfl
            have hfz21_0 := blk_frozen BK417.out 0
            have hfz21_1 := blk_frozen BK417.out 1
            have hfz21_2 := blk_frozen BK417.out 2
            have hfz21_3 := blk_frozen BK417.out 3
            go_wp2
            go_meet
            case rel => exact ⟨_, (true), (by first | rfl | (simp; done) | (simp [*]; done)), H', ⟨by have := HJ6.out; first | omega | exact Nat.le_refl _⟩, ⟨by (with_reducible repeat (first | refine blk_drewN ?_ _ | refine blk_drew ?_ | refine blk_alloc ?_ _)); exact BK411.out⟩, ⟨by (with_reducible repeat (first | refine blk_drewN ?_ _ | refine blk_drew ?_ | refine blk_alloc ?_ _)); exact BK417.out⟩, ⟨by repeat (first | (with_reducible first | exact HB.out | apply below_alloc | apply pw_below_drewN | apply below_drew1 | refine below_set ?_ GE411.out | refine below_set ?_ GE417.out) | exact HB.out)⟩⟩
          · rw [if_neg c19] at H
            have c19b0 : (a1 == 3) = false := beq_eq_false_iff_ne.mpr c19
            have c19b1 : (a1 != 3) = true := bne_iff_ne.mpr c19
            by_cases c22 : a1 = 4
            · rw [if_pos c22] at H
              have c22b0 : (a1 == 4) = true := beq_iff_eq.mpr c22
              have c22b1 : (a1 != 4) = false := bne_eq_false_iff_eq.mpr c22
              clear c22
              have H' := Aside0.mk H
              clear H
              have hnb23 := NB417_411.out
              have hnc23 := NB411_417.out
              have hcz24_0 : wc.cell? ⟨gb417, 0, none⟩ = some (.string t413) := (blk_cell BK417.out 0).trans rfl
              have hcz24_1 : wc.cell? ⟨gb417, 1, none⟩ = some (.int .u8 t414) := (blk_cell BK417.out 1).trans rfl
              have hcz24_2 : wc.cell? ⟨gb417, 2, none⟩ = some (.int .i64 t415) := (blk_cell BK417.out 2).trans rfl
              have hcz24_3 : wc.cell? ⟨gb417, 3, none⟩ = some (.int .i64 t416) := (blk_cell BK417.out 3).trans rfl
              have hfz24_0 := blk_frozen BK417.out 0
              have hfz24_1 := blk_frozen BK417.out 1
              have hfz24_2 := blk_frozen BK417.out 2
              have hfz24_3 := blk_frozen BK417.out 3
              go_wp2
              go_meet
              case rel => exact ⟨_, (true), (by first | rfl | (simp; done) | (simp [*]; done)), H', ⟨by have := HJ6.out; first | omega | exact Nat.le_refl _⟩, ⟨by (with_reducible repeat (first | refine blk_drewN ?_ _ | refine blk_drew ?_ | refine blk_alloc ?_ _)); exact BK411.out⟩, ⟨by (with_reducible repeat (first | refine blk_drewN ?_ _ | refine blk_drew ?_ | refine blk_alloc ?_ _)); exact BK417.out⟩, ⟨by repeat (first | (with_reducible first | exact HB.out | apply below_alloc | apply pw_below_drewN | apply below_drew1 | refine below_set ?_ GE411.out | refine below_set ?_ GE417.out) | exact HB.out)⟩⟩
            · rw [if_neg c22] at H
              have c22b0 : (a1 == 4) = false := beq_eq_false_iff_ne.mpr c22
              have c22b1 : (a1 != 4) = true := bne_iff_ne.mpr c22
              have H' := Aside0.mk H
              clear H
              have hnb25 := NB417_411.out
              have hnc25 := NB411_417.out
              have hcz26_0 : wc.cell? ⟨gb417, 0, none⟩ = some (.string t413) := (blk_cell BK417.out 0).trans rfl
              have hcz26_1 : wc.cell? ⟨gb417, 1, none⟩ = some (.int .u8 t414) := (blk_cell BK417.out 1).trans rfl
              have hcz26_2 : wc.cell? ⟨gb417, 2, none⟩ = some (.int .i64 t415) := (blk_cell BK417.out 2).trans rfl
              have hcz26_3 : wc.cell? ⟨gb417, 3, none⟩ = some (.int .i64 t416) := (blk_cell BK417.out 3).trans rfl
              have hfz26_0 := blk_frozen BK417.out 0
              have hfz26_1 := blk_frozen BK417.out 1
              have hfz26_2 := blk_frozen BK417.out 2
              have hfz26_3 := blk_frozen BK417.out 3
              go_wp2
              go_meet
              case rel => exact ⟨_, ((a1 == 6)), (by first | rfl | (simp; done) | (simp [*]; done)), H', ⟨by have := HJ6.out; first | omega | exact Nat.le_refl _⟩, ⟨by (with_reducible repeat (first | refine blk_drewN ?_ _ | refine blk_drew ?_ | refine blk_alloc ?_ _)); exact BK411.out⟩, ⟨by (with_reducible repeat (first | refine blk_drewN ?_ _ | refine blk_drew ?_ | refine blk_alloc ?_ _)); exact BK417.out⟩, ⟨by repeat (first | (with_reducible first | exact HB.out | apply below_alloc | apply pw_below_drewN | apply below_drew1 | refine below_set ?_ GE411.out | refine below_set ?_ GE417.out) | exact HB.out)⟩⟩
        · rw [if_neg c18] at H
          have c18b0 : (t413.toList == ([84, 67] : List UInt8)) = false := beq_eq_false_iff_ne.mpr c18
          have c18b1 : (t413.toList != ([84, 67] : List UInt8)) = true := bne_iff_ne.mpr c18
          (first | rw [c18b0] | (simp only [i64_w, i32_w]; rw [c18b0]) | skip)
          have H' := Aside0.mk H
          clear H
          have hnb27 := NB417_411.out
          have hnc27 := NB411_417.out
          have hcz28_0 : wc.cell? ⟨gb417, 0, none⟩ = some (.string t413) := (blk_cell BK417.out 0).trans rfl
          have hcz28_1 : wc.cell? ⟨gb417, 1, none⟩ = some (.int .u8 t414) := (blk_cell BK417.out 1).trans rfl
          have hcz28_2 : wc.cell? ⟨gb417, 2, none⟩ = some (.int .i64 t415) := (blk_cell BK417.out 2).trans rfl
          have hcz28_3 : wc.cell? ⟨gb417, 3, none⟩ = some (.int .i64 t416) := (blk_cell BK417.out 3).trans rfl
          have hfz28_0 := blk_frozen BK417.out 0
          have hfz28_1 := blk_frozen BK417.out 1
          have hfz28_2 := blk_frozen BK417.out 2
          have hfz28_3 := blk_frozen BK417.out 3
          go_wp2
          go_meet
          case rel => exact ⟨_, (false), (by first | rfl | (simp; done) | (simp [*]; done)), H', ⟨by have := HJ6.out; first | omega | exact Nat.le_refl _⟩, ⟨by (with_reducible repeat (first | refine blk_drewN ?_ _ | refine blk_drew ?_ | refine blk_alloc ?_ _)); exact BK411.out⟩, ⟨by (with_reducible repeat (first | refine blk_drewN ?_ _ | refine blk_drew ?_ | refine blk_alloc ?_ _)); exact BK417.out⟩, ⟨by repeat (first | (with_reducible first | exact HB.out | apply below_alloc | apply pw_below_drewN | apply below_drew1 | refine below_set ?_ GE411.out | refine below_set ?_ GE417.out) | exact HB.out)⟩⟩
       case rest =>
        clear HC17
        try clear c1
        try clear c2
        try clear p2
        try clear c4
        try clear c6
        try clear c12
        try clear c15
        try clear c15b0
        try clear c16
        try clear c18
        try clear c18b0
        try clear c18b1
        try clear c19
        try clear c19b0
        try clear c19b1
        try clear c20
        try clear c22
        try clear c22b0
        try clear c22b1
        try clear c23
        try clear c25
        try clear c27
        try clear hcz13_0
        try clear hcz13_1
        try clear hcz13_2
        try clear hcz13_3
        try clear hcz21_0
        try clear hcz21_1
        try clear hcz21_2
        try clear hcz21_3
        try clear hcz24_0
        try clear hcz24_1
        try clear hcz24_2
        try clear hcz24_3
        try clear hcz26_0
        try clear hcz26_1
        try clear hcz26_2
        try clear hcz26_3
        try clear hcz28_0
        try clear hcz28_1
        try clear hcz28_2
        try clear hcz28_3
        try clear hcz9_0
        try clear hcz9_1
        try clear hcz9_2
        try clear hcz9_3
        try clear hcz9_4
        try clear hcz9_5
        try clear hfz13_0
        try clear hfz13_1
        try clear hfz13_2
        try clear hfz13_3
        try clear hfz21_0
        try clear hfz21_1
        try clear hfz21_2
        try clear hfz21_3
        try clear hfz24_0
        try clear hfz24_1
        try clear hfz24_2
        try clear hfz24_3
        try clear hfz26_0
        try clear hfz26_1
        try clear hfz26_2
        try clear hfz26_3
        try clear hfz28_0
        try clear hfz28_1
        try clear hfz28_2
        try clear hfz28_3
        try clear hfz9_0
        try clear hfz9_1
        try clear hfz9_2
        try clear hfz9_3
        try clear hfz9_4
        try clear hfz9_5
        try clear p2
        obtain ⟨kq, x31_16, rfl, HA, HJ16, BK411, BK417, HB⟩ := hcut
        cases kq with
        | zero => exact absurd HA.out (by simp [isa_Encode.j1])
        | succ kj16 =>
         have H := HA.out
         clear HA
         simp only [isa_Encode.j1] at H
         by_cases c29 : x31_16 = true
         · subst c29
           have H1 : (some (0, 3)) = some (r1, r2) := by rw [if_pos rfl] at H; exact H
           clear H
           have H := H1
           clear H1
           simp only [Option.some.injEq, Prod.mk.injEq] at H
           obtain ⟨rfl, rfl⟩ := H
           go_wp2
           go_ret2
           exact ⟨by first | rfl | (simp [errW_none, errW_some] <;> rfl) | (simp [*, errW_none, errW_some] <;> rfl), by repeat (first | (with_reducible first | exact HB.out | apply below_alloc | apply pw_below_drewN | apply below_drew1 | refine below_set ?_ GE411.out | refine below_set ?_ GE417.out) | exact HB.out)⟩
         · replace c29 := Bool.eq_false_iff.mpr c29
           subst c29
           have H1 : (if t413.toList = ([73, 78, 68, 69, 88] : List UInt8) then (if a1 = 15 then (some (0, 3)) else (some (IntKind.u16.wrap (wrap64 (t415 + a1)), 0))) else (some (IntKind.u16.wrap (wrap64 (t415 + a1)), 0))) = some (r1, r2) := by rw [if_neg (show ¬ (false = true) by decide)] at H; exact H
           clear H
           have H := H1
           clear H1
           by_cases c30 : t413.toList = ([73, 78, 68, 69, 88] : List UInt8)
           · rw [if_pos c30] at H
             have c30b0 : (t413.toList == ([73, 78, 68, 69, 88] : List UInt8)) = true := beq_iff_eq.mpr c30
             have c30b1 : (t413.toList != ([73, 78, 68, 69, 88] : List UInt8)) = false := bne_eq_false_iff_eq.mpr c30
             clear c30
             by_cases c31 : a1 = 15
             · rw [if_pos c31] at H
               have c31b0 : (a1 == 15) = true := beq_iff_eq.mpr c31
               have c31b1 : (a1 != 15) = false := bne_eq_false_iff_eq.mpr c31
               clear c31
               simp only [Option.some.injEq, Prod.mk.injEq] at H
               obtain ⟨rfl, rfl⟩ := H
               have hnb32 := NB417_411.out
               have hnc32 := NB411_417.out
               have hcz33_0 : wc.cell? ⟨gb417, 0, none⟩ = some (.string t413) := (blk_cell BK417.out 0).trans rfl
               have hcz33_1 : wc.cell? ⟨gb417, 1, none⟩ = some (.int .u8 t414) := (blk_cell BK417.out 1).trans rfl
               have hcz33_2 : wc.cell? ⟨gb417, 2, none⟩ = some (.int .i64 t415) := (blk_cell BK417.out 2).trans rfl
               have hcz33_3 : wc.cell? ⟨gb417, 3, none⟩ = some (.int .i64 t416) := (blk_cell BK417.out 3).trans rfl
               have hfz33_0 := blk_frozen BK417.out 0
               have hfz33_1 := blk_frozen BK417.out 1
               have hfz33_2 := blk_frozen BK417.out 2
               have hfz33_3 := blk_frozen BK417.out 3
               go_wp2
               go_ret2
               exact ⟨by first | rfl | (simp [errW_none, errW_some] <;> rfl) | (simp [*, errW_none, errW_some] <;> rfl), by repeat (first | (with_reducible first | exact HB.out | apply below_alloc | apply pw_below_drewN | apply below_drew1 | refine below_set ?_ GE411.out | refine below_set ?_ GE417.out) | exact HB.out)⟩
             · rw [if_neg c31] at H
               have c31b0 : (a1 == 15) = false := beq_eq_false_iff_ne.mpr c31
               have c31b1 : (a1 != 15) = true := bne_iff_ne.mpr c31
               simp only [Option.some.injEq, Prod.mk.injEq] at H
               obtain ⟨rfl, rfl⟩ := H
               have hnb34 := NB417_411.out
               have hnc34 := NB411_417.out
               have hcz35_0 : wc.cell? ⟨gb417, 0, none⟩ = some (.string t413) := (blk_cell BK417.out 0).trans rfl
               have hcz35_1 : wc.cell? ⟨gb417, 1, none⟩ = some (.int .u8 t414) := (blk_cell BK417.out 1).trans rfl
               have hcz35_2 : wc.cell? ⟨gb417, 2, none⟩ = some (.int .i64 t415) := (blk_cell BK417.out 2).trans rfl
               have hcz35_3 : wc.cell? ⟨gb417, 3, none⟩ = some (.int .i64 t416) := (blk_cell BK417.out 3).trans rfl
               have hfz35_0 := blk_frozen BK417.out 0
               have hfz35_1 := blk_frozen BK417.out 1
               have hfz35_2 := blk_frozen BK417.out 2
               have hfz35_3 := blk_frozen BK417.out 3
               go_wp2
               go_ret2
               exact ⟨by first | rfl | (simp [errW_none, errW_some] <;> rfl) | (simp [*, errW_none, errW_some] <;> rfl), by repeat (first | (with_reducible first | exact HB.out | apply below_alloc | apply pw_below_drewN | apply below_drew1 | refine below_set ?_ GE411.out | refine below_set ?_ GE417.out) | exact HB.out)⟩
           · rw [if_neg c30] at H
             have c30b0 : (t413.toList == ([73, 78, 68, 69, 88] : List UInt8)) = false := beq_eq_false_iff_ne.mpr c30
             have c30b1 : (t413.toList != ([73, 78, 68, 69, 88] : List UInt8)) = true := bne_iff_ne.mpr c30
             simp only [Option.some.injEq, Prod.mk.injEq] at H
             obtain ⟨rfl, rfl⟩ := H
             have hnb36 := NB417_411.out
             have hnc36 := NB411_417.out
             have hcz37_0 : wc.cell? ⟨gb417, 0, none⟩ = some (.string t413) := (blk_cell BK417.out 0).trans rfl
             have hcz37_1 : wc.cell? ⟨gb417, 1, none⟩ = some (.int .u8 t414) := (blk_cell BK417.out 1).trans rfl
             have hcz37_2 : wc.cell? ⟨gb417, 2, none⟩ = some (.int .i64 t415) := (blk_cell BK417.out 2).trans rfl
             have hcz37_3 : wc.cell? ⟨gb417, 3, none⟩ = some (.int .i64 t416) := (blk_cell BK417.out 3).trans rfl
             have hfz37_0 := blk_frozen BK417.out 0
             have hfz37_1 := blk_frozen BK417.out 1
             have hfz37_2 := blk_frozen BK417.out 2
             have hfz37_3 := blk_frozen BK417.out 3
             go_wp2
             go_ret2
             exact ⟨by first | rfl | (simp [errW_none, errW_some] <;> rfl) | (simp [*, errW_none, errW_some] <;> rfl), by repeat (first | (with_reducible first | exact HB.out | apply below_alloc | apply pw_below_drewN | apply below_drew1 | refine below_set ?_ GE411.out | refine below_set ?_ GE417.out) | exact HB.out)⟩
 · replace c4 := Bool.eq_false_iff.mpr c4
   subst c4
   have H1 : (some (0, 7)) = some (r1, r2) := by rw [if_neg (show ¬ (false = true) by decide)] at H; exact H
   clear H
   have H := H1
   clear H1
   simp only [Option.some.injEq, Prod.mk.injEq] at H
   obtain ⟨rfl, rfl⟩ := H
   go_enter Tryz.func68, Tryz.ntmps68
   go_wp2_with (first | ((with_reducible refine gate_dst (N := 2) rfl ?_); refine box_event ?hg (N := 2) ?hd (cs := #[.int .u8 a0_0, .string a0_1, .bool a0_2, .int .u8 a0_3, .int .i64 a0_4, .int .i64 a0_5]) (t := 119) ?hr ?_; (case hd => rfl); (case hg => rfl); (case hr => first | (go_simp; done) | (go_simp; rfl)); intro gb411 hg w38 hbox hb; have n0_ := Aside0.mk (below_step (by repeat (first | (with_reducible first | exact HB.out | apply below_alloc | apply pw_below_drewN | apply below_drew1) | exact HB.out)) hb); have n1_ := Aside0.mk (hbox); have n2_ := Aside0.mk ((by rw [hg]; exact (below_size (by repeat (first | (with_reducible first | exact HB.out | apply below_alloc | apply pw_below_drewN | apply below_drew1) | exact HB.out))) : w.heap.size ≤ gb411)); have n3_ := Aside0.mk ((by rw [hg]; exact (below_size (by repeat (first | (with_reducible first | exact HB.out | apply below_alloc | apply pw_below_drewN | apply below_drew1) | exact HB.out))) : w.heap.size ≤ gb411)); clear HB; have HB := n0_; have BK411 := n1_; have GW411 := n2_; have GE411 := n3_; clear n0_ n1_ n2_ n3_; clear hb hbox hg; have hcz39_0 : w38.cell? ⟨gb411, 0, none⟩ = some (.int .u8 a0_0) := (blk_cell BK411.out 0).trans rfl; have hcz39_1 : w38.cell? ⟨gb411, 1, none⟩ = some (.string a0_1) := (blk_cell BK411.out 1).trans rfl; have hcz39_2 : w38.cell? ⟨gb411, 2, none⟩ = some (.bool a0_2) := (blk_cell BK411.out 2).trans rfl; have hcz39_3 : w38.cell? ⟨gb411, 3, none⟩ = some (.int .u8 a0_3) := (blk_cell BK411.out 3).trans rfl; have hcz39_4 : w38.cell? ⟨gb411, 4, none⟩ = some (.int .i64 a0_4) := (blk_cell BK411.out 4).trans rfl; have hcz39_5 : w38.cell? ⟨gb411, 5, none⟩ = some (.int .i64 a0_5) := (blk_cell BK411.out 5).trans rfl; have hfz39_0 := blk_frozen BK411.out 0; have hfz39_1 := blk_frozen BK411.out 1; have hfz39_2 := blk_frozen BK411.out 2; have hfz39_3 := blk_frozen BK411.out 3; have hfz39_4 := blk_frozen BK411.out 4; have hfz39_5 := blk_frozen BK411.out 5) | ((with_reducible refine gate_callee (f := 183) rfl ?_); refine goesL_ (some 11) rfl rfl Tryz.func183 (by kernel_rfl) rfl #[.int .u8 a0_0] rfl (by (try simp only [List.map_toArray, List.map_cons, List.map_nil]); first | done | rfl | (simp only [List.length_drop, List.length_take]; rfl)) ?_; (with_reducible refine (isa_valid.calls a0_0 false _ A3.out).mono ?_); rintro e w' ⟨rfl, ⟨nd, rfl⟩⟩; refine ⟨_, rfl, ?_⟩))
   go_ret2
   exact ⟨by first | rfl | (simp [errW_none, errW_some] <;> rfl) | (simp [*, errW_none, errW_some] <;> rfl), by repeat (first | (with_reducible first | exact HB.out | apply below_alloc | apply pw_below_drewN | apply below_drew1 | refine below_set ?_ GE411.out) | exact HB.out)⟩
end Go.Proofs.YtgbmaajfbbilhaaGreat.PAll
end
