/- Chapter 5: a part of its proof (cut by program out of IsaF); no condition. -/
import Derived.Maps.OwnOps
import Derived.Maps.Views
import Derived.Test.YthfobpkdloejfaaGreatDb31
section
namespace Go.Proofs.YthfobpkdloejfaaGreat.PAll
open Go.RowKit Go.Proofs.YthfobpkdloejfaaGreat.Row Go.Proofs.YthfobpkdloejfaaGreatW.PrintWords Go.Proofs.YthfobpkdloejfaaGreatW.PrintLast Go.Proofs.YthfobpkdloejfaaGreatW.PrintMore
open Go.Maps Go.WideMaps
set_option linter.unusedVariables false
set_option linter.unusedSimpArgs false
def NAMES : List ByteArray := ENT.map (·.1)
def nmL (k : Nat) : List UInt8 := (NAMES.getD k ByteArray.empty).data.toList
def Dm : Nat → DataW Unit
  | 0 => .map []
  | k + 1 => (Dm k).put (.string (nmL k)) (.lit (.int .u8 ((k : Int) + 1)))
def codeD : Nat → List UInt8 → Int
  | 0, _ => 0
  | k + 1, l => if l = nmL k then (k : Int) + 1 else codeD k l
theorem Dm_map : ∀ k, IsMap (Dm k)
  | 0 => ⟨_, rfl⟩
  | k + 1 => by
    obtain ⟨es, he⟩ := Dm_map k
    exact ⟨_, by rw [Dm, he]; rfl⟩
theorem Dm_at (l : List UInt8) : ∀ k, (Dm k).atKey (.string l) (.lit (.int .u8 0)) = .lit (.int .u8 (codeD k l))
  | 0 => rfl
  | k + 1 => by
    rw [Dm, codeD]
    by_cases h : l = nmL k
    · rw [if_pos h, h]
      exact atKey_put_same (Dm_map k) (by simp [WideAt.IsKeyLit]) _ _
    · rw [if_neg h, atKey_put_other (fun e => h (by simpa using e)), Dm_at l k]
theorem names_f : isa_Names.f 41 = some NAMES := by kernel_rfl
theorem law9 : Keyed Tryz.prog 9 := string_keyed Tryz.underlying9
theorem zero22 (w : World) : (zeroValue 38).run Tryz.prog w = .ok (.int .u8 0) w := by kernel_rfl
theorem key9 (s : ByteArray) (h : s.size ≤ maxLen) : keyOf Tryz.prog 9 (.string s) = some (.string s.data.toList) := keyOf_string_mk Tryz.underlying9 h
theorem names_len : NAMES.length = 39 := by kernel_rfl
theorem names_size : ∀ s ∈ NAMES, s.size ≤ maxLen := by
  have h : NAMES.all (fun s => decide (s.size ≤ 100)) = true := by kernel_rfl
  intro s hs
  have := of_decide_eq_true (List.all_eq_true.1 h s hs)
  unfold maxLen; omega
theorem names_at (k : Nat) : (NAMES.getD k ByteArray.empty).size ≤ maxLen := by
  by_cases h : k < NAMES.length
  · rw [List.getD_eq_getElem?_getD, List.getElem?_eq_getElem h]
    exact names_size _ (List.getElem_mem h)
  · rw [List.getD_eq_getElem?_getD, List.getElem?_eq_none (by omega)]
    decide
theorem wf_u8 {a : Int} (h0 : 0 ≤ a) (h1 : a < 256) : (Lit.int .u8 a).wf = true := by
  simp [Lit.wf, IntKind.min, IntKind.max, IntKind.signed, IntKind.bits]; omega
theorem own_base {w : World} {base n : Nat} {e : TypeId} {size : Nat} {ad : Addr} {c : Nat} {xs : List Value} (h : w.ownsRow base e size (.slice (some ad) n c) n xs) : base ≤ ad.block := by
  rcases h.2 with ⟨h1, _⟩ | ⟨g, cap, cur, h1, h2, _⟩
  · cases h1
  · injection h1 with e1 _ _
    injection e1 with e1
    subst e1
    exact h2
theorem _root_.Go.World.ownsMap.below_ {H : Type} {w w1 : World} {P : Program} {k : TypeId} {R : Value → Option (DataW H × List MemPlace)} {b n : Nat} {D : DataW H} (h : w.ownsMap P k R b n D) (hb : Below w.heap.size w w1) : w1.ownsMap P k R b n D := by
  obtain ⟨es, clock, hh, r⟩ := h
  exact ⟨es, clock, (hb.block b (blk_lt hh)).trans hh, r⟩
theorem KeepBut.of_grown_ {w w1 : World} {b : Nat} (h : w.grownBy w1 (some b)) : KeepBut w w1 b none := ⟨h.size, fun i hi hne _ => h.block i hi (by simpa using hne)⟩
set_option maxRecDepth 100000 in
set_option maxHeartbeats 1000000 in
theorem index_c (w : World) : Calls Tryz.prog 149 #[] w fun e w' => e = .returned (.map (some w.heap.size)) ∧ w'.ownsMap Tryz.prog 9 (plainElem (H := Unit) Tryz.prog 38) w.heap.size 39 (Dm 39) ∧ Below w.heap.size w w' := by
  have hmm := @run_makeMap Tryz.prog
  go_enter Tryz.func149, Tryz.ntmps149
  go_wp2_with (go_at_call 177; (with_reducible refine (isa_Names.calls 41 NAMES _ names_f).mono ?_); rintro e w1 ⟨v, rfl, hR, hb⟩; obtain ⟨A, c, rfl, hc, hC⟩ := Kd.R_reads hR; have HB := Aside0.mk hb; have HR := Aside0.mk hR; have HC := Aside0.mk hC; clear hb hR hC)
  obtain ⟨ad, eA, hx0⟩ := Kd.at_string HC.out 0 (by omega) (by rw [names_len]; omega)
  subst eA
  have hne : ad.block ≠ w.heap.size := by
    have h := HR.out
    obtain ⟨inner, ho⟩ := Kd.R_own h
    have hb0 := own_base ho
    simp only [World.size_alloc] at hb0
    omega
  clear hx0
  have HN := Aside0.mk hne
  clear hne
  have HM : w1.ownsMap Tryz.prog 9 (plainElem (H := Unit) Tryz.prog 38) w.heap.size 0 (Dm 0) := (World.ownsMap_made w Tryz.prog _ _).below_ HB.out
  have HW := Aside0.mk ((below_alloc (Below.refl w.heap.size w) _).trans (HB.out.mono (by simp)))
  clear HB HR
  rw [names_len] at HC ⊢
  rw [show ((39 : Nat) : Int) = 39 from rfl]
  go_loopw [7] (fun i wr => ∃ k : Nat, k ≤ 39 ∧ i = .int .i64 k ∧ Aside0 (wr.ownsMap Tryz.prog 9 (plainElem (H := Unit) Tryz.prog 38) w.heap.size k (Dm k)) ∧ Aside0 (Below w.heap.size w wr) ∧ Aside0 (Kd.C Kd.string wr (some ad) 39 NAMES))
    (fun i _ => 39 - (intOf i).toNat)
  case atStart => exact ⟨0, by omega, rfl, ⟨HM⟩, HW, HC⟩
  case round =>
    clear HM HW HC
    obtain ⟨k, hk, rfl, HM, HW, HC⟩ := hrel
    by_cases hlt : k < 39
    · obtain ⟨ad2, e2, hx⟩ := Kd.at_string HC.out (k : Int) (by omega) (by omega)
      injection e2 with e3
      subst e3
      rw [Int.toNat_natCast] at hx
      have hs : rdOf ByteArray.empty NAMES (k : Int) = NAMES.getD k ByteArray.empty := by simp [rdOf]
      rw [hs] at hx
      clear hs
      have hkey : keyOf Tryz.prog 9 (.string (NAMES.getD k ByteArray.empty)) = some (.string (nmL k)) := key9 _ (names_at k)
      obtain ⟨s, hsn⟩ : ∃ s, NAMES.getD k ByteArray.empty = s := ⟨_, rfl⟩
      rw [hsn] at hx hkey
      clear hsn
      have HK := Lib.hid hkey
      clear hkey
      have ew : IntKind.u8.wrap ((k : Int) + 1) = (k : Int) + 1 := by rw [IntKind.wrap_u8]; omega
      go_wp2_with (first | (at_mapUpdate; refine wpList_mapUpdate_own _ rfl _ _ _ 145 rfl 9 38 law9 Tryz.underlying145 _ w.heap.size k _ rfl HM.out ?hn _ _ _ rfl rfl HK.out _ [] (plainElem_int Tryz.underlying38 ?hw) ?_; (case hn => (unfold maxLen; omega)); (case hw => exact wf_u8 (by omega) (by omega)); intro w2 hm hg; have n1 := Aside0.mk hm; have n2 := Aside0.mk (HW.out.grown hg HW.out.size (fun j hj => by cases hj; exact Nat.le_refl _)); have n3 := Aside0.mk (Kd.C_keep ByteArray.empty HC.out (KeepBut.of_grown_ hg) (fun a e _ => by cases e; exact HN.out)); clear HM HW HC hm hg hx ew))
      go_roundw
      case rel => exact ⟨k + 1, by omega, by go_num, n1, n2, n3⟩
      case measure => simp [intOf]; omega
    · obtain rfl : k = 39 := by omega
      go_wp2
      go_ret
      exact ⟨rfl, HM.out, HW.out⟩
def isa_Find.f (k : Nat) (a0 : ByteArray) : Option (Int × ByteArray × Bool × Int × Int × Int × Int) := if a0.size ≤ 140737488351232 then isa_Of.f (codeD 39 a0.data.toList) else none
set_option maxRecDepth 100000 in
set_option maxHeartbeats 1000000 in
theorem isa_Find.calls (k : Nat) (a0 : ByteArray) (r1 : Int) (r2 : ByteArray) (r3 : Bool) (r4 : Int) (r5 : Int) (r6 : Int) (r7 : Int) (w : World) (h : isa_Find.f k a0 = some (r1, r2, r3, r4, r5, r6, r7)) :
    Calls Tryz.prog 65 #[.string a0] w fun e w' => e = .returned (.tuple #[.agg #[.int .u8 r1, .string r2, .bool r3, .int .u8 r4, .int .i64 r5, .int .i64 r6], .int .i64 r7]) ∧ Below w.heap.size w w' := by
  have HB := Aside0.mk (Below.refl w.heap.size w)
  unfold isa_Find.f at h
  split at h
  case isFalse => cases h
  rename_i hs
  have H := Aside0.mk h
  have HK := Aside0.mk (key9 a0 (by unfold maxLen; omega))
  clear h hs
  go_enter Tryz.func65, Tryz.ntmps65
  go_wp2_with (first | ((with_reducible refine gate_dst (N := 2) rfl ?_); refine box_event ?hg (N := 2) ?hd (cs := #[.int .u8 0, .string (⟨#[]⟩ : ByteArray), .bool false, .int .u8 0, .int .i64 0, .int .i64 0]) (t := 41) ?hr ?_; (case hd => rfl); (case hg => rfl); (case hr => kernel_rfl); intro g hg w1 K hb; have H1 := Aside0.mk (below_step HB.out hb); have HG := Aside0.mk K; have Hg := Aside0.mk hg; clear K hb hg HB) | (go_at_call 149; (with_reducible refine (index_c _).mono ?_); rintro e w2 ⟨rfl, hm, hb⟩; have H2 := Aside0.mk (below_step H1.out hb); have HG2 := Aside0.mk (blk_below HG.out hb); have HM := Aside0.mk hm; clear hb hm H1 HG) | (at_lookup; refine wpList_lookup_own_int _ rfl _ _ 145 rfl 9 38 .u8 law9 Tryz.underlying145 Tryz.underlying38 (zero22 _) _ 39 _ rfl HM.out _ _ rfl HK.out ?_; intro c hat hwc; rw [Dm_at] at hat; injection hat with h1; injection h1 with h2 h3; subst h3; clear hwc h2) | (go_at_call 78; (with_reducible refine (isa_Of.calls _ _ _ _ _ _ _ _ _ H.out).mono ?_); rintro e w3 ⟨rfl, hb⟩; have H3 := Aside0.mk (below_step H2.out hb); have HG3 := Aside0.mk (blk_below HG2.out hb); clear hb HM H2 HG2) | (refine store_row_ rfl 41 (.tmp 2) (.tmp 8) rfl g rfl 41 _ #[.int .u8 r1, .string r2, .bool r3, .int .u8 r4, .int .i64 r5, .int .i64 r6] rfl HG3.out ?hi ?hs ?h1 ?_; (case hi => kernel_rfl); (case hs => rfl); (case h1 => kernel_rfl)))
  refine bodyPost_ret (results_list (rs := [.cell 2 41, .tmp 3]) rfl (by simp) (.cell g 41 #[.int .u8 r1, .string r2, .bool r3, .int .u8 r4, .int .i64 r5, .int .i64 r6] (0, 0) _ rfl (blk_row HG3.out _) Tryz.underlying41 rfl (by kernel_rfl) (.tmp .nil))) rfl ⟨rfl, below_setRow H3.out (Nat.le_of_eq Hg.out.symm) _⟩
end Go.Proofs.YthfobpkdloejfaaGreat.PAll
end
