/- memory.Read, Write, Apply, Words and their references: what they compute, and their contracts. -/
import Derived.Test.YtllmmgjmkgiodaaMem6
import Derived.Test.YtllmmgjmkgiodaaLit
import Derived.Maps.AppendAt
namespace Go.Proofs.Ytllmmgjmkgiodaa.Mem
open Go.RowKit Go.Proofs.Ytllmmgjmkgiodaa.PAll Go.Proofs.YtllmmgjmkgiodaaW.PrintWords Go.Proofs.YtllmmgjmkgiodaaW.PrintLast Go.Proofs.YtllmmgjmkgiodaaW.PrintMore Go.Proofs.Ytllmmgjmkgiodaa.Plain Go.Proofs.Ytllmmgjmkgiodaa.Par Go.Proofs.Ytllmmgjmkgiodaa.Lit
set_option linter.unusedVariables false
set_option linter.unusedSimpArgs false
def RNG (l : List Int) : Prop := ∀ i : Int, 0 ≤ i → i < (l.length : Int) → 0 ≤ rd l i ∧ rd l i < 65536
theorem RNG.nat {l : List Int} (h : RNG l) (i : Int) (h0 : 0 ≤ i) (h1 : i < (l.length : Int)) : ∃ n : Nat, rd l i = n ∧ n < 65536 := by
  have := h i h0 h1
  exact ⟨(rd l i).toNat, by omega, by omega⟩
theorem RNG_of {l : List Int} (hb : ∀ x ∈ l, 0 ≤ x ∧ x < 65536) : RNG l := fun i h0 h => by
  have hk : i.toNat < l.length := by omega
  have := hb _ (List.getElem_mem hk)
  unfold rd
  rw [List.getD_eq_getElem?_getD, List.getElem?_eq_getElem hk]; exact this
theorem refPut_any (a : Nat) (ha : a < 65536) (k : Nat) (hk : 20 ≤ k) : periluneref02_Put.f k (a : Int) = some ((putN a : Nat) : Int) :=
  at_rounds (g := fun k => periluneref02_Put.f k (a : Int)) (periluneref02_Put.mono _) hk (refPut_eq a ha)
theorem refGet_any (a : Nat) (ha : a < 65536) (k : Nat) (hk : 20 ≤ k) : periluneref02_Get.f k (a : Int) = some (((a % 32768 : Nat) : Int), obits a 16) :=
  at_rounds (g := fun k => periluneref02_Get.f k (a : Int)) (periluneref02_Get.mono _) hk (refGet_eq a ha)
theorem takeI (l : List Int) (i : Int) (h0 : 0 ≤ i) (h : i < (l.length : Int)) : l.take (i + 1).toNat = l.take i.toNat ++ [rd l i] := by
  obtain ⟨k, rfl⟩ := Int.eq_ofNat_of_zero_le h0
  have hk : k < l.length := by omega
  rw [show ((k : Int) + 1).toNat = k + 1 by omega, Int.toNat_natCast, List.take_succ_eq_append_getElem hk]
  unfold rd
  rw [Int.toNat_natCast, List.getD_eq_getElem?_getD, List.getElem?_eq_getElem hk]; rfl

/-! ### Read -/
def readW (l : List Int) (a : Int) : Int := if 0 ≤ a ∧ a < (l.length : Int) then (if ob16 (rd l a) then rd l a % 32768 else 0) else 0
def readE (l : List Int) (a : Int) : Int := if 0 ≤ a ∧ a < (l.length : Int) then (if ob16 (rd l a) then 0 else 11) else 3
theorem read_f (l : List Int) (a : Int) (hl : l.length ≤ 140737488351232) (hb : RNG l) : memory_Read.f 20 l a = some (readW l a, readE l a) := by
  unfold memory_Read.f
  rw [in_f, w64 (by omega) (by omega), Option.bind_some]
  unfold readW readE
  by_cases c : 0 ≤ a ∧ a < (l.length : Int)
  · obtain ⟨n, hn, hn2⟩ := hb.nat a c.1 c.2
    rw [if_pos (decide_eq_true (by omega)), if_pos c.1, if_pos c.2, if_pos c, if_pos c, hn, get_eq n 20 hn2 (by decide), Option.bind_some]
    have e : ob16 (n : Int) = obits n 16 := rfl
    rw [e]
    cases obits n 16 <;> simp
  · rw [if_neg (by rw [decide_eq_true_eq]; omega), if_neg c, if_neg c]
theorem refRead_f (l : List Int) (a : Int) (hl : l.length ≤ 140737488351232) (hb : RNG l) : periluneref03_Read.f 20 l a = some (readW l a, readE l a) := by
  unfold periluneref03_Read.f
  rw [within_f, w64 (by omega) (by omega), Option.bind_some]
  unfold readW readE
  by_cases c : 0 ≤ a ∧ a < (l.length : Int)
  · obtain ⟨n, hn, hn2⟩ := hb.nat a c.1 c.2
    rw [if_pos (decide_eq_true (by omega)), if_pos c.1, if_pos c.2, if_pos c, if_pos c, hn, refGet_eq n hn2, Option.bind_some]
    have e : ob16 (n : Int) = obits n 16 := rfl
    rw [e]
    cases obits n 16 <;> simp
  · rw [if_neg (by rw [decide_eq_true_eq]; omega), if_neg c, if_neg c]
theorem Read_c (A : Option Addr) (c : Nat) (l : List Int) (n : Nat) (e0 : l.length = n) (a : Int) (w : World) (hr : Kd.C (Kd.int .u16) w A n l) (hc : n ≤ c) (hl : n ≤ 140737488351232) (hb : RNG l) :
    Calls Try.prog 18 #[.slice A n c, .int .i64 a] w fun e w' => e = .returned (.tuple #[.int .u16 (readW l a), .int .i64 (readE l a)]) ∧ Drawn0 w w' := by
  subst e0; exact memory_Read.calls 20 A c l a _ _ w hr hc (read_f l a hl hb)
theorem refRead_c (A : Option Addr) (c : Nat) (l : List Int) (n : Nat) (e0 : l.length = n) (a : Int) (w : World) (hr : Kd.C (Kd.int .u16) w A n l) (hc : n ≤ c) (hl : n ≤ 140737488351232) (hb : RNG l) :
    Calls Try.prog 19 #[.slice A n c, .int .i64 a] w fun e w' => e = .returned (.tuple #[.int .u16 (readW l a), .int .i64 (readE l a)]) ∧ Drawn0 w w' := by
  subst e0; exact periluneref03_Read.calls 20 A c l a _ _ w hr hc (refRead_f l a hl hb)

/-! ### Write -/
def wrE (n : Nat) (a : Int) : Int := if 0 ≤ a ∧ a < (n : Int) then 0 else 3
def wrL (l : List Int) (a x : Int) : List Int := if 0 ≤ a ∧ a < (l.length : Int) then l.set a.toNat (putI x) else []
theorem refWrite_f (l : List Int) (a x : Int) (hl : l.length ≤ 70368744177663) (x0 : 0 ≤ x) (x1 : x < 65536) : periluneref03_Write.f 20 l a x = some (wrL l a x, wrE l.length a) := by
  unfold periluneref03_Write.f
  rw [within_f, w64 (by omega) (by omega), Option.bind_some]
  unfold wrL wrE
  by_cases c : 0 ≤ a ∧ a < (l.length : Int)
  · obtain ⟨n, rfl⟩ := Int.eq_ofNat_of_zero_le x0
    rw [if_pos (decide_eq_true (by omega)), if_pos (by simp; omega), Option.bind_some, refPut_eq n (by omega), Option.bind_some, List.nil_append, if_pos c.1, if_pos c.2, if_pos c, if_pos c]
    rfl
  · rw [if_neg (by rw [decide_eq_true_eq]; omega), if_neg c, if_neg c]
theorem refWrite_c (A : Option Addr) (c : Nat) (l : List Int) (n : Nat) (e0 : l.length = n) (a x : Int) (w : World) (hr : Kd.C (Kd.int .u16) w A n l) (hc : n ≤ c) (hl : n * 2 ≤ 140737488351232) (x0 : 0 ≤ x) (x1 : x < 65536) :
    Calls Try.prog 21 #[.slice A n c, .int .i64 a, .int .u16 x] w fun e w' => ∃ v, e = .returned (.tuple #[v, .int .i64 (wrE n a)]) ∧ Kd.R (Kd.int .u16) 54 w' w.heap.size (fun _ => True) v (wrL l a x) ∧ Below w.heap.size w w' := by
  subst e0; exact periluneref03_Write.calls 20 A c l a x _ _ w hr hc (refWrite_f l a x (by omega) x0 x1)

/-! ### Apply -/
def apE (n : Nat) (cs : List S46) : Int := if inB n cs then 0 else 3
def apL (l : List Int) (cs : List S46) : List Int := if inB l.length cs then appL l cs else []
def RNC (cs : List S46) : Prop := ∀ i : Int, 0 ≤ i → i < (cs.length : Int) → 0 ≤ (rd_T46 cs i).f1 ∧ (rd_T46 cs i).f1 < 65536
theorem Apply_c (A0 : Option Addr) (c0 : Nat) (l : List Int) (A1 : Option Addr) (c1 : Nat) (cs : List S46) (n m : Nat) (e0 : l.length = n) (e1 : cs.length = m) (w : World) (hr0 : Kd.C (Kd.int .u16) w A0 n l) (hr1 : Kd.C k46 w A1 m cs)
    (hl : n * 2 ≤ 140737488351232) (hm : m * 2 ≤ 140737488351232) (hb : RNC cs) :
    Calls Try.prog 23 #[.slice A0 n c0, .slice A1 m c1] w fun e w' => ∃ v, e = .returned (.tuple #[v, .int .i64 (apE n cs)]) ∧ Kd.R (Kd.int .u16) 54 w' w.heap.size (fun _ => True) v (apL l cs) ∧ Below w.heap.size w w' :=
  Apply_w A0 c0 l A1 c1 cs n m e0 e1 w hr0 hr1 hl hm (by subst e1; exact hb) _ _ rfl (by unfold apL; rw [e0])
theorem refAp_loop1 (cs : List S46) (hb : RNC cs) (hm : cs.length ≤ 70368744177663) (n : Nat) (l : List Int) (hn : l.length = n) (hB : inB n cs = true) : ∀ d (i : Nat) k, i + d = cs.length → d + 30 < k →
    periluneref03_Apply.l1 k cs (appL l (cs.take i)) (i : Int) = some (appL l cs, 0)
  | 0, i, k, h, hk => by
    obtain ⟨k, rfl⟩ : ∃ m, k = m + 1 := ⟨k - 1, by omega⟩
    simp only [periluneref03_Apply.l1]
    rw [if_neg (by omega), List.take_of_length_le (by omega)]
  | d + 1, i, k, h, hk => by
    obtain ⟨k, rfl⟩ : ∃ m, k = m + 1 := ⟨k - 1, by omega⟩
    have hw : wrap64 ((i : Int) + 1) = ((i + 1 : Nat) : Int) := by rw [w64 (by omega) (by omega)]; omega
    have hi : (i : Int) < (cs.length : Int) := by omega
    obtain ⟨r0, r1⟩ := hb i (by omega) hi
    have hin : 0 ≤ (rd_T46 cs i).f0 ∧ (rd_T46 cs i).f0 < (n : Int) := by
      by_cases c : 0 ≤ (rd_T46 cs i).f0 ∧ (rd_T46 cs i).f0 < (n : Int)
      · exact c
      · rw [inB_bad n cs i (by omega) hi c] at hB; cases hB
    have NX := appL_next l cs i (by omega) hi
    rw [show ((i : Int) + 1).toNat = i + 1 by omega, Int.toNat_natCast] at NX
    obtain ⟨x, hx⟩ := Int.eq_ofNat_of_zero_le r0
    simp only [periluneref03_Apply.l1]
    rw [if_pos hi, if_pos (by omega), hx, refPut_any x (by omega) k (by omega)]
    simp only [Option.bind_some]
    rw [if_pos hin.1, if_pos (by rw [appL_length, hn]; exact hin.2), hw]
    have := refAp_loop1 cs hb hm n l hn hB d (i + 1) k (by omega) (by omega)
    rw [NX, hx] at this
    exact this
theorem refAp_loop0 (cs : List S46) (hb : RNC cs) (hm : cs.length ≤ 70368744177663) (l : List Int) (hl : l.length ≤ 70368744177663) : ∀ d (i : Nat) k, i + d = cs.length → inB l.length (cs.take i) = true → d + 40 + cs.length < k →
    periluneref03_Apply.l0 k l cs (i : Int) = some (apL l cs, apE l.length cs)
  | 0, i, k, h, hin, hk => by
    obtain ⟨k, rfl⟩ : ∃ m, k = m + 1 := ⟨k - 1, by omega⟩
    rw [List.take_of_length_le (by omega)] at hin
    simp only [periluneref03_Apply.l0]
    rw [if_neg (by omega), if_pos (by simp; omega)]
    unfold apL apE
    rw [hin, if_pos rfl, if_pos rfl, List.nil_append]
    exact refAp_loop1 cs hb hm _ l rfl hin cs.length 0 k (by omega) (by omega)
  | d + 1, i, k, h, hin, hk => by
    obtain ⟨k, rfl⟩ : ∃ m, k = m + 1 := ⟨k - 1, by omega⟩
    have hw : wrap64 ((i : Int) + 1) = ((i + 1 : Nat) : Int) := by rw [w64 (by omega) (by omega)]; omega
    have hi : (i : Int) < (cs.length : Int) := by omega
    simp only [periluneref03_Apply.l0]
    rw [if_pos hi, if_pos (by omega), within_f, w64 (by omega) (by omega), Option.bind_some]
    by_cases c : 0 ≤ (rd_T46 cs i).f0 ∧ (rd_T46 cs i).f0 < (l.length : Int)
    · rw [if_pos (decide_eq_true (by omega)), hw]
      refine refAp_loop0 cs hb hm l hl d (i + 1) k (by omega) ?_ (by omega)
      have NB := inB_next l.length cs i (by omega) hi
      rw [show ((i : Int) + 1).toNat = i + 1 by omega, Int.toNat_natCast, hin, Bool.true_and] at NB
      rw [NB]; exact decide_eq_true c
    · rw [if_neg (by rw [decide_eq_true_eq]; omega)]
      unfold apL apE
      rw [inB_bad l.length cs i (by omega) hi c, if_neg (by decide), if_neg (by decide)]
theorem refApply_c (A0 : Option Addr) (c0 : Nat) (l : List Int) (A1 : Option Addr) (c1 : Nat) (cs : List S46) (n m : Nat) (e0 : l.length = n) (e1 : cs.length = m) (w : World) (hr0 : Kd.C (Kd.int .u16) w A0 n l) (hc0 : n ≤ c0) (hr1 : Kd.C k46 w A1 m cs) (hc1 : m ≤ c1)
    (hl : n * 2 ≤ 140737488351232) (hm : m * 2 ≤ 140737488351232) (hb : RNC cs) :
    Calls Try.prog 24 #[.slice A0 n c0, .slice A1 m c1] w fun e w' => ∃ v, e = .returned (.tuple #[v, .int .i64 (apE n cs)]) ∧ Kd.R (Kd.int .u16) 54 w' w.heap.size (fun _ => True) v (apL l cs) ∧ Below w.heap.size w w' := by
  subst e0; subst e1
  exact periluneref03_Apply.calls (2 * cs.length + 50) A0 c0 l A1 c1 cs _ _ w hr0 hc0 hr1 hc1 (by unfold periluneref03_Apply.f; exact refAp_loop0 cs hb (by omega) l (by omega) cs.length 0 _ (by omega) rfl (by omega))

/-! ### Words -/
def wordsL (l : List Int) : List Int := l.map fun x => x % 32768
theorem refWords_loop (l : List Int) (hb : RNG l) (hl : l.length ≤ 70368744177663) : ∀ d (i : Nat) k, i + d = l.length → d + 30 < k →
    periluneref03_Words.l0 k l (wordsL (l.take i)) (i : Int) = some (wordsL l)
  | 0, i, k, h, hk => by
    obtain ⟨k, rfl⟩ : ∃ m, k = m + 1 := ⟨k - 1, by omega⟩
    simp only [periluneref03_Words.l0]
    rw [if_neg (by omega), List.take_of_length_le (by omega)]
  | d + 1, i, k, h, hk => by
    obtain ⟨k, rfl⟩ : ∃ m, k = m + 1 := ⟨k - 1, by omega⟩
    have hw : wrap64 ((i : Int) + 1) = ((i + 1 : Nat) : Int) := by rw [w64 (by omega) (by omega)]; omega
    have hi : (i : Int) < (l.length : Int) := by omega
    obtain ⟨n, hn, hn2⟩ := hb.nat i (by omega) hi
    have ht := takeI l i (by omega) hi
    rw [show ((i : Int) + 1).toNat = i + 1 by omega, Int.toNat_natCast] at ht
    simp only [periluneref03_Words.l0]
    rw [if_pos hi, if_pos (by omega), hn, refGet_any n hn2 k (by omega)]
    simp only [Option.bind_some]
    rw [if_pos (by unfold wordsL; rw [List.length_map, List.length_take]; omega), hw]
    have := refWords_loop l hb hl d (i + 1) k (by omega) (by omega)
    unfold wordsL at this ⊢
    rw [ht, List.map_append, hn] at this
    rw [Int.natCast_emod]
    exact this
theorem refWords_c (A : Option Addr) (c : Nat) (l : List Int) (n : Nat) (e0 : l.length = n) (w : World) (hr : Kd.C (Kd.int .u16) w A n l) (hc : n ≤ c) (hl : n * 2 ≤ 140737488351232) (hb : RNG l) :
    Calls Try.prog 27 #[.slice A n c] w fun e w' => ∃ v, e = .returned v ∧ Kd.R (Kd.int .u16) 40 w' w.heap.size (fun _ => True) v (wordsL l) ∧ Below w.heap.size w w' := by
  subst e0
  exact periluneref03_Words.calls (l.length + 40) A c l _ w hr hc (by unfold periluneref03_Words.f; exact refWords_loop l hb (by omega) l.length 0 _ (by omega) (by omega))
theorem Same_loop (l : List Int) (hl : l.length ≤ 140737488351232) : ∀ d (i : Nat) k, i + d = l.length → 2 * d + 3 < k → periluneref02_Same.l0 k l l (i : Int) = some true
  | 0, i, k, h, hk => by
    obtain ⟨k, rfl⟩ : ∃ m, k = m + 2 := ⟨k - 2, by omega⟩
    simp only [periluneref02_Same.l0, periluneref02_Same.j1]
    rw [if_neg (by omega), if_neg (by decide), beq_self_eq_true]
  | d + 1, i, k, h, hk => by
    obtain ⟨k, rfl⟩ : ∃ m, k = m + 2 := ⟨k - 2, by omega⟩
    have hw : wrap64 ((i : Int) + 1) = ((i + 1 : Nat) : Int) := by rw [w64 (by omega) (by omega)]; omega
    have hi : (i : Int) < (l.length : Int) := by omega
    simp only [periluneref02_Same.l0, periluneref02_Same.j1]
    rw [if_pos hi, decide_eq_true hi, if_pos rfl, if_pos (by omega), if_pos hi, if_pos hi, if_pos trivial, hw]
    exact Same_loop l hl d (i + 1) k (by omega) (by omega)
theorem Same_c (A0 : Option Addr) (c0 : Nat) (A1 : Option Addr) (c1 : Nat) (l : List Int) (n0 n1 : Nat) (e0 : l.length = n0) (e1 : l.length = n1) (w : World) (hr0 : Kd.C (Kd.int .u16) w A0 l.length l) (hc0 : l.length ≤ c0) (hr1 : Kd.C (Kd.int .u16) w A1 l.length l) (hc1 : l.length ≤ c1) (hl : l.length ≤ 140737488351232) :
    Calls Try.prog 22 #[.slice A0 n0 c0, .slice A1 n1 c1] w fun e w' => e = .returned (.bool true) ∧ Drawn0 w w' := by
  subst e0; subst e1
  exact periluneref02_Same.calls (2 * l.length + 10) A0 c0 l A1 c1 l true w hr0 hc0 hr1 hc1 (by unfold periluneref02_Same.f; exact Same_loop l hl l.length 0 _ (by omega) (by omega))
theorem WordsEq_loop (l : List Int) (hl : l.length ≤ 140737488351232) : ∀ d (i : Nat) k, i + d = l.length → 2 * d + 3 < k → periluneref02_Words.l0 k l l (i : Int) = some true
  | 0, i, k, h, hk => by
    obtain ⟨k, rfl⟩ : ∃ m, k = m + 2 := ⟨k - 2, by omega⟩
    simp only [periluneref02_Words.l0, periluneref02_Words.j1]
    rw [if_neg (by omega), if_neg (by decide), beq_self_eq_true]
  | d + 1, i, k, h, hk => by
    obtain ⟨k, rfl⟩ : ∃ m, k = m + 2 := ⟨k - 2, by omega⟩
    have hw : wrap64 ((i : Int) + 1) = ((i + 1 : Nat) : Int) := by rw [w64 (by omega) (by omega)]; omega
    have hi : (i : Int) < (l.length : Int) := by omega
    simp only [periluneref02_Words.l0, periluneref02_Words.j1]
    rw [if_pos hi, decide_eq_true hi, if_pos rfl, if_pos (by omega), if_pos hi, if_pos hi, if_pos trivial, hw]
    exact WordsEq_loop l hl d (i + 1) k (by omega) (by omega)
theorem WordsEq_c (A0 : Option Addr) (c0 : Nat) (A1 : Option Addr) (c1 : Nat) (l : List Int) (n0 n1 : Nat) (e0 : l.length = n0) (e1 : l.length = n1) (w : World) (hr0 : Kd.C (Kd.int .u16) w A0 l.length l) (hc0 : l.length ≤ c0) (hr1 : Kd.C (Kd.int .u16) w A1 l.length l) (hc1 : l.length ≤ c1) (hl : l.length ≤ 140737488351232) :
    Calls Try.prog 25 #[.slice A0 n0 c0, .slice A1 n1 c1] w fun e w' => e = .returned (.bool true) ∧ Drawn0 w w' := by
  subst e0; subst e1
  exact periluneref02_Words.calls (2 * l.length + 10) A0 c0 l A1 c1 l true w hr0 hc0 hr1 hc1 (by unfold periluneref02_Words.f; exact WordsEq_loop l hl l.length 0 _ (by omega) (by omega))

/-! ### Write and Words: the walks -/
def f46 (x : S46) : List Value := [.int .i64 x.f0, .int .u16 x.f1]
theorem inB_one (n : Nat) (a x : Int) : inB n [⟨a, x⟩] = decide (0 ≤ a ∧ a < (n : Int)) := by unfold inB; simp
theorem apE_one (n : Nat) (a x : Int) : apE n [⟨a, x⟩] = wrE n a := by
  unfold apE wrE; rw [inB_one]; by_cases c : 0 ≤ a ∧ a < (n : Int)
  · rw [if_pos (decide_eq_true c), if_pos c]
  · rw [if_neg (by rw [decide_eq_true_eq]; exact c), if_neg c]
theorem apL_one (l : List Int) (a x : Int) : apL l [⟨a, x⟩] = wrL l a x := by
  unfold apL wrL; rw [inB_one]; by_cases c : 0 ≤ a ∧ a < (l.length : Int)
  · rw [if_pos (decide_eq_true c), if_pos c]; rfl
  · rw [if_neg (by rw [decide_eq_true_eq]; exact c), if_neg c]
theorem RNC_one (a x : Int) (x0 : 0 ≤ x) (x1 : x < 65536) : RNC [⟨a, x⟩] := by
  intro i h0 h1
  have : i = 0 := by simp at h1; omega
  subst this; exact ⟨x0, x1⟩
set_option maxHeartbeats 1000000 in
theorem Write_c (A : Option Addr) (c : Nat) (l : List Int) (n : Nat) (e0 : l.length = n) (a x : Int) (w : World) (hr : Kd.C (Kd.int .u16) w A n l) (hl : n * 2 ≤ 140737488351232) (x0 : 0 ≤ x) (x1 : x < 65536) :
    Calls Try.prog 20 #[.slice A n c, .int .i64 a, .int .u16 x] w fun e w' => ∃ v, e = .returned (.tuple #[v, .int .i64 (wrE n a)]) ∧ Kd.R (Kd.int .u16) 54 w' w.heap.size (fun _ => True) v (wrL l a x) ∧ Below w.heap.size w w' := by
  have HB := Aside0.mk (Below.refl w.heap.size w)
  have hC0 := Aside0.mk hr
  clear hr
  have AP := fun (w : World) (hr) (A1) (h1) => Apply_c A c l A1 1 [⟨a, x⟩] n 1 e0 rfl w hr h1 hl (by decide) (RNC_one a x x0 x1)
  rw [apE_one, apL_one] at AP
  replace AP := Lib.hid AP
  generalize wrE n a = er at AP ⊢
  generalize wrL l a x = rl at AP ⊢
  go_enter Try.func20, Try.ntmps20
  go_wp2_with (go_at_call 23; (with_reducible refine at_args #[.slice A n c, .slice (some ⟨w.heap.size, 0, none⟩) 1 1] ?_); refine (AP.out _ (Kd.C_below hC0.out (by repeat (first | (with_reducible first | exact HB.out | apply below_alloc | apply pw_below_drewN | apply below_drew1) | exact HB.out))) _ (lit_any k46 f46 (fun w x => k46_mk w x) w 46 [⟨a, x⟩] _ _ rfl rfl (by simp))).mono ?_; rintro e w' ⟨v, rfl, hR, hb⟩; obtain ⟨Av, cv, rfl⟩ := Kd.R_slice hR)
  go_ret2
  exact ⟨_, rfl, Kd.R_lower hR (by simp), below_step (by repeat (first | (with_reducible first | exact HB.out | apply below_alloc | apply pw_below_drewN | apply below_drew1) | exact HB.out)) hb⟩
set_option maxHeartbeats 1000000 in
theorem Words_c (A : Option Addr) (c : Nat) (l : List Int) (n : Nat) (e0 : l.length = n) (w : World) (hr : Kd.C (Kd.int .u16) w A n l) (hl : n * 2 ≤ 140737488351232) (hb : RNG l) :
    Calls Try.prog 26 #[.slice A n c] w fun e w' => ∃ v, e = .returned v ∧ Kd.R (Kd.int .u16) 40 w' w.heap.size (fun _ => True) v (wordsL l) ∧ Below w.heap.size w w' := by
  have HR := Aside0.mk hr
  clear hr
  have HB := Aside0.mk (Below.refl w.heap.size w)
  have infoW : (Try.prog.info? 40).map (fun i => (i.zero, i.size, i.bytes)) = some (some (.int .u16 0), 1, 2) := by kernel_rfl
  obtain ⟨i0, hi, hz0, hz1, hz2⟩ := info_parts infoW
  go_enter Try.func26, Try.ntmps26
  go_wp2_with (at_make; refine wpList_make_own _ rfl _ _ 50 rfl w.heap.size 40 i0 (.int .u16 0) 1 Try.underlying50 hi hz0 hz1 .i64 .i64 (n : Int) n rfl rfl rfl (by rw [hz2]; omega) (by unfold maxLen; omega) (by simp) ?_; intro w1 hown hg; have HO := Aside0.mk (Kd.R_of_own (enc := Value.int .u16) (h1 := fun _ => rfl) (ok := fun _ => True) (xs := []) hown (fun _ _ => trivial)); have HB1 := Aside0.mk (pw_below_grown HB.out none (by simp) hg (fun k hk => by cases hk)); clear HB hown hg; have HB := HB1; clear HB1)
  clear hi hz0 hz1 hz2
  go_loopg [3, 13] n (fun g v3 v13 w' => ∃ i : Int, v13 = .int .i64 i ∧ 0 ≤ i ∧ Aside0 (i + g = n) ∧ Aside0 (Kd.R (Kd.int .u16) 40 w' w.heap.size (fun _ => True) v3 (wordsL (l.take i.toNat))) ∧ Aside0 (Below w.heap.size w w'))
  case atStart => exact ⟨0, rfl, by decide, ⟨by omega⟩, HO, HB⟩
  case round =>
    clear HO HB
    obtain ⟨i, rfl, h0, hg, HO, HB⟩ := hrel
    have hg' := hg.out
    by_cases hlt : i < (n : Int)
    · obtain ⟨g, rfl⟩ : ∃ g, gk = g + 1 := ⟨gk - 1, by omega⟩
      clear hg'
      have b0 : decide (i < (n : Int)) = true := decide_eq_true hlt
      obtain ⟨ad, eA, hx⟩ := Kd.at_int HR.out i h0 hlt
      cases eA
      replace hx := (HB.out.cell (World.block_lt_of_cell? w _ hx)).trans hx
      have hrd := hb i h0 (by omega)
      have P1 := Lib.hid (Get_c (rd l i) hrd.1 hrd.2)
      have LT := Lib.hid (show wordsL (l.take (i + 1).toNat) = wordsL (l.take i.toNat) ++ [rd l i % 32768] by rw [takeI l i h0 (by omega)]; unfold wordsL; rw [List.map_append]; rfl)
      have LM : Aside0 ((wordsL (l.take i.toNat)).length < 70368744177664) := ⟨by unfold wordsL; rw [List.length_map, List.length_take]; omega⟩
      clear hrd
      go_wp2_with (first | (go_at_call 38; (with_reducible refine (P1.out _).mono ?_); rintro e w' ⟨rfl, ⟨nd, rfl⟩⟩) | ((with_reducible refine gate_builtin (b := .append) (xs := #[.tmp 22, .tmp 24]) rfl ?_); at_builtin; refine Kd.R_append (Kd.int .u16) (w0 := w) w.heap.size rfl (.tmp 22) (.tmp 24) 50 40 (.int .u16 0) 2 rfl Try.underlying50 infoW rfl (by decide) (by omega) u3 (wordsL (l.take i.toNat)) (rd l i % 32768) [.int .u16 (rd l i % 32768)] (fun _ => True) (fun _ => False) rfl rfl ?aP (fun _ hk => hk.elim) ?aF ?aO ?aB ?aS ?aL ?_; (case aP => exact rfl); (case aB => exact (by repeat (first | (with_reducible first | exact HB.out | apply below_alloc | apply pw_below_drewN | apply below_drew1) | exact HB.out))); (case aF => exact (fun _ _ => trivial)); (case aO => exact (by (with_reducible repeat (first | apply Kd.R_alloc | apply Kd.R_drewN | apply Kd.R_drew)); exact HO.out)); (case aS => exact (below_size (by repeat (first | (with_reducible first | exact HB.out | apply below_alloc | apply pw_below_drewN | apply below_drew1) | exact HB.out)))); (case aL => have := LM.out; omega); intro v123 w6 ho hb hg hat; have n0_ := Aside0.mk (hb); have n1_ := Aside0.mk (ho); clear HB; clear HO; have HB := n0_; have HO := n1_; clear n0_ n1_; clear ho hb hg hat))
      go_roundg g
      case measure => omega
      case rel => exact ⟨i + 1, rfl, by omega, ⟨by have := hg.out; omega⟩, ⟨by rw [LT.out]; (with_reducible repeat (first | apply Kd.R_alloc | apply Kd.R_drewN | apply Kd.R_drew)); exact HO.out⟩, ⟨(by repeat (first | (with_reducible first | exact HB.out | apply below_alloc | apply pw_below_drewN | apply below_drew1) | exact HB.out))⟩⟩
    · have b0 : decide (i < (n : Int)) = false := decide_eq_false hlt
      have LA := Lib.hid (show (l.take i.toNat) = l from List.take_of_length_le (by omega))
      clear hg'
      go_wp2
      go_ret
      exact ⟨_, rfl, by have h := HO.out; rw [LA.out] at h; (with_reducible repeat (first | apply Kd.R_alloc | apply Kd.R_drewN | apply Kd.R_drew)); exact h, (by repeat (first | (with_reducible first | exact HB.out | apply below_alloc | apply pw_below_drewN | apply below_drew1) | exact HB.out))⟩
end Go.Proofs.Ytllmmgjmkgiodaa.Mem
