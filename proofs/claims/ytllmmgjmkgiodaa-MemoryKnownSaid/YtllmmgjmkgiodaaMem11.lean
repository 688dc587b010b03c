/- Fixed and Erasable: what they compute, in plain lists; the reference's contracts. -/
import Derived.Test.YtllmmgjmkgiodaaMem9
namespace Go.Proofs.Ytllmmgjmkgiodaa.Mem
open Go.RowKit Go.Proofs.Ytllmmgjmkgiodaa.PAll Go.Proofs.YtllmmgjmkgiodaaW.PrintWords Go.Proofs.YtllmmgjmkgiodaaW.PrintLast Go.Proofs.YtllmmgjmkgiodaaW.PrintMore Go.Proofs.Ytllmmgjmkgiodaa.Plain Go.Proofs.Ytllmmgjmkgiodaa.Par Go.Proofs.Ytllmmgjmkgiodaa.Lit
set_option linter.unusedVariables false
set_option linter.unusedSimpArgs false
def over (l : List Int) : Bool := l.any fun x => decide (x > 32767)
def chk (seen : List Int) (b : S64) : Int :=
  if 0 ≤ b.f0 ∧ b.f0 ≤ 35 then (if b.f0 ∈ seen then 8 else if (b.f1.length : Int) > 1024 then 4 else if over b.f1 then 3 else 0) else 3
def nos (l : List S64) : List Int := l.map fun b => b.f0
def fixE : List S64 → List Int → Int
  | [], _ => 0
  | b :: bs, s => if chk s b = 0 then fixE bs (s ++ [b.f0]) else chk s b
theorem fixE_append : ∀ (a b : List S64) (s : List Int), fixE (a ++ b) s = if fixE a s = 0 then fixE b (s ++ nos a) else fixE a s
  | [], b, s => by simp [fixE, nos]
  | x :: a, b, s => by
    have ih := fixE_append a b (s ++ [x.f0])
    have e1 : ∀ y, fixE (x :: y) s = if chk s x = 0 then fixE y (s ++ [x.f0]) else chk s x := fun y => rfl
    by_cases c : chk s x = 0
    · have e2 : ∀ y, fixE (x :: y) s = fixE y (s ++ [x.f0]) := fun y => by rw [e1, if_pos c]
      rw [List.cons_append, e2, e2, ih]
      simp only [nos, List.map_cons, List.append_assoc, List.singleton_append]
    · have e2 : ∀ y, fixE (x :: y) s = chk s x := fun y => by rw [e1, if_neg c]
      rw [List.cons_append, e2, e2, if_neg c]
def fill (out : List Int) (b : S64) : List Int := out.take (1024 * b.f0).toNat ++ (b.f1.map putI ++ out.drop ((1024 * b.f0).toNat + b.f1.length))
def zerosL (n : Nat) : List Int := List.replicate n 32768
def fixL (l : List S64) : List Int := if fixE l [] = 0 then l.foldl fill (zerosL 36864) else []
/-- What is known of a bank that came in: its words are words. -/
def RNB (l : List S64) : Prop := ∀ b ∈ l, ∀ x ∈ b.f1, 0 ≤ x ∧ x < 65536
theorem rd_bank (l : List S64) (i : Int) (h0 : 0 ≤ i) (h : i < (l.length : Int)) : ∃ hk : i.toNat < l.length, rd_T64 l i = l[i.toNat] := by
  have hk : i.toNat < l.length := by omega
  refine ⟨hk, ?_⟩
  unfold rd_T64; rw [List.getD_eq_getElem?_getD, List.getElem?_eq_getElem hk]; rfl
theorem takeB (l : List S64) (i : Int) (h0 : 0 ≤ i) (h : i < (l.length : Int)) : l.take (i + 1).toNat = l.take i.toNat ++ [rd_T64 l i] := by
  obtain ⟨hk, e⟩ := rd_bank l i h0 h
  rw [show (i + 1).toNat = i.toNat + 1 by omega, List.take_add_one, List.getElem?_eq_getElem hk, e]; rfl
theorem RNB.rng {l : List S64} (h : RNB l) (i : Int) (h0 : 0 ≤ i) (h1 : i < (l.length : Int)) : RNG (rd_T64 l i).f1 := by
  obtain ⟨hk, e⟩ := rd_bank l i h0 h1
  rw [e]; exact RNG_of (h _ (List.getElem_mem hk))
theorem fixE_step (l : List S64) (i : Int) (h0 : 0 ≤ i) (h : i < (l.length : Int)) (hp : fixE (l.take i.toNat) [] = 0) : fixE (l.take (i + 1).toNat) [] = chk (nos (l.take i.toNat)) (rd_T64 l i) := by
  rw [takeB l i h0 h, fixE_append, if_pos hp, List.nil_append]
  simp only [fixE]
  split
  · rename_i c; rw [c]
  · rfl
theorem fixE_bad (l : List S64) (i : Int) (h0 : 0 ≤ i) (h : i < (l.length : Int)) (c : Int) (hc : c ≠ 0) (hp : fixE (l.take (i + 1).toNat) [] = c) : fixE l [] = c := by
  have e := List.take_append_drop (i + 1).toNat l
  rw [← e, fixE_append, hp, if_neg hc]

/-! ### The reference's check -/
theorem nos_take (l : List S64) (i : Int) (h0 : 0 ≤ i) (h : i < (l.length : Int)) : nos (l.take (i + 1).toNat) = nos (l.take i.toNat) ++ [(rd_T64 l i).f0] := by
  rw [takeB l i h0 h]; simp [nos]
theorem over_take (w : List Int) (i : Int) (h0 : 0 ≤ i) (h : i < (w.length : Int)) : over (w.take (i + 1).toNat) = (over (w.take i.toNat) || decide (rd w i > 32767)) := by
  rw [takeI w i h0 h]; unfold over; rw [List.any_append]; simp
theorem over_bad (w : List Int) (i : Int) (h0 : 0 ≤ i) (h : i < (w.length : Int)) (hb : rd w i > 32767) : over w = true := by
  have hk : i.toNat < w.length := by omega
  unfold over
  rw [List.any_eq_true]
  refine ⟨w[i.toNat], List.getElem_mem hk, decide_eq_true ?_⟩
  unfold rd at hb
  rwa [List.getD_eq_getElem?_getD, List.getElem?_eq_getElem hk] at hb
theorem check_loop1 (l : List S64) (i : Int) (h0 : 0 ≤ i) (h : i < (l.length : Int)) (hl : (rd_T64 l i).f1.length ≤ 1024) : ∀ d (j : Nat) k, j + d = (rd_T64 l i).f1.length → over ((rd_T64 l i).f1.take j) = false → d < k →
    periluneref03_check.l1 k l i (j : Int) = some (if over (rd_T64 l i).f1 then 3 else 0)
  | 0, j, k, hj, ho, hk => by
    obtain ⟨k, rfl⟩ : ∃ m, k = m + 1 := ⟨k - 1, by omega⟩
    rw [List.take_of_length_le (by omega)] at ho
    simp only [periluneref03_check.l1]
    rw [if_pos h0, if_pos h, if_neg (by omega), ho, if_neg (by decide)]
  | d + 1, j, k, hj, ho, hk => by
    obtain ⟨k, rfl⟩ : ∃ m, k = m + 1 := ⟨k - 1, by omega⟩
    have hw : wrap64 ((j : Int) + 1) = ((j + 1 : Nat) : Int) := by rw [w64 (by omega) (by omega)]; omega
    have hi : (j : Int) < ((rd_T64 l i).f1.length : Int) := by omega
    simp only [periluneref03_check.l1]
    rw [if_pos h0, if_pos h, if_pos hi, if_pos (by omega)]
    by_cases c : rd (rd_T64 l i).f1 j > 32767
    · rw [if_pos c, over_bad _ j (by omega) hi c, if_pos rfl]
    · rw [if_neg c, hw]
      refine check_loop1 l i h0 h hl d (j + 1) k (by omega) ?_ (by omega)
      have := over_take (rd_T64 l i).f1 j (by omega) hi
      rw [show ((j : Int) + 1).toNat = j + 1 by omega, Int.toNat_natCast, ho, decide_eq_false c] at this
      exact this
theorem check_loop0 (l : List S64) (hll : l.length ≤ 40) (i : Nat) (h : (i : Int) < (l.length : Int)) (hr : 0 ≤ (rd_T64 l i).f0 ∧ (rd_T64 l i).f0 ≤ 35) : ∀ d (j : Nat) k, j + d = i → (rd_T64 l i).f0 ∉ nos (l.take j) → d + 1030 < k →
    periluneref03_check.l0 k l (i : Int) (j : Int) = some (chk (nos (l.take i)) (rd_T64 l i))
  | 0, j, k, hj, ho, hk => by
    obtain ⟨k, rfl⟩ : ∃ m, k = m + 1 := ⟨k - 1, by omega⟩
    obtain rfl : j = i := by omega
    simp only [periluneref03_check.l0]
    unfold chk
    rw [if_neg (by omega), if_pos (by omega), if_pos h, if_pos hr, if_neg ho]
    by_cases c : ((rd_T64 l j).f1.length : Int) > 1024
    · rw [if_pos c, if_pos c]
    · rw [if_neg c, if_neg c]
      exact check_loop1 l j (by omega) h (by omega) _ 0 k (Nat.zero_add _) rfl (by omega)
  | d + 1, j, k, hj, ho, hk => by
    obtain ⟨k, rfl⟩ : ∃ m, k = m + 1 := ⟨k - 1, by omega⟩
    have hw : wrap64 ((j : Int) + 1) = ((j + 1 : Nat) : Int) := by rw [w64 (by omega) (by omega)]; omega
    have hi : (j : Int) < (l.length : Int) := by omega
    have NT := nos_take l j (by omega) hi
    rw [show ((j : Int) + 1).toNat = j + 1 by omega, Int.toNat_natCast] at NT
    simp only [periluneref03_check.l0]
    rw [if_pos (by omega), if_pos (by omega), if_pos hi, if_pos (by omega), if_pos h]
    by_cases c : (rd_T64 l j).f0 = (rd_T64 l i).f0
    · rw [if_pos c]
      have hm : (rd_T64 l i).f0 ∈ nos (l.take i) := by
        obtain ⟨hk1, e1⟩ := rd_bank l j (by omega) hi
        rw [← c, e1]
        unfold nos
        refine List.mem_map.2 ⟨_, ?_, rfl⟩
        rw [List.mem_take_iff_getElem]
        exact ⟨j, by omega, by simp⟩
      unfold chk
      rw [if_pos hr, if_pos hm]
    · rw [if_neg c, hw]
      refine check_loop0 l hll i h hr d (j + 1) k (by omega) ?_ (by omega)
      rw [NT, List.mem_append]
      rintro (hc | hc)
      · exact ho hc
      · exact c (List.mem_singleton.1 hc).symm
theorem check_f (l : List S64) (hll : l.length ≤ 40) (i : Nat) (h : (i : Int) < (l.length : Int)) (k : Nat) (hk : 1080 ≤ k) : periluneref03_check.f k l (i : Int) = some (chk (nos (l.take i)) (rd_T64 l i)) := by
  unfold periluneref03_check.f
  rw [if_pos (by omega), if_pos h, within_f, Option.bind_some]
  by_cases hr : 0 ≤ (rd_T64 l i).f0 ∧ (rd_T64 l i).f0 ≤ 35
  · rw [if_pos (decide_eq_true hr)]
    exact check_loop0 l hll i h hr i 0 k (by omega) (by simp [nos]) (by omega)
  · rw [if_neg (by rw [decide_eq_true_eq]; exact hr)]
    unfold chk; rw [if_neg hr]

/-! ### zeros and the reference's Fixed -/
theorem putN0 : putN 0 = 32768 := by decide +kernel
theorem zeros_loop (n : Nat) (hn : n ≤ 36864) : ∀ d (i : Nat) k, i + d = n → d + 30 < k →
    periluneref03_zeros.l0 k (n : Int) (List.replicate i 32768 ++ List.replicate d 0) (i : Int) = some (zerosL n)
  | 0, i, k, h, hk => by
    obtain ⟨k, rfl⟩ : ∃ m, k = m + 1 := ⟨k - 1, by omega⟩
    obtain rfl : i = n := by omega
    simp only [periluneref03_zeros.l0]
    rw [if_neg (by omega)]
    simp [zerosL]
  | d + 1, i, k, h, hk => by
    obtain ⟨k, rfl⟩ : ∃ m, k = m + 1 := ⟨k - 1, by omega⟩
    have hw : wrap64 ((i : Int) + 1) = ((i + 1 : Nat) : Int) := by rw [w64 (by omega) (by omega)]; omega
    have hp := refPut_any 0 (by decide) k (by omega)
    rw [putN0] at hp
    simp only [periluneref03_zeros.l0]
    rw [if_pos (by omega), show ((0 : Int)) = ((0 : Nat) : Int) from rfl, hp, Option.bind_some, if_pos (by omega), if_pos (by simp; omega), hw]
    have e : (List.replicate i (32768 : Int) ++ List.replicate (d + 1) 0).set ((i : Int)).toNat ((32768 : Nat) : Int) = List.replicate (i + 1) 32768 ++ List.replicate d 0 := by
      rw [Int.toNat_natCast, List.set_append_right _ _ (by simp)]
      simp only [List.length_replicate, Nat.sub_self, List.replicate_succ, List.set_cons_zero]
      rw [← List.replicate_succ, List.replicate_succ']
      simp
    have := zeros_loop n hn d (i + 1) k (by omega) (by omega)
    rw [← e] at this
    exact this
theorem zeros_f (n : Nat) (hn : n ≤ 36864) (k : Nat) (hk : n + 40 ≤ k) : periluneref03_zeros.f k (n : Int) = some (zerosL n) := by
  unfold periluneref03_zeros.f
  rw [if_pos (by omega), if_pos (by rw [Int.toNat_natCast]; omega), Int.toNat_natCast]
  exact zeros_loop n hn n 0 k (by omega) (by omega)
theorem fill_len (out : List Int) (b : S64) (h0 : 0 ≤ b.f0) (h : (1024 * b.f0).toNat + b.f1.length ≤ out.length) : (fill out b).length = out.length := by
  unfold fill
  simp only [List.length_append, List.length_take, List.length_map, List.length_drop]
  omega
/-- The bank's first j words are in. -/
def fillT (out : List Int) (b : S64) (j : Nat) : List Int := out.take (1024 * b.f0).toNat ++ ((b.f1.take j).map putI ++ out.drop ((1024 * b.f0).toNat + j))
theorem fillT_len (out : List Int) (b : S64) (j : Nat) (hj : j ≤ b.f1.length) (h : (1024 * b.f0).toNat + b.f1.length ≤ out.length) : (fillT out b j).length = out.length := by
  unfold fillT
  simp only [List.length_append, List.length_take, List.length_map, List.length_drop]
  omega
theorem fillT_next (out : List Int) (b : S64) (j : Nat) (hj : j < b.f1.length) (h : (1024 * b.f0).toNat + b.f1.length ≤ out.length) : (fillT out b j).set ((1024 * b.f0).toNat + j) (putI (rd b.f1 j)) = fillT out b (j + 1) := by
  generalize ha : (1024 * b.f0).toNat = a at h
  unfold fillT
  rw [ha]
  have hd : out.drop (a + j) = out[a + j]'(by omega) :: out.drop (a + (j + 1)) := by rw [List.drop_eq_getElem_cons (by omega)]; rfl
  have ht := takeI b.f1 j (by omega) (by omega)
  rw [show ((j : Int) + 1).toNat = j + 1 by omega, Int.toNat_natCast] at ht
  rw [hd, ht, List.map_append]
  rw [List.set_append_right _ _ (by rw [List.length_take]; omega), List.set_append_right _ _ (by rw [List.length_take, List.length_map, List.length_take]; omega)]
  have e : a + j - (out.take a).length - ((b.f1.take j).map putI).length = 0 := by rw [List.length_take, List.length_map, List.length_take]; omega
  rw [e, List.set_cons_zero]
  simp
theorem fillT_all (out : List Int) (b : S64) : fillT out b b.f1.length = fill out b := by unfold fillT fill; rw [List.take_length]
/-- All banks so far fit. -/
def FIT (l : List S64) : Prop := ∀ b ∈ l, (0 ≤ b.f0 ∧ b.f0 ≤ 35) ∧ b.f1.length ≤ 1024
theorem chk_fit (s : List Int) (b : S64) (h : chk s b = 0) : (0 ≤ b.f0 ∧ b.f0 ≤ 35) ∧ b.f0 ∉ s ∧ b.f1.length ≤ 1024 ∧ over b.f1 = false := by
  unfold chk at h
  by_cases c : 0 ≤ b.f0 ∧ b.f0 ≤ 35
  · rw [if_pos c] at h
    by_cases d : b.f0 ∈ s
    · rw [if_pos d] at h; exact absurd h (by decide)
    · rw [if_neg d] at h
      by_cases e : (b.f1.length : Int) > 1024
      · rw [if_pos e] at h; exact absurd h (by decide)
      · rw [if_neg e] at h
        cases o : over b.f1 with
        | true => rw [o] at h; exact absurd h (by decide)
        | false => exact ⟨c, d, by omega, rfl⟩
  · rw [if_neg c] at h; exact absurd h (by decide)
theorem fixE_fit : ∀ (l : List S64) (s : List Int), fixE l s = 0 → FIT l
  | [], _, _ => fun b hb => by cases hb
  | b :: bs, s, h => by
    have e1 : fixE (b :: bs) s = if chk s b = 0 then fixE bs (s ++ [b.f0]) else chk s b := rfl
    by_cases c : chk s b = 0
    · rw [e1, if_pos c] at h
      have ih := fixE_fit bs _ h
      have cf := chk_fit s b c
      intro x hx
      rcases List.mem_cons.1 hx with rfl | hx
      · exact ⟨cf.1, cf.2.2.1⟩
      · exact ih x hx
    · rw [e1, if_neg c] at h; exact absurd h c
theorem FIT.at {l : List S64} (h : FIT l) (i : Int) (h0 : 0 ≤ i) (h1 : i < (l.length : Int)) : (0 ≤ (rd_T64 l i).f0 ∧ (rd_T64 l i).f0 ≤ 35) ∧ (rd_T64 l i).f1.length ≤ 1024 := by
  obtain ⟨hk, e⟩ := rd_bank l i h0 h1
  rw [e]; exact h _ (List.getElem_mem hk)
theorem fills_len : ∀ (l : List S64) (out : List Int), out.length = 36864 → FIT l → (l.foldl fill out).length = 36864
  | [], _, h, _ => h
  | b :: bs, out, h, hf => by
    have hb := hf b List.mem_cons_self
    rw [List.foldl_cons]
    exact fills_len bs (fill out b) (by rw [fill_len out b hb.1.1 (by omega), h]) (fun x hx => hf x (List.mem_cons_of_mem _ hx))
theorem FIT_take {l : List S64} (h : FIT l) (k : Nat) : FIT (l.take k) := fun b hb => h b (List.mem_of_mem_take hb)
theorem zerosL_len : (zerosL 36864).length = 36864 := by unfold zerosL; rw [List.length_replicate]
theorem ref_l2 (l : List S64) (hll : l.length ≤ 40) (hR : RNB l) (hf : FIT l) (out : List Int) (ho : out.length = 36864) (i : Nat) (hi : (i : Int) < (l.length : Int)) (r : Option (List Int × Int)) (hr : ∀ k, 60000 ≤ k + 1100 * (i + 1) → periluneref03_Fixed.l1 k l (fill out (rd_T64 l i)) ((i + 1 : Nat) : Int) = r) : ∀ d (j : Nat) k, j + d = (rd_T64 l i).f1.length → 60000 + d + 1 ≤ k + 1100 * (i + 1) → d + 40 < k →
    periluneref03_Fixed.l2 k l (fillT out (rd_T64 l i) j) (i : Int) (j : Int) = r
  | 0, j, k, hj, hk, hk2 => by
    obtain ⟨k, rfl⟩ : ∃ m, k = m + 1 := ⟨k - 1, by omega⟩
    have hlen := (hf.at i (by omega) hi).2
    have hw : wrap64 ((i : Int) + 1) = ((i + 1 : Nat) : Int) := by rw [w64 (by omega) (by omega)]; omega
    simp only [periluneref03_Fixed.l2]
    rw [if_pos (by omega), if_pos hi, if_neg (by omega), hw]
    obtain rfl : j = (rd_T64 l i).f1.length := by omega
    rw [fillT_all]
    exact hr k (by omega)
  | d + 1, j, k, hj, hk, hk2 => by
    obtain ⟨k, rfl⟩ : ∃ m, k = m + 1 := ⟨k - 1, by omega⟩
    have hb := hf.at i (by omega) hi
    have hw : wrap64 ((j : Int) + 1) = ((j + 1 : Nat) : Int) := by rw [w64 (by omega) (by omega)]; omega
    obtain ⟨n, hn, hn2⟩ := (hR.rng i (by omega) hi).nat j (by omega) (by omega)
    have hm : wrap64 (wrap64 (1024 * (rd_T64 l i).f0) + (j : Int)) = 1024 * (rd_T64 l i).f0 + j := by
      rw [w64 (n := 1024 * (rd_T64 l i).f0) (by omega) (by omega), w64 (by omega) (by omega)]
    simp only [periluneref03_Fixed.l2]
    rw [if_pos (by omega), if_pos hi, if_pos (by omega), if_pos (by omega), hn, refPut_any n hn2 k (by omega)]
    simp only [Option.bind_some]
    rw [hm, if_pos (by omega), if_pos (by rw [fillT_len _ _ _ (by omega) (by omega), ho]; omega), hw]
    have NX := fillT_next out (rd_T64 l i) j (by omega) (by omega)
    rw [hn] at NX
    have e : (1024 * (rd_T64 l i).f0 + (j : Int)).toNat = (1024 * (rd_T64 l i).f0).toNat + j := by omega
    have e2 : ((putN n : Nat) : Int) = putI (n : Int) := rfl
    rw [e, e2, NX]
    exact ref_l2 l hll hR hf out ho i hi r hr d (j + 1) k (by omega) (by omega) (by omega)
theorem ref_l1 (l : List S64) (hll : l.length ≤ 40) (hR : RNB l) (hf : FIT l) : ∀ d (i : Nat) k, i + d = l.length → 60000 ≤ k + 1100 * i →
    periluneref03_Fixed.l1 k l ((l.take i).foldl fill (zerosL 36864)) (i : Int) = some (l.foldl fill (zerosL 36864), 0)
  | 0, i, k, h, hk => by
    obtain ⟨k, rfl⟩ : ∃ m, k = m + 1 := ⟨k - 1, by omega⟩
    simp only [periluneref03_Fixed.l1]
    rw [if_neg (by omega), List.take_of_length_le (by omega)]
  | d + 1, i, k, h, hk => by
    obtain ⟨k, rfl⟩ : ∃ m, k = m + 1 := ⟨k - 1, by omega⟩
    have hi : (i : Int) < (l.length : Int) := by omega
    have hb := hf.at i (by omega) hi
    simp only [periluneref03_Fixed.l1]
    rw [if_pos hi]
    have h0 : fillT ((l.take i).foldl fill (zerosL 36864)) (rd_T64 l i) 0 = (l.take i).foldl fill (zerosL 36864) := by unfold fillT; simp
    have ho := fills_len (l.take i) (zerosL 36864) zerosL_len (FIT_take hf i)
    have := ref_l2 l hll hR hf _ ho i hi _ (fun k hk => by
      have ih := ref_l1 l hll hR hf d (i + 1) k (by omega) (by omega)
      have hT := takeB l i (by omega) hi
      rw [show ((i : Int) + 1).toNat = i + 1 by omega, Int.toNat_natCast] at hT
      rw [hT, List.foldl_append] at ih
      exact ih) (rd_T64 l i).f1.length 0 k (by omega) (by omega) (by omega)
    rw [h0] at this
    exact this
theorem ref_l0 (l : List S64) (hll : l.length ≤ 40) (hR : RNB l) : ∀ d (i : Nat) k, i + d = l.length → fixE (l.take i) [] = 0 → 70000 + d ≤ k →
    periluneref03_Fixed.l0 k l (i : Int) = some (fixL l, fixE l [])
  | 0, i, k, h, he, hk => by
    obtain ⟨k, rfl⟩ : ∃ m, k = m + 1 := ⟨k - 1, by omega⟩
    rw [List.take_of_length_le (by omega)] at he
    simp only [periluneref03_Fixed.l0]
    have z := zeros_f 36864 (by decide) k (by omega)
    rw [if_neg (by omega), show (36864 : Int) = ((36864 : Nat) : Int) from rfl, z, Option.bind_some]
    unfold fixL
    rw [he, if_pos rfl]
    exact ref_l1 l hll hR (fixE_fit l [] he) l.length 0 k (by omega) (by omega)
  | d + 1, i, k, h, he, hk => by
    obtain ⟨k, rfl⟩ : ∃ m, k = m + 1 := ⟨k - 1, by omega⟩
    have hi : (i : Int) < (l.length : Int) := by omega
    have hw : wrap64 ((i : Int) + 1) = ((i + 1 : Nat) : Int) := by rw [w64 (by omega) (by omega)]; omega
    have ST := fixE_step l i (by omega) hi (by rw [Int.toNat_natCast]; exact he)
    rw [Int.toNat_natCast] at ST
    simp only [periluneref03_Fixed.l0]
    rw [if_pos hi, check_f l hll i hi k (by omega)]
    simp only [Option.bind_some]
    by_cases c : chk (nos (l.take i)) (rd_T64 l i) = 0
    · rw [if_pos c, hw]
      refine ref_l0 l hll hR d (i + 1) k (by omega) ?_ (by omega)
      rw [c, show ((i : Int) + 1).toNat = i + 1 by omega] at ST
      exact ST
    · rw [if_neg c]
      have := fixE_bad l i (by omega) hi _ c ST
      unfold fixL
      rw [this, if_neg c]
theorem refFixed_c (A : Option Addr) (c : Nat) (l : List S64) (n : Nat) (e0 : l.length = n) (hn : n ≤ 40) (w : World) (hr : Kd.C k64 w A n l) (hc : n ≤ c) (hR : RNB l) :
    Calls Try.prog 31 #[.slice A n c] w fun e w' => ∃ v, e = .returned (.tuple #[v, .int .i64 (fixE l [])]) ∧ Kd.R (Kd.int .u16) 54 w' w.heap.size (fun _ => True) v (fixL l) ∧ Below w.heap.size w w' := by
  subst e0
  exact periluneref03_Fixed.calls 71000 A c l _ _ w hr hc (by unfold periluneref03_Fixed.f; exact ref_l0 l hn hR l.length 0 _ (by omega) rfl (by omega))
theorem refErasable_c (w : World) : Calls Try.prog 33 #[] w fun e w' => ∃ v, e = .returned v ∧ Kd.R (Kd.int .u16) 54 w' w.heap.size (fun _ => True) v (zerosL 2048) ∧ Below w.heap.size w w' :=
  periluneref03_Erasable.calls 3000 _ w (by
    unfold periluneref03_Erasable.f
    rw [show (2048 : Int) = ((2048 : Nat) : Int) from rfl, zeros_f 2048 (by decide) 3000 (by decide)]; rfl)
end Go.Proofs.Ytllmmgjmkgiodaa.Mem
