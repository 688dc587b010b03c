/- Chapter 4, IsaNames: for every string, Code and kind the printed law answers true; no condition. -/
import Derived.Test.YtgaajaddaecejaaGA
import Derived.Test.YtgaajaddaecejaaIsaP
namespace Go.Proofs.Ytgaajaddaecejaa.Isa
open Go.RowKit Go.Proofs.Ytgaajaddaecejaa.PAll Go.Proofs.YtgaajaddaecejaaW.PrintWords Go.Proofs.YtgaajaddaecejaaW.PrintLast Go.Proofs.YtgaajaddaecejaaW.PrintMore
set_option linter.unusedVariables false
set_option linter.unusedSimpArgs false
theorem works_f : perilunelaw04_works.f 99 = some true := by kernel_rfl
theorem names_ref : periluneref04_Names.f = some NAMES := by kernel_rfl
theorem names_100 : isa_Names.f 100 = some NAMES := by kernel_rfl
theorem texts_100 : periluneref04_Texts.f 100 NAMES NAMES = some true := by kernel_rfl
theorem name_of (n : Nat) : rdOf ByteArray.empty NAMES (n : Int) = NAMES.getD n ByteArray.empty := by simp [rdOf]
theorem step_name (k : Nat) (s : ByteArray) (n : Nat) (hn : n < 39) (h : s.data.toList ≠ nmL n) : periluneref04_Find.l0 (k + 1) s NAMES (n : Int) = periluneref04_Find.l0 k s NAMES ((n + 1 : Nat) : Int) := by
  rw [periluneref04_Find.l0]
  have e : ¬ (rdOf ByteArray.empty NAMES (n : Int)).toList = s.toList := by
    rw [name_of, ByteArray.toList_eq, ByteArray.toList_eq]
    exact fun q => h q.symm
  rw [if_pos (by rw [names_len]; omega), if_pos (by omega), if_neg e, w64 (by omega) (by omega)]
  congr 1
theorem miss_ref (s : ByteArray) (h : ∀ n, n < 39 → s.data.toList ≠ nmL n) : ∀ (d n k : Nat), n + d = 39 → d < k → periluneref04_Find.l0 k s NAMES (n : Int) = some noOp
  | 0, n, k, hd, hk => by
    obtain ⟨k, rfl⟩ : ∃ m, k = m + 1 := ⟨k - 1, by omega⟩
    rw [periluneref04_Find.l0, if_neg (by rw [names_len]; omega)]
    rfl
  | d + 1, n, k, hd, hk => by
    obtain ⟨k, rfl⟩ : ∃ m, k = m + 1 := ⟨k - 1, by omega⟩
    rw [step_name k s n (by omega) (h n (by omega))]
    exact miss_ref s h d (n + 1) k (by omega) (by omega)
theorem miss_prog (l : List UInt8) (h : ∀ n, n < 39 → l ≠ nmL n) : ∀ k, k ≤ 39 → codeD k l = 0
  | 0, _ => rfl
  | k + 1, hk => by rw [codeD, if_neg (h k (by omega)), miss_prog l h k (by omega)]
theorem fnd_0 : periluneref04_Find.f 100 (NAMES.getD 0 ByteArray.empty) = some (ofN (codeD 39 (nmL 0))) := by kernel_rfl
theorem fnd_1 : periluneref04_Find.f 100 (NAMES.getD 1 ByteArray.empty) = some (ofN (codeD 39 (nmL 1))) := by kernel_rfl
theorem fnd_2 : periluneref04_Find.f 100 (NAMES.getD 2 ByteArray.empty) = some (ofN (codeD 39 (nmL 2))) := by kernel_rfl
theorem fnd_3 : periluneref04_Find.f 100 (NAMES.getD 3 ByteArray.empty) = some (ofN (codeD 39 (nmL 3))) := by kernel_rfl
theorem fnd_4 : periluneref04_Find.f 100 (NAMES.getD 4 ByteArray.empty) = some (ofN (codeD 39 (nmL 4))) := by kernel_rfl
theorem fnd_5 : periluneref04_Find.f 100 (NAMES.getD 5 ByteArray.empty) = some (ofN (codeD 39 (nmL 5))) := by kernel_rfl
theorem fnd_6 : periluneref04_Find.f 100 (NAMES.getD 6 ByteArray.empty) = some (ofN (codeD 39 (nmL 6))) := by kernel_rfl
theorem fnd_7 : periluneref04_Find.f 100 (NAMES.getD 7 ByteArray.empty) = some (ofN (codeD 39 (nmL 7))) := by kernel_rfl
theorem fnd_8 : periluneref04_Find.f 100 (NAMES.getD 8 ByteArray.empty) = some (ofN (codeD 39 (nmL 8))) := by kernel_rfl
theorem fnd_9 : periluneref04_Find.f 100 (NAMES.getD 9 ByteArray.empty) = some (ofN (codeD 39 (nmL 9))) := by kernel_rfl
theorem fnd_10 : periluneref04_Find.f 100 (NAMES.getD 10 ByteArray.empty) = some (ofN (codeD 39 (nmL 10))) := by kernel_rfl
theorem fnd_11 : periluneref04_Find.f 100 (NAMES.getD 11 ByteArray.empty) = some (ofN (codeD 39 (nmL 11))) := by kernel_rfl
theorem fnd_12 : periluneref04_Find.f 100 (NAMES.getD 12 ByteArray.empty) = some (ofN (codeD 39 (nmL 12))) := by kernel_rfl
theorem fnd_13 : periluneref04_Find.f 100 (NAMES.getD 13 ByteArray.empty) = some (ofN (codeD 39 (nmL 13))) := by kernel_rfl
theorem fnd_14 : periluneref04_Find.f 100 (NAMES.getD 14 ByteArray.empty) = some (ofN (codeD 39 (nmL 14))) := by kernel_rfl
theorem fnd_15 : periluneref04_Find.f 100 (NAMES.getD 15 ByteArray.empty) = some (ofN (codeD 39 (nmL 15))) := by kernel_rfl
theorem fnd_16 : periluneref04_Find.f 100 (NAMES.getD 16 ByteArray.empty) = some (ofN (codeD 39 (nmL 16))) := by kernel_rfl
theorem fnd_17 : periluneref04_Find.f 100 (NAMES.getD 17 ByteArray.empty) = some (ofN (codeD 39 (nmL 17))) := by kernel_rfl
theorem fnd_18 : periluneref04_Find.f 100 (NAMES.getD 18 ByteArray.empty) = some (ofN (codeD 39 (nmL 18))) := by kernel_rfl
theorem fnd_19 : periluneref04_Find.f 100 (NAMES.getD 19 ByteArray.empty) = some (ofN (codeD 39 (nmL 19))) := by kernel_rfl
theorem fnd_20 : periluneref04_Find.f 100 (NAMES.getD 20 ByteArray.empty) = some (ofN (codeD 39 (nmL 20))) := by kernel_rfl
theorem fnd_21 : periluneref04_Find.f 100 (NAMES.getD 21 ByteArray.empty) = some (ofN (codeD 39 (nmL 21))) := by kernel_rfl
theorem fnd_22 : periluneref04_Find.f 100 (NAMES.getD 22 ByteArray.empty) = some (ofN (codeD 39 (nmL 22))) := by kernel_rfl
theorem fnd_23 : periluneref04_Find.f 100 (NAMES.getD 23 ByteArray.empty) = some (ofN (codeD 39 (nmL 23))) := by kernel_rfl
theorem fnd_24 : periluneref04_Find.f 100 (NAMES.getD 24 ByteArray.empty) = some (ofN (codeD 39 (nmL 24))) := by kernel_rfl
theorem fnd_25 : periluneref04_Find.f 100 (NAMES.getD 25 ByteArray.empty) = some (ofN (codeD 39 (nmL 25))) := by kernel_rfl
theorem fnd_26 : periluneref04_Find.f 100 (NAMES.getD 26 ByteArray.empty) = some (ofN (codeD 39 (nmL 26))) := by kernel_rfl
theorem fnd_27 : periluneref04_Find.f 100 (NAMES.getD 27 ByteArray.empty) = some (ofN (codeD 39 (nmL 27))) := by kernel_rfl
theorem fnd_28 : periluneref04_Find.f 100 (NAMES.getD 28 ByteArray.empty) = some (ofN (codeD 39 (nmL 28))) := by kernel_rfl
theorem fnd_29 : periluneref04_Find.f 100 (NAMES.getD 29 ByteArray.empty) = some (ofN (codeD 39 (nmL 29))) := by kernel_rfl
theorem fnd_30 : periluneref04_Find.f 100 (NAMES.getD 30 ByteArray.empty) = some (ofN (codeD 39 (nmL 30))) := by kernel_rfl
theorem fnd_31 : periluneref04_Find.f 100 (NAMES.getD 31 ByteArray.empty) = some (ofN (codeD 39 (nmL 31))) := by kernel_rfl
theorem fnd_32 : periluneref04_Find.f 100 (NAMES.getD 32 ByteArray.empty) = some (ofN (codeD 39 (nmL 32))) := by kernel_rfl
theorem fnd_33 : periluneref04_Find.f 100 (NAMES.getD 33 ByteArray.empty) = some (ofN (codeD 39 (nmL 33))) := by kernel_rfl
theorem fnd_34 : periluneref04_Find.f 100 (NAMES.getD 34 ByteArray.empty) = some (ofN (codeD 39 (nmL 34))) := by kernel_rfl
theorem fnd_35 : periluneref04_Find.f 100 (NAMES.getD 35 ByteArray.empty) = some (ofN (codeD 39 (nmL 35))) := by kernel_rfl
theorem fnd_36 : periluneref04_Find.f 100 (NAMES.getD 36 ByteArray.empty) = some (ofN (codeD 39 (nmL 36))) := by kernel_rfl
theorem fnd_37 : periluneref04_Find.f 100 (NAMES.getD 37 ByteArray.empty) = some (ofN (codeD 39 (nmL 37))) := by kernel_rfl
theorem fnd_38 : periluneref04_Find.f 100 (NAMES.getD 38 ByteArray.empty) = some (ofN (codeD 39 (nmL 38))) := by kernel_rfl
theorem find_eq (s : ByteArray) (hs : s.size ≤ 140737488351232) : ∃ o : OpT, isa_Find.f 100 s = some o ∧ periluneref04_Find.f 100 s = some o := by
  have ep : isa_Find.f 100 s = some (ofN (codeD 39 s.data.toList)) := by unfold isa_Find.f; rw [if_pos hs, of_prog]
  by_cases h : ∃ n, n < 39 ∧ s.data.toList = nmL n
  · obtain ⟨n, hn, e⟩ := h
    have es : s = NAMES.getD n ByteArray.empty := Go.WideShapes.bytes_inj e
    have hn' : n = 0 ∨ n = 1 ∨ n = 2 ∨ n = 3 ∨ n = 4 ∨ n = 5 ∨ n = 6 ∨ n = 7 ∨ n = 8 ∨ n = 9 ∨ n = 10 ∨ n = 11 ∨ n = 12 ∨ n = 13 ∨ n = 14 ∨ n = 15 ∨ n = 16 ∨ n = 17 ∨ n = 18 ∨ n = 19 ∨ n = 20 ∨ n = 21 ∨ n = 22 ∨ n = 23 ∨ n = 24 ∨ n = 25 ∨ n = 26 ∨ n = 27 ∨ n = 28 ∨ n = 29 ∨ n = 30 ∨ n = 31 ∨ n = 32 ∨ n = 33 ∨ n = 34 ∨ n = 35 ∨ n = 36 ∨ n = 37 ∨ n = 38 := by omega
    rcases hn' with rfl | rfl | rfl | rfl | rfl | rfl | rfl | rfl | rfl | rfl | rfl | rfl | rfl | rfl | rfl | rfl | rfl | rfl | rfl | rfl | rfl | rfl | rfl | rfl | rfl | rfl | rfl | rfl | rfl | rfl | rfl | rfl | rfl | rfl | rfl | rfl | rfl | rfl | rfl
    · exact ⟨_, ep, by rw [e, es]; exact fnd_0⟩
    · exact ⟨_, ep, by rw [e, es]; exact fnd_1⟩
    · exact ⟨_, ep, by rw [e, es]; exact fnd_2⟩
    · exact ⟨_, ep, by rw [e, es]; exact fnd_3⟩
    · exact ⟨_, ep, by rw [e, es]; exact fnd_4⟩
    · exact ⟨_, ep, by rw [e, es]; exact fnd_5⟩
    · exact ⟨_, ep, by rw [e, es]; exact fnd_6⟩
    · exact ⟨_, ep, by rw [e, es]; exact fnd_7⟩
    · exact ⟨_, ep, by rw [e, es]; exact fnd_8⟩
    · exact ⟨_, ep, by rw [e, es]; exact fnd_9⟩
    · exact ⟨_, ep, by rw [e, es]; exact fnd_10⟩
    · exact ⟨_, ep, by rw [e, es]; exact fnd_11⟩
    · exact ⟨_, ep, by rw [e, es]; exact fnd_12⟩
    · exact ⟨_, ep, by rw [e, es]; exact fnd_13⟩
    · exact ⟨_, ep, by rw [e, es]; exact fnd_14⟩
    · exact ⟨_, ep, by rw [e, es]; exact fnd_15⟩
    · exact ⟨_, ep, by rw [e, es]; exact fnd_16⟩
    · exact ⟨_, ep, by rw [e, es]; exact fnd_17⟩
    · exact ⟨_, ep, by rw [e, es]; exact fnd_18⟩
    · exact ⟨_, ep, by rw [e, es]; exact fnd_19⟩
    · exact ⟨_, ep, by rw [e, es]; exact fnd_20⟩
    · exact ⟨_, ep, by rw [e, es]; exact fnd_21⟩
    · exact ⟨_, ep, by rw [e, es]; exact fnd_22⟩
    · exact ⟨_, ep, by rw [e, es]; exact fnd_23⟩
    · exact ⟨_, ep, by rw [e, es]; exact fnd_24⟩
    · exact ⟨_, ep, by rw [e, es]; exact fnd_25⟩
    · exact ⟨_, ep, by rw [e, es]; exact fnd_26⟩
    · exact ⟨_, ep, by rw [e, es]; exact fnd_27⟩
    · exact ⟨_, ep, by rw [e, es]; exact fnd_28⟩
    · exact ⟨_, ep, by rw [e, es]; exact fnd_29⟩
    · exact ⟨_, ep, by rw [e, es]; exact fnd_30⟩
    · exact ⟨_, ep, by rw [e, es]; exact fnd_31⟩
    · exact ⟨_, ep, by rw [e, es]; exact fnd_32⟩
    · exact ⟨_, ep, by rw [e, es]; exact fnd_33⟩
    · exact ⟨_, ep, by rw [e, es]; exact fnd_34⟩
    · exact ⟨_, ep, by rw [e, es]; exact fnd_35⟩
    · exact ⟨_, ep, by rw [e, es]; exact fnd_36⟩
    · exact ⟨_, ep, by rw [e, es]; exact fnd_37⟩
    · exact ⟨_, ep, by rw [e, es]; exact fnd_38⟩
  · have hm : ∀ n, n < 39 → s.data.toList ≠ nmL n := fun n hn e => h ⟨n, hn, e⟩
    refine ⟨noOp, ?_, ?_⟩
    · rw [ep, miss_prog _ hm 39 (by omega)]; rfl
    · unfold periluneref04_Find.f
      rw [names_ref, Option.bind_some]
      exact miss_ref s hm 39 0 100 rfl (by omega)
theorem names_pure (a0 : ByteArray) (a1 a2 : Int) (h0 : a0.size ≤ 140737488351232) : perilunelaw04_IsaNames.f 100 a0 a1 a2 = some true := by
  unfold perilunelaw04_IsaNames.f
  obtain ⟨o, e1, e2⟩ := find_eq a0 h0
  rw [names_100, names_ref]
  simp only [Option.bind_some, texts_100, if_true, e1, e2, of_prog, of_ref a1 96]
  have z : perilunelaw04_IsaNames.j0 100 a0 a1 a2 false = some true := by
    rw [perilunelaw04_IsaNames.j0, if_neg (by decide), range_prog, range_ref]
    simp only [Option.bind_some, if_true, works_f]
  simp [z]
theorem names_law (a0 : ByteArray) (a1 a2 : Int) (w : World) (w0 : a0.size ≤ 140737488351232) (w1 : (Lit.int .u8 a1).wf = true) (w2 : (Lit.int .u8 a2).wf = true) :
    Calls Try.prog 3 #[.string a0, .int .u8 a1, .int .u8 a2] w fun e w' => e = .returned (.bool true) ∧ Below w.heap.size w w' :=
  perilunelaw04_IsaNames.calls 100 a0 a1 a2 true w (names_pure a0 a1 a2 w0)
end Go.Proofs.Ytgaajaddaecejaa.Isa
