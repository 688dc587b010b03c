/- Chapter 5: a part of its proof (cut by program out of CpuV); no condition. -/
import Derived.Test.YtgbmaajfbbilhaaGreatKn20
import Derived.Test.YtgbmaajfbbilhaaGreatKn31
import Derived.Test.YtgbmaajfbbilhaaGreatKn33
set_option linter.unusedVariables false
set_option linter.unusedSimpArgs false
set_option linter.unusedSectionVars false
set_option maxRecDepth 100000
set_option maxHeartbeats 8000000
section
namespace Go.Proofs.YtgbmaajfbbilhaaGreat.Cpu
open Go.RowKit Go.Proofs.YtgbmaajfbbilhaaGreat.PAll Go.Proofs.YtgbmaajfbbilhaaGreat.One Go.Proofs.YtgbmaajfbbilhaaGreat.Mem Go.Proofs.YtgbmaajfbbilhaaGreat.Row Go.Proofs.YtgbmaajfbbilhaaGreatW.PrintWords Go.Proofs.YtgbmaajfbbilhaaGreatW.PrintLast Go.Proofs.YtgbmaajfbbilhaaGreatW.PrintMore Go.Proofs.YtgbmaajfbbilhaaGreat.Plain
theorem code_c (i : Int) (nm : ByteArray) (n : Int) (i0 : 1 ≤ i) (i1 : i ≤ 39) (hs : nm.size ≤ 140737488351232) (hc : codeD 39 nm.data.toList = i) (w : World) : Calls Tryz.prog 20 #[.string nm, .int .i64 n] w fun e w' => e = .returned (.int .u16 (Isa.encN i n).1) ∧ Below w.heap.size w w' := by
 have HB := Aside0.mk (Below.refl w.heap.size w)
 have HF : Aside0 (isa_Find.f 0 nm = some (i, (Isa.opN i).2.1, (Isa.opN i).2.2.1, (Isa.opN i).2.2.2.1, (Isa.opN i).2.2.2.2.1, (Isa.opN i).2.2.2.2.2.1, 0)) := ⟨by
  unfold isa_Find.f
  rw [if_pos hs, hc, Isa.of_prog]
  unfold Isa.ofN
  rw [if_pos ⟨i0, i1⟩]
  rfl⟩
 have HE : Aside0 (isa_Encode.f 4 i (Isa.opN i).2.1 (Isa.opN i).2.2.1 (Isa.opN i).2.2.2.1 (Isa.opN i).2.2.2.2.1 (Isa.opN i).2.2.2.2.2.1 n = some ((Isa.encN i n).1, (Isa.encN i n).2)) := ⟨Isa.enc_prog _ _ _ _ _ _ _ 0⟩
 clear hs hc i0 i1
 go_enter Tryz.func20, Tryz.ntmps20
 go_wp2_with (first | (refine boxq_ 5 #[.int .u8 0, .string (⟨#[]⟩ : ByteArray), .bool false, .int .u8 0, .int .i64 0, .int .i64 0] 119 ?_; intro g5 hg wb K hb; (try have NE5_5 := nkb_ K5 hg); have L5 := lkb_ HB hg; (try replace K5 := kbb_ K5 hb); replace HB := hbs_ HB hb; have K5 := Aside0.mk K; clear K hb hg) | (refine strq_ 119 5 12 g5 #[.int .u8 i, .string (Isa.opN i).2.1, .bool (Isa.opN i).2.2.1, .int .u8 (Isa.opN i).2.2.2.1, .int .i64 (Isa.opN i).2.2.2.2.1, .int .i64 (Isa.opN i).2.2.2.2.2.1] K5 ?_; intro ws hk hfar hbel hkp; replace HB := Aside0.mk (hbel _ _ HB.out L5.out); (try replace K5 := hfr_ hfar K5 (by first | exact NE5_5.out | exact NE5_5.out.symm)); replace K5 := Aside0.mk hk; clear hk hfar hbel hkp) | (refine load_row_ rfl 119 _ rfl g5 rfl #[.int .u8 i, .string (Isa.opN i).2.1, .bool (Isa.opN i).2.2.1, .int .u8 (Isa.opN i).2.2.2.1, .int .i64 (Isa.opN i).2.2.2.2.1, .int .i64 (Isa.opN i).2.2.2.2.2.1] _ K5.out _ Tryz.underlying119 rfl (by kernel_rfl) ?_) | (go_at_call 67; (with_reducible refine at_args #[.string nm] ?_); (with_reducible refine (isa_Find.calls 0 nm _ _ _ _ _ _ _ _ HF.out).mono ?_); rintro e wc ⟨rfl, hb⟩; (try replace K5 := kbb_ K5 hb); replace HB := hbs_ HB hb; clear hb) | (go_at_call 68; (with_reducible refine at_args #[.agg #[.int .u8 i, .string (Isa.opN i).2.1, .bool (Isa.opN i).2.2.1, .int .u8 (Isa.opN i).2.2.2.1, .int .i64 (Isa.opN i).2.2.2.2.1, .int .i64 (Isa.opN i).2.2.2.2.2.1], .int .i64 n] ?_); (with_reducible refine (isa_Encode.calls 4 _ _ _ _ _ _ n _ _ _ HE.out).mono ?_); rintro e wc ⟨rfl, hb⟩; (try replace K5 := kbb_ K5 hb); replace HB := hbs_ HB hb; clear hb))
 go_ret
 exact ⟨rfl, HB.out⟩
def atV (w x y : Int) : Vw := ⟨((List.replicate 102 0).set 100 x).set 101 y, (List.replicate 2049 0).set 2048 w, []⟩
theorem set_b {l : List Int} (hl : ∀ i, 0 ≤ rd l i ∧ rd l i < 65536) (n : Nat) {x : Int} (h0 : 0 ≤ x) (h1 : x < 65536) : ∀ i, 0 ≤ rd (l.set n x) i ∧ rd (l.set n x) i < 65536 := by
 intro i
 have h := hl i
 unfold rd at *
 simp only [List.getD_eq_getElem?_getD, List.getElem?_set] at *
 split
 · rename_i h2; subst h2
   split
   · exact ⟨h0, h1⟩
   · exact ⟨by decide, by decide⟩
 · exact h
theorem rep_b (n : Nat) : ∀ i, 0 ≤ rd (List.replicate n 0) i ∧ rd (List.replicate n 0) i < 65536 := by
 intro i
 unfold rd
 simp only [List.getD_eq_getElem?_getD, List.getElem?_replicate]
 split <;> exact ⟨by decide, by decide⟩
theorem eqA26 (d : Nat) (w : World) (x0 y0 : Int) (x1 y1 : Int) (x2 y2 : Int) (x3 y3 : Int) (x4 y4 : Int) (x5 y5 : Int) (x6 y6 : Int) (x7 y7 : Bool) (x8 y8 : Int) (x9 y9 : Bool) (x10 y10 : Int) (x11 y11 : Bool) (x12 y12 : Bool) :
 (Op.equalIn (d + 2) 26 (.agg #[.int .u16 x0, .int .u16 x1, .int .u16 x2, .int .i64 x3, .int .i64 x4, .int .i64 x5, .int .i64 x6, .bool x7, .int .u16 x8, .bool x9, .int .u16 x10, .bool x11, .bool x12]) (.agg #[.int .u16 y0, .int .u16 y1, .int .u16 y2, .int .i64 y3, .int .i64 y4, .int .i64 y5, .int .i64 y6, .bool y7, .int .u16 y8, .bool y9, .int .u16 y10, .bool y11, .bool y12])).run Tryz.prog w = .ok (x0 == y0 && (x1 == y1 && (x2 == y2 && (x3 == y3 && (x4 == y4 && (x5 == y5 && (x6 == y6 && (x7 == y7 && (x8 == y8 && (x9 == y9 && (x10 == y10 && (x11 == y11 && (x12 == y12))))))))))))) w := by
 refine eqA_of Tryz.underlying26 (by kernel_rfl) ?_
 refine eqf_cons (by rfl) (by go_simp; rfl) (by go_simp; rfl) (by go_simp) ?_
 refine eqf_cons (by rfl) (by go_simp; rfl) (by go_simp; rfl) (by go_simp) ?_
 refine eqf_cons (by rfl) (by go_simp; rfl) (by go_simp; rfl) (by go_simp) ?_
 refine eqf_cons (by rfl) (by go_simp; rfl) (by go_simp; rfl) (by go_simp) ?_
 refine eqf_cons (by rfl) (by go_simp; rfl) (by go_simp; rfl) (by go_simp) ?_
 refine eqf_cons (by rfl) (by go_simp; rfl) (by go_simp; rfl) (by go_simp) ?_
 refine eqf_cons (by rfl) (by go_simp; rfl) (by go_simp; rfl) (by go_simp) ?_
 refine eqf_cons (by rfl) (by go_simp; rfl) (by go_simp; rfl) (by go_simp) ?_
 refine eqf_cons (by rfl) (by go_simp; rfl) (by go_simp; rfl) (by go_simp) ?_
 refine eqf_cons (by rfl) (by go_simp; rfl) (by go_simp; rfl) (by go_simp) ?_
 refine eqf_cons (by rfl) (by go_simp; rfl) (by go_simp; rfl) (by go_simp) ?_
 refine eqf_cons (by rfl) (by go_simp; rfl) (by go_simp; rfl) (by go_simp) ?_
 exact eqf_last (by rfl) (by go_simp; rfl) (by go_simp; rfl) (by go_simp)
theorem eqS26 (d : Nat) (w : World) (x0 : Int) (x1 : Int) (x2 : Int) (x3 : Int) (x4 : Int) (x5 : Int) (x6 : Int) (x7 : Bool) (x8 : Int) (x9 : Bool) (x10 : Int) (x11 : Bool) (x12 : Bool) :
 (Op.equalIn (d + 2) 26 (.agg #[.int .u16 x0, .int .u16 x1, .int .u16 x2, .int .i64 x3, .int .i64 x4, .int .i64 x5, .int .i64 x6, .bool x7, .int .u16 x8, .bool x9, .int .u16 x10, .bool x11, .bool x12]) (.agg #[.int .u16 x0, .int .u16 x1, .int .u16 x2, .int .i64 x3, .int .i64 x4, .int .i64 x5, .int .i64 x6, .bool x7, .int .u16 x8, .bool x9, .int .u16 x10, .bool x11, .bool x12])).run Tryz.prog w = .ok true w := by
 rw [eqA26]; simp
end Go.Proofs.YtgbmaajfbbilhaaGreat.Cpu
end
