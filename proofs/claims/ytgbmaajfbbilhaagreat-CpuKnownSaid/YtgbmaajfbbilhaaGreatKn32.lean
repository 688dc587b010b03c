/- Chapter 5: a part of its proof (cut by program out of CpuTb, CpuX, CpuS); no condition. -/
import Derived.Maps.OwnSet
import Derived.Test.YtgbmaajfbbilhaaGreatKn17
import Derived.Test.YtgbmaajfbbilhaaGreatKn20
import Derived.Test.YtgbmaajfbbilhaaGreatKn26
import Derived.Test.YtgbmaajfbbilhaaGreatKn30
import Derived.Test.YtgbmaajfbbilhaaGreatKn31
set_option linter.unusedVariables false
set_option linter.unusedSimpArgs false
set_option linter.unusedSectionVars false
set_option maxRecDepth 100000
set_option maxHeartbeats 8000000
section
namespace Go.Proofs.YtgbmaajfbbilhaaGreat.Cpu
open Go.RowKit Go.Proofs.YtgbmaajfbbilhaaGreat.PAll Go.Proofs.YtgbmaajfbbilhaaGreat.One Go.Proofs.YtgbmaajfbbilhaaGreat.Mem Go.Proofs.YtgbmaajfbbilhaaGreat.Row Go.Proofs.YtgbmaajfbbilhaaGreatW.PrintWords Go.Proofs.YtgbmaajfbbilhaaGreatW.PrintLast Go.Proofs.YtgbmaajfbbilhaaGreatW.PrintMore Go.Proofs.YtgbmaajfbbilhaaGreat.Plain
open Go.Maps Go.WideMaps
def fnum (c : Int) : Nat := [105, 107, 108, 109, 110, 106, 111, 112, 115, 116, 117, 119, 121, 124, 125, 126, 127, 128, 131, 138, 140, 142, 145, 143, 147, 144, 0, 137, 148, 134, 114, 151, 152, 153, 155, 123, 130, 150, 136].getD (c - 1).toNat 0
def meth (c : Int) : Bool := [true, false, false, false, true, true, true, false, true, true, false, false, false, true, true, true, true, false, false, false, false, false, false, false, false, false, false, true, false, false, false, true, true, false, false, false, false, false, true].getD (c - 1).toNat false
def fargs (c : Int) (p g : Nat) : Array Value := if meth c = true then #[.pointer (some ⟨p, 0, none⟩)] else #[.pointer (some ⟨g, 0, none⟩)]
def fval (c : Int) (p g : Nat) : Value := if meth c = true then .func (.func (fnum c)) #[.pointer (some ⟨p, 0, none⟩)] #[] else .func (.func (fnum c)) #[] #[.pointer (some ⟨g, 0, none⟩)]
theorem enter_c (i : Int) (i0 : 1 ≤ i) (i1 : i ≤ 39) (ni : i ≠ 27) (args : Array Value) (w : World) : (callFunc (fnum i) args).run Tryz.prog w = .ok (.enter (fnum i) args) w := by
 rcases Isa.codes i0 i1 with rfl | rfl | rfl | rfl | rfl | rfl | rfl | rfl | rfl | rfl | rfl | rfl | rfl | rfl | rfl | rfl | rfl | rfl | rfl | rfl | rfl | rfl | rfl | rfl | rfl | rfl | rfl | rfl | rfl | rfl | rfl | rfl | rfl | rfl | rfl | rfl | rfl | rfl | rfl
 · exact enters_ Tryz.func105 (by kernel_rfl) rfl args w
 · exact enters_ Tryz.func107 (by kernel_rfl) rfl args w
 · exact enters_ Tryz.func108 (by kernel_rfl) rfl args w
 · exact enters_ Tryz.func109 (by kernel_rfl) rfl args w
 · exact enters_ Tryz.func110 (by kernel_rfl) rfl args w
 · exact enters_ Tryz.func106 (by kernel_rfl) rfl args w
 · exact enters_ Tryz.func111 (by kernel_rfl) rfl args w
 · exact enters_ Tryz.func112 (by kernel_rfl) rfl args w
 · exact enters_ Tryz.func115 (by kernel_rfl) rfl args w
 · exact enters_ Tryz.func116 (by kernel_rfl) rfl args w
 · exact enters_ Tryz.func117 (by kernel_rfl) rfl args w
 · exact enters_ Tryz.func119 (by kernel_rfl) rfl args w
 · exact enters_ Tryz.func121 (by kernel_rfl) rfl args w
 · exact enters_ Tryz.func124 (by kernel_rfl) rfl args w
 · exact enters_ Tryz.func125 (by kernel_rfl) rfl args w
 · exact enters_ Tryz.func126 (by kernel_rfl) rfl args w
 · exact enters_ Tryz.func127 (by kernel_rfl) rfl args w
 · exact enters_ Tryz.func128 (by kernel_rfl) rfl args w
 · exact enters_ Tryz.func131 (by kernel_rfl) rfl args w
 · exact enters_ Tryz.func138 (by kernel_rfl) rfl args w
 · exact enters_ Tryz.func140 (by kernel_rfl) rfl args w
 · exact enters_ Tryz.func142 (by kernel_rfl) rfl args w
 · exact enters_ Tryz.func145 (by kernel_rfl) rfl args w
 · exact enters_ Tryz.func143 (by kernel_rfl) rfl args w
 · exact enters_ Tryz.func147 (by kernel_rfl) rfl args w
 · exact enters_ Tryz.func144 (by kernel_rfl) rfl args w
 · exact absurd rfl ni
 · exact enters_ Tryz.func137 (by kernel_rfl) rfl args w
 · exact enters_ Tryz.func148 (by kernel_rfl) rfl args w
 · exact enters_ Tryz.func134 (by kernel_rfl) rfl args w
 · exact enters_ Tryz.func114 (by kernel_rfl) rfl args w
 · exact enters_ Tryz.func151 (by kernel_rfl) rfl args w
 · exact enters_ Tryz.func152 (by kernel_rfl) rfl args w
 · exact enters_ Tryz.func153 (by kernel_rfl) rfl args w
 · exact enters_ Tryz.func155 (by kernel_rfl) rfl args w
 · exact enters_ Tryz.func123 (by kernel_rfl) rfl args w
 · exact enters_ Tryz.func130 (by kernel_rfl) rfl args w
 · exact enters_ Tryz.func150 (by kernel_rfl) rfl args w
 · exact enters_ Tryz.func136 (by kernel_rfl) rfl args w
def tabL (p g : Nat) : List (ByteArray × Value) := [((⟨#[84, 67]⟩ : ByteArray), fval 1 p g), ((⟨#[84, 67, 70]⟩ : ByteArray), fval 6 p g), ((⟨#[69, 88, 84, 69, 78, 68]⟩ : ByteArray), fval 2 p g), ((⟨#[73, 78, 72, 73, 78, 84]⟩ : ByteArray), fval 3 p g), ((⟨#[82, 69, 76, 73, 78, 84]⟩ : ByteArray), fval 4 p g), ((⟨#[67, 67, 83]⟩ : ByteArray), fval 5 p g), ((⟨#[68, 65, 83]⟩ : ByteArray), fval 7 p g), ((⟨#[76, 88, 67, 72]⟩ : ByteArray), fval 8 p g), ((⟨#[81, 88, 67, 72]⟩ : ByteArray), fval 31 p g), ((⟨#[73, 78, 67, 82]⟩ : ByteArray), fval 9 p g), ((⟨#[65, 68, 83]⟩ : ByteArray), fval 10 p g), ((⟨#[67, 65]⟩ : ByteArray), fval 11 p g), ((⟨#[67, 83]⟩ : ByteArray), fval 12 p g), ((⟨#[73, 78, 68, 69, 88]⟩ : ByteArray), fval 13 p g), ((⟨#[88, 73, 78, 68, 69, 88]⟩ : ByteArray), fval 36 p g), ((⟨#[82, 69, 83, 85, 77, 69]⟩ : ByteArray), fval 14 p g), ((⟨#[68, 88, 67, 72]⟩ : ByteArray), fval 15 p g), ((⟨#[84, 83]⟩ : ByteArray), fval 16 p g), ((⟨#[88, 67, 72]⟩ : ByteArray), fval 17 p g), ((⟨#[65, 68]⟩ : ByteArray), fval 18 p g), ((⟨#[83, 85]⟩ : ByteArray), fval 37 p g), ((⟨#[77, 65, 83, 75]⟩ : ByteArray), fval 19 p g), ((⟨#[77, 83, 85]⟩ : ByteArray), fval 30 p g), ((⟨#[77, 80]⟩ : ByteArray), fval 39 p g), ((⟨#[68, 86]⟩ : ByteArray), fval 28 p g), ((⟨#[82, 69, 65, 68]⟩ : ByteArray), fval 20 p g), ((⟨#[87, 82, 73, 84, 69]⟩ : ByteArray), fval 21 p g), ((⟨#[82, 65, 78, 68]⟩ : ByteArray), fval 22 p g), ((⟨#[82, 79, 82]⟩ : ByteArray), fval 24 p g), ((⟨#[82, 88, 79, 82]⟩ : ByteArray), fval 26 p g), ((⟨#[87, 65, 78, 68]⟩ : ByteArray), fval 23 p g), ((⟨#[87, 79, 82]⟩ : ByteArray), fval 25 p g), ((⟨#[66, 90, 70]⟩ : ByteArray), fval 29 p g), ((⟨#[66, 90, 77, 70]⟩ : ByteArray), fval 38 p g), ((⟨#[65, 85, 71]⟩ : ByteArray), fval 32 p g), ((⟨#[68, 73, 77]⟩ : ByteArray), fval 33 p g), ((⟨#[68, 67, 65]⟩ : ByteArray), fval 34 p g), ((⟨#[68, 67, 83]⟩ : ByteArray), fval 35 p g)]
def Dt (p g : Nat) : DataW Value := (tabL p g).foldl (fun D x => D.put (.string x.1.data.toList) (.held x.2)) (.map [])
def heldR (v : Value) : Option (DataW Value × List MemPlace) := some (.held v, [])
theorem Dt_has (p g : Nat) (i : Int) (i0 : 1 ≤ i) (i1 : i ≤ 39) : Maps.has (Dt p g) (.string (entOf i).1.data.toList) = decide (i ≠ 27) := by
 rcases Isa.codes i0 i1 with rfl | rfl | rfl | rfl | rfl | rfl | rfl | rfl | rfl | rfl | rfl | rfl | rfl | rfl | rfl | rfl | rfl | rfl | rfl | rfl | rfl | rfl | rfl | rfl | rfl | rfl | rfl | rfl | rfl | rfl | rfl | rfl | rfl | rfl | rfl | rfl | rfl | rfl | rfl <;> kernel_rfl
theorem Dt_at (p g : Nat) (i : Int) (i0 : 1 ≤ i) (i1 : i ≤ 39) (ni : i ≠ 27) : (Dt p g).atKey (.string (entOf i).1.data.toList) (.held .nilFunc) = .held (fval i p g) := by
 rcases Isa.codes i0 i1 with rfl | rfl | rfl | rfl | rfl | rfl | rfl | rfl | rfl | rfl | rfl | rfl | rfl | rfl | rfl | rfl | rfl | rfl | rfl | rfl | rfl | rfl | rfl | rfl | rfl | rfl | rfl | rfl | rfl | rfl | rfl | rfl | rfl | rfl | rfl | rfl | rfl | rfl | rfl
 · kernel_rfl
 · kernel_rfl
 · kernel_rfl
 · kernel_rfl
 · kernel_rfl
 · kernel_rfl
 · kernel_rfl
 · kernel_rfl
 · kernel_rfl
 · kernel_rfl
 · kernel_rfl
 · kernel_rfl
 · kernel_rfl
 · kernel_rfl
 · kernel_rfl
 · kernel_rfl
 · kernel_rfl
 · kernel_rfl
 · kernel_rfl
 · kernel_rfl
 · kernel_rfl
 · kernel_rfl
 · kernel_rfl
 · kernel_rfl
 · kernel_rfl
 · kernel_rfl
 · exact absurd rfl ni
 · kernel_rfl
 · kernel_rfl
 · kernel_rfl
 · kernel_rfl
 · kernel_rfl
 · kernel_rfl
 · kernel_rfl
 · kernel_rfl
 · kernel_rfl
 · kernel_rfl
 · kernel_rfl
 · kernel_rfl
theorem ent_size (i : Int) (i0 : 1 ≤ i) (i1 : i ≤ 39) : (entOf i).1.size ≤ maxLen := by
 have h : (entOf i).1.size ≤ 100 := by
  refine of_decide_eq_true (Isa.all_bool (f := fun c => decide ((entOf c).1.size ≤ 100)) (by kernel_rfl) i0 i1)
 unfold maxLen; omega
theorem zeroF (w : World) : (zeroValue 1).run Tryz.prog w = .ok .nilFunc w := by kernel_rfl
section
variable {H : Type} {P : Program} (w : World) {ops : Array Oper} {rest : List Oper} {o : Oper} {a : Act} {Q : Exit → Act → World → Prop}
theorem insert_own_ (hg : o.guard = none) (m x v : Operand) (t : TypeId) (hop : o.op = Op.insert t m x v) (k e : TypeId) (K : Keyed P k) (ht : P.underlying t = some (.map k e)) (R : Value → Option (DataW H × List MemPlace)) (b n : Nat) (D : DataW H)
 (hm : a.eval m = .map (some b)) (hown : w.ownsMap P k R b n D) (hn : n < maxLen) (key val : Value) (kl : Lit) (hx : a.eval x = key) (hv : a.eval v = val) (hkey : keyOf P k key = some kl) (d : DataW H) (ps : List MemPlace) (hval : R val = some (d, ps))
 (hK : ∀ w', w'.ownsMap P k R b (n + 1) (D.put kl d) → w.grownBy w' (some b) → wpList P ops Q rest (a.put o.dst undef) w') : wpList P ops Q (o :: rest) a w := by
 refine wpList_plain hg fun K' hK' => ?_
 obtain ⟨w', hrun, r1, r2⟩ := hown.update K ht hn hkey hval
 unfold Oper.wp
 simp [execOp, hop, hm, hx, hv, hrun, Result.andThen]
 exact hK' _ _ (hK w' r1 r2)
end
theorem fits_cell {w w1 : World} {q b : Nat} {cs : Array Value} {t : Nat} (h : w.heap[q]? = some (.cells cs t (0, 0))) (hg : w.grownBy w1 (some b)) (hne : q ≠ b) : w1.heap[q]? = some (.cells cs t (0, 0)) :=
 (hg.block q (blk_lt h) (by simpa using hne)).trans h
theorem table_c (p : Nat) (w : World) : Calls Tryz.prog 54 #[.pointer (some ⟨p, 0, none⟩)] w fun e w' => ∃ g b : Nat, e = .returned (.map (some b)) ∧ w'.ownsMap Tryz.prog 9 heldR b 38 (Dt p g) ∧ w.heap.size ≤ g ∧ w'.heap[g]? = some (.cells #[.pointer (some ⟨p, 0, none⟩)] 122 (0, 0)) ∧ Below w.heap.size w w' := by
 have HB := Aside0.mk (Below.refl w.heap.size w)
 have hmf : ∀ (fn : Fn) (first cap : Array Value) (w : World), (Instr.makeFunc fn first cap).run Tryz.prog w = .ok (.func fn first cap) w := fun _ _ _ _ => rfl
 have hmm := @run_makeMap Tryz.prog
 go_enter Tryz.func54, Tryz.ntmps54
 go_upto_region 1 with (first | (refine boxq_ 1 #[.pointer (some ⟨p, 0, none⟩)] 122 ?_; intro g1 hg w1 K hb; replace HB := hbs_ HB hb; have K1 := Aside0.mk K; have L1 := Aside0.mk (show w.heap.size ≤ g1 from by rw [hg]; exact Nat.le_refl _); clear K hb hg; (try clear x1); have x1 : w1.cell? ⟨g1, 0, none⟩ = some (.pointer (some ⟨p, 0, none⟩)) := (blk_cell K1.out 0).trans rfl))
 refine wp_region_list ?_
 simp only [List.append_eq, List.cons_append, List.nil_append]
 go_wp2_with (first | ((with_reducible refine gate_dst (N := 3) rfl ?_); refine Kd.event_run (v := .map (some w1.heap.size)) (w1 := w1.alloc (.map #[] 0)) rfl ?hr2 ?_; (case hr2 => first | kernel_rfl | (go_simp; done) | (go_simp; rfl)); have HM := Aside0.mk (World.ownsMap_made w1 Tryz.prog 9 heldR); have NE := Aside0.mk (Nat.ne_of_lt (blk_lt K1.out)); have LB := Aside0.mk HB.out.size; replace K1 := Aside0.mk (blk_alloc K1.out (.map #[] 0)); replace HB := Aside0.mk (below_alloc HB.out (.map #[] 0)); obtain ⟨b, hb⟩ : ∃ x, w1.heap.size = x := ⟨_, rfl⟩; rw [hb] at HM NE LB ⊢; clear hb x1; generalize World.alloc w1 _ = wm at HM K1 HB ⊢; (try clear x1); have x1 : wm.cell? ⟨g1, 0, none⟩ = some (.pointer (some ⟨p, 0, none⟩)) := (blk_cell K1.out 0).trans rfl) | (refine insert_own_ _ rfl _ _ _ 128 rfl 9 1 law9 Tryz.underlying128 heldR b _ _ rfl HM.out ?hn _ _ _ rfl rfl (key9 _ ?hz) _ [] rfl ?_; (case hn => (unfold maxLen; omega)); (case hz => (unfold maxLen; decide)); intro w2 hm hg; replace HM := Aside0.mk hm; replace K1 := Aside0.mk (fits_cell K1.out hg NE.out); replace HB := Aside0.mk (HB.out.grown hg HB.out.size (fun j hj => by cases hj; exact LB.out)); clear hm hg x1; (try clear x1); have x1 : w2.cell? ⟨g1, 0, none⟩ = some (.pointer (some ⟨p, 0, none⟩)) := (blk_cell K1.out 0).trans rfl))
 go_ret
 exact ⟨g1, b, rfl, HM.out, L1.out, K1.out, HB.out⟩
end Go.Proofs.YtgbmaajfbbilhaaGreat.Cpu
end
section
namespace Go.Proofs.YtgbmaajfbbilhaaGreat.Cpu
open Go.RowKit Go.Proofs.YtgbmaajfbbilhaaGreat.PAll Go.Proofs.YtgbmaajfbbilhaaGreat.One Go.Proofs.YtgbmaajfbbilhaaGreat.Mem Go.Proofs.YtgbmaajfbbilhaaGreat.Row Go.Proofs.YtgbmaajfbbilhaaGreatW.PrintWords Go.Proofs.YtgbmaajfbbilhaaGreatW.PrintLast Go.Proofs.YtgbmaajfbbilhaaGreatW.PrintMore Go.Proofs.YtgbmaajfbbilhaaGreat.Plain
open Go.Maps Go.WideMaps
theorem loc_b2 {r : Rg} (ok : r.Ok) (k : Int) (h : (locN r k).2 = 0) : 0 ≤ (locN r k).1.f1 ∧ (locN r k).1.f1 < 40000 := by
 have := ok.f0; have := ok.f1; have := ok.s0; have := ok.s1; have := ok.e0; have := ok.e1
 unfold locN at *
 split at h
 · simp at h
 · rename_i g
   rw [if_neg g]
   have hb : bankE r.fb r.su = 0 ∨ ¬ (1024 ≤ k ∧ k ≤ 2047) := by
    by_cases a : bankE r.fb r.su = 0
    · exact Or.inl a
    · exact Or.inr (fun b => g ⟨a, b.1, b.2⟩)
   simp only [absE] at h
   simp only [absA]
   split at h
   · simp at h
   · rename_i g2
     rw [if_neg g2]
     unfold bankE bankN at *
     repeat' split
     all_goals omega
def ExecOk (i : Int) : Prop := ∀ (c : Cx) (n : Nat) (st : St) (w : World), c.P n st w → st.r.Ok → 0 ≤ st.sp.f1 → st.sp.f1 < 40000 → 0 ≤ st.k → n ≤ 60 → Calls Tryz.prog (fnum i) (fargs i c.p c.g) w fun e w' => e = .returned (.tuple #[]) ∧ ∃ m, c.P m (exec st c.v i) w'
theorem ex_1 {c : Cx} {n : Nat} {st : St} {w : World} (h : c.P n st w) (ok : st.r.Ok) (h0 : 0 ≤ st.sp.f1) (h9 : st.sp.f1 < 40000) (k0 : 0 ≤ st.k) (hn : n ≤ 60) : Calls Tryz.prog 105 #[.pointer (some ⟨c.p, 0, none⟩)] w fun e w' => e = .returned (.tuple #[]) ∧ ∃ m, c.P m (exec st c.v 1) w' := by
 exact (tc_c h ok).mono (fun e w' h => ⟨h.1, _, h.2⟩)
theorem ex_2 {c : Cx} {n : Nat} {st : St} {w : World} (h : c.P n st w) (ok : st.r.Ok) (h0 : 0 ≤ st.sp.f1) (h9 : st.sp.f1 < 40000) (k0 : 0 ≤ st.k) (hn : n ≤ 60) : Calls Tryz.prog 107 #[.pointer (some ⟨c.g, 0, none⟩)] w fun e w' => e = .returned (.tuple #[]) ∧ ∃ m, c.P m (exec st c.v 2) w' := by
 exact (extend_c h).mono (fun e w' h => ⟨h.1, _, h.2⟩)
theorem ex_3 {c : Cx} {n : Nat} {st : St} {w : World} (h : c.P n st w) (ok : st.r.Ok) (h0 : 0 ≤ st.sp.f1) (h9 : st.sp.f1 < 40000) (k0 : 0 ≤ st.k) (hn : n ≤ 60) : Calls Tryz.prog 108 #[.pointer (some ⟨c.g, 0, none⟩)] w fun e w' => e = .returned (.tuple #[]) ∧ ∃ m, c.P m (exec st c.v 3) w' := by
 exact (inhint_c h).mono (fun e w' h => ⟨h.1, _, h.2⟩)
theorem ex_4 {c : Cx} {n : Nat} {st : St} {w : World} (h : c.P n st w) (ok : st.r.Ok) (h0 : 0 ≤ st.sp.f1) (h9 : st.sp.f1 < 40000) (k0 : 0 ≤ st.k) (hn : n ≤ 60) : Calls Tryz.prog 109 #[.pointer (some ⟨c.g, 0, none⟩)] w fun e w' => e = .returned (.tuple #[]) ∧ ∃ m, c.P m (exec st c.v 4) w' := by
 exact (relint_c h).mono (fun e w' h => ⟨h.1, _, h.2⟩)
theorem ex_5 {c : Cx} {n : Nat} {st : St} {w : World} (h : c.P n st w) (ok : st.r.Ok) (h0 : 0 ≤ st.sp.f1) (h9 : st.sp.f1 < 40000) (k0 : 0 ≤ st.k) (hn : n ≤ 60) : Calls Tryz.prog 110 #[.pointer (some ⟨c.p, 0, none⟩)] w fun e w' => e = .returned (.tuple #[]) ∧ ∃ m, c.P m (exec st c.v 5) w' := by
 exact (ccs_c h ok h0 (by omega)).mono (fun e w' h => ⟨h.1, _, h.2⟩)
theorem ex_6 {c : Cx} {n : Nat} {st : St} {w : World} (h : c.P n st w) (ok : st.r.Ok) (h0 : 0 ≤ st.sp.f1) (h9 : st.sp.f1 < 40000) (k0 : 0 ≤ st.k) (hn : n ≤ 60) : Calls Tryz.prog 106 #[.pointer (some ⟨c.p, 0, none⟩)] w fun e w' => e = .returned (.tuple #[]) ∧ ∃ m, c.P m (exec st c.v 6) w' := by
 exact (tcf_c h).mono (fun e w' h => ⟨h.1, _, h.2⟩)
theorem ex_7 {c : Cx} {n : Nat} {st : St} {w : World} (h : c.P n st w) (ok : st.r.Ok) (h0 : 0 ≤ st.sp.f1) (h9 : st.sp.f1 < 40000) (k0 : 0 ≤ st.k) (hn : n ≤ 60) : Calls Tryz.prog 111 #[.pointer (some ⟨c.p, 0, none⟩)] w fun e w' => e = .returned (.tuple #[]) ∧ ∃ m, c.P m (exec st c.v 7) w' := by
 by_cases hf : st.sp.f1 = 0
 · exact (das_0 h ok h0 h9 (by omega) hf).mono (fun e w' h => ⟨h.1, _, h.2⟩)
 · exact (das_1 h ok h0 h9 (by omega) hf).mono (fun e w' h => ⟨h.1, _, h.2⟩)
theorem ex_8 {c : Cx} {n : Nat} {st : St} {w : World} (h : c.P n st w) (ok : st.r.Ok) (h0 : 0 ≤ st.sp.f1) (h9 : st.sp.f1 < 40000) (k0 : 0 ≤ st.k) (hn : n ≤ 60) : Calls Tryz.prog 112 #[.pointer (some ⟨c.g, 0, none⟩)] w fun e w' => e = .returned (.tuple #[]) ∧ ∃ m, c.P m (exec st c.v 8) w' := by
 exact (lxch_c h ok h0 (by omega)).mono (fun e w' h => ⟨h.1, _, h.2⟩)
theorem ex_9 {c : Cx} {n : Nat} {st : St} {w : World} (h : c.P n st w) (ok : st.r.Ok) (h0 : 0 ≤ st.sp.f1) (h9 : st.sp.f1 < 40000) (k0 : 0 ≤ st.k) (hn : n ≤ 60) : Calls Tryz.prog 115 #[.pointer (some ⟨c.p, 0, none⟩)] w fun e w' => e = .returned (.tuple #[]) ∧ ∃ m, c.P m (exec st c.v 9) w' := by
 exact (incr_c h ok h0 (by omega)).mono (fun e w' h => ⟨h.1, _, h.2⟩)
theorem ex_10 {c : Cx} {n : Nat} {st : St} {w : World} (h : c.P n st w) (ok : st.r.Ok) (h0 : 0 ≤ st.sp.f1) (h9 : st.sp.f1 < 40000) (k0 : 0 ≤ st.k) (hn : n ≤ 60) : Calls Tryz.prog 116 #[.pointer (some ⟨c.p, 0, none⟩)] w fun e w' => e = .returned (.tuple #[]) ∧ ∃ m, c.P m (exec st c.v 10) w' := by
 exact (ads_c h ok h0 (by omega)).mono (fun e w' h => ⟨h.1, _, h.2⟩)
theorem ex_11 {c : Cx} {n : Nat} {st : St} {w : World} (h : c.P n st w) (ok : st.r.Ok) (h0 : 0 ≤ st.sp.f1) (h9 : st.sp.f1 < 40000) (k0 : 0 ≤ st.k) (hn : n ≤ 60) : Calls Tryz.prog 117 #[.pointer (some ⟨c.g, 0, none⟩)] w fun e w' => e = .returned (.tuple #[]) ∧ ∃ m, c.P m (exec st c.v 11) w' := by
 exact (ca_c h ok h0 (by omega)).mono (fun e w' h => ⟨h.1, _, h.2⟩)
theorem ex_12 {c : Cx} {n : Nat} {st : St} {w : World} (h : c.P n st w) (ok : st.r.Ok) (h0 : 0 ≤ st.sp.f1) (h9 : st.sp.f1 < 40000) (k0 : 0 ≤ st.k) (hn : n ≤ 60) : Calls Tryz.prog 119 #[.pointer (some ⟨c.g, 0, none⟩)] w fun e w' => e = .returned (.tuple #[]) ∧ ∃ m, c.P m (exec st c.v 12) w' := by
 exact (cs_c h ok h0 (by omega)).mono (fun e w' h => ⟨h.1, _, h.2⟩)
theorem ex_13 {c : Cx} {n : Nat} {st : St} {w : World} (h : c.P n st w) (ok : st.r.Ok) (h0 : 0 ≤ st.sp.f1) (h9 : st.sp.f1 < 40000) (k0 : 0 ≤ st.k) (hn : n ≤ 60) : Calls Tryz.prog 121 #[.pointer (some ⟨c.g, 0, none⟩)] w fun e w' => e = .returned (.tuple #[]) ∧ ∃ m, c.P m (exec st c.v 13) w' := by
 exact (index_c h ok h0 (by omega)).mono (fun e w' h => ⟨h.1, _, h.2⟩)
theorem ex_14 {c : Cx} {n : Nat} {st : St} {w : World} (h : c.P n st w) (ok : st.r.Ok) (h0 : 0 ≤ st.sp.f1) (h9 : st.sp.f1 < 40000) (k0 : 0 ≤ st.k) (hn : n ≤ 60) : Calls Tryz.prog 124 #[.pointer (some ⟨c.p, 0, none⟩)] w fun e w' => e = .returned (.tuple #[]) ∧ ∃ m, c.P m (exec st c.v 14) w' := by
 exact (resume_c h ok (by omega)).mono (fun e w' h => ⟨h.1, _, h.2⟩)
theorem ex_15 {c : Cx} {n : Nat} {st : St} {w : World} (h : c.P n st w) (ok : st.r.Ok) (h0 : 0 ≤ st.sp.f1) (h9 : st.sp.f1 < 40000) (k0 : 0 ≤ st.k) (hn : n ≤ 60) : Calls Tryz.prog 125 #[.pointer (some ⟨c.p, 0, none⟩)] w fun e w' => e = .returned (.tuple #[]) ∧ ∃ m, c.P m (exec st c.v 15) w' := by
 exact (dxch_c h ok h0 h9 (by omega)).mono (fun e w' h => ⟨h.1, _, h.2⟩)
theorem ex_16 {c : Cx} {n : Nat} {st : St} {w : World} (h : c.P n st w) (ok : st.r.Ok) (h0 : 0 ≤ st.sp.f1) (h9 : st.sp.f1 < 40000) (k0 : 0 ≤ st.k) (hn : n ≤ 60) : Calls Tryz.prog 126 #[.pointer (some ⟨c.p, 0, none⟩)] w fun e w' => e = .returned (.tuple #[]) ∧ ∃ m, c.P m (exec st c.v 16) w' := by
 exact (ts_c h ok h0 (by omega)).mono (fun e w' h => ⟨h.1, _, h.2⟩)
theorem ex_17 {c : Cx} {n : Nat} {st : St} {w : World} (h : c.P n st w) (ok : st.r.Ok) (h0 : 0 ≤ st.sp.f1) (h9 : st.sp.f1 < 40000) (k0 : 0 ≤ st.k) (hn : n ≤ 60) : Calls Tryz.prog 127 #[.pointer (some ⟨c.p, 0, none⟩)] w fun e w' => e = .returned (.tuple #[]) ∧ ∃ m, c.P m (exec st c.v 17) w' := by
 exact (xch_c h ok h0 (by omega)).mono (fun e w' h => ⟨h.1, _, h.2⟩)
theorem ex_18 {c : Cx} {n : Nat} {st : St} {w : World} (h : c.P n st w) (ok : st.r.Ok) (h0 : 0 ≤ st.sp.f1) (h9 : st.sp.f1 < 40000) (k0 : 0 ≤ st.k) (hn : n ≤ 60) : Calls Tryz.prog 128 #[.pointer (some ⟨c.g, 0, none⟩)] w fun e w' => e = .returned (.tuple #[]) ∧ ∃ m, c.P m (exec st c.v 18) w' := by
 exact (ad_c h ok h0 (by omega)).mono (fun e w' h => ⟨h.1, _, h.2⟩)
theorem ex_19 {c : Cx} {n : Nat} {st : St} {w : World} (h : c.P n st w) (ok : st.r.Ok) (h0 : 0 ≤ st.sp.f1) (h9 : st.sp.f1 < 40000) (k0 : 0 ≤ st.k) (hn : n ≤ 60) : Calls Tryz.prog 131 #[.pointer (some ⟨c.g, 0, none⟩)] w fun e w' => e = .returned (.tuple #[]) ∧ ∃ m, c.P m (exec st c.v 19) w' := by
 exact (mask_c h ok h0 (by omega)).mono (fun e w' h => ⟨h.1, _, h.2⟩)
theorem ex_20 {c : Cx} {n : Nat} {st : St} {w : World} (h : c.P n st w) (ok : st.r.Ok) (h0 : 0 ≤ st.sp.f1) (h9 : st.sp.f1 < 40000) (k0 : 0 ≤ st.k) (hn : n ≤ 60) : Calls Tryz.prog 138 #[.pointer (some ⟨c.g, 0, none⟩)] w fun e w' => e = .returned (.tuple #[]) ∧ ∃ m, c.P m (exec st c.v 20) w' := by
 exact (read_i h ok k0 (by omega)).mono (fun e w' h => ⟨h.1, _, h.2⟩)
theorem ex_21 {c : Cx} {n : Nat} {st : St} {w : World} (h : c.P n st w) (ok : st.r.Ok) (h0 : 0 ≤ st.sp.f1) (h9 : st.sp.f1 < 40000) (k0 : 0 ≤ st.k) (hn : n ≤ 60) : Calls Tryz.prog 140 #[.pointer (some ⟨c.g, 0, none⟩)] w fun e w' => e = .returned (.tuple #[]) ∧ ∃ m, c.P m (exec st c.v 21) w' := by
 exact (write_i h ok k0 (by omega)).mono (fun e w' h => ⟨h.1, _, h.2⟩)
theorem ex_22 {c : Cx} {n : Nat} {st : St} {w : World} (h : c.P n st w) (ok : st.r.Ok) (h0 : 0 ≤ st.sp.f1) (h9 : st.sp.f1 < 40000) (k0 : 0 ≤ st.k) (hn : n ≤ 60) : Calls Tryz.prog 142 #[.pointer (some ⟨c.g, 0, none⟩)] w fun e w' => e = .returned (.tuple #[]) ∧ ∃ m, c.P m (exec st c.v 22) w' := by
 exact (rand_i h ok k0 (by omega)).mono (fun e w' h => ⟨h.1, _, h.2⟩)
theorem ex_23 {c : Cx} {n : Nat} {st : St} {w : World} (h : c.P n st w) (ok : st.r.Ok) (h0 : 0 ≤ st.sp.f1) (h9 : st.sp.f1 < 40000) (k0 : 0 ≤ st.k) (hn : n ≤ 60) : Calls Tryz.prog 145 #[.pointer (some ⟨c.g, 0, none⟩)] w fun e w' => e = .returned (.tuple #[]) ∧ ∃ m, c.P m (exec st c.v 23) w' := by
 exact (wand_i h ok k0 (by omega)).mono (fun e w' h => ⟨h.1, _, h.2⟩)
theorem ex_24 {c : Cx} {n : Nat} {st : St} {w : World} (h : c.P n st w) (ok : st.r.Ok) (h0 : 0 ≤ st.sp.f1) (h9 : st.sp.f1 < 40000) (k0 : 0 ≤ st.k) (hn : n ≤ 60) : Calls Tryz.prog 143 #[.pointer (some ⟨c.g, 0, none⟩)] w fun e w' => e = .returned (.tuple #[]) ∧ ∃ m, c.P m (exec st c.v 24) w' := by
 exact (ror_i h ok k0 (by omega)).mono (fun e w' h => ⟨h.1, _, h.2⟩)
theorem ex_25 {c : Cx} {n : Nat} {st : St} {w : World} (h : c.P n st w) (ok : st.r.Ok) (h0 : 0 ≤ st.sp.f1) (h9 : st.sp.f1 < 40000) (k0 : 0 ≤ st.k) (hn : n ≤ 60) : Calls Tryz.prog 147 #[.pointer (some ⟨c.g, 0, none⟩)] w fun e w' => e = .returned (.tuple #[]) ∧ ∃ m, c.P m (exec st c.v 25) w' := by
 exact (wor_i h ok k0 (by omega)).mono (fun e w' h => ⟨h.1, _, h.2⟩)
theorem ex_26 {c : Cx} {n : Nat} {st : St} {w : World} (h : c.P n st w) (ok : st.r.Ok) (h0 : 0 ≤ st.sp.f1) (h9 : st.sp.f1 < 40000) (k0 : 0 ≤ st.k) (hn : n ≤ 60) : Calls Tryz.prog 144 #[.pointer (some ⟨c.g, 0, none⟩)] w fun e w' => e = .returned (.tuple #[]) ∧ ∃ m, c.P m (exec st c.v 26) w' := by
 exact (rxor_i h ok k0 (by omega)).mono (fun e w' h => ⟨h.1, _, h.2⟩)
theorem ex_28 {c : Cx} {n : Nat} {st : St} {w : World} (h : c.P n st w) (ok : st.r.Ok) (h0 : 0 ≤ st.sp.f1) (h9 : st.sp.f1 < 40000) (k0 : 0 ≤ st.k) (hn : n ≤ 60) : Calls Tryz.prog 137 #[.pointer (some ⟨c.p, 0, none⟩)] w fun e w' => e = .returned (.tuple #[]) ∧ ∃ m, c.P m (exec st c.v 28) w' := by
 exact (dv_c h ok h0 (by omega)).mono (fun e w' h => ⟨h.1, _, h.2⟩)
theorem ex_29 {c : Cx} {n : Nat} {st : St} {w : World} (h : c.P n st w) (ok : st.r.Ok) (h0 : 0 ≤ st.sp.f1) (h9 : st.sp.f1 < 40000) (k0 : 0 ≤ st.k) (hn : n ≤ 60) : Calls Tryz.prog 148 #[.pointer (some ⟨c.g, 0, none⟩)] w fun e w' => e = .returned (.tuple #[]) ∧ ∃ m, c.P m (exec st c.v 29) w' := by
 exact (bzf_c h ok).mono (fun e w' h => ⟨h.1, _, h.2⟩)
theorem ex_30 {c : Cx} {n : Nat} {st : St} {w : World} (h : c.P n st w) (ok : st.r.Ok) (h0 : 0 ≤ st.sp.f1) (h9 : st.sp.f1 < 40000) (k0 : 0 ≤ st.k) (hn : n ≤ 60) : Calls Tryz.prog 134 #[.pointer (some ⟨c.g, 0, none⟩)] w fun e w' => e = .returned (.tuple #[]) ∧ ∃ m, c.P m (exec st c.v 30) w' := by
 exact (msu_c h ok h0 (by omega)).mono (fun e w' h => ⟨h.1, _, h.2⟩)
theorem ex_31 {c : Cx} {n : Nat} {st : St} {w : World} (h : c.P n st w) (ok : st.r.Ok) (h0 : 0 ≤ st.sp.f1) (h9 : st.sp.f1 < 40000) (k0 : 0 ≤ st.k) (hn : n ≤ 60) : Calls Tryz.prog 114 #[.pointer (some ⟨c.g, 0, none⟩)] w fun e w' => e = .returned (.tuple #[]) ∧ ∃ m, c.P m (exec st c.v 31) w' := by
 exact (qxch_c h ok h0 (by omega)).mono (fun e w' h => ⟨h.1, _, h.2⟩)
theorem ex_32 {c : Cx} {n : Nat} {st : St} {w : World} (h : c.P n st w) (ok : st.r.Ok) (h0 : 0 ≤ st.sp.f1) (h9 : st.sp.f1 < 40000) (k0 : 0 ≤ st.k) (hn : n ≤ 60) : Calls Tryz.prog 151 #[.pointer (some ⟨c.p, 0, none⟩)] w fun e w' => e = .returned (.tuple #[]) ∧ ∃ m, c.P m (exec st c.v 32) w' := by
 exact (aug_c h ok h0 (by omega)).mono (fun e w' h => ⟨h.1, _, h.2⟩)
theorem ex_33 {c : Cx} {n : Nat} {st : St} {w : World} (h : c.P n st w) (ok : st.r.Ok) (h0 : 0 ≤ st.sp.f1) (h9 : st.sp.f1 < 40000) (k0 : 0 ≤ st.k) (hn : n ≤ 60) : Calls Tryz.prog 152 #[.pointer (some ⟨c.p, 0, none⟩)] w fun e w' => e = .returned (.tuple #[]) ∧ ∃ m, c.P m (exec st c.v 33) w' := by
 exact (dim_i h ok h0 (by omega)).mono (fun e w' h => ⟨h.1, _, h.2⟩)
theorem ex_34 {c : Cx} {n : Nat} {st : St} {w : World} (h : c.P n st w) (ok : st.r.Ok) (h0 : 0 ≤ st.sp.f1) (h9 : st.sp.f1 < 40000) (k0 : 0 ≤ st.k) (hn : n ≤ 60) : Calls Tryz.prog 153 #[.pointer (some ⟨c.g, 0, none⟩)] w fun e w' => e = .returned (.tuple #[]) ∧ ∃ m, c.P m (exec st c.v 34) w' := by
 exact (dca_c h ok h0 h9 (by omega)).mono (fun e w' h => ⟨h.1, _, h.2⟩)
theorem ex_35 {c : Cx} {n : Nat} {st : St} {w : World} (h : c.P n st w) (ok : st.r.Ok) (h0 : 0 ≤ st.sp.f1) (h9 : st.sp.f1 < 40000) (k0 : 0 ≤ st.k) (hn : n ≤ 60) : Calls Tryz.prog 155 #[.pointer (some ⟨c.g, 0, none⟩)] w fun e w' => e = .returned (.tuple #[]) ∧ ∃ m, c.P m (exec st c.v 35) w' := by
 exact (dcs_c h ok h0 h9 (by omega)).mono (fun e w' h => ⟨h.1, _, h.2⟩)
theorem ex_36 {c : Cx} {n : Nat} {st : St} {w : World} (h : c.P n st w) (ok : st.r.Ok) (h0 : 0 ≤ st.sp.f1) (h9 : st.sp.f1 < 40000) (k0 : 0 ≤ st.k) (hn : n ≤ 60) : Calls Tryz.prog 123 #[.pointer (some ⟨c.g, 0, none⟩)] w fun e w' => e = .returned (.tuple #[]) ∧ ∃ m, c.P m (exec st c.v 36) w' := by
 exact (xindex_c h ok h0 (by omega)).mono (fun e w' h => ⟨h.1, _, h.2⟩)
theorem ex_37 {c : Cx} {n : Nat} {st : St} {w : World} (h : c.P n st w) (ok : st.r.Ok) (h0 : 0 ≤ st.sp.f1) (h9 : st.sp.f1 < 40000) (k0 : 0 ≤ st.k) (hn : n ≤ 60) : Calls Tryz.prog 130 #[.pointer (some ⟨c.g, 0, none⟩)] w fun e w' => e = .returned (.tuple #[]) ∧ ∃ m, c.P m (exec st c.v 37) w' := by
 exact (su_c h ok h0 (by omega)).mono (fun e w' h => ⟨h.1, _, h.2⟩)
theorem ex_38 {c : Cx} {n : Nat} {st : St} {w : World} (h : c.P n st w) (ok : st.r.Ok) (h0 : 0 ≤ st.sp.f1) (h9 : st.sp.f1 < 40000) (k0 : 0 ≤ st.k) (hn : n ≤ 60) : Calls Tryz.prog 150 #[.pointer (some ⟨c.g, 0, none⟩)] w fun e w' => e = .returned (.tuple #[]) ∧ ∃ m, c.P m (exec st c.v 38) w' := by
 exact (bzmf_c h ok).mono (fun e w' h => ⟨h.1, _, h.2⟩)
theorem ex_39 {c : Cx} {n : Nat} {st : St} {w : World} (h : c.P n st w) (ok : st.r.Ok) (h0 : 0 ≤ st.sp.f1) (h9 : st.sp.f1 < 40000) (k0 : 0 ≤ st.k) (hn : n ≤ 60) : Calls Tryz.prog 136 #[.pointer (some ⟨c.p, 0, none⟩)] w fun e w' => e = .returned (.tuple #[]) ∧ ∃ m, c.P m (exec st c.v 39) w' := by
 exact (mp_c h ok h0 (by omega)).mono (fun e w' h => ⟨h.1, _, h.2⟩)
theorem exec_c {c : Cx} {n : Nat} {st : St} {w : World} (i : Int) (i0 : 1 ≤ i) (i1 : i ≤ 39) (ni : i ≠ 27) (h : c.P n st w) (ok : st.r.Ok) (h0 : 0 ≤ st.sp.f1) (h9 : st.sp.f1 < 40000) (k0 : 0 ≤ st.k) (hn : n ≤ 60) : Calls Tryz.prog (fnum i) (fargs i c.p c.g) w fun e w' => e = .returned (.tuple #[]) ∧ ∃ m, c.P m (exec st c.v i) w' := by
 rcases Isa.codes i0 i1 with rfl | rfl | rfl | rfl | rfl | rfl | rfl | rfl | rfl | rfl | rfl | rfl | rfl | rfl | rfl | rfl | rfl | rfl | rfl | rfl | rfl | rfl | rfl | rfl | rfl | rfl | rfl | rfl | rfl | rfl | rfl | rfl | rfl | rfl | rfl | rfl | rfl | rfl | rfl
 · exact ex_1 h ok h0 h9 k0 hn
 · exact ex_2 h ok h0 h9 k0 hn
 · exact ex_3 h ok h0 h9 k0 hn
 · exact ex_4 h ok h0 h9 k0 hn
 · exact ex_5 h ok h0 h9 k0 hn
 · exact ex_6 h ok h0 h9 k0 hn
 · exact ex_7 h ok h0 h9 k0 hn
 · exact ex_8 h ok h0 h9 k0 hn
 · exact ex_9 h ok h0 h9 k0 hn
 · exact ex_10 h ok h0 h9 k0 hn
 · exact ex_11 h ok h0 h9 k0 hn
 · exact ex_12 h ok h0 h9 k0 hn
 · exact ex_13 h ok h0 h9 k0 hn
 · exact ex_14 h ok h0 h9 k0 hn
 · exact ex_15 h ok h0 h9 k0 hn
 · exact ex_16 h ok h0 h9 k0 hn
 · exact ex_17 h ok h0 h9 k0 hn
 · exact ex_18 h ok h0 h9 k0 hn
 · exact ex_19 h ok h0 h9 k0 hn
 · exact ex_20 h ok h0 h9 k0 hn
 · exact ex_21 h ok h0 h9 k0 hn
 · exact ex_22 h ok h0 h9 k0 hn
 · exact ex_23 h ok h0 h9 k0 hn
 · exact ex_24 h ok h0 h9 k0 hn
 · exact ex_25 h ok h0 h9 k0 hn
 · exact ex_26 h ok h0 h9 k0 hn
 · exact absurd rfl ni
 · exact ex_28 h ok h0 h9 k0 hn
 · exact ex_29 h ok h0 h9 k0 hn
 · exact ex_30 h ok h0 h9 k0 hn
 · exact ex_31 h ok h0 h9 k0 hn
 · exact ex_32 h ok h0 h9 k0 hn
 · exact ex_33 h ok h0 h9 k0 hn
 · exact ex_34 h ok h0 h9 k0 hn
 · exact ex_35 h ok h0 h9 k0 hn
 · exact ex_36 h ok h0 h9 k0 hn
 · exact ex_37 h ok h0 h9 k0 hn
 · exact ex_38 h ok h0 h9 k0 hn
 · exact ex_39 h ok h0 h9 k0 hn
theorem exec_ok {i : Int} (i0 : 1 ≤ i) (i1 : i ≤ 39) (ni : i ≠ 27) : ExecOk i := fun _ _ _ _ h ok h0 h9 k0 hn => exec_c i i0 i1 ni h ok h0 h9 k0 hn
theorem ok_at {i j : Int} (h : i = j) (o : ExecOk j) : i ≠ 27 → ExecOk i := fun _ => h ▸ o
theorem ok_5 : ExecOk 5 := fun _ _ _ _ h ok h0 h9 k0 hn => ex_5 h ok h0 h9 k0 hn
theorem ok_11 : ExecOk 11 := fun _ _ _ _ h ok h0 h9 k0 hn => ex_11 h ok h0 h9 k0 hn
end Go.Proofs.YtgbmaajfbbilhaaGreat.Cpu
end
section
namespace Go.Proofs.YtgbmaajfbbilhaaGreat.Cpu
open Go.RowKit Go.Proofs.YtgbmaajfbbilhaaGreat.PAll Go.Proofs.YtgbmaajfbbilhaaGreat.One Go.Proofs.YtgbmaajfbbilhaaGreat.Mem Go.Proofs.YtgbmaajfbbilhaaGreat.Row Go.Proofs.YtgbmaajfbbilhaaGreatW.PrintWords Go.Proofs.YtgbmaajfbbilhaaGreatW.PrintLast Go.Proofs.YtgbmaajfbbilhaaGreatW.PrintMore Go.Proofs.YtgbmaajfbbilhaaGreat.Plain
open Go.Maps Go.WideMaps
theorem run_lookup_ {P : Program} {o : Oper} {a : Act} {W : World} {t : TypeId} {m x : Operand} (ho : o.op = .lookup t m x true) {b : Nat} {key u : Value} (hm : a.eval m = .map (some b)) (hx : a.eval x = key) (hrun : (Instr.lookup t (.map (some b)) key true).run P W = .ok u W) : (execOp a.eval o).run P W = .ok (.value u) W := by
 unfold execOp
 simp [ho, hm, hx, hrun, Result.andThen]
theorem look_tab {W : World} {b p g : Nat} (h : W.ownsMap Tryz.prog 9 heldR b 38 (Dt p g)) (i : Int) (i0 : 1 ≤ i) (i1 : i ≤ 39) : ∃ u, (Instr.lookup 128 (.map (some b)) (.string (entOf i).1) true).run Tryz.prog W = .ok (.tuple #[u, .bool (decide (i ≠ 27))]) W ∧ (i ≠ 27 → u = fval i p g) := by
 obtain ⟨u, ps, hr, hu⟩ := h.look_ok law9 Tryz.underlying128 (zeroF W) (zd := .held .nilFunc) (zp := []) rfl (key9 (entOf i).1 (ent_size i i0 i1))
 refine ⟨u, ?_, fun hn => ?_⟩
 · rw [Dt_has p g i i0 i1] at hr; exact hr
 · rw [Dt_at p g i i0 i1 hn] at hu
   unfold heldR at hu
   injection hu with hu
   injection hu with h1 h2
   injection h1
theorem call_fval {ops : Array Oper} {rest : List Oper} {o : Oper} {a : Act} {W : World} {Q : Exit → Act → World → Prop} (hgd : o.guard = none) (x : Operand) (ho : o.op = .call { callee := .value x, args := #[], argTypes := #[] }) (i : Int) (p g : Nat) (i0 : 1 ≤ i) (i1 : i ≤ 39) (ni : i ≠ 27) (hx : a.eval x = fval i p g)
 (h : Calls Tryz.prog (fnum i) (fargs i p g) W fun e w' => ∃ u, e = .returned u ∧ wpList Tryz.prog ops Q rest (a.put o.dst u) w') : wpList Tryz.prog ops Q (o :: rest) a W := by
 refine wpList_plain hgd fun K hK => ?_
 have he := enter_c i i0 i1 ni (fargs i p g) W
 have e : (execOp a.eval o).run Tryz.prog W = .ok (.enter (fnum i) (fargs i p g)) W := by
  unfold execOp
  unfold fval at hx
  unfold fargs at he ⊢
  cases hm : meth i
  · rw [hm] at hx he
    simp only [Bool.false_eq_true, if_false] at hx he ⊢
    simp [ho, resolve, Deferred.ofValue, invoke, hx, he]
  · rw [hm] at hx he
    simp only [if_true] at hx he ⊢
    simp [ho, resolve, Deferred.ofValue, invoke, hx, he]
 unfold Oper.wp
 rw [e]
 refine h.mono ?_
 rintro e w' ⟨u, rfl, hw⟩
 exact hK _ _ hw
abbrev aZD : Array Value := #[.slice none 0 0, .slice none 0 0, .slice none 0 0, .int .i64 0, .int .u8 0]
abbrev aPC (r : Rg) (v : Vw) (Al : Option Addr) (cl : Nat) (A0 A1 A2 : Option Addr) (c0 c1 c2 : Nat) : Array Value := #[.int .u16 r.a, .int .u16 r.l, .int .u16 r.q, .int .i64 ((r.z + 1) % 4096), .int .i64 r.eb, .int .i64 r.fb, .int .i64 r.su, .bool false, .int .u16 0, .bool false, .int .u16 0, .bool r.inh, .bool r.srv, .slice none 0 0, .slice none 0 0, .slice Al (fLst r v).length cl, .int .i64 (Isa.opN (fC r v)).2.2.2.2.2.1, .int .u8 (fC r v), .slice A0 v.e.length c0, .slice A1 v.f.length c1, .slice A2 v.c.length c2, .int .i64 (fK r v), .int .u8 0, .int .i64 0]
abbrev aPS (r : Rg) (v : Vw) (Al : Option Addr) (cl : Nat) (A0 A1 A2 : Option Addr) (c0 c1 c2 : Nat) : Array Value := #[.int .u16 r.a, .int .u16 r.l, .int .u16 r.q, .int .i64 ((r.z + 1) % 4096), .int .i64 r.eb, .int .i64 r.fb, .int .i64 r.su, .bool false, .int .u16 0, .bool false, .int .u16 0, .bool r.inh, .bool r.srv, .slice none 0 0, .slice none 0 0, .slice Al (fLst r v).length cl, .int .i64 (Isa.opN (fC r v)).2.2.2.2.2.1, .int .u8 (fC r v), .slice A0 v.e.length c0, .slice A1 v.f.length c1, .slice A2 v.c.length c2, .int .i64 (fK r v), .int .u8 (locN (nxR r) (fK r v)).1.f0, .int .i64 (locN (nxR r) (fK r v)).1.f1]
abbrev aSF (sf : St) : Array Value := #[.int .u16 sf.r.a, .int .u16 sf.r.l, .int .u16 sf.r.q, .int .i64 sf.r.z, .int .i64 sf.r.eb, .int .i64 sf.r.fb, .int .i64 sf.r.su, .bool sf.r.ext, .int .u16 sf.r.idx, .bool sf.r.held, .int .u16 sf.r.b, .bool sf.r.inh, .bool sf.r.srv]
section
variable {r : Rg} {A0 A1 A2 : Option Addr} {c0 c1 c2 : Nat} {v : Vw}
theorem step_AB (w : World) (hv : VwAt w A0 A1 A2 v) (hc0 : v.e.length ≤ c0) (hc1 : v.f.length ≤ c1) (hc2 : v.c.length ≤ c2) (hk : r.Kinds) (he : sErr r v = 0) (hx : fC r v ≠ 27 → ExecOk (fC r v)) (hs : spotted (fC r v) = true) (n27 : fC r v ≠ 27) (hk1 : ((Isa.opN (fC r v)).2.2.2.1 == 1) = true ∨ (((Isa.opN (fC r v)).2.2.2.1 == 1) = false ∧ ((Isa.opN (fC r v)).2.2.2.1 == 3) = true ∧ ((Isa.opN (fC r v)).2.1.toList == ([84, 67] : List UInt8)) = false)) : Calls Tryz.prog 14 #[.agg (aRG r), .agg (aVB v A0 A1 A2 c0 c1 c2)] w fun e w' => ∃ vC vO vR : Value, e = .returned (.tuple #[.agg #[.int .u16 (stepN r v).r.a, .int .u16 (stepN r v).r.l, .int .u16 (stepN r v).r.q, .int .i64 (stepN r v).r.z, .int .i64 (stepN r v).r.eb, .int .i64 (stepN r v).r.fb, .int .i64 (stepN r v).r.su, .bool (stepN r v).r.ext, .int .u16 (stepN r v).r.idx, .bool (stepN r v).r.held, .int .u16 (stepN r v).r.b, .bool (stepN r v).r.inh, .bool (stepN r v).r.srv], .agg #[vC, vO, vR, .int .i64 (stepN r v).cyc, .int .u8 (stepN r v).op], .int .i64 0]) ∧ Kd.R k47 47 w' w.heap.size (fun k => some k ≠ vO.ownBlock) vC (stepN r v).cells ∧ Kd.R k47 47 w' w.heap.size (fun k => some k ≠ vC.ownBlock) vO (stepN r v).outs ∧ Kd.R k103 103 w' w.heap.size (fun _ => True) vR (stepN r v).reads ∧ Below w.heap.size w w' := by
 have EX := Aside0.mk hx
 clear hx
 have he0 := sErr_f he
 have hm := fErr_may he0
 have ok := nx_ok (Rg.Ok.of_may hk hm)
 have y0 : (0 : Int) = 0 := rfl
 clear y0
 have FE := Aside0.mk he0
 have CB := Aside0.mk (fC_b r v)
 have KB := Aside0.mk (fK_b r v)
 have OK := Aside0.mk ok
 have LC : Aside0 (∀ w, Calls Tryz.prog 53 #[.agg (aNX r), .int .i64 (fK r v)] w fun e w' => e = .returned (.tuple #[.agg #[.int .u8 (locN (nxR r) (fK r v)).1.f0, .int .i64 (locN (nxR r) (fK r v)).1.f1], .int .i64 (locN (nxR r) (fK r v)).2]) ∧ Below w.heap.size w w') := ⟨fun w => locate_c (nxR r) (fK r v) w⟩
 have le : (locN (nxR r) (fK r v)).2 = 0 := by unfold sErr at he; rw [if_neg (by omega), if_pos hs] at he; exact he
 have y9 : ((locN (nxR r) (fK r v)).2 != 0) = false := by simpa using le
 have S0 : Aside0 (0 ≤ (st1 r v).sp.f1 ∧ (st1 r v).sp.f1 < 40000) := ⟨by unfold st1; rw [if_pos hs]; exact loc_b2 ok (fK r v) le⟩
 have SPO := Aside0.mk hs
 have N27 := Aside0.mk n27
 have C27 : Aside0 (decide (fC r v ≠ 27) = true) := ⟨decide_eq_true n27⟩
 clear le hs n27
 have HB := Aside0.mk (Below.refl w.heap.size w)
 have HV := Aside0.mk hv
 have HK := Aside0.mk hk
 clear hv hk he hm ok he0
 have hu0 := Tryz.underlying26
 have hu1 := Tryz.underlying29
 have hu2 := Tryz.underlying119
 have hu3 := Tryz.underlying34
 have hu4 := Tryz.underlying124
 have hu5 := Tryz.underlying103
 rcases hk1 with yk1 | ⟨yk1, yk3, yn⟩
 all_goals
  go_enter Tryz.func14, Tryz.ntmps14
  go_upto_region 1 with (first | (refine boxq_ 2 (aRG r) 26 ?_; intro g2 hg wb K hb; (try have NE2_2 := nkb_ K2 hg); (try have NE3_2 := nkb_ K3 hg); (try have NE4_2 := nkb_ K4 hg); (try have NE5_2 := nkb_ K5 hg); have L2 := lkb_ HB hg; (try replace K2 := kbb_ K2 hb); (try replace K3 := kbb_ K3 hb); (try replace K4 := kbb_ K4 hb); (try replace K5 := kbb_ K5 hb); replace HB := hbs_ HB hb; have K2 := Aside0.mk K; clear K hb hg) | (refine boxq_ 3 (aVB v A0 A1 A2 c0 c1 c2) 29 ?_; intro g3 hg wb K hb; (try have NE2_3 := nkb_ K2 hg); (try have NE3_3 := nkb_ K3 hg); (try have NE4_3 := nkb_ K4 hg); (try have NE5_3 := nkb_ K5 hg); have L3 := lkb_ HB hg; (try replace K2 := kbb_ K2 hb); (try replace K3 := kbb_ K3 hb); (try replace K4 := kbb_ K4 hb); (try replace K5 := kbb_ K5 hb); replace HB := hbs_ HB hb; have K3 := Aside0.mk K; clear K hb hg) | (refine boxq_ 4 (aZR) 26 ?_; intro g4 hg wb K hb; (try have NE2_4 := nkb_ K2 hg); (try have NE3_4 := nkb_ K3 hg); (try have NE4_4 := nkb_ K4 hg); (try have NE5_4 := nkb_ K5 hg); have L4 := lkb_ HB hg; (try replace K2 := kbb_ K2 hb); (try replace K3 := kbb_ K3 hb); (try replace K4 := kbb_ K4 hb); (try replace K5 := kbb_ K5 hb); replace HB := hbs_ HB hb; have K4 := Aside0.mk K; clear K hb hg) | (refine boxq_ 5 (aZD) 34 ?_; intro g5 hg w1 K hb; (try have NE2_5 := nkb_ K2 hg); (try have NE3_5 := nkb_ K3 hg); (try have NE4_5 := nkb_ K4 hg); (try have NE5_5 := nkb_ K5 hg); have L5 := lkb_ HB hg; (try replace K2 := kbb_ K2 hb); (try replace K3 := kbb_ K3 hb); (try replace K4 := kbb_ K4 hb); (try replace K5 := kbb_ K5 hb); replace HB := hbs_ HB hb; have K5 := Aside0.mk K; clear K hb hg))
  have HW := HB
  have M4 := K4
  have M5 := K5
  have M4b := Aside0.mk (blk_lt K4.out)
  have M5b := Aside0.mk (blk_lt K5.out)
  clear HB
  have HB := Aside0.mk (Below.refl w1.heap.size w1)
  go_upto_region 5 with (first | (go_at_call 52; (with_reducible refine at_args #[.agg (aRG r), .agg (aVB v A0 A1 A2 c0 c1 c2)] ?_); (with_reducible refine (fetch_c (r := r) (v := v) _ (HV.out.below HW.out) hc0 hc1 hc2 HK.out FE.out).mono ?_); rintro e wc ⟨vl, rfl, hL, hb⟩; obtain ⟨Al, cl, rfl⟩ := Kd.R_slice hL; have HL := Aside0.mk hL; clear hL; (try replace K3 := kbb_ K3 hb); (try replace K7 := kbb_ K7 hb); (try replace K9 := kbb_ K9 hb); (try replace K39 := kbb_ K39 hb); replace HB := hbs_ HB hb; clear hb) | (refine boxq_ 7 (aZO) 119 ?_; intro g7 hg wb K hb; (try have NE3_7 := nkb_ K3 hg); (try have NE7_7 := nkb_ K7 hg); (try have NE9_7 := nkb_ K9 hg); (try have NE39_7 := nkb_ K39 hg); have L7 := Aside0.mk (show w1.heap.size ≤ g7 from by rw [hg]; exact HB.out.size); (try replace HL := Aside0.mk (Kd.R_below HL.out hb)); (try replace K3 := kbb_ K3 hb); (try replace K7 := kbb_ K7 hb); (try replace K9 := kbb_ K9 hb); (try replace K39 := kbb_ K39 hb); replace HB := hbs_ HB hb; have K7 := Aside0.mk K; clear K hb hg) | (refine boxq_ 9 (aZR) 26 ?_; intro g9 hg wb K hb; (try have NE3_9 := nkb_ K3 hg); (try have NE7_9 := nkb_ K7 hg); (try have NE9_9 := nkb_ K9 hg); (try have NE39_9 := nkb_ K39 hg); have L9 := Aside0.mk (show w1.heap.size ≤ g9 from by rw [hg]; exact HB.out.size); (try replace HL := Aside0.mk (Kd.R_below HL.out hb)); (try replace K3 := kbb_ K3 hb); (try replace K7 := kbb_ K7 hb); (try replace K9 := kbb_ K9 hb); (try replace K39 := kbb_ K39 hb); replace HB := hbs_ HB hb; have K9 := Aside0.mk K; clear K hb hg) | (refine strq_ 119 7 19 g7 (aOC r v) K7 ?_; intro ws hk hfar hbel hkp; (try replace HL := Aside0.mk (R_kb HL.out K7.out (fun q hq => by rw [ekS q hq]; decide) hkp)); replace HB := Aside0.mk (hbel _ _ HB.out L7.out); (try replace K3 := hfr_ hfar K3 (by first | exact NE3_7.out | exact NE7_3.out.symm)); (try replace K7 := hfr_ hfar K7 (by first | exact NE7_7.out | exact NE7_7.out.symm)); (try replace K9 := hfr_ hfar K9 (by first | exact NE9_7.out | exact NE7_9.out.symm)); (try replace K39 := hfr_ hfar K39 (by first | exact NE39_7.out | exact NE7_39.out.symm)); replace K7 := Aside0.mk hk; clear hk hfar hbel hkp) | (refine strq_ 26 9 21 g9 (aNX r) K9 ?_; intro ws hk hfar hbel hkp; (try replace HL := Aside0.mk (R_kb HL.out K9.out (fun q hq => by rw [ekS q hq]; decide) hkp)); replace HB := Aside0.mk (hbel _ _ HB.out L9.out); (try replace K3 := hfr_ hfar K3 (by first | exact NE3_9.out | exact NE9_3.out.symm)); (try replace K7 := hfr_ hfar K7 (by first | exact NE7_9.out | exact NE9_7.out.symm)); (try replace K9 := hfr_ hfar K9 (by first | exact NE9_9.out | exact NE9_9.out.symm)); (try replace K39 := hfr_ hfar K39 (by first | exact NE39_9.out | exact NE9_39.out.symm)); replace K9 := Aside0.mk hk; clear hk hfar hbel hkp) | ((with_reducible refine gate_dst (N := 35) rfl ?_); refine Kd.event_run (v := .agg #[.slice none 0 0, .slice none 0 0, .slice Al (fLst r v).length cl, .int .i64 (Isa.opN (fC r v)).2.2.2.2.2.1, .int .u8 (fC r v)]) (w1 := _) rfl ?hr2 ?_; (case hr2 => kernel_rfl)) | ((with_reducible refine gate_dst (N := 38) rfl ?_); refine Kd.event_run (v := .agg (aPC r v Al cl A0 A1 A2 c0 c1 c2)) (w1 := _) rfl ?hr2 ?_; (case hr2 => kernel_rfl)) | (refine boxq_ 39 (aPC r v Al cl A0 A1 A2 c0 c1 c2) 124 ?_; intro g39 hg wb K hb; (try have NE3_39 := nkb_ K3 hg); (try have NE7_39 := nkb_ K7 hg); (try have NE9_39 := nkb_ K9 hg); (try have NE39_39 := nkb_ K39 hg); have L39 := Aside0.mk (show w1.heap.size ≤ g39 from by rw [hg]; exact HB.out.size); (try replace HL := Aside0.mk (Kd.R_below HL.out hb)); (try replace K3 := kbb_ K3 hb); (try replace K7 := kbb_ K7 hb); (try replace K9 := kbb_ K9 hb); (try replace K39 := kbb_ K39 hb); replace HB := hbs_ HB hb; have K39 := Aside0.mk K; clear K hb hg) | (refine load_row_ rfl 26 _ rfl g2 rfl #[.int .u16 r.a, .int .u16 r.l, .int .u16 r.q, .int .i64 r.z, .int .i64 r.eb, .int .i64 r.fb, .int .i64 r.su, .bool r.ext, .int .u16 r.idx, .bool r.held, .int .u16 r.b, .bool r.inh, .bool r.srv] _ K2.out _ Tryz.underlying26 rfl (by kernel_rfl) ?_) | (refine load_row_ rfl 29 _ rfl g3 rfl #[.slice A0 v.e.length c0, .slice A1 v.f.length c1, .slice A2 v.c.length c2] _ K3.out _ Tryz.underlying29 rfl (by kernel_rfl) ?_) | (refine load_row_ rfl 26 _ rfl g9 rfl #[.int .u16 r.a, .int .u16 r.l, .int .u16 r.q, .int .i64 ((r.z + 1) % 4096), .int .i64 r.eb, .int .i64 r.fb, .int .i64 r.su, .bool false, .int .u16 0, .bool false, .int .u16 0, .bool r.inh, .bool r.srv] _ K9.out _ Tryz.underlying26 rfl (by kernel_rfl) ?_) | (refine load_cell_ rfl 3 _ rfl g7 5 rfl (.int .i64 (Isa.opN (fC r v)).2.2.2.2.2.1) ((blk_cell K7.out 5).trans rfl) (fun _ => by kernel_rfl) ?_) | (refine load_cell_ rfl 32 _ rfl g7 0 rfl (.int .u8 (fC r v)) ((blk_cell K7.out 0).trans rfl) (fun _ => by kernel_rfl) ?_) | (refine load_cell_ rfl 117 _ rfl g7 3 rfl (.int .u8 (Isa.opN (fC r v)).2.2.2.1) ((blk_cell K7.out 3).trans rfl) (fun _ => by kernel_rfl) ?_) | (refine load_cell_ rfl 9 _ rfl g7 1 rfl (.string (Isa.opN (fC r v)).2.1) ((blk_cell K7.out 1).trans rfl) (fun _ => by kernel_rfl) ?_))
  have x7_1 : wb.cell? ⟨g7, 1, none⟩ = some (.string (Isa.opN (fC r v)).2.1) := (blk_cell K7.out 1).trans rfl
  have x7_3 : wb.cell? ⟨g7, 3, none⟩ = some (.int .u8 (Isa.opN (fC r v)).2.2.2.1) := (blk_cell K7.out 3).trans rfl
  go_upto_region 6 with (first | fail)
  clear x7_1 x7_3
  go_upto_region 7 with (first | (refine load_row_ rfl 26 _ rfl g9 rfl #[.int .u16 r.a, .int .u16 r.l, .int .u16 r.q, .int .i64 ((r.z + 1) % 4096), .int .i64 r.eb, .int .i64 r.fb, .int .i64 r.su, .bool false, .int .u16 0, .bool false, .int .u16 0, .bool r.inh, .bool r.srv] _ K9.out _ Tryz.underlying26 rfl (by kernel_rfl) ?_) | (go_at_call 53; (with_reducible refine at_args #[.agg (aNX r), .int .i64 (fK r v)] ?_); (with_reducible refine (LC.out _).mono ?_); rintro e wc ⟨rfl, hb⟩; (try replace HL := Aside0.mk (Kd.R_below HL.out hb)); (try replace K3 := kbb_ K3 hb); (try replace K7 := kbb_ K7 hb); (try replace K9 := kbb_ K9 hb); (try replace K39 := kbb_ K39 hb); replace HB := hbs_ HB hb; clear hb; have x22 : wc.cell? ⟨g39, 22, none⟩ = some (.int .u8 0) := (blk_cell K39.out 22).trans rfl; have x23 : wc.cell? ⟨g39, 23, none⟩ = some (.int .i64 0) := (blk_cell K39.out 23).trans rfl; have f39 := blk_frozen K39.out))
  have n7 := Aside0.mk (show (World.heap ((wc.setCell ⟨g39, 22, none⟩ (.int .u8 (locN (nxR r) (fK r v)).1.f0)).setCell ⟨g39, 23, none⟩ (.int .i64 (locN (nxR r) (fK r v)).1.f1)))[g7]? = _ from blk_far (blk_far K7.out NE7_39.out _) NE7_39.out _)
  have n39 := Aside0.mk (show (World.heap ((wc.setCell ⟨g39, 22, none⟩ (.int .u8 (locN (nxR r) (fK r v)).1.f0)).setCell ⟨g39, 23, none⟩ (.int .i64 (locN (nxR r) (fK r v)).1.f1)))[g39]? = some (.cells (aPS r v Al cl A0 A1 A2 c0 c1 c2) 124 (0, 0)) from blk_put (blk_put K39.out 22 _ rfl) 23 _ rfl)
  have nL := Aside0.mk (show Kd.R _ _ ((wc.setCell ⟨g39, 22, none⟩ (.int .u8 (locN (nxR r) (fK r v)).1.f0)).setCell ⟨g39, 23, none⟩ (.int .i64 (locN (nxR r) (fK r v)).1.f1)) _ _ _ _ from Kd.R_set (Kd.R_set HL.out K39.out (fun q hq => by rw [ekS q hq]; decide) 22 _) (blk_put K39.out 22 _ rfl) (fun q hq => by rw [ekS q hq]; decide) 23 _)
  have nB := Aside0.mk (show Below _ _ ((wc.setCell ⟨g39, 22, none⟩ (.int .u8 (locN (nxR r) (fK r v)).1.f0)).setCell ⟨g39, 23, none⟩ (.int .i64 (locN (nxR r) (fK r v)).1.f1)) from below_set (below_set HB.out L39.out) L39.out)
  clear HB HL K7 K39 K3 K9 x22 x23 f39
  have HB := nB
  have HL := nL
  have K7 := n7
  have K39 := n39
  clear nB nL n7 n39
  generalize ((wc.setCell ⟨g39, 22, none⟩ (.int .u8 (locN (nxR r) (fK r v)).1.f0)).setCell ⟨g39, 23, none⟩ (.int .i64 (locN (nxR r) (fK r v)).1.f1)) = w9 at HB HL K7 K39 ⊢
  go_upto_region 9 with (first | fail)
  refine start_ (n := 10) (S := fun w' => w'.cell? ⟨g7, 1, none⟩ = some (.string (Isa.opN (fC r v)).2.1)) (ds := []) #[false, false, false, false, false, false, false, false, false, false] (by kernel_rfl) rfl rfl ((blk_cell K7.out 1).trans rfl) (fun hHeld => ?_)
  replace K7 := Aside0.mk (blk_drew K7.out)
  replace K39 := Aside0.mk (blk_drew K39.out)
  (try replace HL := Aside0.mk (Kd.R_drew HL.out))
  replace HB := Aside0.mk (below_drew1 HB.out)
  generalize w9.drew = wd at K7 K39 HB hHeld HL ⊢
  refine pvq_ 0 (some 68) rfl rfl ?_
  refine pvq_ 2 (some 70) rfl rfl ?_
  refine tkq_ 3 (some 71) rfl rfl hHeld ?_
  refine onq_ 1 (some 69) rfl rfl (fun K hK => ?_)
  refine goq_ Tryz.func54 #[.pointer (some ⟨g39, 0, none⟩)] ?_
  with_reducible refine (table_c g39 _).mono ?_
  rintro e wt ⟨gx, bm, rfl, hM, lx, hX, hb⟩
  refine ⟨_, rfl, ?_⟩
  have NX := Aside0.mk (show gx ≠ g39 from by have := blk_lt K39.out; omega)
  have KX := Aside0.mk hX
  have HM := Aside0.mk hM
  clear hM hX lx
  replace K7 := kbb_ K7 hb
  replace K39 := kbb_ K39 hb
  (try replace HL := Aside0.mk (Kd.R_below HL.out hb))
  replace HB := hbs_ HB hb
  clear hb
  obtain ⟨u, hlook, hu⟩ := look_tab HM.out (fC r v) CB.out.1 CB.out.2
  replace hlook := Aside0.mk hlook
  replace hu := Aside0.mk hu
  rw [C27.out] at hlook
  refine hK.out _ _ ((blk_cell K7.out 1).trans rfl) (fun hHeld => ?_)
  clear hK K
  refine nmq_ (some 69) ?_
  refine onq_ 4 (some 72) rfl rfl (fun K hK => ?_)
  first | refine value_ (w1 := wt) (v := .tuple #[u, .bool true]) (by rfl) rfl (run_lookup_ rfl rfl rfl hlook.out) ?_ | refine value_ (w1 := wt) (v := .tuple #[u, .bool false]) (by rfl) rfl (run_lookup_ rfl rfl rfl hlook.out) ?_
  refine hK.out _ _ ((blk_cell K7.out 1).trans rfl) (fun hHeld => ?_)
  clear hK K
  refine nmq_ (some 72) ?_
  refine pvq_ 5 (some 67) rfl rfl ?_
  refine pvq_ 6 (some 73) rfl rfl ?_
  refine pvq_ 7 (some 74) rfl rfl ?_
  refine pvq_ 8 (some 13) rfl rfl ?_
  refine pvq_ 9 (some 14) rfl rfl ?_
  refine done_ (by kernel_rfl) ?_
  have E1 : st1 r v = { st0 r v with sp := (locN (nxR r) (fK r v)).1 } := by unfold st1; rw [if_pos SPO.out]
  have SB := st1_sz r v
  have HP : (⟨w1, g39, gx, A0, A1, A2, c0, c1, c2, v⟩ : Cx).P 1 (st1 r v) wt := by
   refine ⟨?_, ⟨HV.out.below HW.out, hc0, hc1, hc2⟩, SB⟩
   rw [E1]
   exact ⟨_, _, _, ⟨HB.out, L39.out, by decide, by decide, K39.out, fun c e => by cases e; exact ⟨KX.out, NX.out⟩, Kd.R_nil _ _ _ _ _, Kd.R_nil _ _ _ _ _, HL.out⟩⟩
  have HC := EX.out N27.out _ _ _ _ HP (by rw [st1_r]; exact OK.out) S0.out.1 S0.out.2 (by rw [st1_k]; exact KB.out.1) (by decide); have HCC := Aside0.mk HC; replace hu := Aside0.mk (hu.out N27.out); clear HC HP SB E1 HL K7 K39 KX NX HB HM hlook; go_upto_region 12 with (first | (refine call_fval rfl (.tmp 76) rfl (fC r v) g39 gx CB.out.1 CB.out.2 N27.out hu.out ?_; (with_reducible refine HCC.out.mono ?_); rintro e wf ⟨rfl, m, hP⟩; refine ⟨_, rfl, ?_⟩; have HPF := Aside0.mk hP; clear hP HCC)); replace HPF : Aside0 (∃ m, Cx.P ⟨w1, g39, gx, A0, A1, A2, c0, c1, c2, v⟩ m (stepN r v) wf) := ⟨m, HPF.out⟩
  obtain ⟨sf, hsf⟩ : ∃ x, stepN r v = x := ⟨_, rfl⟩
  rw [hsf] at HPF
  obtain ⟨m, HPM⟩ := HPF.out
  have HSF := Aside0.mk hsf
  clear hsf
  obtain ⟨vC, vO, vR, RF⟩ := HPM.run
  obtain ⟨AC, cC, rfl⟩ := Kd.R_slice RF.rc
  obtain ⟨AO, cO, rfl⟩ := Kd.R_slice RF.ro
  obtain ⟨AR, cR, rfl⟩ := Kd.R_slice RF.rr
  have HB := Aside0.mk (below_step HW.out RF.hb)
  have K39 := Aside0.mk (show wf.heap[g39]? = some (.cells #[.int .u16 sf.r.a, .int .u16 sf.r.l, .int .u16 sf.r.q, .int .i64 sf.r.z, .int .i64 sf.r.eb, .int .i64 sf.r.fb, .int .i64 sf.r.su, .bool sf.r.ext, .int .u16 sf.r.idx, .bool sf.r.held, .int .u16 sf.r.b, .bool sf.r.inh, .bool sf.r.srv, .slice AC sf.cells.length cC, .slice AO sf.outs.length cO, .slice AR sf.reads.length cR, .int .i64 sf.cyc, .int .u8 sf.op, .slice A0 v.e.length c0, .slice A1 v.f.length c1, .slice A2 v.c.length c2, .int .i64 sf.k, .int .u8 sf.sp.f0, .int .i64 sf.sp.f1] 124 (0, 0)) from RF.blk)
  have K4 := Aside0.mk (blk_below M4.out RF.hb)
  have K5 := Aside0.mk (blk_below M5.out RF.hb)
  have HC := Aside0.mk (Kd.R_lower RF.rc HW.out.size)
  have HO := Aside0.mk (Kd.R_lower RF.ro HW.out.size)
  have HR := Aside0.mk (Kd.R_lower RF.rr HW.out.size)
  have NE4_39 := Aside0.mk (show g4 ≠ g39 from by have := M4b.out; have := L39.out; omega)
  have NE5_39 := Aside0.mk (show g5 ≠ g39 from by have := M5b.out; have := L39.out; omega)
  clear RF HPM HPF M4 M5
  refine start_ (n := 11) (S := fun w' => w'.cell? ⟨g39, 0, none⟩ = some (.int .u16 sf.r.a) ∧ w'.cell? ⟨g39, 1, none⟩ = some (.int .u16 sf.r.l) ∧ w'.cell? ⟨g39, 2, none⟩ = some (.int .u16 sf.r.q) ∧ w'.cell? ⟨g39, 3, none⟩ = some (.int .i64 sf.r.z) ∧ w'.cell? ⟨g39, 4, none⟩ = some (.int .i64 sf.r.eb) ∧ w'.cell? ⟨g39, 5, none⟩ = some (.int .i64 sf.r.fb) ∧ w'.cell? ⟨g39, 6, none⟩ = some (.int .i64 sf.r.su) ∧ w'.cell? ⟨g39, 7, none⟩ = some (.bool sf.r.ext) ∧ w'.cell? ⟨g39, 8, none⟩ = some (.int .u16 sf.r.idx) ∧ w'.cell? ⟨g39, 9, none⟩ = some (.bool sf.r.held) ∧ w'.cell? ⟨g39, 10, none⟩ = some (.int .u16 sf.r.b) ∧ w'.cell? ⟨g39, 11, none⟩ = some (.bool sf.r.inh) ∧ w'.cell? ⟨g39, 12, none⟩ = some (.bool sf.r.srv) ∧ w'.cell? ⟨g39, 13, none⟩ = some (.slice AC sf.cells.length cC) ∧ w'.cell? ⟨g39, 14, none⟩ = some (.slice AO sf.outs.length cO) ∧ w'.cell? ⟨g39, 15, none⟩ = some (.slice AR sf.reads.length cR) ∧ w'.cell? ⟨g39, 16, none⟩ = some (.int .i64 sf.cyc) ∧ w'.cell? ⟨g39, 17, none⟩ = some (.int .u8 sf.op)) (ds := [9]) #[false, false, false, false, false, false, false, false, false, false, false] (by kernel_rfl) rfl rfl ⟨(blk_cell K39.out 0).trans rfl, (blk_cell K39.out 1).trans rfl, (blk_cell K39.out 2).trans rfl, (blk_cell K39.out 3).trans rfl, (blk_cell K39.out 4).trans rfl, (blk_cell K39.out 5).trans rfl, (blk_cell K39.out 6).trans rfl, (blk_cell K39.out 7).trans rfl, (blk_cell K39.out 8).trans rfl, (blk_cell K39.out 9).trans rfl, (blk_cell K39.out 10).trans rfl, (blk_cell K39.out 11).trans rfl, (blk_cell K39.out 12).trans rfl, (blk_cell K39.out 13).trans rfl, (blk_cell K39.out 14).trans rfl, (blk_cell K39.out 15).trans rfl, (blk_cell K39.out 16).trans rfl, (blk_cell K39.out 17).trans rfl⟩ (fun hHeld => ?_)
  replace K39 := Aside0.mk (blk_drew K39.out)
  replace K4 := Aside0.mk (blk_drew K4.out)
  replace K5 := Aside0.mk (blk_drew K5.out)
  (try replace HC := Aside0.mk (Kd.R_drew HC.out))
  (try replace HO := Aside0.mk (Kd.R_drew HO.out))
  (try replace HR := Aside0.mk (Kd.R_drew HR.out))
  replace HB := Aside0.mk (below_drew1 HB.out)
  generalize wf.drew = wd at K39 K4 K5 HB hHeld HC HO HR ⊢
  refine pvq_ 0 (some 78) rfl rfl ?_
  refine pvq_ 1 (some 79) rfl rfl ?_
  refine pvq_ 2 (some 80) rfl rfl ?_
  refine pvq_ 4 (some 82) rfl rfl ?_
  refine pvq_ 5 (some 83) rfl rfl ?_
  refine pvq_ 6 (some 84) rfl rfl ?_
  refine tkq_ 3 (some 81) rfl rfl hHeld ?_
  refine tkq_ 7 (some 85) rfl rfl hHeld ?_
  refine onq_ 8 none rfl rfl (fun K hK => ?_)
  refine skip_ (w1 := World.setRow wd g4 #[.int .u16 sf.r.a, .int .u16 sf.r.l, .int .u16 sf.r.q, .int .i64 sf.r.z, .int .i64 sf.r.eb, .int .i64 sf.r.fb, .int .i64 sf.r.su, .bool sf.r.ext, .int .u16 sf.r.idx, .bool sf.r.held, .int .u16 sf.r.b, .bool sf.r.inh, .bool sf.r.srv]) (by rfl) rfl ?_ ?_
  · refine run_store_row 26 (.tmp 4) (.tmp 81) ?_ g4 ?_ 26 _ #[.int .u16 sf.r.a, .int .u16 sf.r.l, .int .u16 sf.r.q, .int .i64 sf.r.z, .int .i64 sf.r.eb, .int .i64 sf.r.fb, .int .i64 sf.r.su, .bool sf.r.ext, .int .u16 sf.r.idx, .bool sf.r.held, .int .u16 sf.r.b, .bool sf.r.inh, .bool sf.r.srv] ?_ K4.out (by kernel_rfl) rfl (by kernel_rfl)
    · rfl
    · rfl
    · rfl
  (try replace HC := Aside0.mk (R_kb HC.out K4.out (fun q hq => by rw [ekC q hq]; decide) (keep_row _ g4 #[.int .u16 sf.r.a, .int .u16 sf.r.l, .int .u16 sf.r.q, .int .i64 sf.r.z, .int .i64 sf.r.eb, .int .i64 sf.r.fb, .int .i64 sf.r.su, .bool sf.r.ext, .int .u16 sf.r.idx, .bool sf.r.held, .int .u16 sf.r.b, .bool sf.r.inh, .bool sf.r.srv])))
  (try replace HO := Aside0.mk (R_kb HO.out K4.out (fun q hq => by rw [ekC q hq]; decide) (keep_row _ g4 #[.int .u16 sf.r.a, .int .u16 sf.r.l, .int .u16 sf.r.q, .int .i64 sf.r.z, .int .i64 sf.r.eb, .int .i64 sf.r.fb, .int .i64 sf.r.su, .bool sf.r.ext, .int .u16 sf.r.idx, .bool sf.r.held, .int .u16 sf.r.b, .bool sf.r.inh, .bool sf.r.srv])))
  (try replace HR := Aside0.mk (R_kb HR.out K4.out (fun q hq => by rw [ekS q hq]; decide) (keep_row _ g4 #[.int .u16 sf.r.a, .int .u16 sf.r.l, .int .u16 sf.r.q, .int .i64 sf.r.z, .int .i64 sf.r.eb, .int .i64 sf.r.fb, .int .i64 sf.r.su, .bool sf.r.ext, .int .u16 sf.r.idx, .bool sf.r.held, .int .u16 sf.r.b, .bool sf.r.inh, .bool sf.r.srv])))
  replace HB := Aside0.mk (below_setRow HB.out L4.out #[.int .u16 sf.r.a, .int .u16 sf.r.l, .int .u16 sf.r.q, .int .i64 sf.r.z, .int .i64 sf.r.eb, .int .i64 sf.r.fb, .int .i64 sf.r.su, .bool sf.r.ext, .int .u16 sf.r.idx, .bool sf.r.held, .int .u16 sf.r.b, .bool sf.r.inh, .bool sf.r.srv])
  replace K39 := Aside0.mk (blk_row_far K39.out (by first | exact NE39_4.out | exact NE4_39.out.symm) #[.int .u16 sf.r.a, .int .u16 sf.r.l, .int .u16 sf.r.q, .int .i64 sf.r.z, .int .i64 sf.r.eb, .int .i64 sf.r.fb, .int .i64 sf.r.su, .bool sf.r.ext, .int .u16 sf.r.idx, .bool sf.r.held, .int .u16 sf.r.b, .bool sf.r.inh, .bool sf.r.srv])
  replace K5 := Aside0.mk (blk_row_far K5.out (by first | exact NE5_4.out | exact NE4_5.out.symm) #[.int .u16 sf.r.a, .int .u16 sf.r.l, .int .u16 sf.r.q, .int .i64 sf.r.z, .int .i64 sf.r.eb, .int .i64 sf.r.fb, .int .i64 sf.r.su, .bool sf.r.ext, .int .u16 sf.r.idx, .bool sf.r.held, .int .u16 sf.r.b, .bool sf.r.inh, .bool sf.r.srv])
  replace K4 := Aside0.mk (blk_row K4.out #[.int .u16 sf.r.a, .int .u16 sf.r.l, .int .u16 sf.r.q, .int .i64 sf.r.z, .int .i64 sf.r.eb, .int .i64 sf.r.fb, .int .i64 sf.r.su, .bool sf.r.ext, .int .u16 sf.r.idx, .bool sf.r.held, .int .u16 sf.r.b, .bool sf.r.inh, .bool sf.r.srv])
  generalize World.setRow wd g4 #[.int .u16 sf.r.a, .int .u16 sf.r.l, .int .u16 sf.r.q, .int .i64 sf.r.z, .int .i64 sf.r.eb, .int .i64 sf.r.fb, .int .i64 sf.r.su, .bool sf.r.ext, .int .u16 sf.r.idx, .bool sf.r.held, .int .u16 sf.r.b, .bool sf.r.inh, .bool sf.r.srv] = wa at K39 K4 K5 HB HC HO HR ⊢
  refine hK.out _ _ ⟨(blk_cell K39.out 0).trans rfl, (blk_cell K39.out 1).trans rfl, (blk_cell K39.out 2).trans rfl, (blk_cell K39.out 3).trans rfl, (blk_cell K39.out 4).trans rfl, (blk_cell K39.out 5).trans rfl, (blk_cell K39.out 6).trans rfl, (blk_cell K39.out 7).trans rfl, (blk_cell K39.out 8).trans rfl, (blk_cell K39.out 9).trans rfl, (blk_cell K39.out 10).trans rfl, (blk_cell K39.out 11).trans rfl, (blk_cell K39.out 12).trans rfl, (blk_cell K39.out 13).trans rfl, (blk_cell K39.out 14).trans rfl, (blk_cell K39.out 15).trans rfl, (blk_cell K39.out 16).trans rfl, (blk_cell K39.out 17).trans rfl⟩ (fun hHeld => ?_)
  clear hK K
  refine laq_ 9 none rfl rfl (fun K hK => ?_)
  refine skip_ (w1 := World.setRow wa g5 #[.slice AC sf.cells.length cC, .slice AO sf.outs.length cO, .slice AR sf.reads.length cR, .int .i64 sf.cyc, .int .u8 sf.op]) (by rfl) rfl ?_ ?_
  · refine run_store_row 34 (.tmp 5) (.tmp 85) ?_ g5 ?_ 34 _ #[.slice AC sf.cells.length cC, .slice AO sf.outs.length cO, .slice AR sf.reads.length cR, .int .i64 sf.cyc, .int .u8 sf.op] ?_ K5.out (by kernel_rfl) rfl (by kernel_rfl)
    · rfl
    · rfl
    · rfl
  (try replace HC := Aside0.mk (R_kb HC.out K5.out (fun q hq => by rw [ekC q hq]; decide) (keep_row _ g5 #[.slice AC sf.cells.length cC, .slice AO sf.outs.length cO, .slice AR sf.reads.length cR, .int .i64 sf.cyc, .int .u8 sf.op])))
  (try replace HO := Aside0.mk (R_kb HO.out K5.out (fun q hq => by rw [ekC q hq]; decide) (keep_row _ g5 #[.slice AC sf.cells.length cC, .slice AO sf.outs.length cO, .slice AR sf.reads.length cR, .int .i64 sf.cyc, .int .u8 sf.op])))
  (try replace HR := Aside0.mk (R_kb HR.out K5.out (fun q hq => by rw [ekS q hq]; decide) (keep_row _ g5 #[.slice AC sf.cells.length cC, .slice AO sf.outs.length cO, .slice AR sf.reads.length cR, .int .i64 sf.cyc, .int .u8 sf.op])))
  replace HB := Aside0.mk (below_setRow HB.out L5.out #[.slice AC sf.cells.length cC, .slice AO sf.outs.length cO, .slice AR sf.reads.length cR, .int .i64 sf.cyc, .int .u8 sf.op])
  replace K39 := Aside0.mk (blk_row_far K39.out (by first | exact NE39_5.out | exact NE5_39.out.symm) #[.slice AC sf.cells.length cC, .slice AO sf.outs.length cO, .slice AR sf.reads.length cR, .int .i64 sf.cyc, .int .u8 sf.op])
  replace K4 := Aside0.mk (blk_row_far K4.out (by first | exact NE4_5.out | exact NE5_4.out.symm) #[.slice AC sf.cells.length cC, .slice AO sf.outs.length cO, .slice AR sf.reads.length cR, .int .i64 sf.cyc, .int .u8 sf.op])
  replace K5 := Aside0.mk (blk_row K5.out #[.slice AC sf.cells.length cC, .slice AO sf.outs.length cO, .slice AR sf.reads.length cR, .int .i64 sf.cyc, .int .u8 sf.op])
  generalize World.setRow wa g5 #[.slice AC sf.cells.length cC, .slice AO sf.outs.length cO, .slice AR sf.reads.length cR, .int .i64 sf.cyc, .int .u8 sf.op] = we at K39 K4 K5 HB HC HO HR ⊢
  refine hK.out _ _ ?_
  clear hK K
  refine pvq_ 10 (some 6) rfl rfl ?_
  refine done_ (by kernel_rfl) ?_
  go_wp2
  refine bodyPost_ret (results_list (rs := [.cell 4 26, .cell 5 34, .tmp 6]) rfl (by simp) (.cell g4 26 (aSF sf) (0, 0) _ rfl K4.out Tryz.underlying26 rfl (by kernel_rfl) (.cell g5 34 #[.slice AC sf.cells.length cC, .slice AO sf.outs.length cO, .slice AR sf.reads.length cR, .int .i64 sf.cyc, .int .u8 sf.op] (0, 0) _ rfl K5.out Tryz.underlying34 rfl (by kernel_rfl) (.tmp .nil)))) rfl ?_
  rw [HSF.out]
  exact ⟨_, _, _, rfl, Kd.R_mono HC.out (fun _ h => h.2), Kd.R_mono HO.out (fun _ h => h.2), HR.out, HB.out⟩
theorem step_CD (w : World) (hv : VwAt w A0 A1 A2 v) (hc0 : v.e.length ≤ c0) (hc1 : v.f.length ≤ c1) (hc2 : v.c.length ≤ c2) (hk : r.Kinds) (he : sErr r v = 0) (hx : fC r v ≠ 27 → ExecOk (fC r v)) (hs : spotted (fC r v) = false) (hk1 : (((Isa.opN (fC r v)).2.2.2.1 == 1) = false ∧ ((Isa.opN (fC r v)).2.2.2.1 == 3) = true ∧ ((Isa.opN (fC r v)).2.1.toList == ([84, 67] : List UInt8)) = true ∧ fC r v ≠ 27) ∨ (((Isa.opN (fC r v)).2.2.2.1 == 1) = false ∧ ((Isa.opN (fC r v)).2.2.2.1 == 3) = false ∧ fC r v ≠ 27) ∨ (((Isa.opN (fC r v)).2.2.2.1 == 1) = false ∧ ((Isa.opN (fC r v)).2.2.2.1 == 3) = false ∧ fC r v = 27)) : Calls Tryz.prog 14 #[.agg (aRG r), .agg (aVB v A0 A1 A2 c0 c1 c2)] w fun e w' => ∃ vC vO vR : Value, e = .returned (.tuple #[.agg #[.int .u16 (stepN r v).r.a, .int .u16 (stepN r v).r.l, .int .u16 (stepN r v).r.q, .int .i64 (stepN r v).r.z, .int .i64 (stepN r v).r.eb, .int .i64 (stepN r v).r.fb, .int .i64 (stepN r v).r.su, .bool (stepN r v).r.ext, .int .u16 (stepN r v).r.idx, .bool (stepN r v).r.held, .int .u16 (stepN r v).r.b, .bool (stepN r v).r.inh, .bool (stepN r v).r.srv], .agg #[vC, vO, vR, .int .i64 (stepN r v).cyc, .int .u8 (stepN r v).op], .int .i64 0]) ∧ Kd.R k47 47 w' w.heap.size (fun k => some k ≠ vO.ownBlock) vC (stepN r v).cells ∧ Kd.R k47 47 w' w.heap.size (fun k => some k ≠ vC.ownBlock) vO (stepN r v).outs ∧ Kd.R k103 103 w' w.heap.size (fun _ => True) vR (stepN r v).reads ∧ Below w.heap.size w w' := by
 have EX := Aside0.mk hx
 clear hx
 have he0 := sErr_f he
 have hm := fErr_may he0
 have ok := nx_ok (Rg.Ok.of_may hk hm)
 have y0 : (0 : Int) = 0 := rfl
 clear y0
 have FE := Aside0.mk he0
 have CB := Aside0.mk (fC_b r v)
 have KB := Aside0.mk (fK_b r v)
 have OK := Aside0.mk ok
 have S0 : Aside0 (0 ≤ (st1 r v).sp.f1 ∧ (st1 r v).sp.f1 < 40000) := ⟨by unfold st1; rw [if_neg (by rw [hs]; decide)]; exact ⟨Int.le_refl 0, (by decide : (0 : Int) < 40000)⟩⟩
 have SPO := Aside0.mk hs
 clear hs
 have HB := Aside0.mk (Below.refl w.heap.size w)
 have HV := Aside0.mk hv
 have HK := Aside0.mk hk
 clear hv hk he hm ok he0
 have hu0 := Tryz.underlying26
 have hu1 := Tryz.underlying29
 have hu2 := Tryz.underlying119
 have hu3 := Tryz.underlying34
 have hu4 := Tryz.underlying124
 have hu5 := Tryz.underlying103
 rcases hk1 with ⟨yk1, yk3, yn, n27⟩ | ⟨yk1, yk3, n27⟩ | ⟨yk1, yk3, n27⟩
 have C27 : Aside0 (decide (fC r v ≠ 27) = true) := ⟨decide_eq_true n27⟩
 have N27 := Aside0.mk n27
 rotate_left
 have C27 : Aside0 (decide (fC r v ≠ 27) = true) := ⟨decide_eq_true n27⟩
 have N27 := Aside0.mk n27
 rotate_left
 have C27 : Aside0 (decide (fC r v ≠ 27) = false) := ⟨decide_eq_false (fun h => h n27)⟩
 have E27 := Aside0.mk n27
 all_goals clear n27
 all_goals
  go_enter Tryz.func14, Tryz.ntmps14
  go_upto_region 1 with (first | (refine boxq_ 2 (aRG r) 26 ?_; intro g2 hg wb K hb; (try have NE2_2 := nkb_ K2 hg); (try have NE3_2 := nkb_ K3 hg); (try have NE4_2 := nkb_ K4 hg); (try have NE5_2 := nkb_ K5 hg); have L2 := lkb_ HB hg; (try replace K2 := kbb_ K2 hb); (try replace K3 := kbb_ K3 hb); (try replace K4 := kbb_ K4 hb); (try replace K5 := kbb_ K5 hb); replace HB := hbs_ HB hb; have K2 := Aside0.mk K; clear K hb hg) | (refine boxq_ 3 (aVB v A0 A1 A2 c0 c1 c2) 29 ?_; intro g3 hg wb K hb; (try have NE2_3 := nkb_ K2 hg); (try have NE3_3 := nkb_ K3 hg); (try have NE4_3 := nkb_ K4 hg); (try have NE5_3 := nkb_ K5 hg); have L3 := lkb_ HB hg; (try replace K2 := kbb_ K2 hb); (try replace K3 := kbb_ K3 hb); (try replace K4 := kbb_ K4 hb); (try replace K5 := kbb_ K5 hb); replace HB := hbs_ HB hb; have K3 := Aside0.mk K; clear K hb hg) | (refine boxq_ 4 (aZR) 26 ?_; intro g4 hg wb K hb; (try have NE2_4 := nkb_ K2 hg); (try have NE3_4 := nkb_ K3 hg); (try have NE4_4 := nkb_ K4 hg); (try have NE5_4 := nkb_ K5 hg); have L4 := lkb_ HB hg; (try replace K2 := kbb_ K2 hb); (try replace K3 := kbb_ K3 hb); (try replace K4 := kbb_ K4 hb); (try replace K5 := kbb_ K5 hb); replace HB := hbs_ HB hb; have K4 := Aside0.mk K; clear K hb hg) | (refine boxq_ 5 (aZD) 34 ?_; intro g5 hg w1 K hb; (try have NE2_5 := nkb_ K2 hg); (try have NE3_5 := nkb_ K3 hg); (try have NE4_5 := nkb_ K4 hg); (try have NE5_5 := nkb_ K5 hg); have L5 := lkb_ HB hg; (try replace K2 := kbb_ K2 hb); (try replace K3 := kbb_ K3 hb); (try replace K4 := kbb_ K4 hb); (try replace K5 := kbb_ K5 hb); replace HB := hbs_ HB hb; have K5 := Aside0.mk K; clear K hb hg))
  have HW := HB
  have M4 := K4
  have M5 := K5
  have M4b := Aside0.mk (blk_lt K4.out)
  have M5b := Aside0.mk (blk_lt K5.out)
  clear HB
  have HB := Aside0.mk (Below.refl w1.heap.size w1)
  go_upto_region 5 with (first | (go_at_call 52; (with_reducible refine at_args #[.agg (aRG r), .agg (aVB v A0 A1 A2 c0 c1 c2)] ?_); (with_reducible refine (fetch_c (r := r) (v := v) _ (HV.out.below HW.out) hc0 hc1 hc2 HK.out FE.out).mono ?_); rintro e wc ⟨vl, rfl, hL, hb⟩; obtain ⟨Al, cl, rfl⟩ := Kd.R_slice hL; have HL := Aside0.mk hL; clear hL; (try replace K3 := kbb_ K3 hb); (try replace K7 := kbb_ K7 hb); (try replace K9 := kbb_ K9 hb); (try replace K39 := kbb_ K39 hb); replace HB := hbs_ HB hb; clear hb) | (refine boxq_ 7 (aZO) 119 ?_; intro g7 hg wb K hb; (try have NE3_7 := nkb_ K3 hg); (try have NE7_7 := nkb_ K7 hg); (try have NE9_7 := nkb_ K9 hg); (try have NE39_7 := nkb_ K39 hg); have L7 := Aside0.mk (show w1.heap.size ≤ g7 from by rw [hg]; exact HB.out.size); (try replace HL := Aside0.mk (Kd.R_below HL.out hb)); (try replace K3 := kbb_ K3 hb); (try replace K7 := kbb_ K7 hb); (try replace K9 := kbb_ K9 hb); (try replace K39 := kbb_ K39 hb); replace HB := hbs_ HB hb; have K7 := Aside0.mk K; clear K hb hg) | (refine boxq_ 9 (aZR) 26 ?_; intro g9 hg wb K hb; (try have NE3_9 := nkb_ K3 hg); (try have NE7_9 := nkb_ K7 hg); (try have NE9_9 := nkb_ K9 hg); (try have NE39_9 := nkb_ K39 hg); have L9 := Aside0.mk (show w1.heap.size ≤ g9 from by rw [hg]; exact HB.out.size); (try replace HL := Aside0.mk (Kd.R_below HL.out hb)); (try replace K3 := kbb_ K3 hb); (try replace K7 := kbb_ K7 hb); (try replace K9 := kbb_ K9 hb); (try replace K39 := kbb_ K39 hb); replace HB := hbs_ HB hb; have K9 := Aside0.mk K; clear K hb hg) | (refine strq_ 119 7 19 g7 (aOC r v) K7 ?_; intro ws hk hfar hbel hkp; (try replace HL := Aside0.mk (R_kb HL.out K7.out (fun q hq => by rw [ekS q hq]; decide) hkp)); replace HB := Aside0.mk (hbel _ _ HB.out L7.out); (try replace K3 := hfr_ hfar K3 (by first | exact NE3_7.out | exact NE7_3.out.symm)); (try replace K7 := hfr_ hfar K7 (by first | exact NE7_7.out | exact NE7_7.out.symm)); (try replace K9 := hfr_ hfar K9 (by first | exact NE9_7.out | exact NE7_9.out.symm)); (try replace K39 := hfr_ hfar K39 (by first | exact NE39_7.out | exact NE7_39.out.symm)); replace K7 := Aside0.mk hk; clear hk hfar hbel hkp) | (refine strq_ 26 9 21 g9 (aNX r) K9 ?_; intro ws hk hfar hbel hkp; (try replace HL := Aside0.mk (R_kb HL.out K9.out (fun q hq => by rw [ekS q hq]; decide) hkp)); replace HB := Aside0.mk (hbel _ _ HB.out L9.out); (try replace K3 := hfr_ hfar K3 (by first | exact NE3_9.out | exact NE9_3.out.symm)); (try replace K7 := hfr_ hfar K7 (by first | exact NE7_9.out | exact NE9_7.out.symm)); (try replace K9 := hfr_ hfar K9 (by first | exact NE9_9.out | exact NE9_9.out.symm)); (try replace K39 := hfr_ hfar K39 (by first | exact NE39_9.out | exact NE9_39.out.symm)); replace K9 := Aside0.mk hk; clear hk hfar hbel hkp) | ((with_reducible refine gate_dst (N := 35) rfl ?_); refine Kd.event_run (v := .agg #[.slice none 0 0, .slice none 0 0, .slice Al (fLst r v).length cl, .int .i64 (Isa.opN (fC r v)).2.2.2.2.2.1, .int .u8 (fC r v)]) (w1 := _) rfl ?hr2 ?_; (case hr2 => kernel_rfl)) | ((with_reducible refine gate_dst (N := 38) rfl ?_); refine Kd.event_run (v := .agg (aPC r v Al cl A0 A1 A2 c0 c1 c2)) (w1 := _) rfl ?hr2 ?_; (case hr2 => kernel_rfl)) | (refine boxq_ 39 (aPC r v Al cl A0 A1 A2 c0 c1 c2) 124 ?_; intro g39 hg wb K hb; (try have NE3_39 := nkb_ K3 hg); (try have NE7_39 := nkb_ K7 hg); (try have NE9_39 := nkb_ K9 hg); (try have NE39_39 := nkb_ K39 hg); have L39 := Aside0.mk (show w1.heap.size ≤ g39 from by rw [hg]; exact HB.out.size); (try replace HL := Aside0.mk (Kd.R_below HL.out hb)); (try replace K3 := kbb_ K3 hb); (try replace K7 := kbb_ K7 hb); (try replace K9 := kbb_ K9 hb); (try replace K39 := kbb_ K39 hb); replace HB := hbs_ HB hb; have K39 := Aside0.mk K; clear K hb hg) | (refine load_row_ rfl 26 _ rfl g2 rfl #[.int .u16 r.a, .int .u16 r.l, .int .u16 r.q, .int .i64 r.z, .int .i64 r.eb, .int .i64 r.fb, .int .i64 r.su, .bool r.ext, .int .u16 r.idx, .bool r.held, .int .u16 r.b, .bool r.inh, .bool r.srv] _ K2.out _ Tryz.underlying26 rfl (by kernel_rfl) ?_) | (refine load_row_ rfl 29 _ rfl g3 rfl #[.slice A0 v.e.length c0, .slice A1 v.f.length c1, .slice A2 v.c.length c2] _ K3.out _ Tryz.underlying29 rfl (by kernel_rfl) ?_) | (refine load_row_ rfl 26 _ rfl g9 rfl #[.int .u16 r.a, .int .u16 r.l, .int .u16 r.q, .int .i64 ((r.z + 1) % 4096), .int .i64 r.eb, .int .i64 r.fb, .int .i64 r.su, .bool false, .int .u16 0, .bool false, .int .u16 0, .bool r.inh, .bool r.srv] _ K9.out _ Tryz.underlying26 rfl (by kernel_rfl) ?_) | (refine load_cell_ rfl 3 _ rfl g7 5 rfl (.int .i64 (Isa.opN (fC r v)).2.2.2.2.2.1) ((blk_cell K7.out 5).trans rfl) (fun _ => by kernel_rfl) ?_) | (refine load_cell_ rfl 32 _ rfl g7 0 rfl (.int .u8 (fC r v)) ((blk_cell K7.out 0).trans rfl) (fun _ => by kernel_rfl) ?_) | (refine load_cell_ rfl 117 _ rfl g7 3 rfl (.int .u8 (Isa.opN (fC r v)).2.2.2.1) ((blk_cell K7.out 3).trans rfl) (fun _ => by kernel_rfl) ?_) | (refine load_cell_ rfl 9 _ rfl g7 1 rfl (.string (Isa.opN (fC r v)).2.1) ((blk_cell K7.out 1).trans rfl) (fun _ => by kernel_rfl) ?_))
  have x7_1 : wb.cell? ⟨g7, 1, none⟩ = some (.string (Isa.opN (fC r v)).2.1) := (blk_cell K7.out 1).trans rfl
  have x7_3 : wb.cell? ⟨g7, 3, none⟩ = some (.int .u8 (Isa.opN (fC r v)).2.2.2.1) := (blk_cell K7.out 3).trans rfl
  go_upto_region 9 with (first | fail)
  clear x7_1 x7_3
  refine start_ (n := 10) (S := fun w' => w'.cell? ⟨g7, 1, none⟩ = some (.string (Isa.opN (fC r v)).2.1)) (ds := []) #[false, false, false, false, false, false, false, false, false, false] (by kernel_rfl) rfl rfl ((blk_cell K7.out 1).trans rfl) (fun hHeld => ?_)
  replace K7 := Aside0.mk (blk_drew K7.out)
  replace K39 := Aside0.mk (blk_drew K39.out)
  (try replace HL := Aside0.mk (Kd.R_drew HL.out))
  replace HB := Aside0.mk (below_drew1 HB.out)
  generalize wb.drew = wd at K7 K39 HB hHeld HL ⊢
  refine pvq_ 0 (some 68) rfl rfl ?_
  refine pvq_ 2 (some 70) rfl rfl ?_
  refine tkq_ 3 (some 71) rfl rfl hHeld ?_
  refine onq_ 1 (some 69) rfl rfl (fun K hK => ?_)
  refine goq_ Tryz.func54 #[.pointer (some ⟨g39, 0, none⟩)] ?_
  with_reducible refine (table_c g39 _).mono ?_
  rintro e wt ⟨gx, bm, rfl, hM, lx, hX, hb⟩
  refine ⟨_, rfl, ?_⟩
  have NX := Aside0.mk (show gx ≠ g39 from by have := blk_lt K39.out; omega)
  have KX := Aside0.mk hX
  have HM := Aside0.mk hM
  clear hM hX lx
  replace K7 := kbb_ K7 hb
  replace K39 := kbb_ K39 hb
  (try replace HL := Aside0.mk (Kd.R_below HL.out hb))
  replace HB := hbs_ HB hb
  clear hb
  obtain ⟨u, hlook, hu⟩ := look_tab HM.out (fC r v) CB.out.1 CB.out.2
  replace hlook := Aside0.mk hlook
  replace hu := Aside0.mk hu
  rw [C27.out] at hlook
  refine hK.out _ _ ((blk_cell K7.out 1).trans rfl) (fun hHeld => ?_)
  clear hK K
  refine nmq_ (some 69) ?_
  refine onq_ 4 (some 72) rfl rfl (fun K hK => ?_)
  first | refine value_ (w1 := wt) (v := .tuple #[u, .bool true]) (by rfl) rfl (run_lookup_ rfl rfl rfl hlook.out) ?_ | refine value_ (w1 := wt) (v := .tuple #[u, .bool false]) (by rfl) rfl (run_lookup_ rfl rfl rfl hlook.out) ?_
  refine hK.out _ _ ((blk_cell K7.out 1).trans rfl) (fun hHeld => ?_)
  clear hK K
  refine nmq_ (some 72) ?_
  refine pvq_ 5 (some 67) rfl rfl ?_
  refine pvq_ 6 (some 73) rfl rfl ?_
  refine pvq_ 7 (some 74) rfl rfl ?_
  refine pvq_ 8 (some 13) rfl rfl ?_
  refine pvq_ 9 (some 14) rfl rfl ?_
  refine done_ (by kernel_rfl) ?_
  have E1 : st1 r v = st0 r v := by unfold st1; rw [if_neg (by rw [SPO.out]; decide)]
  have SB := st1_sz r v
  have HP : (⟨w1, g39, gx, A0, A1, A2, c0, c1, c2, v⟩ : Cx).P 1 (st1 r v) wt := by
   refine ⟨?_, ⟨HV.out.below HW.out, hc0, hc1, hc2⟩, SB⟩
   rw [E1]
   exact ⟨_, _, _, ⟨HB.out, L39.out, by decide, by decide, K39.out, fun c e => by cases e; exact ⟨KX.out, NX.out⟩, Kd.R_nil _ _ _ _ _, Kd.R_nil _ _ _ _ _, HL.out⟩⟩
  first
  | (have HC := EX.out N27.out _ _ _ _ HP (by rw [st1_r]; exact OK.out) S0.out.1 S0.out.2 (by rw [st1_k]; exact KB.out.1) (by decide); have HCC := Aside0.mk HC; replace hu := Aside0.mk (hu.out N27.out); clear HC HP SB E1 HL K7 K39 KX NX HB HM hlook; go_upto_region 12 with (first | (refine call_fval rfl (.tmp 76) rfl (fC r v) g39 gx CB.out.1 CB.out.2 N27.out hu.out ?_; (with_reducible refine HCC.out.mono ?_); rintro e wf ⟨rfl, m, hP⟩; refine ⟨_, rfl, ?_⟩; have HPF := Aside0.mk hP; clear hP HCC)); replace HPF : Aside0 (∃ m, Cx.P ⟨w1, g39, gx, A0, A1, A2, c0, c1, c2, v⟩ m (stepN r v) wf) := ⟨m, HPF.out⟩)
  | (have HPF : Aside0 (∃ m, Cx.P ⟨w1, g39, gx, A0, A1, A2, c0, c1, c2, v⟩ m (stepN r v) wt) := ⟨1, (show stepN r v = st1 r v from (by unfold stepN; rw [E27.out]; rfl)) ▸ HP⟩; clear HP SB E1 HL K7 K39 KX NX HB HM hlook; go_upto_region 12 with (first | fail); generalize hwf : wt = wf at *; clear hwf)
  obtain ⟨sf, hsf⟩ : ∃ x, stepN r v = x := ⟨_, rfl⟩
  rw [hsf] at HPF
  obtain ⟨m, HPM⟩ := HPF.out
  have HSF := Aside0.mk hsf
  clear hsf
  obtain ⟨vC, vO, vR, RF⟩ := HPM.run
  obtain ⟨AC, cC, rfl⟩ := Kd.R_slice RF.rc
  obtain ⟨AO, cO, rfl⟩ := Kd.R_slice RF.ro
  obtain ⟨AR, cR, rfl⟩ := Kd.R_slice RF.rr
  have HB := Aside0.mk (below_step HW.out RF.hb)
  have K39 := Aside0.mk (show wf.heap[g39]? = some (.cells #[.int .u16 sf.r.a, .int .u16 sf.r.l, .int .u16 sf.r.q, .int .i64 sf.r.z, .int .i64 sf.r.eb, .int .i64 sf.r.fb, .int .i64 sf.r.su, .bool sf.r.ext, .int .u16 sf.r.idx, .bool sf.r.held, .int .u16 sf.r.b, .bool sf.r.inh, .bool sf.r.srv, .slice AC sf.cells.length cC, .slice AO sf.outs.length cO, .slice AR sf.reads.length cR, .int .i64 sf.cyc, .int .u8 sf.op, .slice A0 v.e.length c0, .slice A1 v.f.length c1, .slice A2 v.c.length c2, .int .i64 sf.k, .int .u8 sf.sp.f0, .int .i64 sf.sp.f1] 124 (0, 0)) from RF.blk)
  have K4 := Aside0.mk (blk_below M4.out RF.hb)
  have K5 := Aside0.mk (blk_below M5.out RF.hb)
  have HC := Aside0.mk (Kd.R_lower RF.rc HW.out.size)
  have HO := Aside0.mk (Kd.R_lower RF.ro HW.out.size)
  have HR := Aside0.mk (Kd.R_lower RF.rr HW.out.size)
  have NE4_39 := Aside0.mk (show g4 ≠ g39 from by have := M4b.out; have := L39.out; omega)
  have NE5_39 := Aside0.mk (show g5 ≠ g39 from by have := M5b.out; have := L39.out; omega)
  clear RF HPM HPF M4 M5
  refine start_ (n := 11) (S := fun w' => w'.cell? ⟨g39, 0, none⟩ = some (.int .u16 sf.r.a) ∧ w'.cell? ⟨g39, 1, none⟩ = some (.int .u16 sf.r.l) ∧ w'.cell? ⟨g39, 2, none⟩ = some (.int .u16 sf.r.q) ∧ w'.cell? ⟨g39, 3, none⟩ = some (.int .i64 sf.r.z) ∧ w'.cell? ⟨g39, 4, none⟩ = some (.int .i64 sf.r.eb) ∧ w'.cell? ⟨g39, 5, none⟩ = some (.int .i64 sf.r.fb) ∧ w'.cell? ⟨g39, 6, none⟩ = some (.int .i64 sf.r.su) ∧ w'.cell? ⟨g39, 7, none⟩ = some (.bool sf.r.ext) ∧ w'.cell? ⟨g39, 8, none⟩ = some (.int .u16 sf.r.idx) ∧ w'.cell? ⟨g39, 9, none⟩ = some (.bool sf.r.held) ∧ w'.cell? ⟨g39, 10, none⟩ = some (.int .u16 sf.r.b) ∧ w'.cell? ⟨g39, 11, none⟩ = some (.bool sf.r.inh) ∧ w'.cell? ⟨g39, 12, none⟩ = some (.bool sf.r.srv) ∧ w'.cell? ⟨g39, 13, none⟩ = some (.slice AC sf.cells.length cC) ∧ w'.cell? ⟨g39, 14, none⟩ = some (.slice AO sf.outs.length cO) ∧ w'.cell? ⟨g39, 15, none⟩ = some (.slice AR sf.reads.length cR) ∧ w'.cell? ⟨g39, 16, none⟩ = some (.int .i64 sf.cyc) ∧ w'.cell? ⟨g39, 17, none⟩ = some (.int .u8 sf.op)) (ds := [9]) #[false, false, false, false, false, false, false, false, false, false, false] (by kernel_rfl) rfl rfl ⟨(blk_cell K39.out 0).trans rfl, (blk_cell K39.out 1).trans rfl, (blk_cell K39.out 2).trans rfl, (blk_cell K39.out 3).trans rfl, (blk_cell K39.out 4).trans rfl, (blk_cell K39.out 5).trans rfl, (blk_cell K39.out 6).trans rfl, (blk_cell K39.out 7).trans rfl, (blk_cell K39.out 8).trans rfl, (blk_cell K39.out 9).trans rfl, (blk_cell K39.out 10).trans rfl, (blk_cell K39.out 11).trans rfl, (blk_cell K39.out 12).trans rfl, (blk_cell K39.out 13).trans rfl, (blk_cell K39.out 14).trans rfl, (blk_cell K39.out 15).trans rfl, (blk_cell K39.out 16).trans rfl, (blk_cell K39.out 17).trans rfl⟩ (fun hHeld => ?_)
  replace K39 := Aside0.mk (blk_drew K39.out)
  replace K4 := Aside0.mk (blk_drew K4.out)
  replace K5 := Aside0.mk (blk_drew K5.out)
  (try replace HC := Aside0.mk (Kd.R_drew HC.out))
  (try replace HO := Aside0.mk (Kd.R_drew HO.out))
  (try replace HR := Aside0.mk (Kd.R_drew HR.out))
  replace HB := Aside0.mk (below_drew1 HB.out)
  generalize wf.drew = wd at K39 K4 K5 HB hHeld HC HO HR ⊢
  refine pvq_ 0 (some 78) rfl rfl ?_
  refine pvq_ 1 (some 79) rfl rfl ?_
  refine pvq_ 2 (some 80) rfl rfl ?_
  refine pvq_ 4 (some 82) rfl rfl ?_
  refine pvq_ 5 (some 83) rfl rfl ?_
  refine pvq_ 6 (some 84) rfl rfl ?_
  refine tkq_ 3 (some 81) rfl rfl hHeld ?_
  refine tkq_ 7 (some 85) rfl rfl hHeld ?_
  refine onq_ 8 none rfl rfl (fun K hK => ?_)
  refine skip_ (w1 := World.setRow wd g4 #[.int .u16 sf.r.a, .int .u16 sf.r.l, .int .u16 sf.r.q, .int .i64 sf.r.z, .int .i64 sf.r.eb, .int .i64 sf.r.fb, .int .i64 sf.r.su, .bool sf.r.ext, .int .u16 sf.r.idx, .bool sf.r.held, .int .u16 sf.r.b, .bool sf.r.inh, .bool sf.r.srv]) (by rfl) rfl ?_ ?_
  · refine run_store_row 26 (.tmp 4) (.tmp 81) ?_ g4 ?_ 26 _ #[.int .u16 sf.r.a, .int .u16 sf.r.l, .int .u16 sf.r.q, .int .i64 sf.r.z, .int .i64 sf.r.eb, .int .i64 sf.r.fb, .int .i64 sf.r.su, .bool sf.r.ext, .int .u16 sf.r.idx, .bool sf.r.held, .int .u16 sf.r.b, .bool sf.r.inh, .bool sf.r.srv] ?_ K4.out (by kernel_rfl) rfl (by kernel_rfl)
    · rfl
    · rfl
    · rfl
  (try replace HC := Aside0.mk (R_kb HC.out K4.out (fun q hq => by rw [ekC q hq]; decide) (keep_row _ g4 #[.int .u16 sf.r.a, .int .u16 sf.r.l, .int .u16 sf.r.q, .int .i64 sf.r.z, .int .i64 sf.r.eb, .int .i64 sf.r.fb, .int .i64 sf.r.su, .bool sf.r.ext, .int .u16 sf.r.idx, .bool sf.r.held, .int .u16 sf.r.b, .bool sf.r.inh, .bool sf.r.srv])))
  (try replace HO := Aside0.mk (R_kb HO.out K4.out (fun q hq => by rw [ekC q hq]; decide) (keep_row _ g4 #[.int .u16 sf.r.a, .int .u16 sf.r.l, .int .u16 sf.r.q, .int .i64 sf.r.z, .int .i64 sf.r.eb, .int .i64 sf.r.fb, .int .i64 sf.r.su, .bool sf.r.ext, .int .u16 sf.r.idx, .bool sf.r.held, .int .u16 sf.r.b, .bool sf.r.inh, .bool sf.r.srv])))
  (try replace HR := Aside0.mk (R_kb HR.out K4.out (fun q hq => by rw [ekS q hq]; decide) (keep_row _ g4 #[.int .u16 sf.r.a, .int .u16 sf.r.l, .int .u16 sf.r.q, .int .i64 sf.r.z, .int .i64 sf.r.eb, .int .i64 sf.r.fb, .int .i64 sf.r.su, .bool sf.r.ext, .int .u16 sf.r.idx, .bool sf.r.held, .int .u16 sf.r.b, .bool sf.r.inh, .bool sf.r.srv])))
  replace HB := Aside0.mk (below_setRow HB.out L4.out #[.int .u16 sf.r.a, .int .u16 sf.r.l, .int .u16 sf.r.q, .int .i64 sf.r.z, .int .i64 sf.r.eb, .int .i64 sf.r.fb, .int .i64 sf.r.su, .bool sf.r.ext, .int .u16 sf.r.idx, .bool sf.r.held, .int .u16 sf.r.b, .bool sf.r.inh, .bool sf.r.srv])
  replace K39 := Aside0.mk (blk_row_far K39.out (by first | exact NE39_4.out | exact NE4_39.out.symm) #[.int .u16 sf.r.a, .int .u16 sf.r.l, .int .u16 sf.r.q, .int .i64 sf.r.z, .int .i64 sf.r.eb, .int .i64 sf.r.fb, .int .i64 sf.r.su, .bool sf.r.ext, .int .u16 sf.r.idx, .bool sf.r.held, .int .u16 sf.r.b, .bool sf.r.inh, .bool sf.r.srv])
  replace K5 := Aside0.mk (blk_row_far K5.out (by first | exact NE5_4.out | exact NE4_5.out.symm) #[.int .u16 sf.r.a, .int .u16 sf.r.l, .int .u16 sf.r.q, .int .i64 sf.r.z, .int .i64 sf.r.eb, .int .i64 sf.r.fb, .int .i64 sf.r.su, .bool sf.r.ext, .int .u16 sf.r.idx, .bool sf.r.held, .int .u16 sf.r.b, .bool sf.r.inh, .bool sf.r.srv])
  replace K4 := Aside0.mk (blk_row K4.out #[.int .u16 sf.r.a, .int .u16 sf.r.l, .int .u16 sf.r.q, .int .i64 sf.r.z, .int .i64 sf.r.eb, .int .i64 sf.r.fb, .int .i64 sf.r.su, .bool sf.r.ext, .int .u16 sf.r.idx, .bool sf.r.held, .int .u16 sf.r.b, .bool sf.r.inh, .bool sf.r.srv])
  generalize World.setRow wd g4 #[.int .u16 sf.r.a, .int .u16 sf.r.l, .int .u16 sf.r.q, .int .i64 sf.r.z, .int .i64 sf.r.eb, .int .i64 sf.r.fb, .int .i64 sf.r.su, .bool sf.r.ext, .int .u16 sf.r.idx, .bool sf.r.held, .int .u16 sf.r.b, .bool sf.r.inh, .bool sf.r.srv] = wa at K39 K4 K5 HB HC HO HR ⊢
  refine hK.out _ _ ⟨(blk_cell K39.out 0).trans rfl, (blk_cell K39.out 1).trans rfl, (blk_cell K39.out 2).trans rfl, (blk_cell K39.out 3).trans rfl, (blk_cell K39.out 4).trans rfl, (blk_cell K39.out 5).trans rfl, (blk_cell K39.out 6).trans rfl, (blk_cell K39.out 7).trans rfl, (blk_cell K39.out 8).trans rfl, (blk_cell K39.out 9).trans rfl, (blk_cell K39.out 10).trans rfl, (blk_cell K39.out 11).trans rfl, (blk_cell K39.out 12).trans rfl, (blk_cell K39.out 13).trans rfl, (blk_cell K39.out 14).trans rfl, (blk_cell K39.out 15).trans rfl, (blk_cell K39.out 16).trans rfl, (blk_cell K39.out 17).trans rfl⟩ (fun hHeld => ?_)
  clear hK K
  refine laq_ 9 none rfl rfl (fun K hK => ?_)
  refine skip_ (w1 := World.setRow wa g5 #[.slice AC sf.cells.length cC, .slice AO sf.outs.length cO, .slice AR sf.reads.length cR, .int .i64 sf.cyc, .int .u8 sf.op]) (by rfl) rfl ?_ ?_
  · refine run_store_row 34 (.tmp 5) (.tmp 85) ?_ g5 ?_ 34 _ #[.slice AC sf.cells.length cC, .slice AO sf.outs.length cO, .slice AR sf.reads.length cR, .int .i64 sf.cyc, .int .u8 sf.op] ?_ K5.out (by kernel_rfl) rfl (by kernel_rfl)
    · rfl
    · rfl
    · rfl
  (try replace HC := Aside0.mk (R_kb HC.out K5.out (fun q hq => by rw [ekC q hq]; decide) (keep_row _ g5 #[.slice AC sf.cells.length cC, .slice AO sf.outs.length cO, .slice AR sf.reads.length cR, .int .i64 sf.cyc, .int .u8 sf.op])))
  (try replace HO := Aside0.mk (R_kb HO.out K5.out (fun q hq => by rw [ekC q hq]; decide) (keep_row _ g5 #[.slice AC sf.cells.length cC, .slice AO sf.outs.length cO, .slice AR sf.reads.length cR, .int .i64 sf.cyc, .int .u8 sf.op])))
  (try replace HR := Aside0.mk (R_kb HR.out K5.out (fun q hq => by rw [ekS q hq]; decide) (keep_row _ g5 #[.slice AC sf.cells.length cC, .slice AO sf.outs.length cO, .slice AR sf.reads.length cR, .int .i64 sf.cyc, .int .u8 sf.op])))
  replace HB := Aside0.mk (below_setRow HB.out L5.out #[.slice AC sf.cells.length cC, .slice AO sf.outs.length cO, .slice AR sf.reads.length cR, .int .i64 sf.cyc, .int .u8 sf.op])
  replace K39 := Aside0.mk (blk_row_far K39.out (by first | exact NE39_5.out | exact NE5_39.out.symm) #[.slice AC sf.cells.length cC, .slice AO sf.outs.length cO, .slice AR sf.reads.length cR, .int .i64 sf.cyc, .int .u8 sf.op])
  replace K4 := Aside0.mk (blk_row_far K4.out (by first | exact NE4_5.out | exact NE5_4.out.symm) #[.slice AC sf.cells.length cC, .slice AO sf.outs.length cO, .slice AR sf.reads.length cR, .int .i64 sf.cyc, .int .u8 sf.op])
  replace K5 := Aside0.mk (blk_row K5.out #[.slice AC sf.cells.length cC, .slice AO sf.outs.length cO, .slice AR sf.reads.length cR, .int .i64 sf.cyc, .int .u8 sf.op])
  generalize World.setRow wa g5 #[.slice AC sf.cells.length cC, .slice AO sf.outs.length cO, .slice AR sf.reads.length cR, .int .i64 sf.cyc, .int .u8 sf.op] = we at K39 K4 K5 HB HC HO HR ⊢
  refine hK.out _ _ ?_
  clear hK K
  refine pvq_ 10 (some 6) rfl rfl ?_
  refine done_ (by kernel_rfl) ?_
  go_wp2
  refine bodyPost_ret (results_list (rs := [.cell 4 26, .cell 5 34, .tmp 6]) rfl (by simp) (.cell g4 26 (aSF sf) (0, 0) _ rfl K4.out Tryz.underlying26 rfl (by kernel_rfl) (.cell g5 34 #[.slice AC sf.cells.length cC, .slice AO sf.outs.length cO, .slice AR sf.reads.length cR, .int .i64 sf.cyc, .int .u8 sf.op] (0, 0) _ rfl K5.out Tryz.underlying34 rfl (by kernel_rfl) (.tmp .nil)))) rfl ?_
  rw [HSF.out]
  exact ⟨_, _, _, rfl, Kd.R_mono HC.out (fun _ h => h.2), Kd.R_mono HO.out (fun _ h => h.2), HR.out, HB.out⟩
theorem spot_k (c : Int) (h0 : 1 ≤ c) (h1 : c ≤ 39) : spotted c = ((Isa.opN c).2.2.2.1 == 1 || ((Isa.opN c).2.2.2.1 == 3 && !((Isa.opN c).2.1.toList == ([84, 67] : List UInt8)))) := by
 have h := Isa.all_bool (f := fun c => spotted c == ((Isa.opN c).2.2.2.1 == 1 || ((Isa.opN c).2.2.2.1 == 3 && !((Isa.opN c).2.1.toList == ([84, 67] : List UInt8))))) (by kernel_rfl) h0 h1
 simpa using h
theorem step_x (w : World) (hv : VwAt w A0 A1 A2 v) (hc0 : v.e.length ≤ c0) (hc1 : v.f.length ≤ c1) (hc2 : v.c.length ≤ c2) (hk : r.Kinds) (he : sErr r v = 0) (hx : fC r v ≠ 27 → ExecOk (fC r v)) : Calls Tryz.prog 14 #[.agg (aRG r), .agg (aVB v A0 A1 A2 c0 c1 c2)] w fun e w' => ∃ vC vO vR : Value, e = .returned (.tuple #[.agg #[.int .u16 (stepN r v).r.a, .int .u16 (stepN r v).r.l, .int .u16 (stepN r v).r.q, .int .i64 (stepN r v).r.z, .int .i64 (stepN r v).r.eb, .int .i64 (stepN r v).r.fb, .int .i64 (stepN r v).r.su, .bool (stepN r v).r.ext, .int .u16 (stepN r v).r.idx, .bool (stepN r v).r.held, .int .u16 (stepN r v).r.b, .bool (stepN r v).r.inh, .bool (stepN r v).r.srv], .agg #[vC, vO, vR, .int .i64 (stepN r v).cyc, .int .u8 (stepN r v).op], .int .i64 0]) ∧ Kd.R k47 47 w' w.heap.size (fun k => some k ≠ vO.ownBlock) vC (stepN r v).cells ∧ Kd.R k47 47 w' w.heap.size (fun k => some k ≠ vC.ownBlock) vO (stepN r v).outs ∧ Kd.R k103 103 w' w.heap.size (fun _ => True) vR (stepN r v).reads ∧ Below w.heap.size w w' := by
 have hb := fC_b r v
 have hs := spot_k (fC r v) hb.1 hb.2
 have hp : ((Isa.opN 27).2.2.2.1 == 1) = false ∧ ((Isa.opN 27).2.2.2.1 == 3) = false ∧ spotted 27 = false := ⟨rfl, rfl, rfl⟩
 by_cases n27 : fC r v = 27
 · refine step_CD w hv hc0 hc1 hc2 hk he hx ?_ (Or.inr (Or.inr ⟨?_, ?_, n27⟩)) <;> rw [n27]
   · exact hp.2.2
   · exact hp.1
   · exact hp.2.1
 rcases Bool.eq_false_or_eq_true ((Isa.opN (fC r v)).2.2.2.1 == 1) with k1 | k1
 · exact step_AB w hv hc0 hc1 hc2 hk he hx (by rw [hs, k1]; rfl) n27 (Or.inl k1)
 rcases Bool.eq_false_or_eq_true ((Isa.opN (fC r v)).2.2.2.1 == 3) with k3 | k3
 · rcases Bool.eq_false_or_eq_true ((Isa.opN (fC r v)).2.1.toList == ([84, 67] : List UInt8)) with hn | hn
   case inr => exact step_AB w hv hc0 hc1 hc2 hk he hx (by rw [hs, k1, k3, hn]; rfl) n27 (Or.inr ⟨k1, k3, hn⟩)
   case inl => exact step_CD w hv hc0 hc1 hc2 hk he hx (by rw [hs, k1, k3, hn]; rfl) (Or.inl ⟨k1, k3, hn, n27⟩)
 · exact step_CD w hv hc0 hc1 hc2 hk he hx (by rw [hs, k1, k3]; rfl) (Or.inr (Or.inl ⟨k1, k3, n27⟩))
end
end Go.Proofs.YtgbmaajfbbilhaaGreat.Cpu
end
