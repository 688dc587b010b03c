/- Chapter 5: a part of its proof (cut by program out of CpuTb, CpuX); no condition. -/
import Derived.Maps.OwnSet
import Derived.Test.YthfobpkdloejfaaGreatIr19
import Derived.Test.YthfobpkdloejfaaGreatIr21
import Derived.Test.YthfobpkdloejfaaGreatIr27
import Derived.Test.YthfobpkdloejfaaGreatIr30
set_option linter.unusedVariables false
set_option linter.unusedSimpArgs false
set_option linter.unusedSectionVars false
set_option maxRecDepth 100000
set_option maxHeartbeats 8000000
section
namespace Go.Proofs.YthfobpkdloejfaaGreat.Cpu
open Go.RowKit Go.Proofs.YthfobpkdloejfaaGreat.PAll Go.Proofs.YthfobpkdloejfaaGreat.One Go.Proofs.YthfobpkdloejfaaGreat.Mem Go.Proofs.YthfobpkdloejfaaGreat.Row Go.Proofs.YthfobpkdloejfaaGreatW.PrintWords Go.Proofs.YthfobpkdloejfaaGreatW.PrintLast Go.Proofs.YthfobpkdloejfaaGreatW.PrintMore Go.Proofs.YthfobpkdloejfaaGreat.Plain
open Go.Maps Go.WideMaps
def fnum (c : Int) : Nat := [84, 86, 87, 88, 89, 85, 90, 91, 94, 95, 96, 98, 99, 102, 103, 104, 105, 106, 109, 116, 118, 120, 123, 121, 125, 122, 0, 115, 126, 112, 93, 129, 130, 131, 133, 101, 108, 128, 114].getD (c - 1).toNat 0
def meth (c : Int) : Bool := [true, false, false, false, true, true, true, false, true, true, false, false, false, true, true, true, true, false, false, false, false, false, false, false, false, false, false, true, false, false, false, true, true, false, false, false, false, false, true].getD (c - 1).toNat false
def fargs (c : Int) (p g : Nat) : Array Value := if meth c = true then #[.pointer (some ⟨p, 0, none⟩)] else #[.pointer (some ⟨g, 0, none⟩)]
def fval (c : Int) (p g : Nat) : Value := if meth c = true then .func (.func (fnum c)) #[.pointer (some ⟨p, 0, none⟩)] #[] else .func (.func (fnum c)) #[] #[.pointer (some ⟨g, 0, none⟩)]
theorem enter_c (i : Int) (i0 : 1 ≤ i) (i1 : i ≤ 39) (ni : i ≠ 27) (args : Array Value) (w : World) : (callFunc (fnum i) args).run Tryz.prog w = .ok (.enter (fnum i) args) w := by
 rcases Isa.codes i0 i1 with rfl | rfl | rfl | rfl | rfl | rfl | rfl | rfl | rfl | rfl | rfl | rfl | rfl | rfl | rfl | rfl | rfl | rfl | rfl | rfl | rfl | rfl | rfl | rfl | rfl | rfl | rfl | rfl | rfl | rfl | rfl | rfl | rfl | rfl | rfl | rfl | rfl | rfl | rfl
 · exact enters_ Tryz.func84 (by kernel_rfl) rfl args w
 · exact enters_ Tryz.func86 (by kernel_rfl) rfl args w
 · exact enters_ Tryz.func87 (by kernel_rfl) rfl args w
 · exact enters_ Tryz.func88 (by kernel_rfl) rfl args w
 · exact enters_ Tryz.func89 (by kernel_rfl) rfl args w
 · exact enters_ Tryz.func85 (by kernel_rfl) rfl args w
 · exact enters_ Tryz.func90 (by kernel_rfl) rfl args w
 · exact enters_ Tryz.func91 (by kernel_rfl) rfl args w
 · exact enters_ Tryz.func94 (by kernel_rfl) rfl args w
 · exact enters_ Tryz.func95 (by kernel_rfl) rfl args w
 · exact enters_ Tryz.func96 (by kernel_rfl) rfl args w
 · exact enters_ Tryz.func98 (by kernel_rfl) rfl args w
 · exact enters_ Tryz.func99 (by kernel_rfl) rfl args w
 · exact enters_ Tryz.func102 (by kernel_rfl) rfl args w
 · exact enters_ Tryz.func103 (by kernel_rfl) rfl args w
 · exact enters_ Tryz.func104 (by kernel_rfl) rfl args w
 · exact enters_ Tryz.func105 (by kernel_rfl) rfl args w
 · exact enters_ Tryz.func106 (by kernel_rfl) rfl args w
 · exact enters_ Tryz.func109 (by kernel_rfl) rfl args w
 · exact enters_ Tryz.func116 (by kernel_rfl) rfl args w
 · exact enters_ Tryz.func118 (by kernel_rfl) rfl args w
 · exact enters_ Tryz.func120 (by kernel_rfl) rfl args w
 · exact enters_ Tryz.func123 (by kernel_rfl) rfl args w
 · exact enters_ Tryz.func121 (by kernel_rfl) rfl args w
 · exact enters_ Tryz.func125 (by kernel_rfl) rfl args w
 · exact enters_ Tryz.func122 (by kernel_rfl) rfl args w
 · exact absurd rfl ni
 · exact enters_ Tryz.func115 (by kernel_rfl) rfl args w
 · exact enters_ Tryz.func126 (by kernel_rfl) rfl args w
 · exact enters_ Tryz.func112 (by kernel_rfl) rfl args w
 · exact enters_ Tryz.func93 (by kernel_rfl) rfl args w
 · exact enters_ Tryz.func129 (by kernel_rfl) rfl args w
 · exact enters_ Tryz.func130 (by kernel_rfl) rfl args w
 · exact enters_ Tryz.func131 (by kernel_rfl) rfl args w
 · exact enters_ Tryz.func133 (by kernel_rfl) rfl args w
 · exact enters_ Tryz.func101 (by kernel_rfl) rfl args w
 · exact enters_ Tryz.func108 (by kernel_rfl) rfl args w
 · exact enters_ Tryz.func128 (by kernel_rfl) rfl args w
 · exact enters_ Tryz.func114 (by kernel_rfl) rfl args w
def tabL (p g : Nat) : List (ByteArray × Value) := [((⟨#[84, 67]⟩ : ByteArray), fval 1 p g), ((⟨#[84, 67, 70]⟩ : ByteArray), fval 6 p g), ((⟨#[69, 88, 84, 69, 78, 68]⟩ : ByteArray), fval 2 p g), ((⟨#[73, 78, 72, 73, 78, 84]⟩ : ByteArray), fval 3 p g), ((⟨#[82, 69, 76, 73, 78, 84]⟩ : ByteArray), fval 4 p g), ((⟨#[67, 67, 83]⟩ : ByteArray), fval 5 p g), ((⟨#[68, 65, 83]⟩ : ByteArray), fval 7 p g), ((⟨#[76, 88, 67, 72]⟩ : ByteArray), fval 8 p g), ((⟨#[81, 88, 67, 72]⟩ : ByteArray), fval 31 p g), ((⟨#[73, 78, 67, 82]⟩ : ByteArray), fval 9 p g), ((⟨#[65, 68, 83]⟩ : ByteArray), fval 10 p g), ((⟨#[67, 65]⟩ : ByteArray), fval 11 p g), ((⟨#[67, 83]⟩ : ByteArray), fval 12 p g), ((⟨#[73, 78, 68, 69, 88]⟩ : ByteArray), fval 13 p g), ((⟨#[88, 73, 78, 68, 69, 88]⟩ : ByteArray), fval 36 p g), ((⟨#[82, 69, 83, 85, 77, 69]⟩ : ByteArray), fval 14 p g), ((⟨#[68, 88, 67, 72]⟩ : ByteArray), fval 15 p g), ((⟨#[84, 83]⟩ : ByteArray), fval 16 p g), ((⟨#[88, 67, 72]⟩ : ByteArray), fval 17 p g), ((⟨#[65, 68]⟩ : ByteArray), fval 18 p g), ((⟨#[83, 85]⟩ : ByteArray), fval 37 p g), ((⟨#[77, 65, 83, 75]⟩ : ByteArray), fval 19 p g), ((⟨#[77, 83, 85]⟩ : ByteArray), fval 30 p g), ((⟨#[77, 80]⟩ : ByteArray), fval 39 p g), ((⟨#[68, 86]⟩ : ByteArray), fval 28 p g), ((⟨#[82, 69, 65, 68]⟩ : ByteArray), fval 20 p g), ((⟨#[87, 82, 73, 84, 69]⟩ : ByteArray), fval 21 p g), ((⟨#[82, 65, 78, 68]⟩ : ByteArray), fval 22 p g), ((⟨#[82, 79, 82]⟩ : ByteArray), fval 24 p g), ((⟨#[82, 88, 79, 82]⟩ : ByteArray), fval 26 p g), ((⟨#[87, 65, 78, 68]⟩ : ByteArray), fval 23 p g), ((⟨#[87, 79, 82]⟩ : ByteArray), fval 25 p g), ((⟨#[66, 90, 70]⟩ : ByteArray), fval 29 p g), ((⟨#[66, 90, 77, 70]⟩ : ByteArray), fval 38 p g), ((⟨#[65, 85, 71]⟩ : ByteArray), fval 32 p g), ((⟨#[68, 73, 77]⟩ : ByteArray), fval 33 p g), ((⟨#[68, 67, 65]⟩ : ByteArray), fval 34 p g), ((⟨#[68, 67, 83]⟩ : ByteArray), fval 35 p g)]
def Dt (p g : Nat) : DataW Value := (tabL p g).foldl (fun D x => D.put (.string x.1.data.toList) (.held x.2)) (.map [])
def heldR (v : Value) : Option (DataW Value × List MemPlace) := some (.held v, [])
theorem Dt_has (p g : Nat) (i : Int) (i0 : 1 ≤ i) (i1 : i ≤ 39) : Maps.has (Dt p g) (.string (entOf i).1.data.toList) = decide (i ≠ 27) := by
 rcases Isa.codes i0 i1 with rfl | rfl | rfl | rfl | rfl | rfl | rfl | rfl | rfl | rfl | rfl | rfl | rfl | rfl | rfl | rfl | rfl | rfl | rfl | rfl | rfl | rfl | rfl | rfl | rfl | rfl | rfl | rfl | rfl | rfl | rfl | rfl | rfl | rfl | rfl | rfl | rfl | rfl | rfl <;> kernel_rfl
theorem Dt_at (p g : Nat) (i : Int) (i0 : 1 ≤ i) (i1 : i ≤ 39) (ni : i ≠ 27) : (Dt p g).atKey (.string (entOf i).1.data.toList) (.held .nilFunc) = .held (fval i p g) := by
 rcases Isa.codes i0 i1 with rfl | rfl | rfl | rfl | rfl | rfl | rfl | rfl | rfl | rfl | rfl | rfl | rfl | rfl | rfl | rfl | rfl | rfl | rfl | rfl | rfl | rfl | rfl | rfl | rfl | rfl | rfl | rfl | rfl | rfl | rfl | rfl | rfl | rfl | rfl | rfl | rfl | rfl | rfl
 · kernel_rfl
 · kernel_rfl
 · kernel_rfl
 · kernel_rfl
 · kernel_rfl
 · kernel_rfl
 · kernel_rfl
 · kernel_rfl
 · kernel_rfl
 · kernel_rfl
 · kernel_rfl
 · kernel_rfl
 · kernel_rfl
 · kernel_rfl
 · kernel_rfl
 · kernel_rfl
 · kernel_rfl
 · kernel_rfl
 · kernel_rfl
 · kernel_rfl
 · kernel_rfl
 · kernel_rfl
 · kernel_rfl
 · kernel_rfl
 · kernel_rfl
 · kernel_rfl
 · exact absurd rfl ni
 · kernel_rfl
 · kernel_rfl
 · kernel_rfl
 · kernel_rfl
 · kernel_rfl
 · kernel_rfl
 · kernel_rfl
 · kernel_rfl
 · kernel_rfl
 · kernel_rfl
 · kernel_rfl
 · kernel_rfl
theorem ent_size (i : Int) (i0 : 1 ≤ i) (i1 : i ≤ 39) : (entOf i).1.size ≤ maxLen := by
 have h : (entOf i).1.size ≤ 100 := by
  refine of_decide_eq_true (Isa.all_bool (f := fun c => decide ((entOf c).1.size ≤ 100)) (by kernel_rfl) i0 i1)
 unfold maxLen; omega
theorem zeroF (w : World) : (zeroValue 1).run Tryz.prog w = .ok .nilFunc w := by kernel_rfl
section
variable {H : Type} {P : Program} (w : World) {ops : Array Oper} {rest : List Oper} {o : Oper} {a : Act} {Q : Exit → Act → World → Prop}
theorem insert_own_ (hg : o.guard = none) (m x v : Operand) (t : TypeId) (hop : o.op = Op.insert t m x v) (k e : TypeId) (K : Keyed P k) (ht : P.underlying t = some (.map k e)) (R : Value → Option (DataW H × List MemPlace)) (b n : Nat) (D : DataW H)
 (hm : a.eval m = .map (some b)) (hown : w.ownsMap P k R b n D) (hn : n < maxLen) (key val : Value) (kl : Lit) (hx : a.eval x = key) (hv : a.eval v = val) (hkey : keyOf P k key = some kl) (d : DataW H) (ps : List MemPlace) (hval : R val = some (d, ps))
 (hK : ∀ w', w'.ownsMap P k R b (n + 1) (D.put kl d) → w.grownBy w' (some b) → wpList P ops Q rest (a.put o.dst undef) w') : wpList P ops Q (o :: rest) a w := by
 refine wpList_plain hg fun K' hK' => ?_
 obtain ⟨w', hrun, r1, r2⟩ := hown.update K ht hn hkey hval
 unfold Oper.wp
 simp [execOp, hop, hm, hx, hv, hrun, Result.andThen]
 exact hK' _ _ (hK w' r1 r2)
end
theorem fits_cell {w w1 : World} {q b : Nat} {cs : Array Value} {t : Nat} (h : w.heap[q]? = some (.cells cs t (0, 0))) (hg : w.grownBy w1 (some b)) (hne : q ≠ b) : w1.heap[q]? = some (.cells cs t (0, 0)) :=
 (hg.block q (blk_lt h) (by simpa using hne)).trans h
theorem table_c (p : Nat) (w : World) : Calls Tryz.prog 50 #[.pointer (some ⟨p, 0, none⟩)] w fun e w' => ∃ g b : Nat, e = .returned (.map (some b)) ∧ w'.ownsMap Tryz.prog 9 heldR b 38 (Dt p g) ∧ w.heap.size ≤ g ∧ w'.heap[g]? = some (.cells #[.pointer (some ⟨p, 0, none⟩)] 95 (0, 0)) ∧ Below w.heap.size w w' := by
 have HB := Aside0.mk (Below.refl w.heap.size w)
 have hmf : ∀ (fn : Fn) (first cap : Array Value) (w : World), (Instr.makeFunc fn first cap).run Tryz.prog w = .ok (.func fn first cap) w := fun _ _ _ _ => rfl
 have hmm := @run_makeMap Tryz.prog
 go_enter Tryz.func50, Tryz.ntmps50
 go_upto_region 1 with (first | (refine boxq_ 1 #[.pointer (some ⟨p, 0, none⟩)] 95 ?_; intro g1 hg w1 K hb; replace HB := hbs_ HB hb; have K1 := Aside0.mk K; have L1 := Aside0.mk (show w.heap.size ≤ g1 from by rw [hg]; exact Nat.le_refl _); clear K hb hg; (try clear x1); have x1 : w1.cell? ⟨g1, 0, none⟩ = some (.pointer (some ⟨p, 0, none⟩)) := (blk_cell K1.out 0).trans rfl))
 refine wp_region_list ?_
 simp only [List.append_eq, List.cons_append, List.nil_append]
 go_wp2_with (first | ((with_reducible refine gate_dst (N := 3) rfl ?_); refine Kd.event_run (v := .map (some w1.heap.size)) (w1 := w1.alloc (.map #[] 0)) rfl ?hr2 ?_; (case hr2 => first | kernel_rfl | (go_simp; done) | (go_simp; rfl)); have HM := Aside0.mk (World.ownsMap_made w1 Tryz.prog 9 heldR); have NE := Aside0.mk (Nat.ne_of_lt (blk_lt K1.out)); have LB := Aside0.mk HB.out.size; replace K1 := Aside0.mk (blk_alloc K1.out (.map #[] 0)); replace HB := Aside0.mk (below_alloc HB.out (.map #[] 0)); obtain ⟨b, hb⟩ : ∃ x, w1.heap.size = x := ⟨_, rfl⟩; rw [hb] at HM NE LB ⊢; clear hb x1; generalize World.alloc w1 _ = wm at HM K1 HB ⊢; (try clear x1); have x1 : wm.cell? ⟨g1, 0, none⟩ = some (.pointer (some ⟨p, 0, none⟩)) := (blk_cell K1.out 0).trans rfl) | (refine insert_own_ _ rfl _ _ _ 99 rfl 9 1 law9 Tryz.underlying99 heldR b _ _ rfl HM.out ?hn _ _ _ rfl rfl (key9 _ ?hz) _ [] rfl ?_; (case hn => (unfold maxLen; omega)); (case hz => (unfold maxLen; decide)); intro w2 hm hg; replace HM := Aside0.mk hm; replace K1 := Aside0.mk (fits_cell K1.out hg NE.out); replace HB := Aside0.mk (HB.out.grown hg HB.out.size (fun j hj => by cases hj; exact LB.out)); clear hm hg x1; (try clear x1); have x1 : w2.cell? ⟨g1, 0, none⟩ = some (.pointer (some ⟨p, 0, none⟩)) := (blk_cell K1.out 0).trans rfl))
 go_ret
 exact ⟨g1, b, rfl, HM.out, L1.out, K1.out, HB.out⟩
end Go.Proofs.YthfobpkdloejfaaGreat.Cpu
end
section
namespace Go.Proofs.YthfobpkdloejfaaGreat.Cpu
open Go.RowKit Go.Proofs.YthfobpkdloejfaaGreat.PAll Go.Proofs.YthfobpkdloejfaaGreat.One Go.Proofs.YthfobpkdloejfaaGreat.Mem Go.Proofs.YthfobpkdloejfaaGreat.Row Go.Proofs.YthfobpkdloejfaaGreatW.PrintWords Go.Proofs.YthfobpkdloejfaaGreatW.PrintLast Go.Proofs.YthfobpkdloejfaaGreatW.PrintMore Go.Proofs.YthfobpkdloejfaaGreat.Plain
open Go.Maps Go.WideMaps
theorem loc_b2 {r : Rg} (ok : r.Ok) (k : Int) (h : (locN r k).2 = 0) : 0 ≤ (locN r k).1.f1 ∧ (locN r k).1.f1 < 40000 := by
 have := ok.f0; have := ok.f1; have := ok.s0; have := ok.s1; have := ok.e0; have := ok.e1
 unfold locN at *
 split at h
 · simp at h
 · rename_i g
   rw [if_neg g]
   have hb : bankE r.fb r.su = 0 ∨ ¬ (1024 ≤ k ∧ k ≤ 2047) := by
    by_cases a : bankE r.fb r.su = 0
    · exact Or.inl a
    · exact Or.inr (fun b => g ⟨a, b.1, b.2⟩)
   simp only [absE] at h
   simp only [absA]
   split at h
   · simp at h
   · rename_i g2
     rw [if_neg g2]
     unfold bankE bankN at *
     repeat' split
     all_goals omega
def ExecOk (i : Int) : Prop := ∀ (c : Cx) (n : Nat) (st : St) (w : World), c.P n st w → st.r.Ok → 0 ≤ st.sp.f1 → st.sp.f1 < 40000 → 0 ≤ st.k → n ≤ 60 → Calls Tryz.prog (fnum i) (fargs i c.p c.g) w fun e w' => e = .returned (.tuple #[]) ∧ ∃ m, c.P m (exec st c.v i) w'
theorem ex_1 {c : Cx} {n : Nat} {st : St} {w : World} (h : c.P n st w) (ok : st.r.Ok) (h0 : 0 ≤ st.sp.f1) (h9 : st.sp.f1 < 40000) (k0 : 0 ≤ st.k) (hn : n ≤ 60) : Calls Tryz.prog 84 #[.pointer (some ⟨c.p, 0, none⟩)] w fun e w' => e = .returned (.tuple #[]) ∧ ∃ m, c.P m (exec st c.v 1) w' := by
 exact (tc_c h ok).mono (fun e w' h => ⟨h.1, _, h.2⟩)
theorem ex_2 {c : Cx} {n : Nat} {st : St} {w : World} (h : c.P n st w) (ok : st.r.Ok) (h0 : 0 ≤ st.sp.f1) (h9 : st.sp.f1 < 40000) (k0 : 0 ≤ st.k) (hn : n ≤ 60) : Calls Tryz.prog 86 #[.pointer (some ⟨c.g, 0, none⟩)] w fun e w' => e = .returned (.tuple #[]) ∧ ∃ m, c.P m (exec st c.v 2) w' := by
 exact (extend_c h).mono (fun e w' h => ⟨h.1, _, h.2⟩)
theorem ex_3 {c : Cx} {n : Nat} {st : St} {w : World} (h : c.P n st w) (ok : st.r.Ok) (h0 : 0 ≤ st.sp.f1) (h9 : st.sp.f1 < 40000) (k0 : 0 ≤ st.k) (hn : n ≤ 60) : Calls Tryz.prog 87 #[.pointer (some ⟨c.g, 0, none⟩)] w fun e w' => e = .returned (.tuple #[]) ∧ ∃ m, c.P m (exec st c.v 3) w' := by
 exact (inhint_c h).mono (fun e w' h => ⟨h.1, _, h.2⟩)
theorem ex_4 {c : Cx} {n : Nat} {st : St} {w : World} (h : c.P n st w) (ok : st.r.Ok) (h0 : 0 ≤ st.sp.f1) (h9 : st.sp.f1 < 40000) (k0 : 0 ≤ st.k) (hn : n ≤ 60) : Calls Tryz.prog 88 #[.pointer (some ⟨c.g, 0, none⟩)] w fun e w' => e = .returned (.tuple #[]) ∧ ∃ m, c.P m (exec st c.v 4) w' := by
 exact (relint_c h).mono (fun e w' h => ⟨h.1, _, h.2⟩)
theorem ex_5 {c : Cx} {n : Nat} {st : St} {w : World} (h : c.P n st w) (ok : st.r.Ok) (h0 : 0 ≤ st.sp.f1) (h9 : st.sp.f1 < 40000) (k0 : 0 ≤ st.k) (hn : n ≤ 60) : Calls Tryz.prog 89 #[.pointer (some ⟨c.p, 0, none⟩)] w fun e w' => e = .returned (.tuple #[]) ∧ ∃ m, c.P m (exec st c.v 5) w' := by
 exact (ccs_c h ok h0 (by omega)).mono (fun e w' h => ⟨h.1, _, h.2⟩)
theorem ex_6 {c : Cx} {n : Nat} {st : St} {w : World} (h : c.P n st w) (ok : st.r.Ok) (h0 : 0 ≤ st.sp.f1) (h9 : st.sp.f1 < 40000) (k0 : 0 ≤ st.k) (hn : n ≤ 60) : Calls Tryz.prog 85 #[.pointer (some ⟨c.p, 0, none⟩)] w fun e w' => e = .returned (.tuple #[]) ∧ ∃ m, c.P m (exec st c.v 6) w' := by
 exact (tcf_c h).mono (fun e w' h => ⟨h.1, _, h.2⟩)
theorem ex_7 {c : Cx} {n : Nat} {st : St} {w : World} (h : c.P n st w) (ok : st.r.Ok) (h0 : 0 ≤ st.sp.f1) (h9 : st.sp.f1 < 40000) (k0 : 0 ≤ st.k) (hn : n ≤ 60) : Calls Tryz.prog 90 #[.pointer (some ⟨c.p, 0, none⟩)] w fun e w' => e = .returned (.tuple #[]) ∧ ∃ m, c.P m (exec st c.v 7) w' := by
 by_cases hf : st.sp.f1 = 0
 · exact (das_0 h ok h0 h9 (by omega) hf).mono (fun e w' h => ⟨h.1, _, h.2⟩)
 · exact (das_1 h ok h0 h9 (by omega) hf).mono (fun e w' h => ⟨h.1, _, h.2⟩)
theorem ex_8 {c : Cx} {n : Nat} {st : St} {w : World} (h : c.P n st w) (ok : st.r.Ok) (h0 : 0 ≤ st.sp.f1) (h9 : st.sp.f1 < 40000) (k0 : 0 ≤ st.k) (hn : n ≤ 60) : Calls Tryz.prog 91 #[.pointer (some ⟨c.g, 0, none⟩)] w fun e w' => e = .returned (.tuple #[]) ∧ ∃ m, c.P m (exec st c.v 8) w' := by
 exact (lxch_c h ok h0 (by omega)).mono (fun e w' h => ⟨h.1, _, h.2⟩)
theorem ex_9 {c : Cx} {n : Nat} {st : St} {w : World} (h : c.P n st w) (ok : st.r.Ok) (h0 : 0 ≤ st.sp.f1) (h9 : st.sp.f1 < 40000) (k0 : 0 ≤ st.k) (hn : n ≤ 60) : Calls Tryz.prog 94 #[.pointer (some ⟨c.p, 0, none⟩)] w fun e w' => e = .returned (.tuple #[]) ∧ ∃ m, c.P m (exec st c.v 9) w' := by
 exact (incr_c h ok h0 (by omega)).mono (fun e w' h => ⟨h.1, _, h.2⟩)
theorem ex_10 {c : Cx} {n : Nat} {st : St} {w : World} (h : c.P n st w) (ok : st.r.Ok) (h0 : 0 ≤ st.sp.f1) (h9 : st.sp.f1 < 40000) (k0 : 0 ≤ st.k) (hn : n ≤ 60) : Calls Tryz.prog 95 #[.pointer (some ⟨c.p, 0, none⟩)] w fun e w' => e = .returned (.tuple #[]) ∧ ∃ m, c.P m (exec st c.v 10) w' := by
 exact (ads_c h ok h0 (by omega)).mono (fun e w' h => ⟨h.1, _, h.2⟩)
theorem ex_11 {c : Cx} {n : Nat} {st : St} {w : World} (h : c.P n st w) (ok : st.r.Ok) (h0 : 0 ≤ st.sp.f1) (h9 : st.sp.f1 < 40000) (k0 : 0 ≤ st.k) (hn : n ≤ 60) : Calls Tryz.prog 96 #[.pointer (some ⟨c.g, 0, none⟩)] w fun e w' => e = .returned (.tuple #[]) ∧ ∃ m, c.P m (exec st c.v 11) w' := by
 exact (ca_c h ok h0 (by omega)).mono (fun e w' h => ⟨h.1, _, h.2⟩)
theorem ex_12 {c : Cx} {n : Nat} {st : St} {w : World} (h : c.P n st w) (ok : st.r.Ok) (h0 : 0 ≤ st.sp.f1) (h9 : st.sp.f1 < 40000) (k0 : 0 ≤ st.k) (hn : n ≤ 60) : Calls Tryz.prog 98 #[.pointer (some ⟨c.g, 0, none⟩)] w fun e w' => e = .returned (.tuple #[]) ∧ ∃ m, c.P m (exec st c.v 12) w' := by
 exact (cs_c h ok h0 (by omega)).mono (fun e w' h => ⟨h.1, _, h.2⟩)
theorem ex_13 {c : Cx} {n : Nat} {st : St} {w : World} (h : c.P n st w) (ok : st.r.Ok) (h0 : 0 ≤ st.sp.f1) (h9 : st.sp.f1 < 40000) (k0 : 0 ≤ st.k) (hn : n ≤ 60) : Calls Tryz.prog 99 #[.pointer (some ⟨c.g, 0, none⟩)] w fun e w' => e = .returned (.tuple #[]) ∧ ∃ m, c.P m (exec st c.v 13) w' := by
 exact (index_c h ok h0 (by omega)).mono (fun e w' h => ⟨h.1, _, h.2⟩)
theorem ex_14 {c : Cx} {n : Nat} {st : St} {w : World} (h : c.P n st w) (ok : st.r.Ok) (h0 : 0 ≤ st.sp.f1) (h9 : st.sp.f1 < 40000) (k0 : 0 ≤ st.k) (hn : n ≤ 60) : Calls Tryz.prog 102 #[.pointer (some ⟨c.p, 0, none⟩)] w fun e w' => e = .returned (.tuple #[]) ∧ ∃ m, c.P m (exec st c.v 14) w' := by
 exact (resume_c h ok (by omega)).mono (fun e w' h => ⟨h.1, _, h.2⟩)
theorem ex_15 {c : Cx} {n : Nat} {st : St} {w : World} (h : c.P n st w) (ok : st.r.Ok) (h0 : 0 ≤ st.sp.f1) (h9 : st.sp.f1 < 40000) (k0 : 0 ≤ st.k) (hn : n ≤ 60) : Calls Tryz.prog 103 #[.pointer (some ⟨c.p, 0, none⟩)] w fun e w' => e = .returned (.tuple #[]) ∧ ∃ m, c.P m (exec st c.v 15) w' := by
 exact (dxch_c h ok h0 h9 (by omega)).mono (fun e w' h => ⟨h.1, _, h.2⟩)
theorem ex_16 {c : Cx} {n : Nat} {st : St} {w : World} (h : c.P n st w) (ok : st.r.Ok) (h0 : 0 ≤ st.sp.f1) (h9 : st.sp.f1 < 40000) (k0 : 0 ≤ st.k) (hn : n ≤ 60) : Calls Tryz.prog 104 #[.pointer (some ⟨c.p, 0, none⟩)] w fun e w' => e = .returned (.tuple #[]) ∧ ∃ m, c.P m (exec st c.v 16) w' := by
 exact (ts_c h ok h0 (by omega)).mono (fun e w' h => ⟨h.1, _, h.2⟩)
theorem ex_17 {c : Cx} {n : Nat} {st : St} {w : World} (h : c.P n st w) (ok : st.r.Ok) (h0 : 0 ≤ st.sp.f1) (h9 : st.sp.f1 < 40000) (k0 : 0 ≤ st.k) (hn : n ≤ 60) : Calls Tryz.prog 105 #[.pointer (some ⟨c.p, 0, none⟩)] w fun e w' => e = .returned (.tuple #[]) ∧ ∃ m, c.P m (exec st c.v 17) w' := by
 exact (xch_c h ok h0 (by omega)).mono (fun e w' h => ⟨h.1, _, h.2⟩)
theorem ex_18 {c : Cx} {n : Nat} {st : St} {w : World} (h : c.P n st w) (ok : st.r.Ok) (h0 : 0 ≤ st.sp.f1) (h9 : st.sp.f1 < 40000) (k0 : 0 ≤ st.k) (hn : n ≤ 60) : Calls Tryz.prog 106 #[.pointer (some ⟨c.g, 0, none⟩)] w fun e w' => e = .returned (.tuple #[]) ∧ ∃ m, c.P m (exec st c.v 18) w' := by
 exact (ad_c h ok h0 (by omega)).mono (fun e w' h => ⟨h.1, _, h.2⟩)
theorem ex_19 {c : Cx} {n : Nat} {st : St} {w : World} (h : c.P n st w) (ok : st.r.Ok) (h0 : 0 ≤ st.sp.f1) (h9 : st.sp.f1 < 40000) (k0 : 0 ≤ st.k) (hn : n ≤ 60) : Calls Tryz.prog 109 #[.pointer (some ⟨c.g, 0, none⟩)] w fun e w' => e = .returned (.tuple #[]) ∧ ∃ m, c.P m (exec st c.v 19) w' := by
 exact (mask_c h ok h0 (by omega)).mono (fun e w' h => ⟨h.1, _, h.2⟩)
theorem ex_20 {c : Cx} {n : Nat} {st : St} {w : World} (h : c.P n st w) (ok : st.r.Ok) (h0 : 0 ≤ st.sp.f1) (h9 : st.sp.f1 < 40000) (k0 : 0 ≤ st.k) (hn : n ≤ 60) : Calls Tryz.prog 116 #[.pointer (some ⟨c.g, 0, none⟩)] w fun e w' => e = .returned (.tuple #[]) ∧ ∃ m, c.P m (exec st c.v 20) w' := by
 exact (read_i h ok k0 (by omega)).mono (fun e w' h => ⟨h.1, _, h.2⟩)
theorem ex_21 {c : Cx} {n : Nat} {st : St} {w : World} (h : c.P n st w) (ok : st.r.Ok) (h0 : 0 ≤ st.sp.f1) (h9 : st.sp.f1 < 40000) (k0 : 0 ≤ st.k) (hn : n ≤ 60) : Calls Tryz.prog 118 #[.pointer (some ⟨c.g, 0, none⟩)] w fun e w' => e = .returned (.tuple #[]) ∧ ∃ m, c.P m (exec st c.v 21) w' := by
 exact (write_i h ok k0 (by omega)).mono (fun e w' h => ⟨h.1, _, h.2⟩)
theorem ex_22 {c : Cx} {n : Nat} {st : St} {w : World} (h : c.P n st w) (ok : st.r.Ok) (h0 : 0 ≤ st.sp.f1) (h9 : st.sp.f1 < 40000) (k0 : 0 ≤ st.k) (hn : n ≤ 60) : Calls Tryz.prog 120 #[.pointer (some ⟨c.g, 0, none⟩)] w fun e w' => e = .returned (.tuple #[]) ∧ ∃ m, c.P m (exec st c.v 22) w' := by
 exact (rand_i h ok k0 (by omega)).mono (fun e w' h => ⟨h.1, _, h.2⟩)
theorem ex_23 {c : Cx} {n : Nat} {st : St} {w : World} (h : c.P n st w) (ok : st.r.Ok) (h0 : 0 ≤ st.sp.f1) (h9 : st.sp.f1 < 40000) (k0 : 0 ≤ st.k) (hn : n ≤ 60) : Calls Tryz.prog 123 #[.pointer (some ⟨c.g, 0, none⟩)] w fun e w' => e = .returned (.tuple #[]) ∧ ∃ m, c.P m (exec st c.v 23) w' := by
 exact (wand_i h ok k0 (by omega)).mono (fun e w' h => ⟨h.1, _, h.2⟩)
theorem ex_24 {c : Cx} {n : Nat} {st : St} {w : World} (h : c.P n st w) (ok : st.r.Ok) (h0 : 0 ≤ st.sp.f1) (h9 : st.sp.f1 < 40000) (k0 : 0 ≤ st.k) (hn : n ≤ 60) : Calls Tryz.prog 121 #[.pointer (some ⟨c.g, 0, none⟩)] w fun e w' => e = .returned (.tuple #[]) ∧ ∃ m, c.P m (exec st c.v 24) w' := by
 exact (ror_i h ok k0 (by omega)).mono (fun e w' h => ⟨h.1, _, h.2⟩)
theorem ex_25 {c : Cx} {n : Nat} {st : St} {w : World} (h : c.P n st w) (ok : st.r.Ok) (h0 : 0 ≤ st.sp.f1) (h9 : st.sp.f1 < 40000) (k0 : 0 ≤ st.k) (hn : n ≤ 60) : Calls Tryz.prog 125 #[.pointer (some ⟨c.g, 0, none⟩)] w fun e w' => e = .returned (.tuple #[]) ∧ ∃ m, c.P m (exec st c.v 25) w' := by
 exact (wor_i h ok k0 (by omega)).mono (fun e w' h => ⟨h.1, _, h.2⟩)
theorem ex_26 {c : Cx} {n : Nat} {st : St} {w : World} (h : c.P n st w) (ok : st.r.Ok) (h0 : 0 ≤ st.sp.f1) (h9 : st.sp.f1 < 40000) (k0 : 0 ≤ st.k) (hn : n ≤ 60) : Calls Tryz.prog 122 #[.pointer (some ⟨c.g, 0, none⟩)] w fun e w' => e = .returned (.tuple #[]) ∧ ∃ m, c.P m (exec st c.v 26) w' := by
 exact (rxor_i h ok k0 (by omega)).mono (fun e w' h => ⟨h.1, _, h.2⟩)
theorem ex_28 {c : Cx} {n : Nat} {st : St} {w : World} (h : c.P n st w) (ok : st.r.Ok) (h0 : 0 ≤ st.sp.f1) (h9 : st.sp.f1 < 40000) (k0 : 0 ≤ st.k) (hn : n ≤ 60) : Calls Tryz.prog 115 #[.pointer (some ⟨c.p, 0, none⟩)] w fun e w' => e = .returned (.tuple #[]) ∧ ∃ m, c.P m (exec st c.v 28) w' := by
 exact (dv_c h ok h0 (by omega)).mono (fun e w' h => ⟨h.1, _, h.2⟩)
theorem ex_29 {c : Cx} {n : Nat} {st : St} {w : World} (h : c.P n st w) (ok : st.r.Ok) (h0 : 0 ≤ st.sp.f1) (h9 : st.sp.f1 < 40000) (k0 : 0 ≤ st.k) (hn : n ≤ 60) : Calls Tryz.prog 126 #[.pointer (some ⟨c.g, 0, none⟩)] w fun e w' => e = .returned (.tuple #[]) ∧ ∃ m, c.P m (exec st c.v 29) w' := by
 exact (bzf_c h ok).mono (fun e w' h => ⟨h.1, _, h.2⟩)
theorem ex_30 {c : Cx} {n : Nat} {st : St} {w : World} (h : c.P n st w) (ok : st.r.Ok) (h0 : 0 ≤ st.sp.f1) (h9 : st.sp.f1 < 40000) (k0 : 0 ≤ st.k) (hn : n ≤ 60) : Calls Tryz.prog 112 #[.pointer (some ⟨c.g, 0, none⟩)] w fun e w' => e = .returned (.tuple #[]) ∧ ∃ m, c.P m (exec st c.v 30) w' := by
 exact (msu_c h ok h0 (by omega)).mono (fun e w' h => ⟨h.1, _, h.2⟩)
theorem ex_31 {c : Cx} {n : Nat} {st : St} {w : World} (h : c.P n st w) (ok : st.r.Ok) (h0 : 0 ≤ st.sp.f1) (h9 : st.sp.f1 < 40000) (k0 : 0 ≤ st.k) (hn : n ≤ 60) : Calls Tryz.prog 93 #[.pointer (some ⟨c.g, 0, none⟩)] w fun e w' => e = .returned (.tuple #[]) ∧ ∃ m, c.P m (exec st c.v 31) w' := by
 exact (qxch_c h ok h0 (by omega)).mono (fun e w' h => ⟨h.1, _, h.2⟩)
theorem ex_32 {c : Cx} {n : Nat} {st : St} {w : World} (h : c.P n st w) (ok : st.r.Ok) (h0 : 0 ≤ st.sp.f1) (h9 : st.sp.f1 < 40000) (k0 : 0 ≤ st.k) (hn : n ≤ 60) : Calls Tryz.prog 129 #[.pointer (some ⟨c.p, 0, none⟩)] w fun e w' => e = .returned (.tuple #[]) ∧ ∃ m, c.P m (exec st c.v 32) w' := by
 exact (aug_c h ok h0 (by omega)).mono (fun e w' h => ⟨h.1, _, h.2⟩)
theorem ex_33 {c : Cx} {n : Nat} {st : St} {w : World} (h : c.P n st w) (ok : st.r.Ok) (h0 : 0 ≤ st.sp.f1) (h9 : st.sp.f1 < 40000) (k0 : 0 ≤ st.k) (hn : n ≤ 60) : Calls Tryz.prog 130 #[.pointer (some ⟨c.p, 0, none⟩)] w fun e w' => e = .returned (.tuple #[]) ∧ ∃ m, c.P m (exec st c.v 33) w' := by
 exact (dim_i h ok h0 (by omega)).mono (fun e w' h => ⟨h.1, _, h.2⟩)
theorem ex_34 {c : Cx} {n : Nat} {st : St} {w : World} (h : c.P n st w) (ok : st.r.Ok) (h0 : 0 ≤ st.sp.f1) (h9 : st.sp.f1 < 40000) (k0 : 0 ≤ st.k) (hn : n ≤ 60) : Calls Tryz.prog 131 #[.pointer (some ⟨c.g, 0, none⟩)] w fun e w' => e = .returned (.tuple #[]) ∧ ∃ m, c.P m (exec st c.v 34) w' := by
 exact (dca_c h ok h0 h9 (by omega)).mono (fun e w' h => ⟨h.1, _, h.2⟩)
theorem ex_35 {c : Cx} {n : Nat} {st : St} {w : World} (h : c.P n st w) (ok : st.r.Ok) (h0 : 0 ≤ st.sp.f1) (h9 : st.sp.f1 < 40000) (k0 : 0 ≤ st.k) (hn : n ≤ 60) : Calls Tryz.prog 133 #[.pointer (some ⟨c.g, 0, none⟩)] w fun e w' => e = .returned (.tuple #[]) ∧ ∃ m, c.P m (exec st c.v 35) w' := by
 exact (dcs_c h ok h0 h9 (by omega)).mono (fun e w' h => ⟨h.1, _, h.2⟩)
theorem ex_36 {c : Cx} {n : Nat} {st : St} {w : World} (h : c.P n st w) (ok : st.r.Ok) (h0 : 0 ≤ st.sp.f1) (h9 : st.sp.f1 < 40000) (k0 : 0 ≤ st.k) (hn : n ≤ 60) : Calls Tryz.prog 101 #[.pointer (some ⟨c.g, 0, none⟩)] w fun e w' => e = .returned (.tuple #[]) ∧ ∃ m, c.P m (exec st c.v 36) w' := by
 exact (xindex_c h ok h0 (by omega)).mono (fun e w' h => ⟨h.1, _, h.2⟩)
theorem ex_37 {c : Cx} {n : Nat} {st : St} {w : World} (h : c.P n st w) (ok : st.r.Ok) (h0 : 0 ≤ st.sp.f1) (h9 : st.sp.f1 < 40000) (k0 : 0 ≤ st.k) (hn : n ≤ 60) : Calls Tryz.prog 108 #[.pointer (some ⟨c.g, 0, none⟩)] w fun e w' => e = .returned (.tuple #[]) ∧ ∃ m, c.P m (exec st c.v 37) w' := by
 exact (su_c h ok h0 (by omega)).mono (fun e w' h => ⟨h.1, _, h.2⟩)
theorem ex_38 {c : Cx} {n : Nat} {st : St} {w : World} (h : c.P n st w) (ok : st.r.Ok) (h0 : 0 ≤ st.sp.f1) (h9 : st.sp.f1 < 40000) (k0 : 0 ≤ st.k) (hn : n ≤ 60) : Calls Tryz.prog 128 #[.pointer (some ⟨c.g, 0, none⟩)] w fun e w' => e = .returned (.tuple #[]) ∧ ∃ m, c.P m (exec st c.v 38) w' := by
 exact (bzmf_c h ok).mono (fun e w' h => ⟨h.1, _, h.2⟩)
theorem ex_39 {c : Cx} {n : Nat} {st : St} {w : World} (h : c.P n st w) (ok : st.r.Ok) (h0 : 0 ≤ st.sp.f1) (h9 : st.sp.f1 < 40000) (k0 : 0 ≤ st.k) (hn : n ≤ 60) : Calls Tryz.prog 114 #[.pointer (some ⟨c.p, 0, none⟩)] w fun e w' => e = .returned (.tuple #[]) ∧ ∃ m, c.P m (exec st c.v 39) w' := by
 exact (mp_c h ok h0 (by omega)).mono (fun e w' h => ⟨h.1, _, h.2⟩)
theorem exec_c {c : Cx} {n : Nat} {st : St} {w : World} (i : Int) (i0 : 1 ≤ i) (i1 : i ≤ 39) (ni : i ≠ 27) (h : c.P n st w) (ok : st.r.Ok) (h0 : 0 ≤ st.sp.f1) (h9 : st.sp.f1 < 40000) (k0 : 0 ≤ st.k) (hn : n ≤ 60) : Calls Tryz.prog (fnum i) (fargs i c.p c.g) w fun e w' => e = .returned (.tuple #[]) ∧ ∃ m, c.P m (exec st c.v i) w' := by
 rcases Isa.codes i0 i1 with rfl | rfl | rfl | rfl | rfl | rfl | rfl | rfl | rfl | rfl | rfl | rfl | rfl | rfl | rfl | rfl | rfl | rfl | rfl | rfl | rfl | rfl | rfl | rfl | rfl | rfl | rfl | rfl | rfl | rfl | rfl | rfl | rfl | rfl | rfl | rfl | rfl | rfl | rfl
 · exact ex_1 h ok h0 h9 k0 hn
 · exact ex_2 h ok h0 h9 k0 hn
 · exact ex_3 h ok h0 h9 k0 hn
 · exact ex_4 h ok h0 h9 k0 hn
 · exact ex_5 h ok h0 h9 k0 hn
 · exact ex_6 h ok h0 h9 k0 hn
 · exact ex_7 h ok h0 h9 k0 hn
 · exact ex_8 h ok h0 h9 k0 hn
 · exact ex_9 h ok h0 h9 k0 hn
 · exact ex_10 h ok h0 h9 k0 hn
 · exact ex_11 h ok h0 h9 k0 hn
 · exact ex_12 h ok h0 h9 k0 hn
 · exact ex_13 h ok h0 h9 k0 hn
 · exact ex_14 h ok h0 h9 k0 hn
 · exact ex_15 h ok h0 h9 k0 hn
 · exact ex_16 h ok h0 h9 k0 hn
 · exact ex_17 h ok h0 h9 k0 hn
 · exact ex_18 h ok h0 h9 k0 hn
 · exact ex_19 h ok h0 h9 k0 hn
 · exact ex_20 h ok h0 h9 k0 hn
 · exact ex_21 h ok h0 h9 k0 hn
 · exact ex_22 h ok h0 h9 k0 hn
 · exact ex_23 h ok h0 h9 k0 hn
 · exact ex_24 h ok h0 h9 k0 hn
 · exact ex_25 h ok h0 h9 k0 hn
 · exact ex_26 h ok h0 h9 k0 hn
 · exact absurd rfl ni
 · exact ex_28 h ok h0 h9 k0 hn
 · exact ex_29 h ok h0 h9 k0 hn
 · exact ex_30 h ok h0 h9 k0 hn
 · exact ex_31 h ok h0 h9 k0 hn
 · exact ex_32 h ok h0 h9 k0 hn
 · exact ex_33 h ok h0 h9 k0 hn
 · exact ex_34 h ok h0 h9 k0 hn
 · exact ex_35 h ok h0 h9 k0 hn
 · exact ex_36 h ok h0 h9 k0 hn
 · exact ex_37 h ok h0 h9 k0 hn
 · exact ex_38 h ok h0 h9 k0 hn
 · exact ex_39 h ok h0 h9 k0 hn
theorem exec_ok {i : Int} (i0 : 1 ≤ i) (i1 : i ≤ 39) (ni : i ≠ 27) : ExecOk i := fun _ _ _ _ h ok h0 h9 k0 hn => exec_c i i0 i1 ni h ok h0 h9 k0 hn
end Go.Proofs.YthfobpkdloejfaaGreat.Cpu
end
