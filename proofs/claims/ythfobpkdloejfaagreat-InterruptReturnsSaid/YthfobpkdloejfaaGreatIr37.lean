/- Chapter 5: a part of its proof (cut by program out of CpuZ, FP, CpuLP, CpuLo); no condition. -/
import Derived.Test.YthfobpkdloejfaaGreatIr33
import Derived.Test.YthfobpkdloejfaaGreatIr35
import Derived.Test.YthfobpkdloejfaaGreatIr36
set_option linter.unusedVariables false
set_option linter.unusedSimpArgs false
set_option linter.unusedSectionVars false
set_option maxRecDepth 100000
set_option maxHeartbeats 8000000
section
namespace Go.Proofs.YthfobpkdloejfaaGreat.Cpu
open Go.RowKit Go.Proofs.YthfobpkdloejfaaGreat.PAll Go.Proofs.YthfobpkdloejfaaGreat.One Go.Proofs.YthfobpkdloejfaaGreat.Mem Go.Proofs.YthfobpkdloejfaaGreatW.PrintWords Go.Proofs.YthfobpkdloejfaaGreatW.PrintLast Go.Proofs.YthfobpkdloejfaaGreatW.PrintMore Go.Proofs.YthfobpkdloejfaaGreat.Plain
def AgAt (v u : Vw) (x : Sp) : Prop := (x.f0 = 2 → elemN u.f x.f1 = elemN v.f x.f1) ∧ (x.f0 ≠ 2 → 8 ≤ x.f1 → elemN u.e x.f1 = elemN v.e x.f1)
theorem look_fl (r r' : Rg) (v u : Vw) (x : Sp) : (lookN r u x).2 = (lookN r' v x).2 := by
 unfold lookN
 split
 · rfl
 · split <;> rfl
theorem look_ag {r : Rg} {v u : Vw} {x : Sp} (h : (lookN r v x).2 = true → AgAt v u x) : lookN r u x = lookN r v x := by
 unfold lookN at *
 split at h
 · rename_i c
   rw [if_pos c, if_pos c, (h rfl).1 c]
 · rename_i c
   rw [if_neg c, if_neg c]
   split at h
   · rename_i d
     rw [if_pos d, if_pos d]
   · rename_i d
     rw [if_neg d, if_neg d, (h rfl).2 c (by omega)]
theorem put_reads (st : St) (i x : Int) : (st.put i x).reads = st.reads := by unfold St.put; split <;> rfl
theorem out_reads (st : St) (x : Int) : (st.out x).reads = st.reads := by unfold St.out; repeat' split
                                                                          all_goals rfl
theorem see_in (st : St) (v : Vw) (x : Sp) : ∀ y ∈ st.reads, y ∈ (st.see v x).reads := by
 intro y hy
 show y ∈ (if (lookN st.r v x).2 then st.reads ++ [x] else st.reads)
 split
 · exact List.mem_append_left _ hy
 · exact hy
theorem see_at {st : St} {v : Vw} {x : Sp} (r : Rg) (h : (lookN r v x).2 = true) : x ∈ (st.see v x).reads := by
 show x ∈ (if (lookN st.r v x).2 then st.reads ++ [x] else st.reads)
 rw [look_fl st.r r v v, if_pos h]
 exact List.mem_append_right _ (List.mem_singleton.2 rfl)
theorem see_u (st : St) (v u : Vw) (x : Sp) : st.see u x = st.see v x := by unfold St.see; rw [look_fl st.r st.r v u x]
section
variable (st : St) (v u : Vw)
theorem xCcs_u (h : ∀ x ∈ (xCcs st v).reads, AgAt v u x) : xCcs st u = xCcs st v := by
 have a : lookN st.r u st.sp = lookN st.r v st.sp := look_ag (fun hf => h _ ((by show st.sp ∈ (xCcs st v).reads; unfold xCcs; first | exact see_at _ hf | (show st.sp ∈ (St.put _ _ _).reads; rw [put_reads]; exact see_at _ hf))))
 unfold xCcs; rw [show st.rd u = st.rd v from see_u st v u _]; simp only [rdA, rdW, a]
theorem xXch_m : ∀ y ∈ st.reads, y ∈ (xXch st v).reads := fun y hy => by (unfold xXch; first | exact see_in st v _ y hy | (show y ∈ (St.put _ _ _).reads; rw [put_reads]; exact see_in st v _ y hy))
theorem xXch_u (h : ∀ x ∈ (xXch st v).reads, AgAt v u x) : xXch st u = xXch st v := by
 have a : lookN st.r u st.sp = lookN st.r v st.sp := look_ag (fun hf => h _ ((by show st.sp ∈ (xXch st v).reads; unfold xXch; first | exact see_at _ hf | (show st.sp ∈ (St.put _ _ _).reads; rw [put_reads]; exact see_at _ hf))))
 unfold xXch; rw [show st.rd u = st.rd v from see_u st v u _]; simp only [rdA, rdW, a]
theorem xLxch_u (h : ∀ x ∈ (xLxch st v).reads, AgAt v u x) : xLxch st u = xLxch st v := by
 have a : lookN st.r u st.sp = lookN st.r v st.sp := look_ag (fun hf => h _ ((by show st.sp ∈ (xLxch st v).reads; unfold xLxch; first | exact see_at _ hf | (show st.sp ∈ (St.put _ _ _).reads; rw [put_reads]; exact see_at _ hf))))
 unfold xLxch; rw [show st.rd u = st.rd v from see_u st v u _]; simp only [rdA, rdW, a]
theorem xQxch_u (h : ∀ x ∈ (xQxch st v).reads, AgAt v u x) : xQxch st u = xQxch st v := by
 have a : lookN st.r u st.sp = lookN st.r v st.sp := look_ag (fun hf => h _ ((by show st.sp ∈ (xQxch st v).reads; unfold xQxch; first | exact see_at _ hf | (show st.sp ∈ (St.put _ _ _).reads; rw [put_reads]; exact see_at _ hf))))
 unfold xQxch; rw [show st.rd u = st.rd v from see_u st v u _]; simp only [rdA, rdW, a]
theorem xIncr_u (h : ∀ x ∈ (xIncr st v).reads, AgAt v u x) : xIncr st u = xIncr st v := by
 have a : lookN st.r u st.sp = lookN st.r v st.sp := look_ag (fun hf => h _ ((by show st.sp ∈ (xIncr st v).reads; unfold xIncr; first | exact see_at _ hf | (show st.sp ∈ (St.put _ _ _).reads; rw [put_reads]; exact see_at _ hf))))
 unfold xIncr; rw [show st.rd u = st.rd v from see_u st v u _]; simp only [rdA, rdW, a]
theorem xAug_u (h : ∀ x ∈ (xAug st v).reads, AgAt v u x) : xAug st u = xAug st v := by
 have a : lookN st.r u st.sp = lookN st.r v st.sp := look_ag (fun hf => h _ ((by show st.sp ∈ (xAug st v).reads; unfold xAug; first | exact see_at _ hf | (show st.sp ∈ (St.put _ _ _).reads; rw [put_reads]; exact see_at _ hf))))
 unfold xAug; rw [show st.rd u = st.rd v from see_u st v u _]; simp only [rdA, rdW, a]
theorem xDim_u (h : ∀ x ∈ (xDim st v).reads, AgAt v u x) : xDim st u = xDim st v := by
 have a : lookN st.r u st.sp = lookN st.r v st.sp := look_ag (fun hf => h _ ((by show st.sp ∈ (xDim st v).reads; unfold xDim; first | exact see_at _ hf | (show st.sp ∈ (St.put _ _ _).reads; rw [put_reads]; exact see_at _ hf))))
 unfold xDim; rw [show st.rd u = st.rd v from see_u st v u _]; simp only [rdA, rdW, a]
theorem xAds_u (h : ∀ x ∈ (xAds st v).reads, AgAt v u x) : xAds st u = xAds st v := by
 have a : lookN st.r u st.sp = lookN st.r v st.sp := look_ag (fun hf => h _ ((by show st.sp ∈ (xAds st v).reads; unfold xAds; first | exact see_at _ hf | (show st.sp ∈ (St.put _ _ _).reads; rw [put_reads]; exact see_at _ hf))))
 unfold xAds; rw [show st.rd u = st.rd v from see_u st v u _]; simp only [rdA, rdW, a]
theorem xMp_u (h : ∀ x ∈ (xMp st v).reads, AgAt v u x) : xMp st u = xMp st v := by
 have a : lookN st.r u st.sp = lookN st.r v st.sp := look_ag (fun hf => h _ ((by show st.sp ∈ (xMp st v).reads; unfold xMp; first | exact see_at _ hf | (show st.sp ∈ (St.put _ _ _).reads; rw [put_reads]; exact see_at _ hf))))
 unfold xMp; rw [show st.rd u = st.rd v from see_u st v u _]; simp only [rdA, rdW, a]
theorem xDv_u (h : ∀ x ∈ (xDv st v).reads, AgAt v u x) : xDv st u = xDv st v := by
 have a : lookN st.r u st.sp = lookN st.r v st.sp := look_ag (fun hf => h _ ((by show st.sp ∈ (xDv st v).reads; unfold xDv; first | exact see_at _ hf | (show st.sp ∈ (St.put _ _ _).reads; rw [put_reads]; exact see_at _ hf))))
 unfold xDv; rw [show st.rd u = st.rd v from see_u st v u _]; simp only [rdA, rdW, a]
theorem xIndex_u (h : ∀ x ∈ (xIndex st v).reads, AgAt v u x) : xIndex st u = xIndex st v := by
 have a : lookN st.r u st.sp = lookN st.r v st.sp := look_ag (fun hf => h _ ((by show st.sp ∈ (xIndex st v).reads; unfold xIndex; first | exact see_at _ hf | (show st.sp ∈ (St.put _ _ _).reads; rw [put_reads]; exact see_at _ hf))))
 unfold xIndex; rw [show st.rd u = st.rd v from see_u st v u _]; simp only [rdA, rdW, a]
theorem xXindex_u (h : ∀ x ∈ (xXindex st v).reads, AgAt v u x) : xXindex st u = xXindex st v := by
 have a : lookN st.r u st.sp = lookN st.r v st.sp := look_ag (fun hf => h _ ((by show st.sp ∈ (xXindex st v).reads; unfold xXindex; first | exact see_at _ hf | (show st.sp ∈ (St.put _ _ _).reads; rw [put_reads]; exact see_at _ hf))))
 unfold xXindex; rw [show st.rd u = st.rd v from see_u st v u _]; simp only [rdA, rdW, a]
theorem two_1 {s : St} {x y : Sp} (r : Rg) (h : (lookN r v x).2 = true) : x ∈ ((s.see v x).see v y).reads := see_in _ v y x (see_at r h)
theorem xDas_r : (xDas st v).reads = ((st.see v (nextSp st.sp)).see v st.sp).reads := by
 unfold xDas
 simp only []
 split
 · rfl
 · show (St.put _ _ _).reads = _
   rw [put_reads, put_reads]
theorem xDas_u (h : ∀ x ∈ (xDas st v).reads, AgAt v u x) : xDas st u = xDas st v := by
 have a : lookN st.r u st.sp = lookN st.r v st.sp := look_ag (fun hf => h _ (by rw [xDas_r]; exact see_at _ hf))
 have b : lookN st.r u (nextSp st.sp) = lookN st.r v (nextSp st.sp) := look_ag (fun hf => h _ (by rw [xDas_r]; exact two_1 v _ hf))
 have q : (st.see u (nextSp st.sp)).see u st.sp = (st.see v (nextSp st.sp)).see v st.sp := by rw [see_u st v u, see_u (st.see v _) v u]
 unfold xDas; simp only [q, rdA, rdW, a, b]
theorem xDca_u (h : ∀ x ∈ (xDca st v).reads, AgAt v u x) : xDca st u = xDca st v := by
 have a : lookN st.r u st.sp = lookN st.r v st.sp := look_ag (fun hf => h _ (by exact see_at _ hf))
 have b : lookN st.r u (nextSp st.sp) = lookN st.r v (nextSp st.sp) := look_ag (fun hf => h _ (by exact two_1 v _ hf))
 have q : (st.see u (nextSp st.sp)).see u st.sp = (st.see v (nextSp st.sp)).see v st.sp := by rw [see_u st v u, see_u (st.see v _) v u]
 unfold xDca; simp only [q, rdA, rdW, a, b]
theorem xDcs_u (h : ∀ x ∈ (xDcs st v).reads, AgAt v u x) : xDcs st u = xDcs st v := by
 have a : lookN st.r u st.sp = lookN st.r v st.sp := look_ag (fun hf => h _ (by exact see_at _ hf))
 have b : lookN st.r u (nextSp st.sp) = lookN st.r v (nextSp st.sp) := look_ag (fun hf => h _ (by exact two_1 v _ hf))
 have q : (st.see u (nextSp st.sp)).see u st.sp = (st.see v (nextSp st.sp)).see v st.sp := by rw [see_u st v u, see_u (st.see v _) v u]
 unfold xDcs; simp only [q, rdA, rdW, a, b]
theorem xResume_u (h : ∀ x ∈ (xResume st v).reads, AgAt v u x) : xResume st u = xResume st v := by
 have a : lookN st.r u ⟨1, 15⟩ = lookN st.r v ⟨1, 15⟩ := look_ag (fun hf => h _ (by exact see_at _ hf))
 have b : lookN st.r u ⟨1, 13⟩ = lookN st.r v ⟨1, 13⟩ := look_ag (fun hf => h _ (by exact two_1 v (s := st) (y := ⟨1, 15⟩) _ hf))
 unfold xResume; rw [see_u st v u, see_u (st.see v _) v u]; simp only [a, b]
theorem xDxch_u (h : ∀ x ∈ (xDxch st v).reads, AgAt v u x) : xDxch st u = xDxch st v := by
 have b : lookN st.r u (nextSp st.sp) = lookN st.r v (nextSp st.sp) := look_ag (fun hf => h _ (by
  refine xXch_m _ v _ ?_
  show nextSp st.sp ∈ (St.put _ _ _).reads
  rw [put_reads]
  exact see_at _ hf))
 unfold xDxch at h ⊢
 rw [see_u st v u]
 simp only [b]
 exact xXch_u _ v u h
theorem chan_u (hc : u.c = v.c) : st.chan u = st.chan v := by unfold St.chan; rw [hc]
theorem ca_u (h : ∀ x ∈ ((st.rd v).setA (rdA st v)).reads, AgAt v u x) : (st.rd u).setA (rdA st u) = (st.rd v).setA (rdA st v) := by
 have a : lookN st.r u st.sp = lookN st.r v st.sp := look_ag (fun hf => h _ ((by exact see_at _ hf)))
 rw [show st.rd u = st.rd v from see_u st v u _]
 simp only [rdA, rdW, a]
theorem cs_u (h : ∀ x ∈ ((st.rd v).setA (negAccI (rdA st v))).reads, AgAt v u x) : (st.rd u).setA (negAccI (rdA st u)) = (st.rd v).setA (negAccI (rdA st v)) := by
 have a : lookN st.r u st.sp = lookN st.r v st.sp := look_ag (fun hf => h _ ((by exact see_at _ hf)))
 rw [show st.rd u = st.rd v from see_u st v u _]
 simp only [rdA, rdW, a]
theorem ad_u (h : ∀ x ∈ ((st.rd v).setA (addAccI st.r.a (rdA st v))).reads, AgAt v u x) : (st.rd u).setA (addAccI st.r.a (rdA st u)) = (st.rd v).setA (addAccI st.r.a (rdA st v)) := by
 have a : lookN st.r u st.sp = lookN st.r v st.sp := look_ag (fun hf => h _ ((by exact see_at _ hf)))
 rw [show st.rd u = st.rd v from see_u st v u _]
 simp only [rdA, rdW, a]
theorem ma_u (h : ∀ x ∈ ((st.rd v).setA (extI (Go.bits .and .u16 (corI st.r.a) (rdW st v)))).reads, AgAt v u x) : (st.rd u).setA (extI (Go.bits .and .u16 (corI st.r.a) (rdW st u))) = (st.rd v).setA (extI (Go.bits .and .u16 (corI st.r.a) (rdW st v))) := by
 have a : lookN st.r u st.sp = lookN st.r v st.sp := look_ag (fun hf => h _ ((by exact see_at _ hf)))
 rw [show st.rd u = st.rd v from see_u st v u _]
 simp only [rdA, rdW, a]
theorem ms_u (h : ∀ x ∈ ((st.rd v).setA (extI (tdI (corI st.r.a) (rdW st v)))).reads, AgAt v u x) : (st.rd u).setA (extI (tdI (corI st.r.a) (rdW st u))) = (st.rd v).setA (extI (tdI (corI st.r.a) (rdW st v))) := by
 have a : lookN st.r u st.sp = lookN st.r v st.sp := look_ag (fun hf => h _ ((by exact see_at _ hf)))
 rw [show st.rd u = st.rd v from see_u st v u _]
 simp only [rdA, rdW, a]
theorem su_u (h : ∀ x ∈ ((st.rd v).setA (addAccI st.r.a (negAccI (rdA st v)))).reads, AgAt v u x) : (st.rd u).setA (addAccI st.r.a (negAccI (rdA st u))) = (st.rd v).setA (addAccI st.r.a (negAccI (rdA st v))) := by
 have a : lookN st.r u st.sp = lookN st.r v st.sp := look_ag (fun hf => h _ ((by exact see_at _ hf)))
 rw [show st.rd u = st.rd v from see_u st v u _]
 simp only [rdA, rdW, a]
theorem exec_u (c : Int) (hc : u.c = v.c) (h : ∀ x ∈ (exec st v c).reads, AgAt v u x) : exec st u c = exec st v c := by
 unfold exec at *
 by_cases e1 : c = 1
 · rw [if_pos e1] at h; rw [if_pos e1, if_pos e1]
 rw [if_neg e1] at h; rw [if_neg e1, if_neg e1]
 by_cases e2 : c = 2
 · rw [if_pos e2] at h; rw [if_pos e2, if_pos e2]
 rw [if_neg e2] at h; rw [if_neg e2, if_neg e2]
 by_cases e3 : c = 3
 · rw [if_pos e3] at h; rw [if_pos e3, if_pos e3]
 rw [if_neg e3] at h; rw [if_neg e3, if_neg e3]
 by_cases e4 : c = 4
 · rw [if_pos e4] at h; rw [if_pos e4, if_pos e4]
 rw [if_neg e4] at h; rw [if_neg e4, if_neg e4]
 by_cases e5 : c = 5
 · rw [if_pos e5] at h; rw [if_pos e5, if_pos e5]; exact xCcs_u st v u h
 rw [if_neg e5] at h; rw [if_neg e5, if_neg e5]
 by_cases e6 : c = 6
 · rw [if_pos e6] at h; rw [if_pos e6, if_pos e6]
 rw [if_neg e6] at h; rw [if_neg e6, if_neg e6]
 by_cases e7 : c = 7
 · rw [if_pos e7] at h; rw [if_pos e7, if_pos e7]; exact xDas_u st v u h
 rw [if_neg e7] at h; rw [if_neg e7, if_neg e7]
 by_cases e8 : c = 8
 · rw [if_pos e8] at h; rw [if_pos e8, if_pos e8]; exact xLxch_u st v u h
 rw [if_neg e8] at h; rw [if_neg e8, if_neg e8]
 by_cases e9 : c = 9
 · rw [if_pos e9] at h; rw [if_pos e9, if_pos e9]; exact xIncr_u st v u h
 rw [if_neg e9] at h; rw [if_neg e9, if_neg e9]
 by_cases e10 : c = 10
 · rw [if_pos e10] at h; rw [if_pos e10, if_pos e10]; exact xAds_u st v u h
 rw [if_neg e10] at h; rw [if_neg e10, if_neg e10]
 by_cases e11 : c = 11
 · rw [if_pos e11] at h; rw [if_pos e11, if_pos e11]; exact ca_u st v u h
 rw [if_neg e11] at h; rw [if_neg e11, if_neg e11]
 by_cases e12 : c = 12
 · rw [if_pos e12] at h; rw [if_pos e12, if_pos e12]; exact cs_u st v u h
 rw [if_neg e12] at h; rw [if_neg e12, if_neg e12]
 by_cases e13 : c = 13
 · rw [if_pos e13] at h; rw [if_pos e13, if_pos e13]; exact xIndex_u st v u h
 rw [if_neg e13] at h; rw [if_neg e13, if_neg e13]
 by_cases e14 : c = 14
 · rw [if_pos e14] at h; rw [if_pos e14, if_pos e14]; exact xResume_u st v u h
 rw [if_neg e14] at h; rw [if_neg e14, if_neg e14]
 by_cases e15 : c = 15
 · rw [if_pos e15] at h; rw [if_pos e15, if_pos e15]; exact xDxch_u st v u h
 rw [if_neg e15] at h; rw [if_neg e15, if_neg e15]
 by_cases e16 : c = 16
 · rw [if_pos e16] at h; rw [if_pos e16, if_pos e16]
 rw [if_neg e16] at h; rw [if_neg e16, if_neg e16]
 by_cases e17 : c = 17
 · rw [if_pos e17] at h; rw [if_pos e17, if_pos e17]; exact xXch_u st v u h
 rw [if_neg e17] at h; rw [if_neg e17, if_neg e17]
 by_cases e18 : c = 18
 · rw [if_pos e18] at h; rw [if_pos e18, if_pos e18]; exact ad_u st v u h
 rw [if_neg e18] at h; rw [if_neg e18, if_neg e18]
 by_cases e19 : c = 19
 · rw [if_pos e19] at h; rw [if_pos e19, if_pos e19]; exact ma_u st v u h
 rw [if_neg e19] at h; rw [if_neg e19, if_neg e19]
 by_cases e20 : c = 20
 · rw [if_pos e20] at h; rw [if_pos e20, if_pos e20]; rw [chan_u st v u hc]
 rw [if_neg e20] at h; rw [if_neg e20, if_neg e20]
 by_cases e21 : c = 21
 · rw [if_pos e21] at h; rw [if_pos e21, if_pos e21]
 rw [if_neg e21] at h; rw [if_neg e21, if_neg e21]
 by_cases e22 : c = 22
 · rw [if_pos e22] at h; rw [if_pos e22, if_pos e22]; rw [chan_u st v u hc]
 rw [if_neg e22] at h; rw [if_neg e22, if_neg e22]
 by_cases e23 : c = 23
 · rw [if_pos e23] at h; rw [if_pos e23, if_pos e23]; rw [chan_u st v u hc]
 rw [if_neg e23] at h; rw [if_neg e23, if_neg e23]
 by_cases e24 : c = 24
 · rw [if_pos e24] at h; rw [if_pos e24, if_pos e24]; rw [chan_u st v u hc]
 rw [if_neg e24] at h; rw [if_neg e24, if_neg e24]
 by_cases e25 : c = 25
 · rw [if_pos e25] at h; rw [if_pos e25, if_pos e25]; rw [chan_u st v u hc]
 rw [if_neg e25] at h; rw [if_neg e25, if_neg e25]
 by_cases e26 : c = 26
 · rw [if_pos e26] at h; rw [if_pos e26, if_pos e26]; rw [chan_u st v u hc]
 rw [if_neg e26] at h; rw [if_neg e26, if_neg e26]
 by_cases e27 : c = 27
 · rw [if_pos e27] at h; rw [if_pos e27, if_pos e27]
 rw [if_neg e27] at h; rw [if_neg e27, if_neg e27]
 by_cases e28 : c = 28
 · rw [if_pos e28] at h; rw [if_pos e28, if_pos e28]; exact xDv_u st v u h
 rw [if_neg e28] at h; rw [if_neg e28, if_neg e28]
 by_cases e29 : c = 29
 · rw [if_pos e29] at h; rw [if_pos e29, if_pos e29]
 rw [if_neg e29] at h; rw [if_neg e29, if_neg e29]
 by_cases e30 : c = 30
 · rw [if_pos e30] at h; rw [if_pos e30, if_pos e30]; exact ms_u st v u h
 rw [if_neg e30] at h; rw [if_neg e30, if_neg e30]
 by_cases e31 : c = 31
 · rw [if_pos e31] at h; rw [if_pos e31, if_pos e31]; exact xQxch_u st v u h
 rw [if_neg e31] at h; rw [if_neg e31, if_neg e31]
 by_cases e32 : c = 32
 · rw [if_pos e32] at h; rw [if_pos e32, if_pos e32]; exact xAug_u st v u h
 rw [if_neg e32] at h; rw [if_neg e32, if_neg e32]
 by_cases e33 : c = 33
 · rw [if_pos e33] at h; rw [if_pos e33, if_pos e33]; exact xDim_u st v u h
 rw [if_neg e33] at h; rw [if_neg e33, if_neg e33]
 by_cases e34 : c = 34
 · rw [if_pos e34] at h; rw [if_pos e34, if_pos e34]; exact xDca_u st v u h
 rw [if_neg e34] at h; rw [if_neg e34, if_neg e34]
 by_cases e35 : c = 35
 · rw [if_pos e35] at h; rw [if_pos e35, if_pos e35]; exact xDcs_u st v u h
 rw [if_neg e35] at h; rw [if_neg e35, if_neg e35]
 by_cases e36 : c = 36
 · rw [if_pos e36] at h; rw [if_pos e36, if_pos e36]; exact xXindex_u st v u h
 rw [if_neg e36] at h; rw [if_neg e36, if_neg e36]
 by_cases e37 : c = 37
 · rw [if_pos e37] at h; rw [if_pos e37, if_pos e37]; exact su_u st v u h
 rw [if_neg e37] at h; rw [if_neg e37, if_neg e37]
 by_cases e38 : c = 38
 · rw [if_pos e38] at h; rw [if_pos e38, if_pos e38]
 rw [if_neg e38] at h; rw [if_neg e38, if_neg e38]
 exact xMp_u st v u h
end
def clOk (l : List Cl) : Prop := ∀ c ∈ l, 8 ≤ c.f0 ∧ c.f0 ≤ 2047 ∧ 0 ≤ c.f1 ∧ c.f1 ≤ 32767
def ouOk (l : List Cl) : Prop := ∀ c ∈ l, c.f0 ≠ 1 ∧ c.f0 ≠ 2 ∧ c.f0 ≠ 7 ∧ 0 ≤ c.f0 ∧ c.f0 ≤ 511 ∧ 0 ≤ c.f1 ∧ c.f1 ≤ 32767
structure Vd (s : St) : Prop where
 ok : s.r.Ok
 cl : clOk s.cells
 ou : ouOk s.outs
 c0 : 1 ≤ s.cyc
 c1 : s.cyc ≤ 6
theorem okA {r : Rg} (h : r.Ok) {x : Int} (x0 : 0 ≤ x) (x1 : x ≤ 65535) : ({ r with a := x } : Rg).Ok := ⟨x0, x1, h.l0, h.l1, h.q0, h.q1, h.z0, h.z1, h.e0, h.e1, h.f0, h.f1, h.s0, h.s1, h.i0, h.i1, h.b0, h.b1⟩
section
variable {st : St} (h : Vd st) (v : Vw)
include h
theorem Vd.setA {x : Int} (x0 : 0 ≤ x) (x1 : x ≤ 65535) : Vd (st.setA x) := ⟨okA h.ok x0 x1, h.cl, h.ou, h.c0, h.c1⟩
end
def spK (x : Sp) : Prop := 0 ≤ x.f1 ∧ (x.f0 = 1 ∨ x.f0 = 2)
theorem next_s {x : Sp} (h : spK x) : spK (nextSp x) := ⟨nextSp_b _ h.1, h.2⟩
theorem loc_s {r : Rg} {k : Int} (h : (locN r k).2 = 0) : spK (locN r k).1 := by
 refine ⟨(loc_b k h).1, ?_⟩
 unfold locN at *
 split at h
 · exact absurd h (show ¬ ((3 : Int) = 0) by decide)
 · rename_i c
   rw [if_neg c]
   unfold absX
   unfold absE at h
   split at h
   · exact absurd h (show ¬ ((3 : Int) = 0) by decide)
   · rename_i d
     simp only [if_neg d]
     split
     · exact Or.inl rfl
     · exact Or.inr rfl
def nnS (l : List Sp) : Prop := ∀ y ∈ l, spK y
section
variable {st : St} (h : nnS st.reads) (v : Vw)
theorem see_n {st : St} (h : nnS st.reads) (v : Vw) {x : Sp} (hx : spK x) : nnS (st.see v x).reads := by
 show nnS (if (lookN st.r v x).2 then st.reads ++ [x] else st.reads)
 split
 · intro y hy
   rcases List.mem_append.1 hy with hy | hy
   · exact h y hy
   · rw [List.mem_singleton.1 hy]; exact hx
 · exact h
theorem put_n {st : St} (h : nnS st.reads) (i x : Int) : nnS (st.put i x).reads := by rw [put_reads]; exact h
include h
theorem xch_n (s0 : spK st.sp) : nnS (xXch st v).reads := by
 show nnS (St.put _ _ _).reads
 exact put_n (see_n h v s0) _ _
theorem dxch_n (s0 : spK st.sp) : nnS (xDxch st v).reads := by
 unfold xDxch
 refine xch_n (by show nnS (St.put _ _ _).reads; exact put_n (see_n h v (next_s s0)) _ _) v ?_
 show spK (St.put _ _ _).sp
 unfold St.put; split <;> exact s0
theorem ts_n : nnS (xTs st).reads := by
 unfold xTs
 simp only []
 repeat' split
 all_goals (first | exact h | exact put_n h _ _ | (show nnS (St.put _ _ _).reads; exact put_n h _ _))
theorem exec_n (c : Int) (i0 : 1 ≤ c) (i1 : c ≤ 39) (sp0 : spotted c = true → spK st.sp) : nnS (exec st v c).reads := by
 unfold exec
 by_cases e1 : c = 1
 · rw [if_pos e1]; exact h
 rw [if_neg e1]
 by_cases e2 : c = 2
 · rw [if_pos e2]; exact h
 rw [if_neg e2]
 by_cases e3 : c = 3
 · rw [if_pos e3]; exact h
 rw [if_neg e3]
 by_cases e4 : c = 4
 · rw [if_pos e4]; exact h
 rw [if_neg e4]
 by_cases e5 : c = 5
 · rw [if_pos e5]; exact see_n h v (sp0 (by rw [show c = 5 by omega]; kernel_rfl))
 rw [if_neg e5]
 by_cases e6 : c = 6
 · rw [if_pos e6]; exact h
 rw [if_neg e6]
 by_cases e7 : c = 7
 · rw [if_pos e7]; exact (by rw [xDas_r]; exact see_n (see_n h v (next_s (sp0 (by rw [show c = 7 by omega]; kernel_rfl)))) v (sp0 (by rw [show c = 7 by omega]; kernel_rfl)))
 rw [if_neg e7]
 by_cases e8 : c = 8
 · rw [if_pos e8]; exact (by show nnS (St.put _ _ _).reads; exact put_n (see_n h v (sp0 (by rw [show c = 8 by omega]; kernel_rfl))) _ _)
 rw [if_neg e8]
 by_cases e9 : c = 9
 · rw [if_pos e9]; exact (by show nnS (St.put _ _ _).reads; exact put_n (see_n h v (sp0 (by rw [show c = 9 by omega]; kernel_rfl))) _ _)
 rw [if_neg e9]
 by_cases e10 : c = 10
 · rw [if_pos e10]; exact (by show nnS (St.put _ _ _).reads; exact put_n (see_n h v (sp0 (by rw [show c = 10 by omega]; kernel_rfl))) _ _)
 rw [if_neg e10]
 by_cases e11 : c = 11
 · rw [if_pos e11]; exact see_n h v (sp0 (by rw [show c = 11 by omega]; kernel_rfl))
 rw [if_neg e11]
 by_cases e12 : c = 12
 · rw [if_pos e12]; exact see_n h v (sp0 (by rw [show c = 12 by omega]; kernel_rfl))
 rw [if_neg e12]
 by_cases e13 : c = 13
 · rw [if_pos e13]; exact see_n h v (sp0 (by rw [show c = 13 by omega]; kernel_rfl))
 rw [if_neg e13]
 by_cases e14 : c = 14
 · rw [if_pos e14]; exact see_n (st := st.see v ⟨1, 13⟩) (see_n h v (x := ⟨1, 13⟩) ⟨(by decide : (0 : Int) ≤ 13), Or.inl rfl⟩) v (x := ⟨1, 15⟩) ⟨(by decide : (0 : Int) ≤ 15), Or.inl rfl⟩
 rw [if_neg e14]
 by_cases e15 : c = 15
 · rw [if_pos e15]; exact dxch_n h v (sp0 (by rw [show c = 15 by omega]; kernel_rfl))
 rw [if_neg e15]
 by_cases e16 : c = 16
 · rw [if_pos e16]; exact ts_n h
 rw [if_neg e16]
 by_cases e17 : c = 17
 · rw [if_pos e17]; exact xch_n h v (sp0 (by rw [show c = 17 by omega]; kernel_rfl))
 rw [if_neg e17]
 by_cases e18 : c = 18
 · rw [if_pos e18]; exact see_n h v (sp0 (by rw [show c = 18 by omega]; kernel_rfl))
 rw [if_neg e18]
 by_cases e19 : c = 19
 · rw [if_pos e19]; exact see_n h v (sp0 (by rw [show c = 19 by omega]; kernel_rfl))
 rw [if_neg e19]
 by_cases e20 : c = 20
 · rw [if_pos e20]; exact h
 rw [if_neg e20]
 by_cases e21 : c = 21
 · rw [if_pos e21]; exact (by rw [out_reads]; exact h)
 rw [if_neg e21]
 by_cases e22 : c = 22
 · rw [if_pos e22]; exact h
 rw [if_neg e22]
 by_cases e23 : c = 23
 · rw [if_pos e23]; exact (by show nnS (St.out _ _).reads; rw [out_reads]; exact h)
 rw [if_neg e23]
 by_cases e24 : c = 24
 · rw [if_pos e24]; exact h
 rw [if_neg e24]
 by_cases e25 : c = 25
 · rw [if_pos e25]; exact (by show nnS (St.out _ _).reads; rw [out_reads]; exact h)
 rw [if_neg e25]
 by_cases e26 : c = 26
 · rw [if_pos e26]; exact h
 rw [if_neg e26]
 by_cases e27 : c = 27
 · rw [if_pos e27]; exact h
 rw [if_neg e27]
 by_cases e28 : c = 28
 · rw [if_pos e28]; exact see_n h v (sp0 (by rw [show c = 28 by omega]; kernel_rfl))
 rw [if_neg e28]
 by_cases e29 : c = 29
 · rw [if_pos e29]; exact (by unfold xBranch; split <;> exact h)
 rw [if_neg e29]
 by_cases e30 : c = 30
 · rw [if_pos e30]; exact see_n h v (sp0 (by rw [show c = 30 by omega]; kernel_rfl))
 rw [if_neg e30]
 by_cases e31 : c = 31
 · rw [if_pos e31]; exact (by show nnS (St.put _ _ _).reads; exact put_n (see_n h v (sp0 (by rw [show c = 31 by omega]; kernel_rfl))) _ _)
 rw [if_neg e31]
 by_cases e32 : c = 32
 · rw [if_pos e32]; exact (by show nnS (St.put _ _ _).reads; exact put_n (see_n h v (sp0 (by rw [show c = 32 by omega]; kernel_rfl))) _ _)
 rw [if_neg e32]
 by_cases e33 : c = 33
 · rw [if_pos e33]; exact (by show nnS (St.put _ _ _).reads; exact put_n (see_n h v (sp0 (by rw [show c = 33 by omega]; kernel_rfl))) _ _)
 rw [if_neg e33]
 by_cases e34 : c = 34
 · rw [if_pos e34]; exact see_n (st := st.see v (nextSp st.sp)) (see_n h v (next_s (sp0 (by rw [show c = 34 by omega]; kernel_rfl)))) v (sp0 (by rw [show c = 34 by omega]; kernel_rfl))
 rw [if_neg e34]
 by_cases e35 : c = 35
 · rw [if_pos e35]; exact see_n (st := st.see v (nextSp st.sp)) (see_n h v (next_s (sp0 (by rw [show c = 35 by omega]; kernel_rfl)))) v (sp0 (by rw [show c = 35 by omega]; kernel_rfl))
 rw [if_neg e35]
 by_cases e36 : c = 36
 · rw [if_pos e36]; exact see_n h v (sp0 (by rw [show c = 36 by omega]; kernel_rfl))
 rw [if_neg e36]
 by_cases e37 : c = 37
 · rw [if_pos e37]; exact see_n h v (sp0 (by rw [show c = 37 by omega]; kernel_rfl))
 rw [if_neg e37]
 by_cases e38 : c = 38
 · rw [if_pos e38]; exact (by unfold xBranch; split <;> exact h)
 rw [if_neg e38]
 exact see_n h v (sp0 (by rw [show c = 39 by omega]; kernel_rfl))
end
theorem step_n {r : Rg} {v : Vw} (he : sErr r v = 0) : nnS (stepN r v).reads := by
 have hf : nnS (fLst r v) := by
  unfold fLst loadN
  split
  · intro y hy; cases hy
  · split
    · intro y hy; cases hy
    · split
      · intro y hy; cases hy
      · rename_i c
        split
        · intro y hy
          rw [List.mem_singleton.1 hy]
          exact loc_s (by simpa using c)
        · intro y hy; cases hy
 have hC := fC_b r v
 refine exec_n ?_ v _ hC.1 hC.2 (fun hs => ?_)
 · unfold st1
   split <;> exact hf
 · unfold st1
   rw [if_pos hs]
   refine loc_s ?_
   unfold sErr at he
   rw [if_pos hs] at he
   split at he
   · rename_i g; exact absurd he g
   · exact he
def fixL (m : List Int) (b : Bool) (n : Int) (l : List Int) : List Int := if b = true ∧ n < (l.length : Int) then l.set n.toNat (rd m n) else l
theorem fixL_len (m : List Int) (b : Bool) (n : Int) (l : List Int) : (fixL m b n l).length = l.length := by unfold fixL; split; rw [List.length_set]; rfl
theorem elem_set {m l : List Int} {n k : Int} (hl : l.length = m.length) (n0 : 0 ≤ n) (k0 : 0 ≤ k) (h : k ≠ n → elemN l k = elemN m k) : elemN (l.set n.toNat (rd m n)) k = elemN m k := by
 by_cases e : k = n
 · subst e
   unfold elemN
   rw [List.length_set, hl]
   split
   · rename_i c
     rw [show rd (l.set k.toNat (rd m k)) k = rd m k from ?_]
     unfold rd
     rw [List.getD_eq_getElem?_getD, List.getElem?_set_self (by omega)]; rfl
   · rfl
 · rw [← h e]
   unfold elemN
   rw [List.length_set]
   split
   · rw [show rd (l.set n.toNat (rd m n)) k = rd l k from ?_]
     unfold rd
     rw [List.getD_eq_getElem?_getD, List.getElem?_set_ne (by omega), ← List.getD_eq_getElem?_getD]
   · rfl
theorem fix_ag {m l : List Int} (hl : l.length = m.length) (b : Bool) {n k : Int} (n0 : 0 ≤ n) (k0 : 0 ≤ k) (h : elemN l k = elemN m k ∨ (b = true ∧ k = n)) : elemN (fixL m b n l) k = elemN m k := by
 unfold fixL
 split
 · refine elem_set hl n0 k0 (fun ne => ?_)
   rcases h with h | h
   · exact h
   · exact absurd h.2 ne
 · rename_i c
   rcases h with h | h
   · exact h
   · have : ¬ n < (l.length : Int) := fun d => c ⟨h.1, d⟩
     unfold elemN
     rw [if_neg (by omega), if_neg (by omega)]
def rngL (l : List Int) : Prop := ∀ i, 0 ≤ rd l i ∧ rd l i < 65536
theorem fix_rng {m l : List Int} (hm : rngL m) (h : rngL l) (b : Bool) (n : Int) : rngL (fixL m b n l) := by
 unfold fixL
 split
 · exact set_b h _ (hm n).1 (hm n).2
 · exact h
structure Fx (m0 m1 : List Int) (rs : List Sp) (i : Int) (lE lF : List Int) : Prop where
 e : lE.length = m0.length
 f : lF.length = m1.length
 eb : rngL lE
 fb : rngL lF
 ag : ∀ j : Nat, (j : Int) < i → ((rs.getD j ⟨0, 0⟩).f0 = 2 → elemN lF (rs.getD j ⟨0, 0⟩).f1 = elemN m1 (rs.getD j ⟨0, 0⟩).f1) ∧ ((rs.getD j ⟨0, 0⟩).f0 = 1 → elemN lE (rs.getD j ⟨0, 0⟩).f1 = elemN m0 (rs.getD j ⟨0, 0⟩).f1)
theorem getD_nn {rs : List Sp} (h : nnS rs) (j : Nat) : 0 ≤ (rs.getD j ⟨0, 0⟩).f1 := by
 rw [List.getD_eq_getElem?_getD]
 cases hx : rs[j]? with
 | none => exact Int.le_refl 0
 | some x => exact (h x (List.mem_of_getElem? hx)).1
theorem Fx.next {m0 m1 : List Int} {rs : List Sp} {i : Int} {lE lF : List Int} (h : Fx m0 m1 rs i lE lF) (hm0 : rngL m0) (hm1 : rngL m1) (hn : nnS rs) (i0 : 0 ≤ i) {s n : Int} (hs : (rs.getD i.toNat ⟨0, 0⟩).f0 = s) (hn' : (rs.getD i.toNat ⟨0, 0⟩).f1 = n) : Fx m0 m1 rs (i + 1) (fixL m0 (s == 1) n lE) (fixL m1 (s == 2) n lF) := by
 have n0 : 0 ≤ n := by rw [← hn']; exact getD_nn hn _
 refine ⟨by rw [fixL_len]; exact h.e, by rw [fixL_len]; exact h.f, fix_rng hm0 h.eb _ _, fix_rng hm1 h.fb _ _, fun j hj => ?_⟩
 have k0 := getD_nn hn j
 by_cases e : (j : Int) = i
 · have e' : j = i.toNat := by omega
   subst e'
   rw [hs, hn']
   exact ⟨fun q => fix_ag h.f _ n0 n0 (Or.inr ⟨by simpa using q, rfl⟩), fun q => fix_ag h.e _ n0 n0 (Or.inr ⟨by simpa using q, rfl⟩)⟩
 · have a := h.ag j (by omega)
   exact ⟨fun q => fix_ag h.f _ n0 k0 (Or.inl (a.1 q)), fun q => fix_ag h.e _ n0 k0 (Or.inl (a.2 q))⟩
end Go.Proofs.YthfobpkdloejfaaGreat.Cpu
end
