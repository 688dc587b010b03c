/- Chapter 5: a part of its proof (cut by program out of IrP); no condition. -/
import Derived.Test.YthfobpkdloejfaaGreatIr37
import Derived.Test.YthfobpkdloejfaaGreatIr39
set_option linter.unusedVariables false
set_option linter.unusedSimpArgs false
set_option linter.unusedSectionVars false
set_option maxRecDepth 100000
set_option maxHeartbeats 8000000
section
namespace Go.Proofs.YthfobpkdloejfaaGreat.Cpu
open Go.RowKit Go.Proofs.YthfobpkdloejfaaGreat.PAll Go.Proofs.YthfobpkdloejfaaGreat.One Go.Proofs.YthfobpkdloejfaaGreat.Mem Go.Proofs.YthfobpkdloejfaaGreatW.PrintWords Go.Proofs.YthfobpkdloejfaaGreatW.PrintLast Go.Proofs.YthfobpkdloejfaaGreatW.PrintMore Go.Proofs.YthfobpkdloejfaaGreat.Plain
def St.pre (p : List Sp) (s : St) : St := { s with reads := p ++ s.reads }
theorem app_if (b : Bool) (p l : List Sp) (x : Sp) : (if b = true then (p ++ l) ++ [x] else p ++ l) = p ++ (if b = true then l ++ [x] else l) := by cases b <;> simp
section
variable (p : List Sp) (s : St) (v : Vw)
theorem see_p (x : Sp) : (s.pre p).see v x = (s.see v x).pre p := by
 show St.mk _ _ _ _ _ _ _ _ = St.mk _ _ _ _ _ _ _ _
 congr 1
 exact app_if _ _ _ _
theorem rd_p : (s.pre p).rd v = (s.rd v).pre p := see_p p s v _
theorem put_p (i x : Int) : (s.pre p).put i x = (s.put i x).pre p := by unfold St.put; split <;> rfl
theorem out_p (x : Int) : (s.pre p).out x = (s.out x).pre p := by
 unfold St.out
 by_cases h1 : s.k = 1
 · rw [if_pos (show (s.pre p).k = 1 from h1), if_pos h1]; rfl
 rw [if_neg (show ¬ (s.pre p).k = 1 from h1), if_neg h1]
 by_cases h2 : s.k = 2
 · rw [if_pos (show (s.pre p).k = 2 from h2), if_pos h2]; rfl
 rw [if_neg (show ¬ (s.pre p).k = 2 from h2), if_neg h2]
 by_cases h7 : s.k = 7
 · rw [if_pos (show (s.pre p).k = 7 from h7), if_pos h7]; rfl
 rw [if_neg (show ¬ (s.pre p).k = 7 from h7), if_neg h7]
 rfl
theorem xCcs_p : xCcs (s.pre p) v = (xCcs s v).pre p := by
 unfold xCcs
 rw [rd_p]
 (try rfl)
theorem xMp_p : xMp (s.pre p) v = (xMp s v).pre p := by
 unfold xMp
 rw [rd_p]
 (try rfl)
theorem xDv_p : xDv (s.pre p) v = (xDv s v).pre p := by
 unfold xDv
 rw [rd_p]
 (try rfl)
theorem xIndex_p : xIndex (s.pre p) v = (xIndex s v).pre p := by
 unfold xIndex
 rw [rd_p]
 (try rfl)
theorem xXindex_p : xXindex (s.pre p) v = (xXindex s v).pre p := by
 unfold xXindex
 rw [rd_p]
 (try rfl)
theorem xXch_p : xXch (s.pre p) v = (xXch s v).pre p := by
 unfold xXch
 (try simp only [])
 rw [rd_p, put_p]
 (try rfl)
theorem xLxch_p : xLxch (s.pre p) v = (xLxch s v).pre p := by
 unfold xLxch
 (try simp only [])
 rw [rd_p, put_p]
 (try rfl)
theorem xQxch_p : xQxch (s.pre p) v = (xQxch s v).pre p := by
 unfold xQxch
 (try simp only [])
 rw [rd_p, put_p]
 (try rfl)
theorem xIncr_p : xIncr (s.pre p) v = (xIncr s v).pre p := by
 unfold xIncr
 (try simp only [])
 rw [rd_p, put_p]
 (try rfl)
theorem xAug_p : xAug (s.pre p) v = (xAug s v).pre p := by
 unfold xAug
 (try simp only [])
 rw [rd_p, put_p]
 (try rfl)
theorem xDim_p : xDim (s.pre p) v = (xDim s v).pre p := by
 unfold xDim
 (try simp only [])
 rw [rd_p, put_p]
 (try rfl)
theorem xAds_p : xAds (s.pre p) v = (xAds s v).pre p := by
 unfold xAds
 (try simp only [])
 rw [rd_p, put_p]
 (try rfl)
theorem xTc_p : xTc (s.pre p) = (xTc s).pre p := by
 rfl
theorem xTcf_p : xTcf (s.pre p) = (xTcf s).pre p := by
 rfl
theorem xBranch_p (c : Bool) : xBranch (s.pre p) c = (xBranch s c).pre p := by unfold xBranch; cases c <;> rfl
theorem xBoth_p (x : Int) : xBoth (s.pre p) x = (xBoth s x).pre p := by unfold xBoth; rw [out_p]; rfl
theorem see2_p (x y : Sp) : ((s.pre p).see v x).see v y = ((s.see v x).see v y).pre p := (congrArg (fun t : St => t.see v y) (see_p p s v x)).trans (see_p p (s.see v x) v y)
def dasF (s : St) (t u : Int) (s2 : St) : St := if s.sp.f1 = 0 then { s2 with r := { s.r with a := u, l := corI t } } else { (s2.put (nextSp s.sp).f1 t).put s.sp.f1 u with r := { ((s2.put (nextSp s.sp).f1 t).put s.sp.f1 u).r with a := unitI u, l := 0 } }
theorem dasF_p (t u : Int) (s2 : St) : dasF s t u (s2.pre p) = (dasF s t u s2).pre p := by
 unfold dasF
 by_cases h : s.sp.f1 = 0
 · rw [if_pos h, if_pos h]; rfl
 · rw [if_neg h, if_neg h, put_p, put_p]; rfl
theorem xDas_p : xDas (s.pre p) v = (xDas s v).pre p :=
 (congrArg (dasF s (addAccI (lookN s.r v (nextSp s.sp)).1 (extI s.r.l)) (addAccI (addAccI (rdA s v) s.r.a) (unitI (addAccI (lookN s.r v (nextSp s.sp)).1 (extI s.r.l))))) (see2_p p s v (nextSp s.sp) s.sp)).trans (dasF_p p s _ _ _)
theorem xDxch_p : xDxch (s.pre p) v = (xDxch s v).pre p :=
 (congrArg (fun s1 : St => xXch { s1 with r := { s1.r with l := corI (lookN s.r v (nextSp s.sp)).1 } } v) ((congrArg (fun t : St => t.put (nextSp s.sp).f1 (extI s.r.l)) (see_p p s v (nextSp s.sp))).trans (put_p p _ _ _))).trans (xXch_p p { ((s.see v (nextSp s.sp)).put (nextSp s.sp).f1 (extI s.r.l)) with r := { ((s.see v (nextSp s.sp)).put (nextSp s.sp).f1 (extI s.r.l)).r with l := corI (lookN s.r v (nextSp s.sp)).1 } } v)
theorem xDca_p : xDca (s.pre p) v = (xDca s v).pre p := congrArg (fun s2 : St => { s2 with r := { s.r with a := rdA s v, l := corI (lookN s.r v (nextSp s.sp)).1 } }) (see2_p p s v (nextSp s.sp) s.sp)
theorem xDcs_p : xDcs (s.pre p) v = (xDcs s v).pre p := congrArg (fun s2 : St => { s2 with r := { s.r with a := negAccI (rdA s v), l := negI (corI (lookN s.r v (nextSp s.sp)).1) } }) (see2_p p s v (nextSp s.sp) s.sp)
theorem xResume_p : xResume (s.pre p) v = (xResume s v).pre p := congrArg (fun s2 : St => { s2 with r := { s.r with z := (lookN s.r v ⟨1, 13⟩).1 % 4096, b := corI (lookN s.r v ⟨1, 15⟩).1, held := true, srv := false } }) (see2_p p s v ⟨1, 13⟩ ⟨1, 15⟩)
theorem xTs_p : xTs (s.pre p) = (xTs s).pre p := by
 unfold xTs
 (try simp only [])
 by_cases h : s.sp.f1 ≠ 0
 · rw [if_pos (show (s.pre p).sp.f1 ≠ 0 from h), if_pos h, put_p]
   by_cases g : unitI s.r.a = 0
   · rw [if_pos (show unitI (s.pre p).r.a = 0 from g), if_pos g]; rfl
   · rw [if_neg (show ¬ unitI (s.pre p).r.a = 0 from g), if_neg g, if_pos (show (s.pre p).sp.f1 ≠ 0 from h), if_pos h]; rfl
 · rw [if_neg (show ¬ (s.pre p).sp.f1 ≠ 0 from h), if_neg h]
   by_cases g : unitI s.r.a = 0
   · rw [if_pos (show unitI (s.pre p).r.a = 0 from g), if_pos g]
   · rw [if_neg (show ¬ unitI (s.pre p).r.a = 0 from g), if_neg g, if_neg (show ¬ (s.pre p).sp.f1 ≠ 0 from h), if_neg h]; rfl
theorem exec_p (c : Int) : exec (s.pre p) v c = (exec s v c).pre p := by
 unfold exec
 by_cases e1 : c = 1
 · rw [if_pos e1, if_pos e1]; exact xTc_p p s
 rw [if_neg e1, if_neg e1]
 by_cases e2 : c = 2
 · rw [if_pos e2, if_pos e2]; try rfl
 rw [if_neg e2, if_neg e2]
 by_cases e3 : c = 3
 · rw [if_pos e3, if_pos e3]; try rfl
 rw [if_neg e3, if_neg e3]
 by_cases e4 : c = 4
 · rw [if_pos e4, if_pos e4]; try rfl
 rw [if_neg e4, if_neg e4]
 by_cases e5 : c = 5
 · rw [if_pos e5, if_pos e5]; exact xCcs_p p s v
 rw [if_neg e5, if_neg e5]
 by_cases e6 : c = 6
 · rw [if_pos e6, if_pos e6]; exact xTcf_p p s
 rw [if_neg e6, if_neg e6]
 by_cases e7 : c = 7
 · rw [if_pos e7, if_pos e7]; exact xDas_p p s v
 rw [if_neg e7, if_neg e7]
 by_cases e8 : c = 8
 · rw [if_pos e8, if_pos e8]; exact xLxch_p p s v
 rw [if_neg e8, if_neg e8]
 by_cases e9 : c = 9
 · rw [if_pos e9, if_pos e9]; exact xIncr_p p s v
 rw [if_neg e9, if_neg e9]
 by_cases e10 : c = 10
 · rw [if_pos e10, if_pos e10]; exact xAds_p p s v
 rw [if_neg e10, if_neg e10]
 by_cases e11 : c = 11
 · rw [if_pos e11, if_pos e11]; rw [rd_p]; try rfl
 rw [if_neg e11, if_neg e11]
 by_cases e12 : c = 12
 · rw [if_pos e12, if_pos e12]; rw [rd_p]; try rfl
 rw [if_neg e12, if_neg e12]
 by_cases e13 : c = 13
 · rw [if_pos e13, if_pos e13]; exact xIndex_p p s v
 rw [if_neg e13, if_neg e13]
 by_cases e14 : c = 14
 · rw [if_pos e14, if_pos e14]; exact xResume_p p s v
 rw [if_neg e14, if_neg e14]
 by_cases e15 : c = 15
 · rw [if_pos e15, if_pos e15]; exact xDxch_p p s v
 rw [if_neg e15, if_neg e15]
 by_cases e16 : c = 16
 · rw [if_pos e16, if_pos e16]; exact xTs_p p s
 rw [if_neg e16, if_neg e16]
 by_cases e17 : c = 17
 · rw [if_pos e17, if_pos e17]; exact xXch_p p s v
 rw [if_neg e17, if_neg e17]
 by_cases e18 : c = 18
 · rw [if_pos e18, if_pos e18]; rw [rd_p]; try rfl
 rw [if_neg e18, if_neg e18]
 by_cases e19 : c = 19
 · rw [if_pos e19, if_pos e19]; rw [rd_p]; try rfl
 rw [if_neg e19, if_neg e19]
 by_cases e20 : c = 20
 · rw [if_pos e20, if_pos e20]; try rfl
 rw [if_neg e20, if_neg e20]
 by_cases e21 : c = 21
 · rw [if_pos e21, if_pos e21]; exact out_p p s _
 rw [if_neg e21, if_neg e21]
 by_cases e22 : c = 22
 · rw [if_pos e22, if_pos e22]; try rfl
 rw [if_neg e22, if_neg e22]
 by_cases e23 : c = 23
 · rw [if_pos e23, if_pos e23]; exact xBoth_p p s _
 rw [if_neg e23, if_neg e23]
 by_cases e24 : c = 24
 · rw [if_pos e24, if_pos e24]; try rfl
 rw [if_neg e24, if_neg e24]
 by_cases e25 : c = 25
 · rw [if_pos e25, if_pos e25]; exact xBoth_p p s _
 rw [if_neg e25, if_neg e25]
 by_cases e26 : c = 26
 · rw [if_pos e26, if_pos e26]; try rfl
 rw [if_neg e26, if_neg e26]
 by_cases e27 : c = 27
 · rw [if_pos e27, if_pos e27]; try rfl
 rw [if_neg e27, if_neg e27]
 by_cases e28 : c = 28
 · rw [if_pos e28, if_pos e28]; exact xDv_p p s v
 rw [if_neg e28, if_neg e28]
 by_cases e29 : c = 29
 · rw [if_pos e29, if_pos e29]; exact xBranch_p p s _
 rw [if_neg e29, if_neg e29]
 by_cases e30 : c = 30
 · rw [if_pos e30, if_pos e30]; rw [rd_p]; try rfl
 rw [if_neg e30, if_neg e30]
 by_cases e31 : c = 31
 · rw [if_pos e31, if_pos e31]; exact xQxch_p p s v
 rw [if_neg e31, if_neg e31]
 by_cases e32 : c = 32
 · rw [if_pos e32, if_pos e32]; exact xAug_p p s v
 rw [if_neg e32, if_neg e32]
 by_cases e33 : c = 33
 · rw [if_pos e33, if_pos e33]; exact xDim_p p s v
 rw [if_neg e33, if_neg e33]
 by_cases e34 : c = 34
 · rw [if_pos e34, if_pos e34]; exact xDca_p p s v
 rw [if_neg e34, if_neg e34]
 by_cases e35 : c = 35
 · rw [if_pos e35, if_pos e35]; exact xDcs_p p s v
 rw [if_neg e35, if_neg e35]
 by_cases e36 : c = 36
 · rw [if_pos e36, if_pos e36]; exact xXindex_p p s v
 rw [if_neg e36, if_neg e36]
 by_cases e37 : c = 37
 · rw [if_pos e37, if_pos e37]; rw [rd_p]; try rfl
 rw [if_neg e37, if_neg e37]
 by_cases e38 : c = 38
 · rw [if_pos e38, if_pos e38]; exact xBranch_p p s _
 rw [if_neg e38, if_neg e38]
 exact xMp_p p s v
end
theorem ext_mod {w : Int} (w0 : 0 ≤ w) (w1 : w ≤ 32767) : extI w % 32768 = w ∧ corI (extI w) = w := by
 unfold extI
 split
 all_goals (unfold corI; repeat' split)
 all_goals omega
structure Quiet (r : Rg) : Prop where
 ext : r.ext = false
 held : r.held = false
 inh : r.inh = false
 srv : r.srv = false
 idx : r.idx = 0
theorem quiet_of {r : Rg} (h : Rup.alB r.a r.idx r.ext r.held r.inh r.srv = true) : Quiet r := by
 unfold Rup.alB at h
 simp only [Bool.and_eq_true, Bool.not_eq_true', beq_iff_eq] at h
 exact ⟨h.1.1.1.2, h.1.1.2, h.1.1.1.1.1, h.1.1.1.1.2, h.1.2⟩
abbrev lvR (r : Rg) (x : Int) : Rg := { r with held := true, b := x }
section
variable {r : Rg} {v u : Vw} {x : Int}
theorem ret_step (ok : r.Ok) (hq : Quiet r) (he : sErr r v = 0) (hx : x = corI (loadN r v r.z).1) (x0 : 0 ≤ x) (x1 : x ≤ 32767) (hc : u.c = v.c) (h : ∀ y ∈ (stepN r v).reads, AgAt v u y) :
 stepN r v = (stepN (lvR r x) u).pre (fLst r v) ∧ sErr (lvR r x) u = 0 := by
 have hm : r.may = true := ok.may
 have hf : fErr r v = 0 := sErr_f he
 have hm' : (lvR r x).may = true := (Rg.Ok.may (r := lvR r x) ⟨ok.a0, ok.a1, ok.l0, ok.l1, ok.q0, ok.q1, ok.z0, ok.z1, ok.e0, ok.e1, ok.f0, ok.f1, ok.s0, ok.s1, ok.i0, ok.i1, x0, x1⟩)
 have w1 : wdN (lvR r x) u = wdN r v := by
  unfold wdN
  rw [if_pos (show (lvR r x).held = true from rfl), if_neg (by rw [hq.held]; decide)]
  exact hx
 have w2 : fW (lvR r x) u = fW r v := by unfold fW; rw [w1]; try rfl
 have w3 : fC (lvR r x) u = fC r v := by unfold fC; rw [w2]; try rfl
 have w4 : fK (lvR r x) u = fK r v := by unfold fK; rw [w2, w3]
 have w5 : fLst (lvR r x) u = [] := by unfold fLst; rw [if_pos (show (lvR r x).held = true from rfl)]
 have w6 : nxR (lvR r x) = nxR r := rfl
 have w7 : st0 r v = (st0 (lvR r x) u).pre (fLst r v) := by
  unfold st0 St.pre
  rw [w3, w4, w5, w6]
  simp
 have w8 : st1 r v = (st1 (lvR r x) u).pre (fLst r v) := by
  unfold st1
  rw [w3, w4, w6, w7]
  split <;> rfl
 have w9 : exec (st1 r v) v (fC r v) = exec (st1 r v) u (fC r v) := (exec_u _ v u _ hc h).symm
 refine ⟨?_, ?_⟩
 · show exec (st1 r v) v (fC r v) = (exec (st1 (lvR r x) u) u (fC (lvR r x) u)).pre _
   rw [w9, w8, w3, exec_p]
 · unfold sErr at he ⊢
   have g : fErr (lvR r x) u = 0 := by unfold fErr; rw [if_neg (by rw [hm']; decide), if_pos (show (lvR r x).held = true from rfl)]
   rw [if_neg (by omega)] at he
   rw [if_neg (by omega), w3, w4, w6]
   exact he
theorem ret_resume {z : Int} (ok : r.Ok) (hq : Quiet r) (z0 : 0 ≤ z) (z1 : z ≤ 4095) (h13 : elemN u.e 13 = r.z) (h15 : elemN u.e 15 = x) (x0 : 0 ≤ x) (x1 : x ≤ 32767) :
 (stepN { r with z := z, srv := true, held := true, b := 20495 } u).r = lvR r x ∧ sErr { r with z := z, srv := true, held := true, b := 20495 } u = 0 := by
 have hm : ({ r with z := z, srv := true, held := true, b := 20495 } : Rg).may = true := Rg.Ok.may ⟨ok.a0, ok.a1, ok.l0, ok.l1, ok.q0, ok.q1, z0, z1, ok.e0, ok.e1, ok.f0, ok.f1, ok.s0, ok.s1, ok.i0, ok.i1, (show (0 : Int) ≤ 20495 by decide), (show (20495 : Int) ≤ 32767 by decide)⟩
 have c1 : fC { r with z := z, srv := true, held := true, b := 20495 } u = 14 := by
  unfold fC fW wdN
  show Isa.decN (addI 20495 r.idx) r.ext = 14
  rw [hq.ext, hq.idx]
  decide +kernel
 have hs : spotted 14 = false := rfl
 have e1 := ext_mod (w := r.z) ok.z0 (by have := ok.z1; omega)
 have e2 := ext_mod (w := x) x0 x1
 refine ⟨?_, ?_⟩
 · unfold stepN
   rw [c1]
   have hst : st1 { r with z := z, srv := true, held := true, b := 20495 } u = st0 { r with z := z, srv := true, held := true, b := 20495 } u := by unfold st1; rw [c1, if_neg (by rw [hs]; decide)]
   rw [hst]
   show Rg.mk r.a r.l r.q (extI (elemN u.e 13) % 4096) r.eb r.fb r.su false 0 true (corI (extI (elemN u.e 15))) r.inh false = _
   rw [h13, h15, e2.2]
   have ez : extI r.z % 4096 = r.z := by have := ok.z0; have := ok.z1; omega
   rw [ez]
   (try unfold lvR)
   rw [hq.ext, hq.srv, hq.idx]
 · unfold sErr fErr
   rw [if_neg (by rw [if_neg (by rw [hm]; decide), if_pos rfl]; decide), c1, if_neg (by rw [hs]; decide)]
end
end Go.Proofs.YthfobpkdloejfaaGreat.Cpu
end
