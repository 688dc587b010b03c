/- Chapter 5: a part of its proof (cut by program out of CpuFt); no condition. -/
import Derived.Test.YthfobpkdloejfaaGreatLa30
import Derived.Test.YthfobpkdloejfaaGreatLa35
set_option linter.unusedVariables false
set_option linter.unusedSimpArgs false
set_option linter.unusedSectionVars false
set_option maxRecDepth 100000
set_option maxHeartbeats 8000000
section
namespace Go.Proofs.YthfobpkdloejfaaGreat.Cpu
open Go.RowKit Go.Proofs.YthfobpkdloejfaaGreat.PAll Go.Proofs.YthfobpkdloejfaaGreat.One Go.Proofs.YthfobpkdloejfaaGreat.Mem Go.Proofs.YthfobpkdloejfaaGreatW.PrintWords Go.Proofs.YthfobpkdloejfaaGreatW.PrintLast Go.Proofs.YthfobpkdloejfaaGreatW.PrintMore Go.Proofs.YthfobpkdloejfaaGreat.Plain
def wdN (r : Rg) (v : Vw) : Int := if r.held = true then r.b else corI (loadN r v r.z).1
def fErr (r : Rg) (v : Vw) : Int := if r.may = false then 2 else if r.held = true then 0 else (loadN r v r.z).2.2
def fLst (r : Rg) (v : Vw) : List Sp := if r.held = true then [] else (loadN r v r.z).2.1
def fW (r : Rg) (v : Vw) : Int := addI (wdN r v) r.idx
def fC (r : Rg) (v : Vw) : Int := Isa.decN (fW r v) r.ext
def fK (r : Rg) (v : Vw) : Int := fW r v - Isa.baseN (fC r v)
def nxR (r : Rg) : Rg := { r with z := (r.z + 1) % 4096, held := false, ext := false, b := 0, idx := 0 }
def cycN (c : Int) : Int := (entOf c).2.2.2
def spotted (c : Int) : Bool := Isa.kdN c == 1 || (Isa.kdN c == 3 && c != 1)
def st0 (r : Rg) (v : Vw) : St := ⟨nxR r, [], [], fLst r v, cycN (fC r v), fC r v, fK r v, ⟨0, 0⟩⟩
def st1 (r : Rg) (v : Vw) : St := if spotted (fC r v) = true then { st0 r v with sp := (locN (nxR r) (fK r v)).1 } else st0 r v
def sErr (r : Rg) (v : Vw) : Int := if fErr r v ≠ 0 then fErr r v else if spotted (fC r v) = true then (locN (nxR r) (fK r v)).2 else 0
def stepN (r : Rg) (v : Vw) : St := exec (st1 r v) v (fC r v)
theorem load_b {r : Rg} (hk : r.Kinds) (v : Vw) (k : Int) : 0 ≤ (loadN r v k).1 ∧ (loadN r v k).1 ≤ 65535 := by
 unfold loadN
 cases hm : r.may
 · rw [if_pos rfl]; exact ⟨by decide, by decide⟩
 · rw [if_neg (by decide)]
   split
   · exact ⟨Int.le_refl 0, (by decide : (0 : Int) ≤ 65535)⟩
   · exact look_b (Rg.Ok.of_may hk hm) v _
theorem wd_b {r : Rg} (hk : r.Kinds) (hm : r.may = true) (v : Vw) : 0 ≤ wdN r v ∧ wdN r v ≤ 32767 := by
 have ok := Rg.Ok.of_may hk hm
 unfold wdN
 split
 · exact ⟨ok.b0, ok.b1⟩
 · have := load_b hk v r.z; exact cor_b this.1 this.2
theorem addI_b (a b : Int) : 0 ≤ addI a b ∧ addI a b ≤ 32767 := by unfold addI; split <;> omega
theorem fW_b (r : Rg) (v : Vw) : 0 ≤ fW r v ∧ fW r v ≤ 32767 := addI_b _ _
theorem dec_hit (w : Int) (x : Bool) (h0 : 0 ≤ w) (h1 : w ≤ 32767) : (1 ≤ Isa.decN w x ∧ Isa.decN w x ≤ 39) ∧ Isa.hitP (Isa.decN w x) w := by
 unfold Isa.decN
 split
 · have := Isa.decX_hit w h0 h1; exact ⟨⟨by omega, this.2.1⟩, this.2.2⟩
 · have := Isa.decB_hit w h0 h1; exact ⟨⟨this.1, by omega⟩, this.2.2⟩
theorem fC_b (r : Rg) (v : Vw) : 1 ≤ fC r v ∧ fC r v ≤ 39 := (dec_hit _ _ (fW_b r v).1 (fW_b r v).2).1
theorem fK_hit (r : Rg) (v : Vw) : Isa.loK (Isa.kdN (fC r v)) ≤ fK r v ∧ fK r v ≤ Isa.hiK (Isa.kdN (fC r v)) := by
 have := (dec_hit _ r.ext (fW_b r v).1 (fW_b r v).2).2; exact ⟨this.1, this.2.1⟩
theorem fK_b (r : Rg) (v : Vw) : 0 ≤ fK r v ∧ fK r v ≤ 4095 := by
 have h := fK_hit r v; have t := Isa.tab_in (fC_b r v)
 omega
theorem nx_ok {r : Rg} (ok : r.Ok) : (nxR r).Ok := by
 have := ok.z0
 exact ⟨ok.a0, ok.a1, ok.l0, ok.l1, ok.q0, ok.q1, by show 0 ≤ (r.z + 1) % 4096; omega, by show (r.z + 1) % 4096 ≤ 4095; omega, ok.e0, ok.e1, ok.f0, ok.f1, ok.s0, ok.s1, Int.le_refl 0, (by decide : (0 : Int) ≤ 32767), Int.le_refl 0, (by decide : (0 : Int) ≤ 32767)⟩
theorem fErr_may {r : Rg} {v : Vw} (h : fErr r v = 0) : r.may = true := by
 cases hm : r.may
 · unfold fErr at h; rw [if_pos hm] at h; omega
 · rfl
theorem fLst_len (r : Rg) (v : Vw) : (fLst r v).length ≤ 1 := by
 unfold fLst loadN
 repeat' split
 all_goals simp
theorem st1_r (r : Rg) (v : Vw) : (st1 r v).r = nxR r := by unfold st1; split <;> rfl
theorem st1_k (r : Rg) (v : Vw) : (st1 r v).k = fK r v := by unfold st1; split <;> rfl
theorem st1_sz (r : Rg) (v : Vw) : (st1 r v).sz ≤ 1 := by
 have := fLst_len r v
 unfold st1 St.sz; split <;> simpa [st0] using this
theorem sErr_f {r : Rg} {v : Vw} (h : sErr r v = 0) : fErr r v = 0 := by
 unfold sErr at h
 split at h
 · rename_i g; exact absurd h g
 · rename_i g; omega
end Go.Proofs.YthfobpkdloejfaaGreat.Cpu
end
