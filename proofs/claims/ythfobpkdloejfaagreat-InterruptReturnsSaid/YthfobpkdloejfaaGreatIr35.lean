/- Chapter 5: a part of its proof (cut by program out of CpuW, CpuPk); no condition. -/
import Derived.Test.YthfobpkdloejfaaGreatIr21
import Derived.Test.YthfobpkdloejfaaGreatIr33
import Derived.Test.YthfobpkdloejfaaGreatIr34
set_option linter.unusedVariables false
set_option linter.unusedSimpArgs false
set_option linter.unusedSectionVars false
set_option maxRecDepth 100000
set_option maxHeartbeats 8000000
section
namespace Go.Proofs.YthfobpkdloejfaaGreat.Cpu
open Go.RowKit Go.Proofs.YthfobpkdloejfaaGreat.PAll Go.Proofs.YthfobpkdloejfaaGreat.One Go.Proofs.YthfobpkdloejfaaGreat.Mem Go.Proofs.YthfobpkdloejfaaGreat.Row Go.Proofs.YthfobpkdloejfaaGreatW.PrintWords Go.Proofs.YthfobpkdloejfaaGreatW.PrintLast Go.Proofs.YthfobpkdloejfaaGreatW.PrintMore Go.Proofs.YthfobpkdloejfaaGreat.Plain
attribute [local go_sem high] eqA64
attribute [local go_sem high] eqA61
theorem ekI (q : Nat) (h : q ∈ (24 :: (Kd.int .u16).E)) : q = 24 := by simpa [Kd.int, Kd.scalar] using h
theorem cellR_at {W : World} {B n c g : Nat} {ok : Nat → Prop} {xs : List Cl} (h : Kd.R k61 61 W B ok (.slice (some ⟨g, 0, none⟩) n c) xs) (z : Cl) (i : Nat) (hi : i < n) :
 W.cell? ⟨g, i * 2, none⟩ = some (.int .i64 (xs.getD i z).f0) ∧ W.cell? ⟨g, i * 2 + 1, none⟩ = some (.int .u16 (xs.getD i z).f1) := by
 obtain ⟨cs, hl, hm, hc⟩ := Kd.R_getA h z (i : Int) (by omega) (by omega)
 have e := k61_openM hm
 rw [Int.toNat_natCast] at hc e
 subst e
 have h0 := hc 0 _ rfl
 have h1 := hc 1 _ rfl
 have ea : ∀ j, (⟨g, 0, none⟩ : Addr).add j = ⟨g, j, none⟩ := fun j => by unfold Addr.add; split <;> simp_all
 rw [ea] at h0 h1
 exact ⟨h0, h1⟩
theorem R_some {α : Type} {d : Kd α} {e base n c : Nat} {ok : Nat → Prop} {W : World} {A : Option Addr} {xs : List α} (h : d.R e W base ok (.slice A n c) xs) (hx : 0 < xs.length) : ∃ g, A = some ⟨g, 0, none⟩ := by
 obtain ⟨ad, c', hv⟩ := Kd.R_slice1 h hx
 injection hv with h1 h2 h3
 subst h1
 obtain ⟨g, hg⟩ := Kd.R_head h
 exact ⟨g, by rw [hg]⟩
theorem rd_b {l : List Int} (h : ∀ x ∈ l, 0 ≤ x ∧ x < 65536) (i : Int) : 0 ≤ rd l i ∧ rd l i < 65536 := by
 unfold rd
 rw [List.getD_eq_getElem?_getD]
 cases hx : l[i.toNat]? with
 | none => exact ⟨by decide, by decide⟩
 | some x => exact h x (List.mem_of_getElem? hx)
section
variable {A0 A1 A2 : Option Addr} {n0 n1 n2 c0 c1 c2 B : Nat}
end
end Go.Proofs.YthfobpkdloejfaaGreat.Cpu
end
section
namespace Go.Proofs.YthfobpkdloejfaaGreat.PAll
open Go.RowKit Go.Proofs.YthfobpkdloejfaaGreatW.PrintWords Go.Proofs.YthfobpkdloejfaaGreatW.PrintLast Go.Proofs.YthfobpkdloejfaaGreatW.PrintMore
structure S25 where
 f0 : Int
 f1 : Int
 f2 : Int
 f3 : Int
 f4 : Int
 f5 : Int
 f6 : Int
 f7 : Bool
 f8 : Int
 f9 : Bool
 f10 : Int
 f11 : Bool
 f12 : Bool
def k25 : Kd S25 := Kd.iso (Kd.pair (Kd.int .u16) (Kd.pair (Kd.int .u16) (Kd.pair (Kd.int .u16) (Kd.pair (Kd.int .i64) (Kd.pair (Kd.int .i64) (Kd.pair (Kd.int .i64) (Kd.pair (Kd.int .i64) (Kd.pair Kd.bool (Kd.pair (Kd.int .u16) (Kd.pair Kd.bool (Kd.pair (Kd.int .u16) (Kd.pair Kd.bool Kd.bool)))))))))))) (fun x : S25 => (x.f0, x.f1, x.f2, x.f3, x.f4, x.f5, x.f6, x.f7, x.f8, x.f9, x.f10, x.f11, x.f12))
structure S28 where
 f0 : List Int
 f1 : List Int
 f2 : List Int
def k28 : Kd S28 := Kd.iso (Kd.pair (Kd.slice 24 (Kd.int .u16)) (Kd.pair (Kd.slice 24 (Kd.int .u16)) (Kd.slice 24 (Kd.int .u16)))) (fun x : S28 => (x.f0, x.f1, x.f2))
end Go.Proofs.YthfobpkdloejfaaGreat.PAll
namespace Go.Proofs.YthfobpkdloejfaaGreat.Cpu
open Go.RowKit Go.Proofs.YthfobpkdloejfaaGreat.PAll Go.Proofs.YthfobpkdloejfaaGreatW.PrintWords Go.Proofs.YthfobpkdloejfaaGreatW.PrintLast Go.Proofs.YthfobpkdloejfaaGreatW.PrintMore Go.Proofs.YthfobpkdloejfaaGreat.Plain
def RgW (z : S25) : Prop := (Lit.int .u16 z.f0).wf = true ∧ (Lit.int .u16 z.f1).wf = true ∧ (Lit.int .u16 z.f2).wf = true ∧ (Lit.int .i64 z.f3).wf = true ∧ (Lit.int .i64 z.f4).wf = true ∧ (Lit.int .i64 z.f5).wf = true ∧ (Lit.int .i64 z.f6).wf = true ∧ True ∧ (Lit.int .u16 z.f8).wf = true ∧ True ∧ (Lit.int .u16 z.f10).wf = true ∧ True ∧ True
def VwW (z : S28) : Prop := (z.f0.length ≤ maxLen ∧ ∀ y ∈ z.f0, (Lit.int .u16 y).wf = true) ∧ (z.f1.length ≤ maxLen ∧ ∀ y ∈ z.f1, (Lit.int .u16 y).wf = true) ∧ (z.f2.length ≤ maxLen ∧ ∀ y ∈ z.f2, (Lit.int .u16 y).wf = true)
theorem w16 {a : Int} (h : (Lit.int .u16 a).wf = true) : 0 ≤ a ∧ a < 65536 := by simp [Lit.wf, IntKind.min, IntKind.max, IntKind.signed, IntKind.bits] at h; omega
abbrev rgOf (z0 : S25) : Rg := ⟨z0.f0, z0.f1, z0.f2, z0.f3, z0.f4, z0.f5, z0.f6, z0.f7, z0.f8, z0.f9, z0.f10, z0.f11, z0.f12⟩
theorem kinds_w {z : S25} (h : RgW z) : (rgOf z).Kinds :=
 ⟨(w16 h.1).1, (w16 h.1).2, (w16 h.2.1).1, (w16 h.2.1).2, (w16 h.2.2.1).1, (w16 h.2.2.1).2, (w16 h.2.2.2.2.2.2.2.2.1).1, (w16 h.2.2.2.2.2.2.2.2.1).2, (w16 h.2.2.2.2.2.2.2.2.2.2.1).1, (w16 h.2.2.2.2.2.2.2.2.2.2.1).2⟩
theorem vw_b {l : List Int} (h : l.length ≤ maxLen ∧ ∀ y ∈ l, (Lit.int .u16 y).wf = true) (n : Nat) : ∀ i, 0 ≤ rd (l.take n) i ∧ rd (l.take n) i < 65536 := rd_b (fun x hx => w16 (h.2 x (List.mem_of_mem_take hx)))
end Go.Proofs.YthfobpkdloejfaaGreat.Cpu
end
