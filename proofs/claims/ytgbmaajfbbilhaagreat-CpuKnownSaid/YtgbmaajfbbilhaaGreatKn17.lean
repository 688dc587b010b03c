/- Chapter 5: a part of its proof (cut by program out of CpuF); no condition. -/
import Derived.Test.YtgbmaajfbbilhaaGreatKn14
import Derived.Test.YtgbmaajfbbilhaaGreatKn15
import Derived.Test.YtgbmaajfbbilhaaGreatKn16
set_option linter.unusedVariables false
set_option linter.unusedSimpArgs false
set_option linter.unusedSectionVars false
set_option maxRecDepth 100000
set_option maxHeartbeats 8000000
section
namespace Go.Proofs.YtgbmaajfbbilhaaGreat.Cpu
open Go.RowKit Go.Proofs.YtgbmaajfbbilhaaGreat.PAll Go.Proofs.YtgbmaajfbbilhaaGreat.One Go.Proofs.YtgbmaajfbbilhaaGreat.Mem Go.Proofs.YtgbmaajfbbilhaaGreat.Row Go.Proofs.YtgbmaajfbbilhaaGreatW.PrintWords Go.Proofs.YtgbmaajfbbilhaaGreatW.PrintLast Go.Proofs.YtgbmaajfbbilhaaGreatW.PrintMore Go.Proofs.YtgbmaajfbbilhaaGreat.Plain
structure RunF (B : Nat) (w0 : World) (p T : Nat) (g : Nat) (bo : Option (Array Value)) (cs : Array Value) (vC vO vR : Value) (xc xo : List Cl) (xr : List Sp) (w : World) : Prop where
 hb : Below B w0 w
 hp : B ≤ p
 h1 : 47 ≠ T
 h2 : 103 ≠ T
 blk : w.heap[p]? = some (.cells cs T (0, 0))
 bx : ∀ c, bo = some c → w.heap[g]? = some (.cells c 122 (0, 0)) ∧ g ≠ p
 rc : Kd.R k47 47 w B (fun k => True ∧ some k ≠ vO.ownBlock) vC xc
 ro : Kd.R k47 47 w B (fun k => True ∧ some k ≠ vC.ownBlock) vO xo
 rr : Kd.R k103 103 w B (fun _ => True) vR xr
theorem ekC (q : Nat) (h : q ∈ (47 :: k47.E)) : q = 47 := by simpa [k47, Kd.iso, Kd.pair, Kd.int, Kd.scalar] using h
theorem ekS (q : Nat) (h : q ∈ (103 :: k103.E)) : q = 103 := by simpa [k103, Kd.iso, Kd.pair, Kd.int, Kd.scalar] using h
theorem run_store_cell {P : Program} {o : Oper} {a : Act} {W : World} (ty : TypeId) (x v : Operand) (ho : o.op = .store ty x v) (g i : Nat) (hx : a.eval x = .pointer (some ⟨g, i, none⟩)) (u : Value) (hv : a.eval v = u) (old : Value) (hc : W.cell? ⟨g, i, none⟩ = some old) (hf : W.frozen? ⟨g, i, none⟩ = false) (h1 : u.oneCell' = true) (hu : u.cells = #[u]) (hi : (P.info? ty).map (·.size) = some 1) :
 (execOp a.eval o).run P W = .ok .skip (W.setCell ⟨g, i, none⟩ u) := by
 have hs : (storeVar ty ⟨g, i, none⟩ u).run P W = .ok () (W.setCell ⟨g, i, none⟩ u) := by
  cases hq : P.info? ty with
  | none => simp [hq] at hi
  | some t =>
   have hs : 1 = t.size := by simp [hq] at hi; omega
   have e : (⟨g, i, none⟩ : Addr).add 0 = ⟨g, i, none⟩ := rfl
   simp [storeVar, sizeOf, typeInfo, hq, hu, hs.symm, storeCells, e, run_store P W _ u _ h1, hc, hf]
 unfold execOp
 simp only [ho, hx, hv, Instr.storeAt, Instr.sureAddr, Sem.run_bind, Sem.run_pure, Result.andThen_ok, hs]
theorem store_cell_ {P : Program} {ops : Array Oper} {rest : List Oper} {o : Oper} {a : Act} {W : World} {Q : Exit → Act → World → Prop} (hgd : o.guard = none) (ty : TypeId) (x v : Operand) (ho : o.op = .store ty x v) (g i : Nat) (hx : a.eval x = .pointer (some ⟨g, i, none⟩)) (u : Value) (hv : a.eval v = u) (old : Value) (hc : W.cell? ⟨g, i, none⟩ = some old) (hf : W.frozen? ⟨g, i, none⟩ = false) (h1 : u.oneCell' = true) (hu : u.cells = #[u]) (hi : (P.info? ty).map (·.size) = some 1)
 (h : wpList P ops Q rest (a.put o.dst undef) (W.setCell ⟨g, i, none⟩ u)) : wpList P ops Q (o :: rest) a W := by
 refine wpList_plain hgd fun K hK => ?_
 unfold Oper.wp
 rw [run_store_cell ty x v ho g i hx u hv old hc hf h1 hu hi]
 exact hK _ _ h
section
variable {B : Nat} {w0 w w1 : World} {p T g : Nat} {bo : Option (Array Value)} {cs : Array Value} {vC vO vR : Value} {xc xo : List Cl} {xr : List Sp}
theorem RunF.base (h : RunF B w0 p T g bo cs vC vO vR xc xo xr w) : B ≤ w.heap.size := by have := blk_lt h.blk; have := h.hp; omega
theorem RunF.below (h : RunF B w0 p T g bo cs vC vO vR xc xo xr w) (hb : Below w.heap.size w w1) : RunF B w0 p T g bo cs vC vO vR xc xo xr w1 :=
 ⟨h.hb.trans (hb.mono h.base), h.hp, h.h1, h.h2, blk_below h.blk hb, fun c e => ⟨blk_below (h.bx c e).1 hb, (h.bx c e).2⟩, Kd.R_below h.rc hb, Kd.R_below h.ro hb, Kd.R_below h.rr hb⟩
theorem RunF.set (h : RunF B w0 p T g bo cs vC vO vR xc xo xr w) (i : Nat) (u : Value) : RunF B w0 p T g bo (cs.setIfInBounds i u) vC vO vR xc xo xr (w.setCell ⟨p, i, none⟩ u) :=
 ⟨h.hb.setCell h.hp u, h.hp, h.h1, h.h2, blk_put h.blk i u rfl, fun c e => ⟨blk_far (h.bx c e).1 (h.bx c e).2 u, (h.bx c e).2⟩, Kd.R_set h.rc h.blk (fun q hq => by rw [ekC q hq]; exact h.h1) i u, Kd.R_set h.ro h.blk (fun q hq => by rw [ekC q hq]; exact h.h1) i u, Kd.R_set h.rr h.blk (fun q hq => by rw [ekS q hq]; exact h.h2) i u⟩
theorem RunF.appC (h : RunF B w0 p T g bo cs vC vO vR xc xo xr w) {v1 : Value} {ys : List Cl} (hr : Kd.R k47 47 w1 B (fun k => True ∧ some k ≠ vO.ownBlock) v1 ys) (hb : Below B w0 w1) (hg : w.grownBy w1 vC.ownBlock) (hat : v1.ownBlock = vC.ownBlock ∨ ∃ b, v1.ownBlock = some b ∧ w.heap.size ≤ b) :
 RunF B w0 p T g bo cs v1 vO vR ys xo xr w1 := by
 have hne : some p ≠ vC.ownBlock := Kd.R_ne h.rc h.blk h.h1
 refine ⟨hb, h.hp, h.h1, h.h2, (hg.block p (blk_lt h.blk) hne).trans h.blk, fun c e => ⟨(hg.block g (blk_lt (h.bx c e).1) (Kd.R_ne h.rc (h.bx c e).1 (by decide))).trans (h.bx c e).1, (h.bx c e).2⟩, hr, Kd.R_after h.ro hg hat, ?_⟩
 exact Kd.R_over h.rr h.rc (fun q hq => by rw [ekS q hq]; decide) hg
theorem RunF.appO (h : RunF B w0 p T g bo cs vC vO vR xc xo xr w) {v1 : Value} {ys : List Cl} (hr : Kd.R k47 47 w1 B (fun k => True ∧ some k ≠ vC.ownBlock) v1 ys) (hb : Below B w0 w1) (hg : w.grownBy w1 vO.ownBlock) (hat : v1.ownBlock = vO.ownBlock ∨ ∃ b, v1.ownBlock = some b ∧ w.heap.size ≤ b) :
 RunF B w0 p T g bo cs vC v1 vR xc ys xr w1 := by
 have hne : some p ≠ vO.ownBlock := Kd.R_ne h.ro h.blk h.h1
 refine ⟨hb, h.hp, h.h1, h.h2, (hg.block p (blk_lt h.blk) hne).trans h.blk, fun c e => ⟨(hg.block g (blk_lt (h.bx c e).1) (Kd.R_ne h.ro (h.bx c e).1 (by decide))).trans (h.bx c e).1, (h.bx c e).2⟩, Kd.R_after h.rc hg hat, hr, ?_⟩
 exact Kd.R_over h.rr h.ro (fun q hq => by rw [ekS q hq]; decide) hg
theorem RunF.appR (h : RunF B w0 p T g bo cs vC vO vR xc xo xr w) {v1 : Value} {ys : List Sp} (hr : Kd.R k103 103 w1 B (fun _ => True) v1 ys) (hb : Below B w0 w1) (hg : w.grownBy w1 vR.ownBlock) :
 RunF B w0 p T g bo cs vC vO v1 xc xo ys w1 := by
 have hne : some p ≠ vR.ownBlock := Kd.R_ne h.rr h.blk h.h2
 refine ⟨hb, h.hp, h.h1, h.h2, (hg.block p (blk_lt h.blk) hne).trans h.blk, fun c e => ⟨(hg.block g (blk_lt (h.bx c e).1) (Kd.R_ne h.rr (h.bx c e).1 (by decide))).trans (h.bx c e).1, (h.bx c e).2⟩, ?_, ?_, hr⟩
 · exact Kd.R_over h.rc h.rr (fun q hq => by rw [ekC q hq]; decide) hg
 · exact Kd.R_over h.ro h.rr (fun q hq => by rw [ekC q hq]; decide) hg
end
abbrev pCells (ve vf vc vC vO vR : Value) (st : St) : Array Value := #[.int .u16 (st.r.a), .int .u16 (st.r.l), .int .u16 (st.r.q), .int .i64 (st.r.z), .int .i64 (st.r.eb), .int .i64 (st.r.fb), .int .i64 (st.r.su), .bool (st.r.ext), .int .u16 (st.r.idx), .bool (st.r.held), .int .u16 (st.r.b), .bool (st.r.inh), .bool (st.r.srv), vC, vO, vR, .int .i64 (st.cyc), .int .u8 (st.op), ve, vf, vc, .int .i64 (st.k), .int .u8 (st.sp.f0), .int .i64 (st.sp.f1)]
def PRun (B : Nat) (w0 : World) (p : Nat) (g : Nat) (ve vf vc : Value) (st : St) (w : World) : Prop := ∃ vC vO vR, RunF B w0 p 124 g (some #[.pointer (some ⟨p, 0, none⟩)]) (pCells ve vf vc vC vO vR st) vC vO vR st.cells st.outs st.reads w
section
variable {B : Nat} {w0 w w1 : World} {p g : Nat} {ve vf vc : Value} {st : St}
theorem PRun.below (h : PRun B w0 p g ve vf vc st w) (hb : Below w.heap.size w w1) : PRun B w0 p g ve vf vc st w1 := by obtain ⟨a, b, c, h⟩ := h; exact ⟨a, b, c, h.below hb⟩
theorem PRun.drawn (h : PRun B w0 p g ve vf vc st w) (hd : Drawn0 w w1) : PRun B w0 p g ve vf vc st w1 := by obtain ⟨n, rfl⟩ := hd; exact h.below (pw_below_drewN (Below.refl _ _) _)
theorem PRun.drew (h : PRun B w0 p g ve vf vc st w) : PRun B w0 p g ve vf vc st w.drew := h.below (below_drew (Below.refl _ _))
theorem PRun.fz (h : PRun B w0 p g ve vf vc st w) (i : Nat) : w.frozen? ⟨p, i, none⟩ = false := by obtain ⟨a, b, c, h⟩ := h; exact blk_frozen h.blk i
theorem PRun.hb (h : PRun B w0 p g ve vf vc st w) : Below B w0 w := by obtain ⟨a, b, c, h⟩ := h; exact h.hb
theorem PRun.size (h : PRun B w0 p g ve vf vc st w) : B ≤ w.heap.size := by obtain ⟨a, b, c, h⟩ := h; exact h.base
theorem PRun.bx (h : PRun B w0 p g ve vf vc st w) : w.cell? ⟨g, 0, none⟩ = some (.pointer (some ⟨p, 0, none⟩)) := by obtain ⟨a, b, c, h⟩ := h; exact (blk_cell (h.bx _ rfl).1 0).trans rfl
theorem PRun.c0 (h : PRun B w0 p g ve vf vc st w) : w.cell? ⟨p, 0, none⟩ = some (.int .u16 (st.r.a)) := by obtain ⟨a, b, c, h⟩ := h; exact (blk_cell h.blk 0).trans rfl
theorem PRun.s0 (h : PRun B w0 p g ve vf vc st w) (u : Int) : PRun B w0 p g ve vf vc { st with r := { st.r with a := u } } (w.setCell ⟨p, 0, none⟩ (.int .u16 (u))) := by obtain ⟨a, b, c, h⟩ := h; exact ⟨a, b, c, h.set 0 _⟩
theorem PRun.c1 (h : PRun B w0 p g ve vf vc st w) : w.cell? ⟨p, 1, none⟩ = some (.int .u16 (st.r.l)) := by obtain ⟨a, b, c, h⟩ := h; exact (blk_cell h.blk 1).trans rfl
theorem PRun.s1 (h : PRun B w0 p g ve vf vc st w) (u : Int) : PRun B w0 p g ve vf vc { st with r := { st.r with l := u } } (w.setCell ⟨p, 1, none⟩ (.int .u16 (u))) := by obtain ⟨a, b, c, h⟩ := h; exact ⟨a, b, c, h.set 1 _⟩
theorem PRun.c2 (h : PRun B w0 p g ve vf vc st w) : w.cell? ⟨p, 2, none⟩ = some (.int .u16 (st.r.q)) := by obtain ⟨a, b, c, h⟩ := h; exact (blk_cell h.blk 2).trans rfl
theorem PRun.s2 (h : PRun B w0 p g ve vf vc st w) (u : Int) : PRun B w0 p g ve vf vc { st with r := { st.r with q := u } } (w.setCell ⟨p, 2, none⟩ (.int .u16 (u))) := by obtain ⟨a, b, c, h⟩ := h; exact ⟨a, b, c, h.set 2 _⟩
theorem PRun.c3 (h : PRun B w0 p g ve vf vc st w) : w.cell? ⟨p, 3, none⟩ = some (.int .i64 (st.r.z)) := by obtain ⟨a, b, c, h⟩ := h; exact (blk_cell h.blk 3).trans rfl
theorem PRun.s3 (h : PRun B w0 p g ve vf vc st w) (u : Int) : PRun B w0 p g ve vf vc { st with r := { st.r with z := u } } (w.setCell ⟨p, 3, none⟩ (.int .i64 (u))) := by obtain ⟨a, b, c, h⟩ := h; exact ⟨a, b, c, h.set 3 _⟩
theorem PRun.c4 (h : PRun B w0 p g ve vf vc st w) : w.cell? ⟨p, 4, none⟩ = some (.int .i64 (st.r.eb)) := by obtain ⟨a, b, c, h⟩ := h; exact (blk_cell h.blk 4).trans rfl
theorem PRun.s4 (h : PRun B w0 p g ve vf vc st w) (u : Int) : PRun B w0 p g ve vf vc { st with r := { st.r with eb := u } } (w.setCell ⟨p, 4, none⟩ (.int .i64 (u))) := by obtain ⟨a, b, c, h⟩ := h; exact ⟨a, b, c, h.set 4 _⟩
theorem PRun.c5 (h : PRun B w0 p g ve vf vc st w) : w.cell? ⟨p, 5, none⟩ = some (.int .i64 (st.r.fb)) := by obtain ⟨a, b, c, h⟩ := h; exact (blk_cell h.blk 5).trans rfl
theorem PRun.s5 (h : PRun B w0 p g ve vf vc st w) (u : Int) : PRun B w0 p g ve vf vc { st with r := { st.r with fb := u } } (w.setCell ⟨p, 5, none⟩ (.int .i64 (u))) := by obtain ⟨a, b, c, h⟩ := h; exact ⟨a, b, c, h.set 5 _⟩
theorem PRun.c6 (h : PRun B w0 p g ve vf vc st w) : w.cell? ⟨p, 6, none⟩ = some (.int .i64 (st.r.su)) := by obtain ⟨a, b, c, h⟩ := h; exact (blk_cell h.blk 6).trans rfl
theorem PRun.s6 (h : PRun B w0 p g ve vf vc st w) (u : Int) : PRun B w0 p g ve vf vc { st with r := { st.r with su := u } } (w.setCell ⟨p, 6, none⟩ (.int .i64 (u))) := by obtain ⟨a, b, c, h⟩ := h; exact ⟨a, b, c, h.set 6 _⟩
theorem PRun.c7 (h : PRun B w0 p g ve vf vc st w) : w.cell? ⟨p, 7, none⟩ = some (.bool (st.r.ext)) := by obtain ⟨a, b, c, h⟩ := h; exact (blk_cell h.blk 7).trans rfl
theorem PRun.s7 (h : PRun B w0 p g ve vf vc st w) (u : Bool) : PRun B w0 p g ve vf vc { st with r := { st.r with ext := u } } (w.setCell ⟨p, 7, none⟩ (.bool (u))) := by obtain ⟨a, b, c, h⟩ := h; exact ⟨a, b, c, h.set 7 _⟩
theorem PRun.c8 (h : PRun B w0 p g ve vf vc st w) : w.cell? ⟨p, 8, none⟩ = some (.int .u16 (st.r.idx)) := by obtain ⟨a, b, c, h⟩ := h; exact (blk_cell h.blk 8).trans rfl
theorem PRun.s8 (h : PRun B w0 p g ve vf vc st w) (u : Int) : PRun B w0 p g ve vf vc { st with r := { st.r with idx := u } } (w.setCell ⟨p, 8, none⟩ (.int .u16 (u))) := by obtain ⟨a, b, c, h⟩ := h; exact ⟨a, b, c, h.set 8 _⟩
theorem PRun.c9 (h : PRun B w0 p g ve vf vc st w) : w.cell? ⟨p, 9, none⟩ = some (.bool (st.r.held)) := by obtain ⟨a, b, c, h⟩ := h; exact (blk_cell h.blk 9).trans rfl
theorem PRun.s9 (h : PRun B w0 p g ve vf vc st w) (u : Bool) : PRun B w0 p g ve vf vc { st with r := { st.r with held := u } } (w.setCell ⟨p, 9, none⟩ (.bool (u))) := by obtain ⟨a, b, c, h⟩ := h; exact ⟨a, b, c, h.set 9 _⟩
theorem PRun.c10 (h : PRun B w0 p g ve vf vc st w) : w.cell? ⟨p, 10, none⟩ = some (.int .u16 (st.r.b)) := by obtain ⟨a, b, c, h⟩ := h; exact (blk_cell h.blk 10).trans rfl
theorem PRun.s10 (h : PRun B w0 p g ve vf vc st w) (u : Int) : PRun B w0 p g ve vf vc { st with r := { st.r with b := u } } (w.setCell ⟨p, 10, none⟩ (.int .u16 (u))) := by obtain ⟨a, b, c, h⟩ := h; exact ⟨a, b, c, h.set 10 _⟩
theorem PRun.c11 (h : PRun B w0 p g ve vf vc st w) : w.cell? ⟨p, 11, none⟩ = some (.bool (st.r.inh)) := by obtain ⟨a, b, c, h⟩ := h; exact (blk_cell h.blk 11).trans rfl
theorem PRun.s11 (h : PRun B w0 p g ve vf vc st w) (u : Bool) : PRun B w0 p g ve vf vc { st with r := { st.r with inh := u } } (w.setCell ⟨p, 11, none⟩ (.bool (u))) := by obtain ⟨a, b, c, h⟩ := h; exact ⟨a, b, c, h.set 11 _⟩
theorem PRun.c12 (h : PRun B w0 p g ve vf vc st w) : w.cell? ⟨p, 12, none⟩ = some (.bool (st.r.srv)) := by obtain ⟨a, b, c, h⟩ := h; exact (blk_cell h.blk 12).trans rfl
theorem PRun.s12 (h : PRun B w0 p g ve vf vc st w) (u : Bool) : PRun B w0 p g ve vf vc { st with r := { st.r with srv := u } } (w.setCell ⟨p, 12, none⟩ (.bool (u))) := by obtain ⟨a, b, c, h⟩ := h; exact ⟨a, b, c, h.set 12 _⟩
theorem PRun.c16 (h : PRun B w0 p g ve vf vc st w) : w.cell? ⟨p, 16, none⟩ = some (.int .i64 (st.cyc)) := by obtain ⟨a, b, c, h⟩ := h; exact (blk_cell h.blk 16).trans rfl
theorem PRun.s16 (h : PRun B w0 p g ve vf vc st w) (u : Int) : PRun B w0 p g ve vf vc { st with cyc := u } (w.setCell ⟨p, 16, none⟩ (.int .i64 (u))) := by obtain ⟨a, b, c, h⟩ := h; exact ⟨a, b, c, h.set 16 _⟩
theorem PRun.c18 (h : PRun B w0 p g ve vf vc st w) : w.cell? ⟨p, 18, none⟩ = some (ve) := by obtain ⟨a, b, c, h⟩ := h; exact (blk_cell h.blk 18).trans rfl
theorem PRun.c19 (h : PRun B w0 p g ve vf vc st w) : w.cell? ⟨p, 19, none⟩ = some (vf) := by obtain ⟨a, b, c, h⟩ := h; exact (blk_cell h.blk 19).trans rfl
theorem PRun.c20 (h : PRun B w0 p g ve vf vc st w) : w.cell? ⟨p, 20, none⟩ = some (vc) := by obtain ⟨a, b, c, h⟩ := h; exact (blk_cell h.blk 20).trans rfl
theorem PRun.c21 (h : PRun B w0 p g ve vf vc st w) : w.cell? ⟨p, 21, none⟩ = some (.int .i64 (st.k)) := by obtain ⟨a, b, c, h⟩ := h; exact (blk_cell h.blk 21).trans rfl
theorem PRun.c22 (h : PRun B w0 p g ve vf vc st w) : w.cell? ⟨p, 22, none⟩ = some (.int .u8 (st.sp.f0)) := by obtain ⟨a, b, c, h⟩ := h; exact (blk_cell h.blk 22).trans rfl
theorem PRun.c23 (h : PRun B w0 p g ve vf vc st w) : w.cell? ⟨p, 23, none⟩ = some (.int .i64 (st.sp.f1)) := by obtain ⟨a, b, c, h⟩ := h; exact (blk_cell h.blk 23).trans rfl
end
abbrev rCells (ve vf vc vC vO vR : Value) (st : St) : Array Value := #[.int .u16 (st.r.a), .int .u16 (st.r.l), .int .u16 (st.r.q), .int .i64 (st.r.z), .int .i64 (st.r.eb), .int .i64 (st.r.fb), .int .i64 (st.r.su), .bool (st.r.ext), .int .u16 (st.r.idx), .bool (st.r.held), .int .u16 (st.r.b), .bool (st.r.inh), .bool (st.r.srv), ve, vf, vc, vC, vO, vR, .int .i64 (st.cyc), .int .u8 (st.op), .int .i64 (st.k), .int .u8 (st.sp.f0), .int .i64 (st.sp.f1)]
def RRun (B : Nat) (w0 : World) (p : Nat) (ve vf vc : Value) (st : St) (w : World) : Prop := ∃ vC vO vR, RunF B w0 p 132 0 none (rCells ve vf vc vC vO vR st) vC vO vR st.cells st.outs st.reads w
section
variable {B : Nat} {w0 w w1 : World} {p : Nat} {ve vf vc : Value} {st : St}
theorem RRun.below (h : RRun B w0 p ve vf vc st w) (hb : Below w.heap.size w w1) : RRun B w0 p ve vf vc st w1 := by obtain ⟨a, b, c, h⟩ := h; exact ⟨a, b, c, h.below hb⟩
theorem RRun.drawn (h : RRun B w0 p ve vf vc st w) (hd : Drawn0 w w1) : RRun B w0 p ve vf vc st w1 := by obtain ⟨n, rfl⟩ := hd; exact h.below (pw_below_drewN (Below.refl _ _) _)
theorem RRun.drew (h : RRun B w0 p ve vf vc st w) : RRun B w0 p ve vf vc st w.drew := h.below (below_drew (Below.refl _ _))
theorem RRun.hb (h : RRun B w0 p ve vf vc st w) : Below B w0 w := by obtain ⟨a, b, c, h⟩ := h; exact h.hb
theorem RRun.size (h : RRun B w0 p ve vf vc st w) : B ≤ w.heap.size := by obtain ⟨a, b, c, h⟩ := h; exact h.base
end
end Go.Proofs.YtgbmaajfbbilhaaGreat.Cpu
end
