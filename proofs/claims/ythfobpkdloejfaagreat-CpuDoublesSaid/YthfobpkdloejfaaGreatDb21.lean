/- Chapter 5: a part of its proof (cut by program out of CpuC); no condition. -/
import Derived.Test.YthfobpkdloejfaaGreatDb20
section
namespace Go.Proofs.YthfobpkdloejfaaGreat.Cpu
open Go.RowKit Go.Proofs.YthfobpkdloejfaaGreat.PAll Go.Proofs.YthfobpkdloejfaaGreat.One Go.Proofs.YthfobpkdloejfaaGreat.Mem Go.Proofs.YthfobpkdloejfaaGreat.Row Go.Proofs.YthfobpkdloejfaaGreatW.PrintWords Go.Proofs.YthfobpkdloejfaaGreatW.PrintLast Go.Proofs.YthfobpkdloejfaaGreatW.PrintMore Go.Proofs.YthfobpkdloejfaaGreat.Plain
set_option linter.unusedVariables false
set_option linter.unusedSimpArgs false
structure Cx where
  w0 : World
  p : Nat
  g : Nat
  A0 : Option Addr
  A1 : Option Addr
  A2 : Option Addr
  c0 : Nat
  c1 : Nat
  c2 : Nat
  v : Vw
abbrev Cx.ve (c : Cx) : Value := .slice c.A0 c.v.e.length c.c0
abbrev Cx.vf (c : Cx) : Value := .slice c.A1 c.v.f.length c.c1
abbrev Cx.vc (c : Cx) : Value := .slice c.A2 c.v.c.length c.c2
abbrev Cx.at (c : Cx) : Value := .pointer (some ⟨c.p, 0, none⟩)
structure Cx.Ok (c : Cx) : Prop where
  va : VwAt c.w0 c.A0 c.A1 c.A2 c.v
  h0 : c.v.e.length ≤ c.c0
  h1 : c.v.f.length ≤ c.c1
  h2 : c.v.c.length ≤ c.c2
def St.sz (st : St) : Nat := st.reads.length + st.cells.length + st.outs.length
theorem see_sz (st : St) (v : Vw) (x : Sp) : (st.see v x).sz ≤ st.sz + 1 := by unfold St.see St.sz; split <;> simp <;> omega
theorem put_sz (st : St) (i x : Int) : (st.put i x).sz ≤ st.sz + 1 := by unfold St.put St.sz; split <;> simp <;> omega
theorem out_sz (st : St) (x : Int) : (st.out x).sz ≤ st.sz + 1 := by unfold St.out St.sz; repeat' split
                                                                     all_goals (simp <;> omega)
structure Cx.P (c : Cx) (n : Nat) (st : St) (w : World) : Prop where
  run : PRun c.w0.heap.size c.w0 c.p c.g c.ve c.vf c.vc st w
  ok : c.Ok
  sz : st.sz ≤ n
section
variable {c : Cx} {n : Nat} {st : St} {w w1 : World}
theorem Cx.P.below (h : c.P n st w) (hb : Below w.heap.size w w1) : c.P n st w1 := ⟨h.run.below hb, h.ok, h.sz⟩
theorem Cx.P.drawn (h : c.P n st w) (hd : Drawn0 w w1) : c.P n st w1 := ⟨h.run.drawn hd, h.ok, h.sz⟩
theorem Cx.P.drew (h : c.P n st w) : c.P n st w.drew := ⟨h.run.drew, h.ok, h.sz⟩
theorem Cx.P.fz (h : c.P n st w) (i : Nat) : w.frozen? ⟨c.p, i, none⟩ = false := h.run.fz i
theorem Cx.P.view (h : c.P n st w) : VwAt w c.A0 c.A1 c.A2 c.v := h.ok.va.below h.run.hb
theorem Cx.P.ra (h : c.P n st w) : RegAt w c.p st.r := ⟨h.run.c0, h.run.c1, h.run.c2, h.run.c3, h.run.c4, h.run.c5⟩
theorem Cx.P.bx (h : c.P n st w) : w.cell? ⟨c.g, 0, none⟩ = some c.at := h.run.bx
theorem Cx.P.c0 (h : c.P n st w) : w.cell? ⟨c.p, 0, none⟩ = some (.int .u16 (st.r.a)) := h.run.c0
theorem Cx.P.s0 (h : c.P n st w) (u : Int) : c.P n { st with r := { st.r with a := u } } (w.setCell ⟨c.p, 0, none⟩ (.int .u16 (u))) := ⟨h.run.s0 u, h.ok, h.sz⟩
theorem Cx.P.e0 {P : Program} {ops : Array Oper} {rest : List Oper} {o : Oper} {a : Act} {Q : Exit → Act → World → Prop} (h : c.P n st w) (hgd : o.guard = none) (ty : TypeId) (x v : Operand) (ho : o.op = .store ty x v) (hx : a.eval x = .pointer (some ⟨c.p, 0, none⟩)) (u : Int) (hv : a.eval v = .int .u16 (u)) (hi : (P.info? ty).map (·.size) = some 1) (k : ∀ ws, c.P n { st with r := { st.r with a := u } } ws → wpList P ops Q rest (a.put o.dst undef) ws) : wpList P ops Q (o :: rest) a w := store_cell_ hgd ty x v ho _ _ hx _ hv _ h.c0 (h.fz 0) rfl rfl hi (k _ (h.s0 u))
theorem Cx.P.c1 (h : c.P n st w) : w.cell? ⟨c.p, 1, none⟩ = some (.int .u16 (st.r.l)) := h.run.c1
theorem Cx.P.s1 (h : c.P n st w) (u : Int) : c.P n { st with r := { st.r with l := u } } (w.setCell ⟨c.p, 1, none⟩ (.int .u16 (u))) := ⟨h.run.s1 u, h.ok, h.sz⟩
theorem Cx.P.e1 {P : Program} {ops : Array Oper} {rest : List Oper} {o : Oper} {a : Act} {Q : Exit → Act → World → Prop} (h : c.P n st w) (hgd : o.guard = none) (ty : TypeId) (x v : Operand) (ho : o.op = .store ty x v) (hx : a.eval x = .pointer (some ⟨c.p, 1, none⟩)) (u : Int) (hv : a.eval v = .int .u16 (u)) (hi : (P.info? ty).map (·.size) = some 1) (k : ∀ ws, c.P n { st with r := { st.r with l := u } } ws → wpList P ops Q rest (a.put o.dst undef) ws) : wpList P ops Q (o :: rest) a w := store_cell_ hgd ty x v ho _ _ hx _ hv _ h.c1 (h.fz 1) rfl rfl hi (k _ (h.s1 u))
theorem Cx.P.c2 (h : c.P n st w) : w.cell? ⟨c.p, 2, none⟩ = some (.int .u16 (st.r.q)) := h.run.c2
theorem Cx.P.s2 (h : c.P n st w) (u : Int) : c.P n { st with r := { st.r with q := u } } (w.setCell ⟨c.p, 2, none⟩ (.int .u16 (u))) := ⟨h.run.s2 u, h.ok, h.sz⟩
theorem Cx.P.e2 {P : Program} {ops : Array Oper} {rest : List Oper} {o : Oper} {a : Act} {Q : Exit → Act → World → Prop} (h : c.P n st w) (hgd : o.guard = none) (ty : TypeId) (x v : Operand) (ho : o.op = .store ty x v) (hx : a.eval x = .pointer (some ⟨c.p, 2, none⟩)) (u : Int) (hv : a.eval v = .int .u16 (u)) (hi : (P.info? ty).map (·.size) = some 1) (k : ∀ ws, c.P n { st with r := { st.r with q := u } } ws → wpList P ops Q rest (a.put o.dst undef) ws) : wpList P ops Q (o :: rest) a w := store_cell_ hgd ty x v ho _ _ hx _ hv _ h.c2 (h.fz 2) rfl rfl hi (k _ (h.s2 u))
theorem Cx.P.c3 (h : c.P n st w) : w.cell? ⟨c.p, 3, none⟩ = some (.int .i64 (st.r.z)) := h.run.c3
theorem Cx.P.s3 (h : c.P n st w) (u : Int) : c.P n { st with r := { st.r with z := u } } (w.setCell ⟨c.p, 3, none⟩ (.int .i64 (u))) := ⟨h.run.s3 u, h.ok, h.sz⟩
theorem Cx.P.e3 {P : Program} {ops : Array Oper} {rest : List Oper} {o : Oper} {a : Act} {Q : Exit → Act → World → Prop} (h : c.P n st w) (hgd : o.guard = none) (ty : TypeId) (x v : Operand) (ho : o.op = .store ty x v) (hx : a.eval x = .pointer (some ⟨c.p, 3, none⟩)) (u : Int) (hv : a.eval v = .int .i64 (u)) (hi : (P.info? ty).map (·.size) = some 1) (k : ∀ ws, c.P n { st with r := { st.r with z := u } } ws → wpList P ops Q rest (a.put o.dst undef) ws) : wpList P ops Q (o :: rest) a w := store_cell_ hgd ty x v ho _ _ hx _ hv _ h.c3 (h.fz 3) rfl rfl hi (k _ (h.s3 u))
theorem Cx.P.c4 (h : c.P n st w) : w.cell? ⟨c.p, 4, none⟩ = some (.int .i64 (st.r.eb)) := h.run.c4
theorem Cx.P.s4 (h : c.P n st w) (u : Int) : c.P n { st with r := { st.r with eb := u } } (w.setCell ⟨c.p, 4, none⟩ (.int .i64 (u))) := ⟨h.run.s4 u, h.ok, h.sz⟩
theorem Cx.P.e4 {P : Program} {ops : Array Oper} {rest : List Oper} {o : Oper} {a : Act} {Q : Exit → Act → World → Prop} (h : c.P n st w) (hgd : o.guard = none) (ty : TypeId) (x v : Operand) (ho : o.op = .store ty x v) (hx : a.eval x = .pointer (some ⟨c.p, 4, none⟩)) (u : Int) (hv : a.eval v = .int .i64 (u)) (hi : (P.info? ty).map (·.size) = some 1) (k : ∀ ws, c.P n { st with r := { st.r with eb := u } } ws → wpList P ops Q rest (a.put o.dst undef) ws) : wpList P ops Q (o :: rest) a w := store_cell_ hgd ty x v ho _ _ hx _ hv _ h.c4 (h.fz 4) rfl rfl hi (k _ (h.s4 u))
theorem Cx.P.c5 (h : c.P n st w) : w.cell? ⟨c.p, 5, none⟩ = some (.int .i64 (st.r.fb)) := h.run.c5
theorem Cx.P.s5 (h : c.P n st w) (u : Int) : c.P n { st with r := { st.r with fb := u } } (w.setCell ⟨c.p, 5, none⟩ (.int .i64 (u))) := ⟨h.run.s5 u, h.ok, h.sz⟩
theorem Cx.P.e5 {P : Program} {ops : Array Oper} {rest : List Oper} {o : Oper} {a : Act} {Q : Exit → Act → World → Prop} (h : c.P n st w) (hgd : o.guard = none) (ty : TypeId) (x v : Operand) (ho : o.op = .store ty x v) (hx : a.eval x = .pointer (some ⟨c.p, 5, none⟩)) (u : Int) (hv : a.eval v = .int .i64 (u)) (hi : (P.info? ty).map (·.size) = some 1) (k : ∀ ws, c.P n { st with r := { st.r with fb := u } } ws → wpList P ops Q rest (a.put o.dst undef) ws) : wpList P ops Q (o :: rest) a w := store_cell_ hgd ty x v ho _ _ hx _ hv _ h.c5 (h.fz 5) rfl rfl hi (k _ (h.s5 u))
theorem Cx.P.c6 (h : c.P n st w) : w.cell? ⟨c.p, 6, none⟩ = some (.int .i64 (st.r.su)) := h.run.c6
theorem Cx.P.s6 (h : c.P n st w) (u : Int) : c.P n { st with r := { st.r with su := u } } (w.setCell ⟨c.p, 6, none⟩ (.int .i64 (u))) := ⟨h.run.s6 u, h.ok, h.sz⟩
theorem Cx.P.e6 {P : Program} {ops : Array Oper} {rest : List Oper} {o : Oper} {a : Act} {Q : Exit → Act → World → Prop} (h : c.P n st w) (hgd : o.guard = none) (ty : TypeId) (x v : Operand) (ho : o.op = .store ty x v) (hx : a.eval x = .pointer (some ⟨c.p, 6, none⟩)) (u : Int) (hv : a.eval v = .int .i64 (u)) (hi : (P.info? ty).map (·.size) = some 1) (k : ∀ ws, c.P n { st with r := { st.r with su := u } } ws → wpList P ops Q rest (a.put o.dst undef) ws) : wpList P ops Q (o :: rest) a w := store_cell_ hgd ty x v ho _ _ hx _ hv _ h.c6 (h.fz 6) rfl rfl hi (k _ (h.s6 u))
theorem Cx.P.c7 (h : c.P n st w) : w.cell? ⟨c.p, 7, none⟩ = some (.bool (st.r.ext)) := h.run.c7
theorem Cx.P.s7 (h : c.P n st w) (u : Bool) : c.P n { st with r := { st.r with ext := u } } (w.setCell ⟨c.p, 7, none⟩ (.bool (u))) := ⟨h.run.s7 u, h.ok, h.sz⟩
theorem Cx.P.e7 {P : Program} {ops : Array Oper} {rest : List Oper} {o : Oper} {a : Act} {Q : Exit → Act → World → Prop} (h : c.P n st w) (hgd : o.guard = none) (ty : TypeId) (x v : Operand) (ho : o.op = .store ty x v) (hx : a.eval x = .pointer (some ⟨c.p, 7, none⟩)) (u : Bool) (hv : a.eval v = .bool (u)) (hi : (P.info? ty).map (·.size) = some 1) (k : ∀ ws, c.P n { st with r := { st.r with ext := u } } ws → wpList P ops Q rest (a.put o.dst undef) ws) : wpList P ops Q (o :: rest) a w := store_cell_ hgd ty x v ho _ _ hx _ hv _ h.c7 (h.fz 7) rfl rfl hi (k _ (h.s7 u))
theorem Cx.P.c8 (h : c.P n st w) : w.cell? ⟨c.p, 8, none⟩ = some (.int .u16 (st.r.idx)) := h.run.c8
theorem Cx.P.s8 (h : c.P n st w) (u : Int) : c.P n { st with r := { st.r with idx := u } } (w.setCell ⟨c.p, 8, none⟩ (.int .u16 (u))) := ⟨h.run.s8 u, h.ok, h.sz⟩
theorem Cx.P.c9 (h : c.P n st w) : w.cell? ⟨c.p, 9, none⟩ = some (.bool (st.r.held)) := h.run.c9
theorem Cx.P.s9 (h : c.P n st w) (u : Bool) : c.P n { st with r := { st.r with held := u } } (w.setCell ⟨c.p, 9, none⟩ (.bool (u))) := ⟨h.run.s9 u, h.ok, h.sz⟩
theorem Cx.P.e9 {P : Program} {ops : Array Oper} {rest : List Oper} {o : Oper} {a : Act} {Q : Exit → Act → World → Prop} (h : c.P n st w) (hgd : o.guard = none) (ty : TypeId) (x v : Operand) (ho : o.op = .store ty x v) (hx : a.eval x = .pointer (some ⟨c.p, 9, none⟩)) (u : Bool) (hv : a.eval v = .bool (u)) (hi : (P.info? ty).map (·.size) = some 1) (k : ∀ ws, c.P n { st with r := { st.r with held := u } } ws → wpList P ops Q rest (a.put o.dst undef) ws) : wpList P ops Q (o :: rest) a w := store_cell_ hgd ty x v ho _ _ hx _ hv _ h.c9 (h.fz 9) rfl rfl hi (k _ (h.s9 u))
theorem Cx.P.c10 (h : c.P n st w) : w.cell? ⟨c.p, 10, none⟩ = some (.int .u16 (st.r.b)) := h.run.c10
theorem Cx.P.s10 (h : c.P n st w) (u : Int) : c.P n { st with r := { st.r with b := u } } (w.setCell ⟨c.p, 10, none⟩ (.int .u16 (u))) := ⟨h.run.s10 u, h.ok, h.sz⟩
theorem Cx.P.e10 {P : Program} {ops : Array Oper} {rest : List Oper} {o : Oper} {a : Act} {Q : Exit → Act → World → Prop} (h : c.P n st w) (hgd : o.guard = none) (ty : TypeId) (x v : Operand) (ho : o.op = .store ty x v) (hx : a.eval x = .pointer (some ⟨c.p, 10, none⟩)) (u : Int) (hv : a.eval v = .int .u16 (u)) (hi : (P.info? ty).map (·.size) = some 1) (k : ∀ ws, c.P n { st with r := { st.r with b := u } } ws → wpList P ops Q rest (a.put o.dst undef) ws) : wpList P ops Q (o :: rest) a w := store_cell_ hgd ty x v ho _ _ hx _ hv _ h.c10 (h.fz 10) rfl rfl hi (k _ (h.s10 u))
theorem Cx.P.c11 (h : c.P n st w) : w.cell? ⟨c.p, 11, none⟩ = some (.bool (st.r.inh)) := h.run.c11
theorem Cx.P.s11 (h : c.P n st w) (u : Bool) : c.P n { st with r := { st.r with inh := u } } (w.setCell ⟨c.p, 11, none⟩ (.bool (u))) := ⟨h.run.s11 u, h.ok, h.sz⟩
theorem Cx.P.e11 {P : Program} {ops : Array Oper} {rest : List Oper} {o : Oper} {a : Act} {Q : Exit → Act → World → Prop} (h : c.P n st w) (hgd : o.guard = none) (ty : TypeId) (x v : Operand) (ho : o.op = .store ty x v) (hx : a.eval x = .pointer (some ⟨c.p, 11, none⟩)) (u : Bool) (hv : a.eval v = .bool (u)) (hi : (P.info? ty).map (·.size) = some 1) (k : ∀ ws, c.P n { st with r := { st.r with inh := u } } ws → wpList P ops Q rest (a.put o.dst undef) ws) : wpList P ops Q (o :: rest) a w := store_cell_ hgd ty x v ho _ _ hx _ hv _ h.c11 (h.fz 11) rfl rfl hi (k _ (h.s11 u))
theorem Cx.P.c12 (h : c.P n st w) : w.cell? ⟨c.p, 12, none⟩ = some (.bool (st.r.srv)) := h.run.c12
theorem Cx.P.s12 (h : c.P n st w) (u : Bool) : c.P n { st with r := { st.r with srv := u } } (w.setCell ⟨c.p, 12, none⟩ (.bool (u))) := ⟨h.run.s12 u, h.ok, h.sz⟩
theorem Cx.P.e12 {P : Program} {ops : Array Oper} {rest : List Oper} {o : Oper} {a : Act} {Q : Exit → Act → World → Prop} (h : c.P n st w) (hgd : o.guard = none) (ty : TypeId) (x v : Operand) (ho : o.op = .store ty x v) (hx : a.eval x = .pointer (some ⟨c.p, 12, none⟩)) (u : Bool) (hv : a.eval v = .bool (u)) (hi : (P.info? ty).map (·.size) = some 1) (k : ∀ ws, c.P n { st with r := { st.r with srv := u } } ws → wpList P ops Q rest (a.put o.dst undef) ws) : wpList P ops Q (o :: rest) a w := store_cell_ hgd ty x v ho _ _ hx _ hv _ h.c12 (h.fz 12) rfl rfl hi (k _ (h.s12 u))
theorem Cx.P.c16 (h : c.P n st w) : w.cell? ⟨c.p, 16, none⟩ = some (.int .i64 (st.cyc)) := h.run.c16
theorem Cx.P.s16 (h : c.P n st w) (u : Int) : c.P n { st with cyc := u } (w.setCell ⟨c.p, 16, none⟩ (.int .i64 (u))) := ⟨h.run.s16 u, h.ok, h.sz⟩
theorem Cx.P.e16 {P : Program} {ops : Array Oper} {rest : List Oper} {o : Oper} {a : Act} {Q : Exit → Act → World → Prop} (h : c.P n st w) (hgd : o.guard = none) (ty : TypeId) (x v : Operand) (ho : o.op = .store ty x v) (hx : a.eval x = .pointer (some ⟨c.p, 16, none⟩)) (u : Int) (hv : a.eval v = .int .i64 (u)) (hi : (P.info? ty).map (·.size) = some 1) (k : ∀ ws, c.P n { st with cyc := u } ws → wpList P ops Q rest (a.put o.dst undef) ws) : wpList P ops Q (o :: rest) a w := store_cell_ hgd ty x v ho _ _ hx _ hv _ h.c16 (h.fz 16) rfl rfl hi (k _ (h.s16 u))
theorem Cx.P.c18 (h : c.P n st w) : w.cell? ⟨c.p, 18, none⟩ = some (c.ve) := h.run.c18
theorem Cx.P.c19 (h : c.P n st w) : w.cell? ⟨c.p, 19, none⟩ = some (c.vf) := h.run.c19
theorem Cx.P.c20 (h : c.P n st w) : w.cell? ⟨c.p, 20, none⟩ = some (c.vc) := h.run.c20
theorem Cx.P.c21 (h : c.P n st w) : w.cell? ⟨c.p, 21, none⟩ = some (.int .i64 (st.k)) := h.run.c21
theorem Cx.P.c22 (h : c.P n st w) : w.cell? ⟨c.p, 22, none⟩ = some (.int .u8 (st.sp.f0)) := h.run.c22
theorem Cx.P.c23 (h : c.P n st w) : w.cell? ⟨c.p, 23, none⟩ = some (.int .i64 (st.sp.f1)) := h.run.c23
end
structure Cx.R (c : Cx) (n : Nat) (st : St) (w : World) : Prop where
  run : RRun c.w0.heap.size c.w0 c.p c.ve c.vf c.vc st w
  ok : c.Ok
  sz : st.sz ≤ n
section
variable {c : Cx} {n : Nat} {st : St} {w w1 : World}
theorem Cx.R.below (h : c.R n st w) (hb : Below w.heap.size w w1) : c.R n st w1 := ⟨h.run.below hb, h.ok, h.sz⟩
theorem Cx.R.drawn (h : c.R n st w) (hd : Drawn0 w w1) : c.R n st w1 := ⟨h.run.drawn hd, h.ok, h.sz⟩
theorem Cx.R.drew (h : c.R n st w) : c.R n st w.drew := ⟨h.run.drew, h.ok, h.sz⟩
theorem Cx.R.view (h : c.R n st w) : VwAt w c.A0 c.A1 c.A2 c.v := h.ok.va.below h.run.hb
end
end Go.Proofs.YthfobpkdloejfaaGreat.Cpu
end
