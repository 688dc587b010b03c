/- Chapter 5: a part of its proof (cut by program out of CpuP); no condition. -/
import Derived.Test.YtgbmaajfbbilhaaGreatKn12
import Derived.Test.YtgbmaajfbbilhaaGreatKn13
set_option linter.unusedVariables false
set_option linter.unusedSimpArgs false
set_option linter.unusedSectionVars false
set_option maxRecDepth 100000
set_option maxHeartbeats 8000000
section
namespace Go.Proofs.YtgbmaajfbbilhaaGreat.Cpu
open Go.RowKit Go.Proofs.YtgbmaajfbbilhaaGreat.PAll Go.Proofs.YtgbmaajfbbilhaaGreat.One Go.Proofs.YtgbmaajfbbilhaaGreat.Mem Go.Proofs.YtgbmaajfbbilhaaGreatW.PrintWords Go.Proofs.YtgbmaajfbbilhaaGreatW.PrintLast Go.Proofs.YtgbmaajfbbilhaaGreatW.PrintMore Go.Proofs.YtgbmaajfbbilhaaGreat.Plain
abbrev Cl := S47
abbrev Sp := S103
structure Rg where
 a : Int
 l : Int
 q : Int
 z : Int
 eb : Int
 fb : Int
 su : Int
 ext : Bool
 idx : Int
 held : Bool
 b : Int
 inh : Bool
 srv : Bool
structure Vw where
 e : List Int
 f : List Int
 c : List Int
structure St where
 r : Rg
 cells : List Cl
 outs : List Cl
 reads : List Sp
 cyc : Int
 op : Int
 k : Int
 sp : Sp
structure Rg.Kinds (r : Rg) : Prop where
 a0 : 0 ≤ r.a
 a1 : r.a < 65536
 l0 : 0 ≤ r.l
 l1 : r.l < 65536
 q0 : 0 ≤ r.q
 q1 : r.q < 65536
 i0 : 0 ≤ r.idx
 i1 : r.idx < 65536
 b0 : 0 ≤ r.b
 b1 : r.b < 65536
structure Rg.Ok (r : Rg) : Prop where
 a0 : 0 ≤ r.a
 a1 : r.a ≤ 65535
 l0 : 0 ≤ r.l
 l1 : r.l ≤ 32767
 q0 : 0 ≤ r.q
 q1 : r.q ≤ 32767
 z0 : 0 ≤ r.z
 z1 : r.z ≤ 4095
 e0 : 0 ≤ r.eb
 e1 : r.eb ≤ 7
 f0 : 0 ≤ r.fb
 f1 : r.fb ≤ 31
 s0 : 0 ≤ r.su
 s1 : r.su ≤ 7
 i0 : 0 ≤ r.idx
 i1 : r.idx ≤ 32767
 b0 : 0 ≤ r.b
 b1 : r.b ≤ 32767
def Rg.may (r : Rg) : Bool := decide (r.l ≤ 32767 ∧ r.q ≤ 32767 ∧ r.idx ≤ 32767 ∧ r.b ≤ 32767 ∧ (0 ≤ r.z ∧ r.z ≤ 4095) ∧ (0 ≤ r.eb ∧ r.eb ≤ 7) ∧ (0 ≤ r.fb ∧ r.fb ≤ 31) ∧ 0 ≤ r.su ∧ r.su ≤ 7)
theorem Rg.Ok.of_may {r : Rg} (h : r.Kinds) (hm : r.may = true) : r.Ok := by
 have m := of_decide_eq_true hm
 exact ⟨h.a0, by have := h.a1; omega, h.l0, m.1, h.q0, m.2.1, m.2.2.2.2.1.1, m.2.2.2.2.1.2, m.2.2.2.2.2.1.1, m.2.2.2.2.2.1.2, m.2.2.2.2.2.2.1.1, m.2.2.2.2.2.2.1.2, m.2.2.2.2.2.2.2.1, m.2.2.2.2.2.2.2.2, h.i0, m.2.2.1, h.b0, m.2.2.2.1⟩
theorem Rg.Ok.may {r : Rg} (h : r.Ok) : r.may = true :=
 decide_eq_true ⟨h.l1, h.q1, h.i1, h.b1, ⟨h.z0, h.z1⟩, ⟨h.e0, h.e1⟩, ⟨h.f0, h.f1⟩, h.s0, h.s1⟩
def elemN (l : List Int) (i : Int) : Int := if i < (l.length : Int) then rd l i % 32768 else 0
def regN (r : Rg) (i : Int) : Int := if i = 0 then r.a else if i = 1 then extI r.l else if i = 2 then extI r.q else if i = 3 then extI (256 * r.eb) else if i = 4 then extI (1024 * r.fb) else if i = 5 then extI r.z else if i = 6 then extI (1024 * r.fb + r.eb) else 0
def lookN (r : Rg) (v : Vw) (x : Sp) : Int × Bool := if x.f0 = 2 then (extI (elemN v.f x.f1), true) else if x.f1 < 8 then (regN r x.f1, false) else (extI (elemN v.e x.f1), true)
def locN (r : Rg) (k : Int) : Sp × Int := if bankE r.fb r.su ≠ 0 ∧ 1024 ≤ k ∧ k ≤ 2047 then (⟨0, 0⟩, 3) else (⟨absX k r.eb (bankN r.fb r.su), absA k r.eb (bankN r.fb r.su)⟩, absE k r.eb (bankN r.fb r.su))
def loadN (r : Rg) (v : Vw) (k : Int) : Int × List Sp × Int :=
 if r.may = false then (0, [], 2) else if (locN r k).2 ≠ 0 then (0, [], (locN r k).2) else ((lookN r v (locN r k).1).1, if (lookN r v (locN r k).1).2 then [(locN r k).1] else [], 0)
def unitI (a : Int) : Int := if a / 16384 = 1 then 1 else if a / 16384 = 2 then 65534 else 0
def nextSp (x : Sp) : Sp := ⟨x.f0, if x.f0 = 1 ∧ x.f1 + 1 = 2048 ∨ x.f1 + 1 = 36864 then 0 else x.f1 + 1⟩
abbrev St.see (st : St) (v : Vw) (x : Sp) : St := { st with reads := if (lookN st.r v x).2 then st.reads ++ [x] else st.reads }
def putR (r : Rg) (i x : Int) : Rg :=
 if i = 0 then { r with a := x } else if i = 1 then { r with l := corI x } else if i = 2 then { r with q := corI x } else if i = 3 then { r with eb := corI x / 256 % 8 } else if i = 4 then { r with fb := corI x / 1024 }
 else if i = 5 then { r with z := corI x % 4096 } else if i = 6 then { r with fb := corI x / 1024, eb := corI x % 8 } else r
def St.put (st : St) (i x : Int) : St := if i < 8 then { st with r := putR st.r i x } else { st with cells := st.cells ++ [⟨i, editI i (corI x)⟩] }
def skipR (r : Rg) (n : Int) : Rg := { r with z := (r.z + n) % 4096 }
def St.chan (st : St) (v : Vw) : Int := if st.k = 1 then st.r.l else if st.k = 2 then st.r.q else if st.k = 7 then 16 * st.r.su else elemN v.c st.k
def St.out (st : St) (x : Int) : St :=
 if st.k = 1 then { st with r := { st.r with l := x } } else if st.k = 2 then { st with r := { st.r with q := x } } else if st.k = 7 then { st with r := { st.r with su := x / 16 % 8 } } else { st with outs := st.outs ++ [⟨st.k, x⟩] }
abbrev St.setA (st : St) (x : Int) : St := { st with r := { st.r with a := x } }
def negB (x : Int) : Bool := decide (x % 32768 > 16383)
def absI (x : Int) : Int := if x < 0 then -x else x
def mulH (a b : Int) : Int := if negB a = negB b then absI (valI a * valI b) / 16384 else negI (absI (valI a * valI b) / 16384)
def mulL (a b : Int) : Int := if negB a = negB b then absI (valI a * valI b) % 16384 else negI (absI (valI a * valI b) % 16384)
def divM (hi lo : Int) : Bool := if valI hi = 0 then negB lo else negB hi
def divQ (hi lo d : Int) : Int :=
 if divM hi lo = negB d then (if absI (16384 * valI hi + valI lo) < 16384 * absI (valI d) then absI (16384 * valI hi + valI lo) / absI (valI d) else 16383)
 else negI (if absI (16384 * valI hi + valI lo) < 16384 * absI (valI d) then absI (16384 * valI hi + valI lo) / absI (valI d) else 16383)
def divR (hi lo d : Int) : Int :=
 if absI (16384 * valI hi + valI lo) < 16384 * absI (valI d) then (if divM hi lo = true then negI (absI (16384 * valI hi + valI lo) % absI (valI d)) else absI (16384 * valI hi + valI lo) % absI (valI d)) else lo % 32768
section
variable (st : St) (v : Vw)
abbrev rdA : Int := (lookN st.r v st.sp).1
abbrev rdW : Int := corI (rdA st v)
abbrev St.rd : St := st.see v st.sp
def xTc : St := { st with r := { st.r with b := if st.k = 2 then st.r.q else st.r.b, held := if st.k = 2 then true else st.r.held, q := st.r.z, z := st.k } }
def xTcf : St := { st with r := { st.r with z := st.k } }
def xBranch (c : Bool) : St := if c = true then { st with cyc := 1, r := { st.r with z := st.k } } else st
def xCcs : St := { st.rd v with r := skipR { st.r with a := dimI (rdA st v) } (clsI (rdA st v)) }
def xDas : St :=
 let s1 := st.see v (nextSp st.sp)
 let y := (lookN st.r v (nextSp st.sp)).1
 let s2 := s1.see v st.sp
 let t := addAccI y (extI st.r.l)
 let u := addAccI (addAccI (rdA st v) st.r.a) (unitI t)
 if st.sp.f1 = 0 then { s2 with r := { st.r with a := u, l := corI t } }
 else
  let s3 := (s2.put (nextSp st.sp).f1 t).put st.sp.f1 u
  { s3 with r := { s3.r with a := unitI u, l := 0 } }
def xXch : St := ((st.rd v).put st.sp.f1 st.r.a).setA (rdA st v)
def xDxch : St :=
 let s1 := (st.see v (nextSp st.sp)).put (nextSp st.sp).f1 (extI st.r.l)
 let s2 := { s1 with r := { s1.r with l := corI (lookN st.r v (nextSp st.sp)).1 } }
 xXch s2 v
def xLxch : St :=
 let s1 := (st.rd v).put st.sp.f1 (extI st.r.l)
 { s1 with r := { s1.r with l := rdW st v } }
def xQxch : St :=
 let s1 := (st.rd v).put st.sp.f1 (extI st.r.q)
 { s1 with r := { s1.r with q := rdW st v } }
def xTs : St :=
 let s1 := if st.sp.f1 ≠ 0 then st.put st.sp.f1 st.r.a else st
 if unitI st.r.a = 0 then s1 else
 let s2 := { s1 with r := skipR s1.r 1 }
 if st.sp.f1 ≠ 0 then s2.setA (unitI st.r.a) else s2
def xIncr : St := (st.rd v).put st.sp.f1 (addAccI (rdA st v) 1)
def xAug : St := (st.rd v).put st.sp.f1 (addAccI (rdA st v) (if rdA st v > 32767 then 65534 else 1))
def xDim : St := (st.rd v).put st.sp.f1 (if clsI (rdA st v) = 0 then rdA st v - 1 else if clsI (rdA st v) = 2 then rdA st v + 1 else rdA st v)
def xAds : St := ((st.rd v).put st.sp.f1 (addAccI st.r.a (rdA st v))).setA (addAccI st.r.a (rdA st v))
def xDca : St :=
 let s2 := (st.see v (nextSp st.sp)).see v st.sp
 { s2 with r := { st.r with a := rdA st v, l := corI (lookN st.r v (nextSp st.sp)).1 } }
def xDcs : St :=
 let s2 := (st.see v (nextSp st.sp)).see v st.sp
 { s2 with r := { st.r with a := negAccI (rdA st v), l := negI (corI (lookN st.r v (nextSp st.sp)).1) } }
def xMp : St := { st.rd v with r := { st.r with a := extI (mulH (corI st.r.a) (rdW st v)), l := mulL (corI st.r.a) (rdW st v) } }
def xDv : St := { st.rd v with r := { st.r with a := extI (divQ (corI st.r.a) st.r.l (rdW st v)), l := divR (corI st.r.a) st.r.l (rdW st v) } }
def xResume : St :=
 let s2 := (st.see v ⟨1, 13⟩).see v ⟨1, 15⟩
 { s2 with r := { st.r with z := (lookN st.r v ⟨1, 13⟩).1 % 4096, b := corI (lookN st.r v ⟨1, 15⟩).1, held := true, srv := false } }
def xIndex : St := { st.rd v with r := { st.r with idx := rdW st v } }
def xXindex : St := { st.rd v with r := { st.r with idx := rdW st v, ext := true } }
def xBoth (x : Int) : St := (st.out x).setA (extI x)
def exec (c : Int) : St :=
 if c = 1 then xTc st else if c = 2 then { st with r := { st.r with ext := true } } else if c = 3 then { st with r := { st.r with inh := true } } else if c = 4 then { st with r := { st.r with inh := false } }
 else if c = 5 then xCcs st v else if c = 6 then xTcf st else if c = 7 then xDas st v else if c = 8 then xLxch st v else if c = 9 then xIncr st v else if c = 10 then xAds st v
 else if c = 11 then (st.rd v).setA (rdA st v) else if c = 12 then (st.rd v).setA (negAccI (rdA st v)) else if c = 13 then xIndex st v else if c = 14 then xResume st v
 else if c = 15 then xDxch st v else if c = 16 then xTs st else if c = 17 then xXch st v else if c = 18 then (st.rd v).setA (addAccI st.r.a (rdA st v)) else if c = 19 then (st.rd v).setA (extI (Go.bits .and .u16 (corI st.r.a) (rdW st v)))
 else if c = 20 then st.setA (extI (st.chan v)) else if c = 21 then st.out (corI st.r.a) else if c = 22 then st.setA (extI (Go.bits .and .u16 (corI st.r.a) (st.chan v))) else if c = 23 then xBoth st (Go.bits .and .u16 (corI st.r.a) (st.chan v))
 else if c = 24 then st.setA (extI (Go.bits .or .u16 (corI st.r.a) (st.chan v))) else if c = 25 then xBoth st (Go.bits .or .u16 (corI st.r.a) (st.chan v)) else if c = 26 then st.setA (extI (Go.bits .xor .u16 (corI st.r.a) (st.chan v)))
 else if c = 27 then st else if c = 28 then xDv st v else if c = 29 then xBranch st (decide (st.r.a = 0 ∨ st.r.a = 65535)) else if c = 30 then (st.rd v).setA (extI (tdI (corI st.r.a) (rdW st v)))
 else if c = 31 then xQxch st v else if c = 32 then xAug st v else if c = 33 then xDim st v else if c = 34 then xDca st v else if c = 35 then xDcs st v
 else if c = 36 then xXindex st v else if c = 37 then (st.rd v).setA (addAccI st.r.a (negAccI (rdA st v))) else if c = 38 then xBranch st (decide (st.r.a = 0 ∨ st.r.a > 32767)) else xMp st v
end
end Go.Proofs.YtgbmaajfbbilhaaGreat.Cpu
end
