/- Chapter 5: a part of its proof (cut by program out of IrQ); no condition. -/
import Derived.BigQuiet
import Derived.Deep.QuietTactic
import Derived.Laws.CopyOwn
import Derived.Test.YthfobpkdloejfaaGreatIr18
import Derived.Test.YthfobpkdloejfaaGreatIr35
import Derived.Test.YthfobpkdloejfaaGreatIr38
import Derived.Test.YthfobpkdloejfaaGreatIr40
import Derived.Test.YthfobpkdloejfaaGreatIr43
set_option linter.unusedVariables false
set_option linter.unusedSimpArgs false
set_option linter.unusedSectionVars false
set_option maxRecDepth 100000
set_option maxHeartbeats 8000000
section
namespace Go.Proofs.YthfobpkdloejfaaGreat.Cpu
open Go.RowKit Go.Proofs.YthfobpkdloejfaaGreat.PAll Go.Proofs.YthfobpkdloejfaaGreat.One Go.Proofs.YthfobpkdloejfaaGreat.Mem Go.Proofs.YthfobpkdloejfaaGreat.Row Go.Proofs.YthfobpkdloejfaaGreatW.PrintWords Go.Proofs.YthfobpkdloejfaaGreatW.PrintLast Go.Proofs.YthfobpkdloejfaaGreatW.PrintMore Go.Proofs.YthfobpkdloejfaaGreat.Plain
attribute [local go_sem high] eqA64
attribute [local go_sem high] eqA61
theorem row_spliced7 {w w1 : World} {base g n c a : Nat} {ok : Nat → Prop} {xs : List Int} (h : Kd.R (Kd.int .u16) 24 w base ok (.slice (some ⟨g, 0, none⟩) n c) xs) {cur : List Value} (hg : w.heap[g]? = some (.cells cur.toArray 24 (0, 0))) {ys : List Int} (hfit : a + ys.length ≤ xs.length)
 (h1 : w1.heap[g]? = some (.cells (splice cur a (ys.map (Value.int .u16))).toArray 24 (0, 0))) :
 Kd.R (Kd.int .u16) 24 w1 base ok (.slice (some ⟨g, 0, none⟩) n c) (xs.take a ++ (ys ++ xs.drop (a + ys.length))) := by
 obtain ⟨hn, _, _⟩ := Kd.R_reads' h
 obtain ⟨hl, ho⟩ := Kd.own_of_R h
 rcases ho with ⟨hv, _⟩ | ⟨g', cap, cur', hv, hb, hg', h2, h3, h4, h5⟩
 · cases hv
 · injection hv with e1 e2 e3
   injection e1 with e1
   injection e1 with e1
   subst e1; subst e3
   rw [hg] at hg'
   injection hg' with hg'
   injection hg' with hc
   subst hc
   simp only [Nat.mul_one, List.size_toArray] at h4 h5
   have hxl : (xs.take a ++ (ys ++ xs.drop (a + ys.length))).length = xs.length := by
    simp only [List.length_append, List.length_take, List.length_drop]; omega
   refine Kd.R_of_own (enc := Value.int .u16) ⟨by rw [hxl, Nat.mul_one, encs_length, hxl], Or.inr ⟨g, c, _, by rw [hxl, hn], hb, h1, by rw [hxl]; exact h2, h3, ?_, ?_⟩⟩ h.1
   · rw [List.size_toArray, length_splice _ _ _ (by rw [List.length_map]; omega), Nat.mul_one]; exact h4
   · rw [hxl, Nat.mul_one]
     show (splice cur a (ys.map (Value.int .u16))).take xs.length = _
     have hx : cur.take xs.length = xs.map (Value.int .u16) := h5
     have e : (splice cur a (ys.map (Value.int .u16))).take xs.length = (cur.take xs.length).take a ++ (ys.map (Value.int .u16) ++ (cur.take xs.length).drop (a + ys.length)) := by
      unfold splice
      rw [List.take_append, List.take_append, List.take_take, List.take_take, List.drop_take, List.length_map]
      have z1 : (cur.take a).length = a := by rw [List.length_take]; omega
      rw [z1, List.take_of_length_le (i := xs.length - a) (l := ys.map (Value.int .u16)) (by rw [List.length_map]; omega)]
      rw [show min xs.length a = a by omega, show min a xs.length = a by omega, show xs.length - a - ys.length = xs.length - (a + ys.length) by omega]
     rw [e, hx]
     show _ = (xs.take a ++ (ys ++ xs.drop (a + ys.length))).map (Value.int .u16)
     rw [List.map_append, List.map_append, List.map_take, List.map_drop]
theorem copy_src7 {w : World} {A : Option Addr} {n : Nat} {xs : List Int} (h : ReadsOf (Value.int .u16) (0 : Int) w A n xs) (hp : 0 < n) : ∃ ad, A = some ad ∧ ∀ j v, (xs.map (Value.int .u16))[j]? = some v → w.cell? (ad.add j) = some v := by
 obtain ⟨ad, e, hc⟩ := h.2.2 hp
 refine ⟨ad, e, fun j v hv => ?_⟩
 rw [List.getElem?_map, Option.map_eq_some_iff] at hv
 obtain ⟨x, hx, rfl⟩ := hv
 obtain ⟨hj, hx⟩ := List.getElem?_eq_some_iff.1 hx
 rw [hc j (by have := h.1; omega), List.getD_eq_getElem?_getD, List.getElem?_eq_getElem hj, hx]; rfl
theorem row_len7 {w : World} {base g n c : Nat} {ok : Nat → Prop} {xs : List Int} (h : Kd.R (Kd.int .u16) 24 w base ok (.slice (some ⟨g, 0, none⟩) n c) xs) {cur : List Value} (hg : w.heap[g]? = some (.cells cur.toArray 24 (0, 0))) : xs.length ≤ cur.length := by
 obtain ⟨hn, _, _⟩ := Kd.R_reads' h
 obtain ⟨hl, ho⟩ := Kd.own_of_R h
 rcases ho with ⟨hv, _⟩ | ⟨g', cap, cur', hv, hb, hg', h2, h3, h4, h5⟩
 · cases hv
 · injection hv with e1 e2 e3
   injection e1 with e1
   injection e1 with e1
   subst e1
   rw [hg] at hg'
   injection hg' with hg'
   injection hg' with hc
   subst hc
   simp only [Nat.mul_one, List.size_toArray] at h4
   omega
theorem kinds_ok7 {r : Rg} (h : r.Ok) : r.Kinds := ⟨h.a0, by have := h.a1; omega, h.l0, by have := h.l1; omega, h.q0, by have := h.q1; omega, h.i0, by have := h.i1; omega, h.b0, by have := h.b1; omega⟩
theorem info7 : (Tryz.prog.info? 24).map (fun i => (i.zero, i.size, i.bytes)) = some (some (.int .u16 0), 1, 2) := by kernel_rfl
theorem info71 : (Tryz.prog.info? 24).map (·.size) = some 1 := by kernel_rfl
theorem R_someq7 {W : World} {B n c : Nat} {ok : Nat → Prop} {A : Option Addr} {xs : List Int} (h : Kd.R (Kd.int .u16) 24 W B ok (.slice A n c) xs) (hx : 0 < n) : ∃ g, A = some ⟨g, 0, none⟩ := by
 have e := (Kd.R_reads' h).1
 subst e
 exact R_some h hx
theorem own_cell7 {W : World} {B n c g : Nat} {ok : Nat → Prop} {xs : List Int} (hR : Kd.R (Kd.int .u16) 24 W B ok (.slice (some ⟨g, 0, none⟩) n c) xs) (i : Nat) (h1 : i < n) : ∃ old, W.cell? ⟨g, i, none⟩ = some old ∧ W.frozen? ⟨g, i, none⟩ = false := by
 obtain rfl := (Kd.R_reads' hR).1
 have h := Kd.R_cell (enc := Value.int .u16) (h1 := fun _ => rfl) (0 : Int) hR (i : Int) (by omega) (by omega)
 exact ⟨_, h.1, h.2⟩
theorem blk_keep {w w' : World} {k g : Nat} {o : Obj} (h : w.heap[k]? = some o) (hk : KeepBut w w' g none) (ne : k ≠ g) : w'.heap[k]? = some o := by
 have hl : k < w.heap.size := by
  rcases Nat.lt_or_ge k w.heap.size with h' | h'
  · exact h'
  · rw [Array.getElem?_eq_none h'] at h; cases h
 rw [hk.2 k hl ne (by simp)]; exact h
theorem copy_row_ {P : Program} {w : World} {ops : Array Oper} {rest : List Oper} {o : Oper} {a : Act} {Q : Exit → Act → World → Prop} (hgd : o.guard = none) (d s : Operand) (dT sT : TypeId)
 (ho : o.op = .call { callee := .builtin .copy, args := #[d, s], argTypes := #[dT, sT] }) (elem : TypeId) (hu : P.underlying dT = some (.slice elem)) (hsz : (P.info? elem).map (·.size) = some 1)
 (dp sp : Option Addr) (dLen dCap sLen sCap : Nat) (hd : a.eval d = .slice dp dLen dCap) (hs : a.eval s = .slice sp sLen sCap)
 (g off : Nat) (cur : List Value) (t : TypeId) (hg : w.heap[g]? = some (.cells cur.toArray t (0, 0))) (cs : List Value) (hn : cs.length = Nat.min sLen dLen)
 (hpos : 0 < cs.length → dp = some ⟨g, off, none⟩ ∧ ∃ ad, sp = some ad ∧ ∀ j v, cs[j]? = some v → w.cell? (ad.add j) = some v)
 (hfit : off + cs.length ≤ cur.length) (h1 : ∀ v ∈ cs, v.oneCell' = true) (B : Nat) (w0 : World) (hb : RowKit.Below B w0 w) (hBg : B ≤ g)
 (h : ∀ w', w'.heap[g]? = some (.cells (splice cur off cs).toArray t (0, 0)) → RowKit.Below B w0 w' → KeepBut w w' g none → wpList P ops Q rest (a.put o.dst (goInt cs.length)) w') :
 wpList P ops Q (o :: rest) a w := by
 by_cases h0 : cs.length = 0
 · obtain rfl : cs = [] := List.eq_nil_of_length_eq_zero h0
   refine wpList_copy_nothing hgd d s dT sT ho elem hu hsz dp sp dLen dCap sLen sCap hd hs (by simpa using hn.symm) ?_
   exact h w (by simpa [splice] using hg) hb ⟨Nat.le_refl _, fun _ _ _ _ => rfl⟩
 · obtain ⟨rfl, ad, rfl, hsrc⟩ := hpos (by omega)
   refine wpList_copy_own hgd d s dT sT ho elem hu hsz g off dLen dCap ad sLen sCap hd hs cur.toArray t hg cs hn hsrc (by simpa using hfit) h1 ?_
   exact h _ (by simpa [splice] using setRow_heap w g _ _ t _ hg) (below_setRow hb hBg _) (keep_row w g _)
def uL (m0 : List Int) (z x : Int) : List Int := ((m0 ++ (List.replicate (max 16 m0.length) (0 : Int)).drop m0.length).set 13 z).set 15 x
theorem uL_len (m0 : List Int) (z x : Int) : (uL m0 z x).length = max 16 m0.length := by
 unfold uL
 rw [List.length_set, List.length_set, List.length_append, List.length_drop, List.length_replicate]
 omega
theorem uL_get (m0 : List Int) (z x : Int) (k : Nat) : (uL m0 z x).getD k 0 = if k = 15 then x else if k = 13 then z else m0.getD k 0 := by
 have hl : (m0 ++ (List.replicate (max 16 m0.length) (0 : Int)).drop m0.length).length = max 16 m0.length := by rw [List.length_append, List.length_drop, List.length_replicate]; omega
 unfold uL
 rw [List.getD_eq_getElem?_getD, List.getElem?_set, List.length_set, hl]
 by_cases h15 : k = 15
 · subst h15; rw [if_pos rfl, if_pos (by omega), if_pos rfl]; rfl
 rw [if_neg (by omega), if_neg h15, List.getElem?_set, hl]
 by_cases h13 : k = 13
 · subst h13; rw [if_pos rfl, if_pos (by omega), if_pos rfl]; rfl
 rw [if_neg (by omega), if_neg h13, List.getD_eq_getElem?_getD]
 by_cases hk : k < m0.length
 · rw [List.getElem?_append_left hk]
 · rw [List.getElem?_append_right (by omega), List.getElem?_eq_none (by omega : m0.length ≤ k), List.getElem?_drop, List.getElem?_replicate]
   split <;> rfl
theorem uL_rng {m0 : List Int} {z x : Int} (h : rngL m0) (z0 : 0 ≤ z) (z1 : z < 65536) (x0 : 0 ≤ x) (x1 : x < 65536) : rngL (uL m0 z x) := by
 intro i
 have hi := h i
 unfold rd at hi ⊢
 rw [uL_get]
 split
 · exact ⟨x0, x1⟩
 · split
   · exact ⟨z0, z1⟩
   · exact hi
theorem uL_elem (m0 : List Int) (z x k : Int) (h0 : 0 ≤ k) (h13 : k ≠ 13) (h15 : k ≠ 15) : elemN (uL m0 z x) k = elemN m0 k := by
 unfold elemN
 have e : rd (uL m0 z x) k = rd m0 k := by unfold rd; rw [uL_get, if_neg (by omega), if_neg (by omega)]
 rw [e, uL_len]
 by_cases hk : k < (m0.length : Int)
 · rw [if_pos (by omega), if_pos hk]
 · rw [if_neg hk]
   split
   · have : rd m0 k = 0 := by unfold rd; rw [List.getD_eq_getElem?_getD, List.getElem?_eq_none (by omega)]; rfl
     rw [this]; rfl
   · rfl
theorem uL_13 (m0 : List Int) (z x : Int) (z0 : 0 ≤ z) (z1 : z ≤ 32767) : elemN (uL m0 z x) 13 = z ∧ Rup.svN (uL m0 z x) 13 = z := by
 have e : rd (uL m0 z x) 13 = z := by unfold rd; rw [uL_get]; rfl
 refine ⟨?_, ?_⟩
 · unfold elemN; rw [if_pos (by rw [uL_len]; omega), e]; omega
 · unfold Rup.svN; rw [if_pos (by rw [uL_len]; omega)]; exact e
theorem uL_15 (m0 : List Int) (z x : Int) (x0 : 0 ≤ x) (x1 : x ≤ 32767) : elemN (uL m0 z x) 15 = x ∧ Rup.svN (uL m0 z x) 15 = x := by
 have e : rd (uL m0 z x) 15 = x := by unfold rd; rw [uL_get]; rfl
 refine ⟨?_, ?_⟩
 · unfold elemN; rw [if_pos (by rw [uL_len]; omega), e]; omega
 · unfold Rup.svN; rw [if_pos (by rw [uL_len]; omega)]; exact e
theorem step_any {m0 m1 m2 : List Int} (r : Rg) (hk : r.Kinds) : ∃ (s : St) (er : Int), er = sErr r ⟨m0, m1, m2⟩ ∧ (er = 0 → s = stepN r ⟨m0, m1, m2⟩) ∧ ∀ (A0 A1 A2 : Option Addr) (q0 q1 q2 k0 k1 k2 : Nat) (w' : World), VwAt w' A0 A1 A2 ⟨m0, m1, m2⟩ → m0.length = q0 → m1.length = q1 → m2.length = q2 → q0 ≤ k0 → q1 ≤ k1 → q2 ≤ k2 → Calls Tryz.prog 21 #[.agg #[.int .u16 r.a, .int .u16 r.l, .int .u16 r.q, .int .i64 r.z, .int .i64 r.eb, .int .i64 r.fb, .int .i64 r.su, .bool r.ext, .int .u16 r.idx, .bool r.held, .int .u16 r.b, .bool r.inh, .bool r.srv], .agg #[.slice A0 q0 k0, .slice A1 q1 k1, .slice A2 q2 k2]] w' fun e w1 => ∃ vC vO vR : Value, e = .returned (.tuple #[.agg #[.int .u16 s.r.a, .int .u16 s.r.l, .int .u16 s.r.q, .int .i64 s.r.z, .int .i64 s.r.eb, .int .i64 s.r.fb, .int .i64 s.r.su, .bool s.r.ext, .int .u16 s.r.idx, .bool s.r.held, .int .u16 s.r.b, .bool s.r.inh, .bool s.r.srv], .agg #[vC, vO, vR, .int .i64 s.cyc, .int .u8 s.op], .int .i64 er]) ∧ Kd.R k61 61 w1 w'.heap.size (fun k => some k ≠ vO.ownBlock) vC s.cells ∧ Kd.R k61 61 w1 w'.heap.size (fun k => some k ≠ vC.ownBlock) vO s.outs ∧ Kd.R k64 64 w1 w'.heap.size (fun _ => True) vR s.reads ∧ Below w'.heap.size w' w1 := by
 by_cases he : sErr r ⟨m0, m1, m2⟩ = 0
 · refine ⟨stepN r ⟨m0, m1, m2⟩, 0, he.symm, fun _ => rfl, ?_⟩
   rintro A0 A1 A2 q0 q1 q2 k0 k1 k2 w' hv rfl rfl rfl h0 h1 h2
   exact step_c w' hv h0 h1 h2 hk he
 · refine ⟨⟨⟨0, 0, 0, 0, 0, 0, 0, false, 0, false, 0, false, false⟩, [], [], [], 0, 0, 0, ⟨0, 0⟩⟩, sErr r ⟨m0, m1, m2⟩, rfl, fun e => absurd e he, ?_⟩
   rintro A0 A1 A2 q0 q1 q2 k0 k1 k2 w' hv rfl rfl rfl h0 h1 h2
   exact (step_e w' hv h0 h1 h2 hk he).mono fun e w1 ⟨h1, h2⟩ => ⟨_, _, _, h1, Kd.R_nil _ _ _ _ _, Kd.R_nil _ _ _ _ _, Kd.R_nil _ _ _ _ _, h2⟩
theorem enter_any (r : Rg) (hk : r.Kinds) (y : Int) (y0 : 0 ≤ y) (y1 : y < 65536) (nx : Int) (x0 : 0 ≤ nx) (x1 : nx < 65536) : ∃ (X : Rg) (S' N' E : Int) (LS : List Cl), (E = 0 → r.Ok ∧ Quiet r ∧ ∃ n, 1 ≤ n ∧ n ≤ 10 ∧ X = { r with z := 2048 + 4 * n, srv := true } ∧ LS = [⟨13, r.z⟩, ⟨15, nx % 32768⟩]) ∧ ∀ w : World,
 Calls Tryz.prog 37 #[.agg #[.int .u16 r.a, .int .u16 r.l, .int .u16 r.q, .int .i64 r.z, .int .i64 r.eb, .int .i64 r.fb, .int .i64 r.su, .bool r.ext, .int .u16 r.idx, .bool r.held, .int .u16 r.b, .bool r.inh, .bool r.srv], .agg #[.int .u16 y], .int .u16 nx] w fun e w' => ∃ v, e = .returned (.tuple #[.agg #[.int .u16 X.a, .int .u16 X.l, .int .u16 X.q, .int .i64 X.z, .int .i64 X.eb, .int .i64 X.fb, .int .i64 X.su, .bool X.ext, .int .u16 X.idx, .bool X.held, .int .u16 X.b, .bool X.inh, .bool X.srv], .agg #[.int .u16 S'], v, .int .i64 N', .int .i64 E]) ∧ Kd.R k61 61 w' w.heap.size (fun _ => True) v LS ∧ Below w.heap.size w w' := by
 have nil : ∀ (W : World) (b : Nat) (ok : Nat → Prop), Kd.R k61 61 W b ok (.slice none 0 0) [] := fun W b ok => Kd.R_nil _ _ _ _ _
 cases hm : r.may
 · exact ⟨⟨0, 0, 0, 0, 0, 0, 0, false, 0, false, 0, false, false⟩, 0, 0, 2, [], fun e => absurd e (by decide), fun w => (Rup.Enter_c1 _ _ _ _ _ _ _ _ _ _ _ _ _ y nx y0 y1 hm w).mono fun e w' ⟨h1, h2⟩ => ⟨_, h1, nil _ _ _, h2⟩⟩
 · have ok := Rg.Ok.of_may hk hm
   cases ha : Rup.alB r.a r.idx r.ext r.held r.inh r.srv
   · exact ⟨⟨0, 0, 0, 0, 0, 0, 0, false, 0, false, 0, false, false⟩, 0, 0, 14, [], fun e => absurd e (by decide), fun w => (Rup.Enter_c2 _ _ _ _ _ _ _ _ _ _ _ _ _ y nx y0 y1 hm (by rw [ha]; rfl) w).mono fun e w' ⟨h1, h2⟩ => ⟨_, h1, nil _ _ _, h2⟩⟩
   · cases hc : Rup.chI y with
     | none => exact ⟨⟨0, 0, 0, 0, 0, 0, 0, false, 0, false, 0, false, false⟩, 0, 0, 14, [], fun e => absurd e (by decide), fun w => (Rup.Enter_c2 _ _ _ _ _ _ _ _ _ _ _ _ _ y nx y0 y1 hm (by rw [ha, hc]; rfl) w).mono fun e w' ⟨h1, h2⟩ => ⟨_, h1, nil _ _ _, h2⟩⟩
     | some n =>
      have hr := (Rup.chI_range hc).1
      have hz : IntKind.u16.wrap r.z = r.z := u16w ok.z0 (by have := ok.z1; omega)
      refine ⟨{ r with z := 2048 + 4 * n, srv := true }, Rup.le y n, n, 0, [⟨13, r.z⟩, ⟨15, nx % 32768⟩], fun _ => ⟨ok, quiet_of ha, n, hr.1, hr.2, rfl, rfl⟩, fun w => ?_⟩
      have h := Rup.Enter_c3 r.a r.l r.q r.z r.eb r.fb r.su r.ext r.idx r.held r.b r.inh r.srv y nx n y0 y1 x0 x1 hm ha hc w
      rw [hz] at h
      exact h
theorem load_any {A0 A1 A2 : Option Addr} {k0 k1 k2 : Nat} (r : Rg) (m0 m1 m2 : List Int) (hk : r.Kinds) (w : World) (hv : VwAt w A0 A1 A2 ⟨m0, m1, m2⟩) (h0 : m0.length ≤ k0) (h1 : m1.length ≤ k1) (h2 : m2.length ≤ k2) (lx le : Int) (ll : List Sp) (hl : loadN r ⟨m0, m1, m2⟩ r.z = (lx, ll, le)) :
 Calls Tryz.prog 15 #[.agg #[.int .u16 r.a, .int .u16 r.l, .int .u16 r.q, .int .i64 r.z, .int .i64 r.eb, .int .i64 r.fb, .int .i64 r.su, .bool r.ext, .int .u16 r.idx, .bool r.held, .int .u16 r.b, .bool r.inh, .bool r.srv], .agg #[.slice A0 m0.length k0, .slice A1 m1.length k1, .slice A2 m2.length k2], .int .i64 r.z] w fun e w' => ∃ v, e = .returned (.tuple #[.int .u16 lx, v, .int .i64 le]) ∧ Kd.R k64 64 w' w.heap.size (fun _ => True) v ll ∧ Below w.heap.size w w' := by
 have h := load_c (r := r) (v := ⟨m0, m1, m2⟩) w hv h0 h1 h2 r.z hk
 rw [hl] at h
 exact h
theorem load_one {r : Rg} {v : Vw} {lx le : Int} {ll : List Sp} (ok : r.Ok) (hl : loadN r v r.z = (lx, ll, le)) (h1 : ll.length = 1) : lx % 32768 = corI lx ∧ 0 ≤ lx % 32768 ∧ lx % 32768 ≤ 32767 := by
 have hb := load_b (kinds_ok7 ok) v r.z
 rw [hl] at hb
 refine ⟨?_, by omega, by omega⟩
 unfold loadN at hl
 rw [if_neg (by rw [ok.may]; decide)] at hl
 split at hl
 · injection hl with _ hl; injection hl with hl _; rw [← hl] at h1; simp at h1
 · injection hl with ha hl
   injection hl with hl _
   cases hf : (lookN r v (locN r r.z).1).2
   · rw [hf] at hl; rw [← hl] at h1; simp at h1
   · rw [← ha]
     unfold lookN at hf ⊢
     split
     · have e := elem_b v.f (locN r r.z).1.f1; have q := ext_mod e.1 (by have := e.2; omega); rw [q.1]; exact q.2.symm
     · split
       · rename_i c1 c2; rw [if_neg c1, if_pos c2] at hf; cases hf
       · have e := elem_b v.e (locN r r.z).1.f1; have q := ext_mod e.1 (by have := e.2; omega); rw [q.1]; exact q.2.symm
theorem leave_k (X : Rg) (A : Option Addr) (n c : Nat) (xs : List Int) (w : World) (hr : Kd.C (Kd.int .u16) w A xs.length xs) (hn : xs.length = n) (hc : n ≤ c) (hx : ∀ i, 0 ≤ rd xs i ∧ rd xs i < 65536) (z x : Int) (hz : Rup.svN xs 13 % 4096 = z) (hx' : Rup.svN xs 15 % 32768 = x) :
 Calls Tryz.prog 39 #[.agg #[.int .u16 X.a, .int .u16 X.l, .int .u16 X.q, .int .i64 X.z, .int .i64 X.eb, .int .i64 X.fb, .int .i64 X.su, .bool X.ext, .int .u16 X.idx, .bool X.held, .int .u16 X.b, .bool X.inh, .bool X.srv], .slice A n c] w fun e w' => e = .returned (.agg #[.int .u16 X.a, .int .u16 X.l, .int .u16 X.q, .int .i64 z, .int .i64 X.eb, .int .i64 X.fb, .int .i64 X.su, .bool X.ext, .int .u16 X.idx, .bool true, .int .u16 x, .bool X.inh, .bool false]) ∧ Below w.heap.size w w' := by
 subst hn; subst hz; subst hx'
 refine Rup.Leave_c X.a X.l X.q X.z X.eb X.fb X.su X.ext X.idx X.held X.b X.inh X.srv A c xs w hr hc (fun y hy => ?_)
 obtain ⟨i, hi, rfl⟩ := List.getElem_of_mem hy
 have := hx (i : Int)
 unfold rd at this
 rw [List.getD_eq_getElem?_getD, Int.toNat_natCast, List.getElem?_eq_getElem hi] at this
 exact this
theorem wl7 {i n : Int} (h0 : 0 ≤ i) (h1 : i < n) (hn : n ≤ 9223372036854775807) : wrap64 (i + 1) = i + 1 := by unfold wrap64; omega
theorem cells_self7 (l : List Cl) (hm : (l.length : Int) ≤ 9223372036854775807) : ∃ k, perilunelaw07_cells.f k l l = some true := by
 have h : ∀ d : Nat, ∀ i : Int, 0 ≤ i → i + d = l.length → perilunelaw07_cells.l0 (2 * d + 2) l l i = some true := by
  intro d
  induction d with
  | zero =>
   intro i i0 hi
   have c : ¬ i < (l.length : Int) := by omega
   simp [perilunelaw07_cells.l0, perilunelaw07_cells.j1, c]
  | succ d ih =>
   intro i i0 hi
   have c : i < (l.length : Int) := by omega
   have e := ih (i + 1) (by omega) (by omega)
   rw [show 2 * (d + 1) + 2 = (2 * d + 2) + 1 + 1 from by omega]
   rw [perilunelaw07_cells.l0, if_pos c, perilunelaw07_cells.j1]
   simp only [c, i0, decide_true, if_true, beq_self_eq_true, Bool.not_true, Bool.or_self, Bool.false_eq_true, if_false, wl7 i0 c hm]
   exact e
 exact ⟨_, h l.length 0 (by omega) (by omega)⟩
end Go.Proofs.YthfobpkdloejfaaGreat.Cpu
end
