/- Chapter 5: a part of its proof (cut by program out of Opens); no condition. -/
import Derived.ChangeArms
import Derived.ChangeSame
import Derived.Deep.Slices
import Derived.Lib.SmallJoins
import Derived.SizedLaws
import Derived.Test.YthfobpkdloejfaaGreatIr9
set_option linter.unusedVariables false
set_option linter.unusedSimpArgs false
set_option linter.unusedSectionVars false
set_option maxRecDepth 100000
set_option maxHeartbeats 8000000
section
namespace Go.Proofs.YthfobpkdloejfaaGreat.Opens
open Go.RowKit Go.ChangeShapes Go.WideShapes Go.Deep Go.Proofs.YthfobpkdloejfaaGreatW.PrintWords Go.Proofs.YthfobpkdloejfaaGreatW.PrintMore
section
variable {H : Type} {enc : TypeId × Value → H} {P : Program} {w : World} {base : Nat} {spare : Nat → Bool} {held : Bool}
def Opens (enc : TypeId × Value → H) (P : Program) (w : World) (base : Nat) (spare : Nat → Bool) (held : Bool) {α : Type} (t : TypeId) (d : Kd α) (wf : α → Prop) : Prop :=
 ∀ fuel cs x, DataW.trod enc P w base spare held fuel t cs = some x → ∃ y, d.K w y cs ∧ wf y
theorem opens_int {t : TypeId} {k : IntKind} (ht : P.underlying t = some (.int k)) : Opens enc P w base spare held t (Kd.int k) (fun n => (Lit.int k n).wf = true) := by
 intro fuel cs x h
 obtain ⟨n, rfl, _, hw⟩ := DataW.trod_int ht h
 exact ⟨n, rfl, hw⟩
theorem opens_bool {t : TypeId} (ht : P.underlying t = some .bool) : Opens enc P w base spare held t Kd.bool (fun _ => True) := by
 intro fuel cs x h
 obtain ⟨n, rfl, _⟩ := DataW.trod_bool ht h
 exact ⟨n, rfl, trivial⟩
theorem opens_iso {t : TypeId} {α β : Type} {d : Kd α} {wf : α → Prop} (f : β → α) (g : α → β) (hg : ∀ a, f (g a) = a) (h : Opens enc P w base spare held t d wf) : Opens enc P w base spare held t (Kd.iso d f) (fun b => wf (f b)) := by
 intro fuel cs x ht
 obtain ⟨y, hy, hw⟩ := h fuel cs x ht
 refine ⟨g y, ?_, ?_⟩
 · show d.K w (f (g y)) cs
   rw [hg]; exact hy
 · show wf (f (g y))
   rw [hg]; exact hw
theorem opens_slice {t e : TypeId} {α : Type} {d : Kd α} {wf : α → Prop} (ht : P.underlying t = some (.slice e)) (hsz : P.cellsOf e = d.sz) (he : Opens enc P w base spare held e d wf) :
 Opens enc P w base spare held t (Kd.slice e d) (fun ys => ys.length ≤ maxLen ∧ ∀ y ∈ ys, wf y) := by
 intro fuel cs x h
 rcases open_slice ht h with ⟨rfl, _⟩ | ⟨a, len, cap, m, n, D, Pl, rfl, hb, hl, hm, hmm, _, hx⟩
 · exact ⟨[], ⟨none, 0, rfl, Nat.le_refl _, ⟨rfl, Nat.zero_le _, fun h => absurd h (Nat.lt_irrefl 0)⟩⟩, Nat.zero_le _, fun y hy => by cases hy⟩
 · have hlm : len ≤ m := by rw [hmm]; split <;> omega
   have each : ∀ i, i < len → ∃ y, (∃ cs', w.cells? base (a.add (i * P.cellsOf e)) (P.cellsOf e) = some cs' ∧ d.K w y cs') ∧ wf y := by
    intro i hi
    obtain ⟨cs', h1, h2⟩ := hx i (by omega)
    obtain ⟨y, hy, hw⟩ := he _ _ _ h2
    exact ⟨y, ⟨cs', h1, hy⟩, hw⟩
   have hc := fun i : Fin len => Classical.choose_spec (each i.1 i.2)
   generalize hf : (fun i : Fin len => Classical.choose (each i.1 i.2)) = f at *
   have hc' : ∀ i : Fin len, (∃ cs', w.cells? base (a.add (i.1 * P.cellsOf e)) (P.cellsOf e) = some cs' ∧ d.K w (f i) cs') ∧ wf (f i) := fun i => by rw [← hf]; exact hc i
   have hn : (List.ofFn f).length = len := List.length_ofFn
   have hmax : len ≤ 9223372036854775807 := Nat.le_trans (Nat.le_trans hl hm) (by decide)
   refine ⟨List.ofFn f, ⟨some a, cap, by rw [hn], by rw [hn]; exact hl, ⟨rfl, by rw [hn]; exact hmax, fun _ => ⟨a, rfl, fun j p hp => ?_⟩⟩⟩, ?_, ?_⟩
   · rw [List.getElem?_ofFn] at hp
     split at hp
     · rename_i hj
       cases hp
       obtain ⟨⟨cs', h1, h2⟩, _⟩ := hc' ⟨j, hj⟩
       obtain ⟨_, hcl, hat⟩ := World.cells?_some h1
       refine ⟨cs', d.K_len h2, h2, fun i u hu => ?_⟩
       have hi : i < P.cellsOf e := by
        have := (List.getElem?_eq_some_iff.1 hu).1
        rw [d.K_len h2] at this; omega
       have := hat i hi
       rw [← hu, ← this, ← Go.Deep.add_add, hsz]
     · cases hp
   · rw [hn]; exact Nat.le_trans hl hm
   · intro y hy
     obtain ⟨i, rfl⟩ := List.mem_ofFn.1 hy
     exact (hc' i).2
def OpensF (enc : TypeId × Value → H) (P : Program) (w : World) (base : Nat) (spare : Nat → Bool) (held : Bool) {α : Type} (fs : List Field) (off : Nat) (d : Kd α) (wf : α → Prop) : Prop :=
 ∀ (n : Nat) (cs : List Value) (xs : List (DataW H × List MemPlace)), cs.length = off + d.sz → xs.length = fs.length →
  (∀ (i : Nat) (f : Field), fs[i]? = some f → DataW.trod enc P w base spare held n f.type ((cs.drop f.offset).take (P.cellsOf f.type)) = xs[i]?) → ∃ y, d.K w y (cs.drop off) ∧ wf y
theorem opensF_one {f : Field} {off : Nat} {α : Type} {d : Kd α} {wf : α → Prop} (ho : f.offset = off) (hc : P.cellsOf f.type = d.sz) (h : Opens enc P w base spare held f.type d wf) : OpensF enc P w base spare held [f] off d wf := by
 intro n cs xs hl hx hf
 match xs, hx with
 | [x], _ =>
  have := hf 0 f rfl
  rw [ho, hc, List.take_of_length_le (by rw [List.length_drop]; omega)] at this
  exact h n _ x this
theorem opensF_cons {f : Field} {fs : List Field} {off : Nat} {α β : Type} {d : Kd α} {e : Kd β} {wf : α → Prop} {wg : β → Prop} (ho : f.offset = off) (hc : P.cellsOf f.type = d.sz) (h : Opens enc P w base spare held f.type d wf)
 (hs : OpensF enc P w base spare held fs (off + d.sz) e wg) : OpensF enc P w base spare held (f :: fs) off (Kd.pair d e) (fun y => wf y.1 ∧ wg y.2) := by
 intro n cs xs hl hx hf
 match xs, hx with
 | x :: xs, hx =>
  have h0 := hf 0 f rfl
  rw [ho, hc] at h0
  obtain ⟨y, hy, hw⟩ := h n _ x h0
  obtain ⟨z, hz, hv⟩ := hs n cs xs (by rw [hl]; show off + (d.sz + e.sz) = _; omega) (by simpa using hx) (fun i g hg => hf (i + 1) g hg)
  refine ⟨(y, z), ⟨_, _, ?_, hy, hz⟩, hw, hv⟩
  rw [← List.drop_drop, List.take_append_drop]
theorem opens_struct {t : TypeId} {fs : List Field} {α : Type} {d : Kd α} {wf : α → Prop} (ht : P.underlying t = some (.struct ⟨fs⟩)) (hc : P.cellsOf t = d.sz) (h : OpensF enc P w base spare held fs 0 d wf) : Opens enc P w base spare held t d wf := by
 intro fuel cs x hx
 obtain ⟨xs, n, _, _, hl, hlen, hf⟩ := DataW.trod_struct ht hx
 obtain ⟨y, hy, hw⟩ := h n cs xs (by rw [hl, hc]; omega) (by simpa using hlen) (fun i f hi => hf i f (by simpa using hi))
 exact ⟨y, by simpa using hy, hw⟩
theorem open_agg {t : TypeId} {fs : Array Field} {α : Type} {d : Kd α} {wf : α → Prop} {r : Reach} {b0 : Nat} {v : Value} {x : DataW H} {ps : List MemPlace} (ht : P.underlying t = some (.struct fs)) (he : Opens enc P w base spare held t d wf) (hv : Value.okWide P w r b0 t v)
 (h : DataW.Trod enc P w base spare held t v x ps) : ∃ y cs, v = .agg ⟨cs⟩ ∧ d.K w y cs ∧ wf y := by
 obtain ⟨⟨cs⟩, rfl, _⟩ := okWide_struct ht hv
 obtain ⟨fuel, hf⟩ := h
 obtain ⟨y, hy, hw⟩ := he fuel _ _ hf
 exact ⟨y, cs, rfl, by simpa [Value.cells] using hy, hw⟩
end
end Go.Proofs.YthfobpkdloejfaaGreat.Opens
end
