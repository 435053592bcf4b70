/- What is proved here: data that comes in (slices, structs, arrays, whole numbers) reads as the lists and numbers of the printed functions. -/
import Derived.Test.YtccjefoejjnccaaC0
import Derived.Deep.Slices
import Derived.OpenShut
import Derived.ChangeArms
namespace Go.Proofs.Ytccjefoejjnccaa.O
open Go.ChangeShapes Go.WideShapes Go.RowKit Go.Deep Go.Proofs.Ytccjefoejjnccaa Go.Proofs.Ytccjefoejjnccaa.C Go.Proofs.YtccjefoejjnccaaW.PrintWords Go.Proofs.YtccjefoejjnccaaW.PrintLast
set_option linter.unusedVariables false
/-- What is read at a type is of a kind. -/
def Opens (P : Program) {α : Type} (e : TypeId) (d : Kd α) : Prop :=
  d.sz = P.cellsOf e ∧ ∀ (H : Type) (enc : TypeId × Value → H) (w : World) (base : Nat) (spare : Nat → Bool) (held : Bool) (n : Nat) (cs : List Value) (x : DataW H × List MemPlace), DataW.trod enc P w base spare held n e cs = some x → ∃ y : α, d.K w y cs
theorem opens_int {P : Program} {e : TypeId} {k : IntKind} (ht : P.underlying e = some (.int k)) (hc : P.cellsOf e = 1) : Opens P e (Kd.int k) :=
  ⟨hc.symm, fun H enc w base spare held n cs x h => by
    obtain ⟨y, rfl, _⟩ := DataW.trod_int ht h
    exact ⟨y, rfl⟩⟩
theorem opens_iso {P : Program} {α β : Type} {e : TypeId} {d : Kd α} (f : β → α) (g : α → β) (hg : ∀ x, f (g x) = x) (h : Opens P e d) : Opens P e (Kd.iso d f) :=
  ⟨h.1, fun H enc w base spare held n cs x hx => by
    obtain ⟨y, hy⟩ := h.2 H enc w base spare held n cs x hx
    exact ⟨g y, show d.K w (f (g y)) cs by rw [hg]; exact hy⟩⟩
theorem opens_pair {P : Program} {α β : Type} {e : TypeId} {a : Kd α} {b : Kd β} {f0 f1 : Field} (ht : P.underlying e = some (.struct #[f0, f1])) (h0 : Opens P f0.type a) (h1 : Opens P f1.type b) (o0 : f0.offset = 0) (o1 : f1.offset = P.cellsOf f0.type) (hc : P.cellsOf e = P.cellsOf f0.type + P.cellsOf f1.type) : Opens P e (Kd.pair a b) :=
  ⟨by show a.sz + b.sz = _; rw [h0.1, h1.1, hc], fun H enc w base spare held n cs x hx => by
    obtain ⟨xs, m, _, _, hl, hxl, hf⟩ := DataW.trod_struct ht hx
    have hx0 : xs.length = 2 := hxl
    have e0 := hf 0 f0 rfl
    have e1 := hf 1 f1 rfl
    rw [List.getElem?_eq_getElem (by omega)] at e0 e1
    obtain ⟨y0, k0⟩ := h0.2 _ _ _ _ _ _ _ _ _ e0
    obtain ⟨y1, k1⟩ := h1.2 _ _ _ _ _ _ _ _ _ e1
    rw [o0, List.drop_zero] at k0
    rw [o1] at k1
    refine ⟨(y0, y1), _, _, ?_, k0, k1⟩
    rw [List.take_of_length_le (l := cs.drop (P.cellsOf f0.type)) (by rw [List.length_drop]; omega), List.take_append_drop]⟩
theorem list_of {α : Type} {p : Nat → α → Prop} : ∀ n, (∀ i, i < n → ∃ y, p i y) → ∃ l : List α, l.length = n ∧ ∀ j y, l[j]? = some y → p j y
  | 0, _ => ⟨[], rfl, fun j y h => by simp at h⟩
  | n + 1, h => by
    obtain ⟨l, hl, hp⟩ := list_of n (fun i hi => h i (by omega))
    obtain ⟨y, hy⟩ := h n (by omega)
    refine ⟨l ++ [y], by simp [hl], fun j z hz => ?_⟩
    rcases Nat.lt_or_ge j l.length with hj | hj
    · rw [List.getElem?_append_left hj] at hz
      exact hp j z hz
    · rw [List.getElem?_append_right hj] at hz
      rcases Nat.eq_or_lt_of_le hj with e | e
      · rw [← e, Nat.sub_self] at hz
        simp at hz
        rw [← hz, ← e, hl]; exact hy
      · rw [List.getElem?_eq_none (by simp; omega)] at hz; cases hz
theorem slice_cells {P : Program} {α H : Type} {enc : TypeId × Value → H} {w : World} {base : Nat} {spare : Nat → Bool} {held : Bool} {t e : TypeId} {n : Nat} {d : Kd α} (ht : P.underlying t = some (.slice e)) (he : Opens P e d) {cs : List Value} {x : DataW H × List MemPlace}
    (h : DataW.trod enc P w base spare held n t cs = some x) : ∃ (l : List α) (A : Option Addr) (c : Nat), cs = [.slice A l.length c] ∧ l.length ≤ c ∧ Kd.C d w A l.length l := by
  rcases open_slice ht h with ⟨rfl, _⟩ | ⟨a, len, cap, m, n', D, Pl, rfl, _, hl, hm, hmm, _, hi⟩
  · exact ⟨[], none, 0, rfl, Nat.le_refl _, rfl, by simp, fun h => absurd h (by simp)⟩
  · have hlm : len ≤ m := by rw [hmm]; split <;> omega
    obtain ⟨l, hll, hp⟩ := list_of (p := fun i y => ∃ c, c.length = d.sz ∧ d.K w y c ∧ ∀ j u, c[j]? = some u → w.cell? (a.add (i * d.sz + j)) = some u) len (fun i hi' => by
      obtain ⟨cs', hc, ht'⟩ := hi i (by omega)
      obtain ⟨y, hy⟩ := he.2 _ _ _ _ _ _ _ _ _ ht'
      obtain ⟨_, hcl, hcell⟩ := World.cells?_some hc
      refine ⟨y, cs', by rw [hcl, he.1], hy, fun j u hu => ?_⟩
      have hj : j < cs'.length := (List.getElem?_eq_some_iff.1 hu).1
      have := hcell j (by omega)
      rw [Deep.add_add] at this
      rw [he.1, this, hu])
    subst hll
    have : cap ≤ 9223372036854775807 := hm
    exact ⟨l, some a, cap, rfl, hl, rfl, by omega, fun _ => ⟨a, rfl, hp⟩⟩
theorem opens_slice {P : Program} {α : Type} {t e : TypeId} {d : Kd α} (ht : P.underlying t = some (.slice e)) (he : Opens P e d) (hc : P.cellsOf t = 1) : Opens P t (Kd.slice e d) :=
  ⟨hc.symm, fun H enc w base spare held n cs x hx => by
    obtain ⟨l, A, c, e1, e2, e3⟩ := slice_cells ht he hx
    exact ⟨l, A, c, e1, e2, e3⟩⟩
/-- An argument that is a slice. -/
theorem slice_arg {P : Program} {α H : Type} {enc : TypeId × Value → H} {w : World} {base : Nat} {spare : Nat → Bool} {held : Bool} {t e : TypeId} {d : Kd α} {A : Option Addr} {len cap : Nat} {dd : DataW H} {ps : List MemPlace} (ht : P.underlying t = some (.slice e)) (he : Opens P e d)
    (h : DataW.Trod enc P w base spare held t (.slice A len cap) dd ps) : ∃ l : List α, len = l.length ∧ l.length ≤ cap ∧ Kd.C d w A l.length l := by
  obtain ⟨fuel, hf⟩ := h
  obtain ⟨l, A', c, e1, e2, e3⟩ := slice_cells ht he hf
  simp [Value.cells] at e1
  obtain ⟨rfl, rfl, rfl⟩ := e1
  exact ⟨l, rfl, e2, e3⟩
theorem opens3 : Opens Try.prog 3 (Kd.int .i64) := opens_int Try.underlying3 (by kernel_rfl)
theorem opens55 : Opens Try.prog 55 k55 := opens_iso _ (fun x => (⟨x.1, x.2⟩ : S55)) (fun _ => rfl) (opens_pair Try.underlying55 opens3 opens3 rfl (by kernel_rfl) (by kernel_rfl))
theorem opens23 : Opens Try.prog 23 (Kd.slice 55 k55) := opens_slice Try.underlying23 opens55 (by kernel_rfl)
end Go.Proofs.Ytccjefoejjnccaa.O
