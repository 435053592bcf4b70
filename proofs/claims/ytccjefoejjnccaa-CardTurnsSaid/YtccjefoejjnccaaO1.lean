/- What is proved here: data that comes in reads as lists and numbers that are of their kinds; a rose by value. -/
import Derived.Test.YtccjefoejjnccaaO0
import Derived.Test.YtccjefoejjnccaaMM
namespace Go.Proofs.Ytccjefoejjnccaa.O
open Go.ChangeShapes Go.WideShapes Go.RowKit Go.Deep Go.Proofs.Ytccjefoejjnccaa Go.Proofs.Ytccjefoejjnccaa.C Go.Proofs.YtccjefoejjnccaaW.PrintWords Go.Proofs.YtccjefoejjnccaaW.PrintLast
set_option linter.unusedVariables false
/-- What is read at a type is of a kind, and as told. -/
def OpensW (P : Program) {α : Type} (e : TypeId) (d : Kd α) (ok : α → Prop) : Prop :=
  d.sz = P.cellsOf e ∧ ∀ (H : Type) (enc : TypeId × Value → H) (w : World) (base : Nat) (spare : Nat → Bool) (held : Bool) (n : Nat) (cs : List Value) (x : DataW H × List MemPlace), DataW.trod enc P w base spare held n e cs = some x → ∃ y : α, d.K w y cs ∧ ok y
theorem opensW_int {P : Program} {e : TypeId} {k : IntKind} (ht : P.underlying e = some (.int k)) (hc : P.cellsOf e = 1) : OpensW P e (Kd.int k) (fun y => (Lit.int k y).wf = true) :=
  ⟨hc.symm, fun H enc w base spare held n cs x h => by
    obtain ⟨y, rfl, _, hw⟩ := DataW.trod_int ht h
    exact ⟨y, rfl, hw⟩⟩
theorem opensW_array2 {P : Program} {α : Type} {e t : TypeId} {a : Kd α} {ok : α → Prop} (ht : P.underlying e = some (.array 2 t)) (h0 : OpensW P t a ok) (hc : P.cellsOf e = P.cellsOf t + P.cellsOf t) : OpensW P e (Kd.pair a a) (fun x => ok x.1 ∧ ok x.2) :=
  ⟨by show a.sz + a.sz = _; rw [h0.1, hc], fun H enc w base spare held n cs x hx => by
    obtain ⟨xs, m, _, _, hl, hxl, hf⟩ := DataW.trod_array ht hx
    have e0 := hf 0 (by omega)
    have e1 := hf 1 (by omega)
    rw [List.getElem?_eq_getElem (by omega)] at e0 e1
    obtain ⟨y0, k0, o0⟩ := h0.2 _ _ _ _ _ _ _ _ _ e0
    obtain ⟨y1, k1, o1⟩ := h0.2 _ _ _ _ _ _ _ _ _ e1
    rw [Nat.zero_mul, List.drop_zero] at k0
    rw [Nat.one_mul] at k1
    refine ⟨(y0, y1), ⟨_, _, ?_, k0, k1⟩, o0, o1⟩
    rw [List.take_of_length_le (l := cs.drop (P.cellsOf t)) (by rw [List.length_drop]; omega), List.take_append_drop]⟩
theorem opensW_iso {P : Program} {α β : Type} {e : TypeId} {d : Kd α} {ok : α → Prop} (f : β → α) (g : α → β) (hg : ∀ x, f (g x) = x) (h : OpensW P e d ok) : OpensW P e (Kd.iso d f) (fun y => ok (f y)) :=
  ⟨h.1, fun H enc w base spare held n cs x hx => by
    obtain ⟨y, hy, ho⟩ := h.2 H enc w base spare held n cs x hx
    exact ⟨g y, (show d.K w (f (g y)) cs by rw [hg]; exact hy), (show ok (f (g y)) by rw [hg]; exact ho)⟩⟩
theorem slice_cellsW {P : Program} {α H : Type} {enc : TypeId × Value → H} {w : World} {base : Nat} {spare : Nat → Bool} {held : Bool} {t e : TypeId} {n : Nat} {d : Kd α} {ok : α → Prop} (ht : P.underlying t = some (.slice e)) (he : OpensW P e d ok) {cs : List Value} {x : DataW H × List MemPlace}
    (h : DataW.trod enc P w base spare held n t cs = some x) : ∃ (l : List α) (A : Option Addr) (c : Nat), cs = [.slice A l.length c] ∧ l.length ≤ c ∧ Kd.C d w A l.length l ∧ ∀ y ∈ l, ok y := by
  rcases open_slice ht h with ⟨rfl, _⟩ | ⟨a, len, cap, m, n', D, Pl, rfl, _, hl, hm, hmm, _, hi⟩
  · exact ⟨[], none, 0, rfl, Nat.le_refl _, ⟨rfl, by simp, fun h => absurd h (by simp)⟩, by simp⟩
  · have hlm : len ≤ m := by rw [hmm]; split <;> omega
    obtain ⟨l, hll, hp⟩ := list_of (p := fun i y => (∃ c, c.length = d.sz ∧ d.K w y c ∧ ∀ j u, c[j]? = some u → w.cell? (a.add (i * d.sz + j)) = some u) ∧ ok y) len (fun i hi' => by
      obtain ⟨cs', hc, ht'⟩ := hi i (by omega)
      obtain ⟨y, hy, ho⟩ := he.2 _ _ _ _ _ _ _ _ _ ht'
      obtain ⟨_, hcl, hcell⟩ := World.cells?_some hc
      refine ⟨y, ⟨cs', by rw [hcl, he.1], hy, fun j u hu => ?_⟩, ho⟩
      have hj : j < cs'.length := (List.getElem?_eq_some_iff.1 hu).1
      have := hcell j (by omega)
      rw [Deep.add_add] at this
      rw [he.1, this, hu])
    subst hll
    have : cap ≤ 9223372036854775807 := hm
    refine ⟨l, some a, cap, rfl, hl, ⟨rfl, by omega, fun _ => ⟨a, rfl, fun j p hj => (hp j p hj).1⟩⟩, fun y hy => ?_⟩
    obtain ⟨j, hj⟩ := List.mem_iff_getElem?.1 hy
    exact (hp j y hj).2
theorem opensW73 : OpensW Try.prog 73 (Kd.int .u16) (fun y => (Lit.int .u16 y).wf = true) := opensW_int Try.underlying73 (by kernel_rfl)
theorem opensW81 : OpensW Try.prog 81 k81 (fun x => (Lit.int .u16 x.f0).wf = true ∧ (Lit.int .u16 x.f1).wf = true) := opensW_iso _ (fun x => (⟨x.1, x.2⟩ : S81)) (fun _ => rfl) (opensW_array2 Try.underlying81 opensW73 (by kernel_rfl))
set_option maxRecDepth 100000 in
theorem rose_arg {H : Type} {enc : TypeId × Value → H} {w : World} {base b0 : Nat} {r : Reach} {spare : Nat → Bool} {held : Bool} {v : Value} {dd : DataW H} {ps : List MemPlace} (hv : Value.okWide Try.prog w r b0 72 v)
    (h : DataW.Trod enc Try.prog w base spare held 72 v dd ps) : ∃ (A : Option Addr) (c : Nat) (l : List S81) (a : Int), v = .agg #[.slice A l.length c, .int .u8 a] ∧ l.length ≤ c ∧ Kd.C k81 w A l.length l ∧ (∀ p ∈ l, M.U16 p) ∧ 0 ≤ a ∧ a < 256 := by
  obtain ⟨cs, rfl, hsz⟩ := okWide_struct Try.underlying72 hv
  obtain ⟨fuel, hf⟩ := h
  obtain ⟨xs, n, _, _, hl, hxl, hfs⟩ := DataW.trod_struct Try.underlying72 hf
  have hx2 : xs.length = 2 := hxl
  have e0 := hfs 0 _ rfl
  have e1 := hfs 1 _ rfl
  rw [List.getElem?_eq_getElem (by omega)] at e0 e1
  obtain ⟨l, A, c, c1, c2, c3, c4⟩ := slice_cellsW Try.underlying70 opensW81 e0
  obtain ⟨a, d1, _, d2⟩ := DataW.trod_int Try.underlying5 e1
  have hL : (Value.agg cs).cells.toList = cs.toList := rfl
  rw [hL] at c1 d1 hl
  have hcell : cs.toList = [.slice A l.length c, .int .u8 a] := by
    have hlen : cs.toList.length = 2 := by rw [hl]; kernel_rfl
    have s1 : (cs.toList.drop 0).take 1 = [.slice A l.length c] := c1
    have s2 : (cs.toList.drop 1).take 1 = [.int .u8 a] := d1
    match hc : cs.toList, hlen with
    | [u, v], _ =>
      rw [hc] at s1 s2
      simp at s1 s2
      rw [s1, s2]
  have hcs : cs = #[.slice A l.length c, .int .u8 a] := by
    cases cs
    simpa using hcell
  refine ⟨A, c, l, a, by rw [hcs], c2, c3, fun p hp => ?_, ?_, ?_⟩
  · have b1 := bounds_u16 (c4 p hp).1
    have b2 := bounds_u16 (c4 p hp).2
    exact ⟨by omega, by omega, by omega, by omega⟩
  · exact (bounds_u8 d2).1
  · have := (bounds_u8 d2).2
    omega
end Go.Proofs.Ytccjefoejjnccaa.O
