-- Written by a program of this session (wip/tools/myprint.py, over the kit's print).
import Derived.Test.YtccjefoejjnccaaC0
import Derived.Test.YtccjefoejjnccaaH12
import Derived.Test.YtccjefoejjnccaaZ
namespace Go.Proofs.Ytccjefoejjnccaa.C
open Go.Proofs.Ytccjefoejjnccaa.H
open Go.RowKit Go.Proofs.YtccjefoejjnccaaW.PrintWords Go.Proofs.YtccjefoejjnccaaW.PrintLast Go.Proofs.YtccjefoejjnccaaW.PrintMore
attribute [local go_sem] max2_int min2_int max_two min_two max_three min_three max_four min_four   -- for this text's walks alone
set_option linter.unusedVariables false
set_option linter.unusedSimpArgs false
def agoniclaw05_sound.l0 : Nat → List (S55) → Int → Int → Option (Bool)
 | 0, _, _, _ => none
 | k + 1, x0, x7, x8 => if x8 < x7 then ((agoniclaw05_ends.f x0 x8).bind fun bt524 => (if (wrap64 (bt524.1 + bt524.2.1)) ≥ (wrap64 (bt524.2.2.1 + bt524.2.2.2)) then (some false) else (agoniclaw05_sound.l0 k x0 x7 (wrap64 (x8 + 1))))) else (some true)
def agoniclaw05_sound.f (k : Nat) (l0 : List (S55)) : Option (Bool) := agoniclaw05_sound.l0 k l0 (l0.length : Int) 0
set_option maxHeartbeats 8000000 in
set_option maxRecDepth 100000 in
theorem agoniclaw05_sound.calls (k : Nat) (A0 : Option Addr) (c0 : Nat) (l0 : List (S55)) (r : Bool) (w : World) (hr0 : Kd.C k55 w A0 l0.length l0) (hc0 : l0.length ≤ c0) (h : agoniclaw05_sound.f k l0 = some r) :
  Calls Try.prog 42 #[.slice A0 l0.length c0] w fun e w' => e = .returned (.bool r) ∧ Below w.heap.size w w' := by
 have hu55 := Try.underlying55
 have HR0 := Aside0.mk hr0
 have HC0 := Aside0.mk hc0
 clear hr0 hc0
 have HB := Aside0.mk (Below.refl w.heap.size w)
 have H : (agoniclaw05_sound.l0 k l0 (l0.length : Int) 0) = some r := h
 clear h
 have H' := Aside0.mk H
 clear H
 go_enter Try.func42, Try.ntmps42
 go_wp2
 go_loopg [8] k (fun kq v8 w' => ∃ (x8_1 : Int), v8 = .int .i64 x8_1 ∧ Aside0 (agoniclaw05_sound.l0 kq l0 (l0.length : Int) x8_1 = some r) ∧ Aside0 (kq ≤ k) ∧ Aside0 (Below w.heap.size w w'))
 case atStart => exact ⟨(0), (by first | rfl | (simp; done) | (simp [*]; done)), H', ⟨Nat.le_refl _⟩, ⟨zh⟩⟩
 case round =>
  clear H'
  obtain ⟨x8_1, rfl, HA, HK1, HB⟩ := hrel
  cases gk with
  | zero => exact absurd HA.out (by simp [agoniclaw05_sound.l0])
  | succ k1 =>
   have H := HA.out
   clear HA
   simp only [agoniclaw05_sound.l0] at H
   by_cases c2 : x8_1 < (l0.length : Int)
   ·rw [if_pos c2] at H
    have c2b0 : decide (x8_1 < (l0.length : Int)) = true := decide_eq_true c2
    clear c2
    replace H := zi H
    obtain ⟨⟨t524, t525, t526, t527⟩, A30, H⟩ := H
    try dsimp only at H
    have A3 := Aside0.mk A30
    clear A30
    by_cases c4 : (wrap64 (t524 + t525)) ≥ (wrap64 (t526 + t527))
    ·rw [if_pos c4] at H
     have c4b0 : decide ((wrap64 (t526 + t527)) ≤ (wrap64 (t524 + t525))) = true := decide_eq_true c4
     clear c4
     obtain rfl := Option.some.inj H
     go_wp2_with (first | ((with_reducible refine gC 38 rfl ?_); refine gL 14 Try.func38 #[.slice A0 l0.length c0, .int .i64 x8_1] ?_; (with_reducible refine (agoniclaw05_ends.calls _ _ l0 x8_1 t524 t525 t526 t527 _ ?side1 ?side2 A3.out).mono ?_); (case side1 => exact zc (Kd.C_below HR0.out HB.out)); (case side2 => exact HC0.out); rintro e w5 ⟨rfl, hb⟩; refine ⟨_, rfl, ?_⟩; replace HB := zd hb; (try clear hb)) | ((with_reducible refine gD 4 rfl ?_); refine zx 4 #[.int .i64 0, .int .i64 0] 55 ?_; intro gb528 hg w6 hbox hb; have BK528 := Aside0.mk (hbox); have GE528 := zG w hg; replace HB := zd hb; clear hb hbox hg) | ((with_reducible refine gD 5 rfl ?_); refine zx 5 #[.int .i64 0, .int .i64 0] 55 ?_; intro gb529 hg w7 hbox hb; have BK529 := Aside0.mk (hbox); have GE529 := zG w hg; replace HB := zd hb; have NB528_529 := zN BK528 hg; have NB529_528 := zM BK528 hg; replace BK528 := zk BK528 hb; clear hb hbox hg; have hnb8 := NB528_529.out; have hnc8 := NB529_528.out; have hcz9_0 : w7.cell? ⟨gb528, 0, none⟩ = some (.int .i64 0) := zy BK528 0; have hcz9_1 : w7.cell? ⟨gb528, 1, none⟩ = some (.int .i64 0) := zy BK528 1; have hfz9_0 := blk_frozen BK528.out 0; have hfz9_1 := blk_frozen BK528.out 1; have hcz10_0 : w7.cell? ⟨gb529, 0, none⟩ = some (.int .i64 0) := zy BK529 0; have hcz10_1 : w7.cell? ⟨gb529, 1, none⟩ = some (.int .i64 0) := zy BK529 1; have hfz10_0 := blk_frozen BK529.out 0; have hfz10_1 := blk_frozen BK529.out 1))
     go_ret
     exact ⟨ze, zh⟩
    ·rw [if_neg c4] at H
     have c4b0 : decide ((wrap64 (t526 + t527)) ≤ (wrap64 (t524 + t525))) = false := decide_eq_false c4
     clear c4
     have H' := Aside0.mk H
     clear H
     go_wp2_with (first | ((with_reducible refine gC 38 rfl ?_); refine gL 14 Try.func38 #[.slice A0 l0.length c0, .int .i64 x8_1] ?_; (with_reducible refine (agoniclaw05_ends.calls _ _ l0 x8_1 t524 t525 t526 t527 _ ?side1 ?side2 A3.out).mono ?_); (case side1 => exact zc (Kd.C_below HR0.out HB.out)); (case side2 => exact HC0.out); rintro e w11 ⟨rfl, hb⟩; refine ⟨_, rfl, ?_⟩; replace HB := zd hb; (try clear hb)) | ((with_reducible refine gD 4 rfl ?_); refine zx 4 #[.int .i64 0, .int .i64 0] 55 ?_; intro gb528 hg w12 hbox hb; have BK528 := Aside0.mk (hbox); have GE528 := zG w hg; replace HB := zd hb; clear hb hbox hg) | ((with_reducible refine gD 5 rfl ?_); refine zx 5 #[.int .i64 0, .int .i64 0] 55 ?_; intro gb529 hg w13 hbox hb; have BK529 := Aside0.mk (hbox); have GE529 := zG w hg; replace HB := zd hb; have NB528_529 := zN BK528 hg; have NB529_528 := zM BK528 hg; replace BK528 := zk BK528 hb; clear hb hbox hg; have hnb14 := NB528_529.out; have hnc14 := NB529_528.out; have hcz15_0 : w13.cell? ⟨gb528, 0, none⟩ = some (.int .i64 0) := zy BK528 0; have hcz15_1 : w13.cell? ⟨gb528, 1, none⟩ = some (.int .i64 0) := zy BK528 1; have hfz15_0 := blk_frozen BK528.out 0; have hfz15_1 := blk_frozen BK528.out 1; have hcz16_0 : w13.cell? ⟨gb529, 0, none⟩ = some (.int .i64 0) := zy BK529 0; have hcz16_1 : w13.cell? ⟨gb529, 1, none⟩ = some (.int .i64 0) := zy BK529 1; have hfz16_0 := blk_frozen BK529.out 0; have hfz16_1 := blk_frozen BK529.out 1))
     go_roundg k1
     case measure => have := HK1.out; omega
     case rel => exact ⟨(wrap64 (x8_1 + 1)), (by first | rfl | (simp; done) | (simp [*]; done)), H', ⟨by have := HK1.out; omega⟩, ⟨zh⟩⟩
   ·rw [if_neg c2] at H
    have c2b0 : decide (x8_1 < (l0.length : Int)) = false := decide_eq_false c2
    clear c2
    obtain rfl := Option.some.inj H
    go_wp2
    go_ret
    exact ⟨ze, zh⟩
end Go.Proofs.Ytccjefoejjnccaa.C
