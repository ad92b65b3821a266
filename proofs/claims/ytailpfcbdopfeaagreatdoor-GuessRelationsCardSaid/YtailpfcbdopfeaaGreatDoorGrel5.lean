/- Part 5 of the proof: For every machine and every size, GuessRelations answers true, whatever the input; no condition. -/
import Derived.Test.YtailpfcbdopfeaaGreatDoorGrel4
import Derived.Lib.AtoiAllCases
import Derived.Maps.StringElems
import Derived.Maps.RangeWalk
import Derived.Maps.OwnSet
import Derived.BigRegion
namespace Go.Proofs.YtailpfcbdopfeaaGreatDoor.F
open Go.RowKit Go.Proofs.YtailpfcbdopfeaaGreatDoorW.PrintWords Go.Proofs.YtailpfcbdopfeaaGreatDoorW.PrintLast Go.Proofs.YtailpfcbdopfeaaGreatDoorW.PrintMore
attribute [local go_sem] max2_int min2_int max_two min_two max_three min_three max_four min_four
set_option linter.unusedVariables false
set_option linter.unusedSimpArgs false
/-! ### shape_Power: function 78 -/
def shape_Power.j0 : Nat → Int → Int → Bool → Option (Int × Int)
 | 0, _, _, _ => none
 | k + 1, x0, x1, x20 => if x20 = true then (some (0, 2)) else ((shape_power.f k x0 x1 4096).bind fun t104 => (if t104 < 0 then (some (0, 5)) else (some (t104, 0))))
def shape_Power.f (k : Nat) (a0 : Int) (a1 : Int) : Option (Int × Int) := if a0 < 1 then (shape_Power.j0 k a0 a1 true) else (if a0 > 64 then (shape_Power.j0 k a0 a1 true) else (if a1 < 0 then (shape_Power.j0 k a0 a1 true) else (shape_Power.j0 k a0 a1 (decide (a1 > 12)))))
theorem shape_Power.mono_l : ∀ k, (∀ y0 y1 y2, LeO (shape_Power.j0 k y0 y1 y2) (shape_Power.j0 (k + 1) y0 y1 y2))
 | 0 => fun _ _ _ r h => by simp [shape_Power.j0] at h
 | k + 1 => by
  have ih0 := shape_Power.mono_l k
  ·intro y0 y1 y2
   unfold shape_Power.j0
   repeat' first
   | (with_reducible exact ih0 _ _ _)
   | (with_reducible exact shape_power.mono _ _ _ _)
   | (with_reducible exact LeO.refl _)
   | (with_reducible exact LeO.none _)
   | (with_reducible refine LeO.ite ?_ ?_)
   | (with_reducible refine LeO.bind ?_ (fun _ => ?_))
   | exact ih0 _ _ _
   | exact shape_power.mono _ _ _ _
   | exact LeO.none _
   | refine LeO.ite ?_ ?_
   | refine LeO.bind ?_ (fun _ => ?_)
theorem shape_Power.mono : ∀ a0 a1 k, LeO (shape_Power.f k a0 a1) (shape_Power.f (k + 1) a0 a1) := by
 intro a0 a1 k
 have ih0 := shape_Power.mono_l k
 unfold shape_Power.f
 repeat' first
   | (with_reducible exact ih0 _ _ _)
   | (with_reducible exact shape_power.mono _ _ _ _)
   | (with_reducible exact LeO.refl _)
   | (with_reducible exact LeO.none _)
   | (with_reducible refine LeO.ite ?_ ?_)
   | (with_reducible refine LeO.bind ?_ (fun _ => ?_))
   | exact ih0 _ _ _
   | exact shape_power.mono _ _ _ _
   | exact LeO.none _
   | refine LeO.ite ?_ ?_
   | refine LeO.bind ?_ (fun _ => ?_)
set_option maxHeartbeats 8000000 in
set_option maxRecDepth 100000 in
theorem shape_Power.calls (k : Nat) (a0 : Int) (a1 : Int) (r1 : Int) (r2 : Int) (w : World) (h : shape_Power.f k a0 a1 = some (r1, r2)) :
  Calls Tryz.prog 78 #[.int .i64 a0, .int .i64 a1] w fun e w' => e = .returned (.tuple #[.int .i64 r1, .int .i64 r2]) ∧ Drawn0 w w' := by
 have H : (if a0 < 1 then (shape_Power.j0 k a0 a1 true) else (if a0 > 64 then (shape_Power.j0 k a0 a1 true) else (if a1 < 0 then (shape_Power.j0 k a0 a1 true) else (shape_Power.j0 k a0 a1 (decide (a1 > 12)))))) = some (r1, r2) := h
 clear h
 have HC3 := Aside0.mk H
 clear H
 go_enter Tryz.func78, Tryz.ntmps78
 go_upto_region 1 with (fail)
 go_cut [20] (fun v20 wc => ∃ (kq : Nat) (x20_2 : Bool), v20 = .bool x20_2 ∧ Aside0 (shape_Power.j0 kq a0 a1 x20_2 = some (r1, r2)) ∧ Aside0 (kq ≤ k) ∧ Drawn0 w wc)
 case first =>
  have H := HC3.out
  clear HC3
  by_cases c4 : a0 < 1
  ·rw [if_pos c4] at H
   have c4b0 : decide (a0 < 1) = true := decide_eq_true c4
   clear c4
   (first | rw [c4b0] | (simp only [i64_w, i32_w]; rw [c4b0]) | skip)
   have H' := Aside0.mk H
   clear H
   go_wp2
   go_meet
   case rel => exact ⟨_, (true), eS, H', ⟨kle⟩, dr0⟩
  ·rw [if_neg c4] at H
   have c4b0 : decide (a0 < 1) = false := decide_eq_false c4
   clear c4
   (first | rw [c4b0] | (simp only [i64_w, i32_w]; rw [c4b0]) | skip)
   by_cases c5 : a0 > 64
   ·rw [if_pos c5] at H
    have c5b0 : decide (64 < a0) = true := decide_eq_true c5
    clear c5
    have H' := Aside0.mk H
    clear H
    go_wp2
    go_meet
    case rel => exact ⟨_, (true), eS, H', ⟨kle⟩, dr0⟩
   ·rw [if_neg c5] at H
    have c5b0 : decide (64 < a0) = false := decide_eq_false c5
    clear c5
    by_cases c6 : a1 < 0
    ·rw [if_pos c6] at H
     have c6b0 : decide (a1 < 0) = true := decide_eq_true c6
     clear c6
     have H' := Aside0.mk H
     clear H
     go_wp2
     go_meet
     case rel => exact ⟨_, (true), eS, H', ⟨kle⟩, dr0⟩
    ·rw [if_neg c6] at H
     have c6b0 : decide (a1 < 0) = false := decide_eq_false c6
     clear c6
     have H' := Aside0.mk H
     clear H
     go_wp2
     go_meet
     case rel => exact ⟨_, (decide (a1 > 12)), eS, H', ⟨kle⟩, dr0⟩
 case rest =>
  clear HC3
  obtain ⟨kq, x20_2, rfl, HA, HJ2, ⟨mc2, rfl⟩⟩ := hcut
  cases kq with
  | zero => exact absurd HA.out (by simp [shape_Power.j0])
  | succ kj2 =>
   have H := HA.out
   clear HA
   simp only [shape_Power.j0] at H
   by_cases c7 : x20_2 = true
   ·subst c7
    have H1 : (some (0, 2)) = some (r1, r2) := by rw [if_pos rfl] at H; exact H
    clear H
    have H := H1
    clear H1
    simp only [Option.some.injEq, Prod.mk.injEq] at H
    obtain ⟨rfl, rfl⟩ := H
    go_wp2
    go_ret2
    exact ⟨eS, dr0⟩
   ·replace c7 := Bool.eq_false_iff.mpr c7
    subst c7
    have H1 : ((shape_power.f kj2 a0 a1 4096).bind fun t104 => (if t104 < 0 then (some (0, 5)) else (some (t104, 0)))) = some (r1, r2) := by rw [if_neg (show ¬ (false = true) by decide)] at H; exact H
    clear H
    have H := H1
    clear H1
    replace H := Option.bind_eq_some_iff.mp H
    obtain ⟨t104, A80, H⟩ := H
    replace H : (if t104 < 0 then (some (0, 5)) else (some (t104, 0))) = some (r1, r2) := H
    have A8 := Aside0.mk A80
    clear A80
    by_cases c9 : t104 < 0
    ·rw [if_pos c9] at H
     have c9b0 : decide (t104 < 0) = true := decide_eq_true c9
     clear c9
     simp only [Option.some.injEq, Prod.mk.injEq] at H
     obtain ⟨rfl, rfl⟩ := H
     go_wp2_with (first | ((with_reducible refine gate_callee (f := 101) rfl ?_); refine gL (some 23) Tryz.func101 #[.int .i64 a0, .int .i64 a1, .int .i64 4096] ?_; (with_reducible refine (shape_power.calls kj2 a0 a1 4096 t104 _ A8.out).mono ?_); rintro e w' ⟨rfl, ⟨nd, rfl⟩⟩; refine ⟨_, rfl, ?_⟩))
     go_ret2
     exact ⟨eS, dr0⟩
    ·rw [if_neg c9] at H
     have c9b0 : decide (t104 < 0) = false := decide_eq_false c9
     clear c9
     simp only [Option.some.injEq, Prod.mk.injEq] at H
     obtain ⟨rfl, rfl⟩ := H
     go_wp2_with (first | ((with_reducible refine gate_callee (f := 101) rfl ?_); refine gL (some 23) Tryz.func101 #[.int .i64 a0, .int .i64 a1, .int .i64 4096] ?_; (with_reducible refine (shape_power.calls kj2 a0 a1 4096 t104 _ A8.out).mono ?_); rintro e w' ⟨rfl, ⟨nd, rfl⟩⟩; refine ⟨_, rfl, ?_⟩))
     go_ret2
     exact ⟨eS, dr0⟩
end Go.Proofs.YtailpfcbdopfeaaGreatDoor.F
namespace Go.Proofs.YtailpfcbdopfeaaGreatDoor.F
open Go.RowKit Go.Proofs.YtailpfcbdopfeaaGreatDoorW.PrintWords Go.Proofs.YtailpfcbdopfeaaGreatDoorW.PrintLast Go.Proofs.YtailpfcbdopfeaaGreatDoorW.PrintMore
attribute [local go_sem] max2_int min2_int max_two min_two max_three min_three max_four min_four
set_option linter.unusedVariables false
set_option linter.unusedSimpArgs false
/-! ### tape_number: function 51 -/
def tape_number.f (k : Nat) (a0_0 : Int) (a0_1 : Int) (a0_2 : Int) (a0_3 : Int) (l0_4 : List (S42)) (l0_5 : List (S69)) (a1 : Int) (a2 : Int) : Option (Int × Int) := (tape_Valid.f k a0_0 a0_1 a0_2 a0_3 l0_4 l0_5).bind fun t106 => (if t106 = true then ((shape_Power.f k a1 a2).bind fun bt107 => (some (bt107.1, bt107.2))) else (some (0, 1)))
theorem tape_number.mono : ∀ a0 a1 a2 a3 a4 a5 a6 a7 k, LeO (tape_number.f k a0 a1 a2 a3 a4 a5 a6 a7) (tape_number.f (k + 1) a0 a1 a2 a3 a4 a5 a6 a7) := by
 intro a0 a1 a2 a3 a4 a5 a6 a7 k
 unfold tape_number.f
 repeat' first
   | (with_reducible exact shape_Power.mono _ _ _)
   | (with_reducible exact tape_Valid.mono _ _ _ _ _ _ _)
   | (with_reducible exact LeO.refl _)
   | (with_reducible exact LeO.none _)
   | (with_reducible refine LeO.ite ?_ ?_)
   | (with_reducible refine LeO.bind ?_ (fun _ => ?_))
   | exact shape_Power.mono _ _ _
   | exact tape_Valid.mono _ _ _ _ _ _ _
   | exact LeO.none _
   | refine LeO.ite ?_ ?_
   | refine LeO.bind ?_ (fun _ => ?_)
set_option maxHeartbeats 8000000 in
set_option maxRecDepth 100000 in
theorem tape_number.calls (k : Nat) (a0_0 : Int) (a0_1 : Int) (a0_2 : Int) (a0_3 : Int) (A0_4 : Option Addr) (c0_4 : Nat) (l0_4 : List (S42)) (A0_5 : Option Addr) (c0_5 : Nat) (l0_5 : List (S69)) (a1 : Int) (a2 : Int) (r1 : Int) (r2 : Int) (w : World) (hr0_4 : Kd.C k42 w A0_4 l0_4.length l0_4) (hc0_4 : l0_4.length ≤ c0_4) (hr0_5 : Kd.C k69 w A0_5 l0_5.length l0_5) (hc0_5 : l0_5.length ≤ c0_5) (h : tape_number.f k a0_0 a0_1 a0_2 a0_3 l0_4 l0_5 a1 a2 = some (r1, r2)) :
  Calls Tryz.prog 51 #[.agg #[.int .i64 a0_0, .int .i64 a0_1, .int .i64 a0_2, .int .i64 a0_3, .slice A0_4 l0_4.length c0_4, .slice A0_5 l0_5.length c0_5], .int .i64 a1, .int .i64 a2] w fun e w' => e = .returned (.tuple #[.int .i64 r1, .int .i64 r2]) ∧ Below w.heap.size w w' := by
 have hu25 := Tryz.underlying25
 have HR0_4 := Aside0.mk hr0_4
 have HC0_4 := Aside0.mk hc0_4
 clear hr0_4 hc0_4
 have HR0_5 := Aside0.mk hr0_5
 have HC0_5 := Aside0.mk hc0_5
 clear hr0_5 hc0_5
 have HB := Aside0.mk (Below.refl w.heap.size w)
 have H : ((tape_Valid.f k a0_0 a0_1 a0_2 a0_3 l0_4 l0_5).bind fun t106 => (if t106 = true then ((shape_Power.f k a1 a2).bind fun bt107 => (some (bt107.1, bt107.2))) else (some (0, 1)))) = some (r1, r2) := h
 clear h
 replace H := Option.bind_eq_some_iff.mp H
 obtain ⟨t106, A40, H⟩ := H
 replace H : (if t106 = true then ((shape_Power.f k a1 a2).bind fun bt107 => (some (bt107.1, bt107.2))) else (some (0, 1))) = some (r1, r2) := H
 have A4 := Aside0.mk A40
 clear A40
 by_cases c5 : t106 = true
 ·subst c5
  have H1 : ((shape_Power.f k a1 a2).bind fun bt107 => (some (bt107.1, bt107.2))) = some (r1, r2) := by rw [if_pos rfl] at H; exact H
  clear H
  have H := H1
  clear H1
  replace H := Option.bind_eq_some_iff.mp H
  obtain ⟨⟨t107, t108⟩, A60, H⟩ := H
  replace H : (some (t107, t108)) = some (r1, r2) := H
  have A6 := Aside0.mk A60
  clear A60
  simp only [Option.some.injEq, Prod.mk.injEq] at H
  obtain ⟨rfl, rfl⟩ := H
  go_enter Tryz.func51, Tryz.ntmps51
  go_wp2_with (first | ((with_reducible refine gate_dst (N := 3) rfl ?_); refine box_event ?hg (N := 3) ?hd (cs := #[.int .i64 a0_0, .int .i64 a0_1, .int .i64 a0_2, .int .i64 a0_3, .slice A0_4 l0_4.length c0_4, .slice A0_5 l0_5.length c0_5]) (t := 25) ?hr ?_; (case hd => rfl); (case hg => rfl); (case hr => first | (go_simp; done) | (go_simp; rfl)); intro gb105 hg w7 hbox hb; have BK105 := Aside0.mk (hbox); have GW105 := geB w hg; have GE105 := geB w hg; replace HB := Aside0.mk (below_step bel hb); clear hb hbox hg; have hcz8_0 : w7.cell? ⟨gb105, 0, none⟩ = some (.int .i64 a0_0) := (blk_cell BK105.out 0).trans rfl; have hcz8_1 : w7.cell? ⟨gb105, 1, none⟩ = some (.int .i64 a0_1) := (blk_cell BK105.out 1).trans rfl; have hcz8_2 : w7.cell? ⟨gb105, 2, none⟩ = some (.int .i64 a0_2) := (blk_cell BK105.out 2).trans rfl; have hcz8_3 : w7.cell? ⟨gb105, 3, none⟩ = some (.int .i64 a0_3) := (blk_cell BK105.out 3).trans rfl; have hcz8_4 : w7.cell? ⟨gb105, 4, none⟩ = some (.slice A0_4 l0_4.length c0_4) := (blk_cell BK105.out 4).trans rfl; have hcz8_5 : w7.cell? ⟨gb105, 5, none⟩ = some (.slice A0_5 l0_5.length c0_5) := (blk_cell BK105.out 5).trans rfl; have hfz8_0 := blk_frozen BK105.out 0; have hfz8_1 := blk_frozen BK105.out 1; have hfz8_2 := blk_frozen BK105.out 2; have hfz8_3 := blk_frozen BK105.out 3; have hfz8_4 := blk_frozen BK105.out 4; have hfz8_5 := blk_frozen BK105.out 5) | ((with_reducible refine gate_callee (f := 15) rfl ?_); refine gL (some 9) Tryz.func15 #[.agg #[.int .i64 a0_0, .int .i64 a0_1, .int .i64 a0_2, .int .i64 a0_3, .slice A0_4 l0_4.length c0_4, .slice A0_5 l0_5.length c0_5]] ?_; (with_reducible refine (tape_Valid.calls k a0_0 a0_1 a0_2 a0_3 _ _ l0_4 _ _ l0_5 true _ ?side1 ?side2 ?side3 ?side4 A4.out).mono ?_); (case side1 => exact cS (Kd.C_below HR0_4.out HB.out)); (case side2 => exact HC0_4.out); (case side3 => exact cS (Kd.C_below HR0_5.out HB.out)); (case side4 => exact HC0_5.out); rintro e w9 ⟨rfl, hb⟩; refine ⟨_, rfl, ?_⟩; replace BK105 := blB BK105 hb; replace HB := Aside0.mk (below_step bel hb); (try clear hb); (try clear hb2); (try clear hk); (try clear hi)) | ((with_reducible refine gate_callee (f := 78) rfl ?_); refine gL (some 13) Tryz.func78 #[.int .i64 a1, .int .i64 a2] ?_; (with_reducible refine (shape_Power.calls k a1 a2 t107 t108 _ A6.out).mono ?_); rintro e w' ⟨rfl, ⟨nd, rfl⟩⟩; refine ⟨_, rfl, ?_⟩))
  go_ret2
  exact ⟨eN, bel⟩
 ·replace c5 := Bool.eq_false_iff.mpr c5
  subst c5
  have H1 : (some (0, 1)) = some (r1, r2) := by rw [if_neg (show ¬ (false = true) by decide)] at H; exact H
  clear H
  have H := H1
  clear H1
  simp only [Option.some.injEq, Prod.mk.injEq] at H
  obtain ⟨rfl, rfl⟩ := H
  go_enter Tryz.func51, Tryz.ntmps51
  go_wp2_with (first | ((with_reducible refine gate_dst (N := 3) rfl ?_); refine box_event ?hg (N := 3) ?hd (cs := #[.int .i64 a0_0, .int .i64 a0_1, .int .i64 a0_2, .int .i64 a0_3, .slice A0_4 l0_4.length c0_4, .slice A0_5 l0_5.length c0_5]) (t := 25) ?hr ?_; (case hd => rfl); (case hg => rfl); (case hr => first | (go_simp; done) | (go_simp; rfl)); intro gb105 hg w10 hbox hb; have BK105 := Aside0.mk (hbox); have GW105 := geB w hg; have GE105 := geB w hg; replace HB := Aside0.mk (below_step bel hb); clear hb hbox hg; have hcz11_0 : w10.cell? ⟨gb105, 0, none⟩ = some (.int .i64 a0_0) := (blk_cell BK105.out 0).trans rfl; have hcz11_1 : w10.cell? ⟨gb105, 1, none⟩ = some (.int .i64 a0_1) := (blk_cell BK105.out 1).trans rfl; have hcz11_2 : w10.cell? ⟨gb105, 2, none⟩ = some (.int .i64 a0_2) := (blk_cell BK105.out 2).trans rfl; have hcz11_3 : w10.cell? ⟨gb105, 3, none⟩ = some (.int .i64 a0_3) := (blk_cell BK105.out 3).trans rfl; have hcz11_4 : w10.cell? ⟨gb105, 4, none⟩ = some (.slice A0_4 l0_4.length c0_4) := (blk_cell BK105.out 4).trans rfl; have hcz11_5 : w10.cell? ⟨gb105, 5, none⟩ = some (.slice A0_5 l0_5.length c0_5) := (blk_cell BK105.out 5).trans rfl; have hfz11_0 := blk_frozen BK105.out 0; have hfz11_1 := blk_frozen BK105.out 1; have hfz11_2 := blk_frozen BK105.out 2; have hfz11_3 := blk_frozen BK105.out 3; have hfz11_4 := blk_frozen BK105.out 4; have hfz11_5 := blk_frozen BK105.out 5) | ((with_reducible refine gate_callee (f := 15) rfl ?_); refine gL (some 9) Tryz.func15 #[.agg #[.int .i64 a0_0, .int .i64 a0_1, .int .i64 a0_2, .int .i64 a0_3, .slice A0_4 l0_4.length c0_4, .slice A0_5 l0_5.length c0_5]] ?_; (with_reducible refine (tape_Valid.calls k a0_0 a0_1 a0_2 a0_3 _ _ l0_4 _ _ l0_5 false _ ?side1 ?side2 ?side3 ?side4 A4.out).mono ?_); (case side1 => exact cS (Kd.C_below HR0_4.out HB.out)); (case side2 => exact HC0_4.out); (case side3 => exact cS (Kd.C_below HR0_5.out HB.out)); (case side4 => exact HC0_5.out); rintro e w12 ⟨rfl, hb⟩; refine ⟨_, rfl, ?_⟩; replace BK105 := blB BK105 hb; replace HB := Aside0.mk (below_step bel hb); (try clear hb); (try clear hb2); (try clear hk); (try clear hi)))
  go_ret2
  exact ⟨eN, bel⟩
end Go.Proofs.YtailpfcbdopfeaaGreatDoor.F
namespace Go.Proofs.YtailpfcbdopfeaaGreatDoor.F
open Go.RowKit Go.Proofs.YtailpfcbdopfeaaGreatDoorW.PrintWords Go.Proofs.YtailpfcbdopfeaaGreatDoorW.PrintLast Go.Proofs.YtailpfcbdopfeaaGreatDoorW.PrintMore
attribute [local go_sem] max2_int min2_int max_two min_two max_three min_three max_four min_four
set_option linter.unusedVariables false
set_option linter.unusedSimpArgs false
/-! ### tape_Cells: function 21 -/
def tape_Cells.f (k : Nat) (a0_0 : Int) (a0_1 : Int) (a0_2 : Int) (a0_3 : Int) (l0_4 : List (S42)) (l0_5 : List (S69)) (a1 : Int) : Option (Int × Int) := (tape_number.f k a0_0 a0_1 a0_2 a0_3 l0_4 l0_5 a1 a0_2).bind fun bt110 => (some (bt110.1, bt110.2))
theorem tape_Cells.mono : ∀ a0 a1 a2 a3 a4 a5 a6 k, LeO (tape_Cells.f k a0 a1 a2 a3 a4 a5 a6) (tape_Cells.f (k + 1) a0 a1 a2 a3 a4 a5 a6) := by
 intro a0 a1 a2 a3 a4 a5 a6 k
 unfold tape_Cells.f
 repeat' first
   | (with_reducible exact tape_number.mono _ _ _ _ _ _ _ _ _)
   | (with_reducible exact LeO.refl _)
   | (with_reducible exact LeO.none _)
   | (with_reducible refine LeO.ite ?_ ?_)
   | (with_reducible refine LeO.bind ?_ (fun _ => ?_))
   | exact tape_number.mono _ _ _ _ _ _ _ _ _
   | exact LeO.none _
   | refine LeO.ite ?_ ?_
   | refine LeO.bind ?_ (fun _ => ?_)
set_option maxHeartbeats 8000000 in
set_option maxRecDepth 100000 in
theorem tape_Cells.calls (k : Nat) (a0_0 : Int) (a0_1 : Int) (a0_2 : Int) (a0_3 : Int) (A0_4 : Option Addr) (c0_4 : Nat) (l0_4 : List (S42)) (A0_5 : Option Addr) (c0_5 : Nat) (l0_5 : List (S69)) (a1 : Int) (r1 : Int) (r2 : Int) (w : World) (hr0_4 : Kd.C k42 w A0_4 l0_4.length l0_4) (hc0_4 : l0_4.length ≤ c0_4) (hr0_5 : Kd.C k69 w A0_5 l0_5.length l0_5) (hc0_5 : l0_5.length ≤ c0_5) (h : tape_Cells.f k a0_0 a0_1 a0_2 a0_3 l0_4 l0_5 a1 = some (r1, r2)) :
  Calls Tryz.prog 21 #[.agg #[.int .i64 a0_0, .int .i64 a0_1, .int .i64 a0_2, .int .i64 a0_3, .slice A0_4 l0_4.length c0_4, .slice A0_5 l0_5.length c0_5], .int .i64 a1] w fun e w' => e = .returned (.tuple #[.int .i64 r1, .int .i64 r2]) ∧ Below w.heap.size w w' := by
 have hu25 := Tryz.underlying25
 have HR0_4 := Aside0.mk hr0_4
 have HC0_4 := Aside0.mk hc0_4
 clear hr0_4 hc0_4
 have HR0_5 := Aside0.mk hr0_5
 have HC0_5 := Aside0.mk hc0_5
 clear hr0_5 hc0_5
 have HB := Aside0.mk (Below.refl w.heap.size w)
 have H : ((tape_number.f k a0_0 a0_1 a0_2 a0_3 l0_4 l0_5 a1 a0_2).bind fun bt110 => (some (bt110.1, bt110.2))) = some (r1, r2) := h
 clear h
 replace H := Option.bind_eq_some_iff.mp H
 obtain ⟨⟨t110, t111⟩, A30, H⟩ := H
 replace H : (some (t110, t111)) = some (r1, r2) := H
 have A3 := Aside0.mk A30
 clear A30
 simp only [Option.some.injEq, Prod.mk.injEq] at H
 obtain ⟨rfl, rfl⟩ := H
 go_enter Tryz.func21, Tryz.ntmps21
 go_wp2_with (first | ((with_reducible refine gate_dst (N := 2) rfl ?_); refine box_event ?hg (N := 2) ?hd (cs := #[.int .i64 a0_0, .int .i64 a0_1, .int .i64 a0_2, .int .i64 a0_3, .slice A0_4 l0_4.length c0_4, .slice A0_5 l0_5.length c0_5]) (t := 25) ?hr ?_; (case hd => rfl); (case hg => rfl); (case hr => first | (go_simp; done) | (go_simp; rfl)); intro gb109 hg w4 hbox hb; have BK109 := Aside0.mk (hbox); have GW109 := geB w hg; have GE109 := geB w hg; replace HB := Aside0.mk (below_step bel hb); clear hb hbox hg; have hcz5_0 : w4.cell? ⟨gb109, 0, none⟩ = some (.int .i64 a0_0) := (blk_cell BK109.out 0).trans rfl; have hcz5_1 : w4.cell? ⟨gb109, 1, none⟩ = some (.int .i64 a0_1) := (blk_cell BK109.out 1).trans rfl; have hcz5_2 : w4.cell? ⟨gb109, 2, none⟩ = some (.int .i64 a0_2) := (blk_cell BK109.out 2).trans rfl; have hcz5_3 : w4.cell? ⟨gb109, 3, none⟩ = some (.int .i64 a0_3) := (blk_cell BK109.out 3).trans rfl; have hcz5_4 : w4.cell? ⟨gb109, 4, none⟩ = some (.slice A0_4 l0_4.length c0_4) := (blk_cell BK109.out 4).trans rfl; have hcz5_5 : w4.cell? ⟨gb109, 5, none⟩ = some (.slice A0_5 l0_5.length c0_5) := (blk_cell BK109.out 5).trans rfl; have hfz5_0 := blk_frozen BK109.out 0; have hfz5_1 := blk_frozen BK109.out 1; have hfz5_2 := blk_frozen BK109.out 2; have hfz5_3 := blk_frozen BK109.out 3; have hfz5_4 := blk_frozen BK109.out 4; have hfz5_5 := blk_frozen BK109.out 5) | ((with_reducible refine gate_callee (f := 51) rfl ?_); refine gL (some 10) Tryz.func51 #[.agg #[.int .i64 a0_0, .int .i64 a0_1, .int .i64 a0_2, .int .i64 a0_3, .slice A0_4 l0_4.length c0_4, .slice A0_5 l0_5.length c0_5], .int .i64 a1, .int .i64 a0_2] ?_; (with_reducible refine (tape_number.calls k a0_0 a0_1 a0_2 a0_3 _ _ l0_4 _ _ l0_5 a1 a0_2 t110 t111 _ ?side1 ?side2 ?side3 ?side4 A3.out).mono ?_); (case side1 => exact cS (Kd.C_below HR0_4.out HB.out)); (case side2 => exact HC0_4.out); (case side3 => exact cS (Kd.C_below HR0_5.out HB.out)); (case side4 => exact HC0_5.out); rintro e w6 ⟨rfl, hb⟩; refine ⟨_, rfl, ?_⟩; replace BK109 := blB BK109 hb; replace HB := Aside0.mk (below_step bel hb); (try clear hb); (try clear hb2); (try clear hk); (try clear hi)))
 go_ret2
 exact ⟨eN, bel⟩
end Go.Proofs.YtailpfcbdopfeaaGreatDoor.F
namespace Go.Proofs.YtailpfcbdopfeaaGreatDoor.F
open Go.RowKit Go.Proofs.YtailpfcbdopfeaaGreatDoorW.PrintWords Go.Proofs.YtailpfcbdopfeaaGreatDoorW.PrintLast Go.Proofs.YtailpfcbdopfeaaGreatDoorW.PrintMore
attribute [local go_sem] max2_int min2_int max_two min_two max_three min_three max_four min_four
set_option linter.unusedVariables false
set_option linter.unusedSimpArgs false
/-! ### tape_Times: function 22 -/
def tape_Times.f (k : Nat) (a0_0 : Int) (a0_1 : Int) (a0_2 : Int) (a0_3 : Int) (l0_4 : List (S42)) (l0_5 : List (S69)) (a1 : Int) : Option (Int × Int) := (tape_number.f k a0_0 a0_1 a0_2 a0_3 l0_4 l0_5 a1 a0_3).bind fun bt113 => (some (bt113.1, bt113.2))
theorem tape_Times.mono : ∀ a0 a1 a2 a3 a4 a5 a6 k, LeO (tape_Times.f k a0 a1 a2 a3 a4 a5 a6) (tape_Times.f (k + 1) a0 a1 a2 a3 a4 a5 a6) := by
 intro a0 a1 a2 a3 a4 a5 a6 k
 unfold tape_Times.f
 repeat' first
   | (with_reducible exact tape_number.mono _ _ _ _ _ _ _ _ _)
   | (with_reducible exact LeO.refl _)
   | (with_reducible exact LeO.none _)
   | (with_reducible refine LeO.ite ?_ ?_)
   | (with_reducible refine LeO.bind ?_ (fun _ => ?_))
   | exact tape_number.mono _ _ _ _ _ _ _ _ _
   | exact LeO.none _
   | refine LeO.ite ?_ ?_
   | refine LeO.bind ?_ (fun _ => ?_)
set_option maxHeartbeats 8000000 in
set_option maxRecDepth 100000 in
theorem tape_Times.calls (k : Nat) (a0_0 : Int) (a0_1 : Int) (a0_2 : Int) (a0_3 : Int) (A0_4 : Option Addr) (c0_4 : Nat) (l0_4 : List (S42)) (A0_5 : Option Addr) (c0_5 : Nat) (l0_5 : List (S69)) (a1 : Int) (r1 : Int) (r2 : Int) (w : World) (hr0_4 : Kd.C k42 w A0_4 l0_4.length l0_4) (hc0_4 : l0_4.length ≤ c0_4) (hr0_5 : Kd.C k69 w A0_5 l0_5.length l0_5) (hc0_5 : l0_5.length ≤ c0_5) (h : tape_Times.f k a0_0 a0_1 a0_2 a0_3 l0_4 l0_5 a1 = some (r1, r2)) :
  Calls Tryz.prog 22 #[.agg #[.int .i64 a0_0, .int .i64 a0_1, .int .i64 a0_2, .int .i64 a0_3, .slice A0_4 l0_4.length c0_4, .slice A0_5 l0_5.length c0_5], .int .i64 a1] w fun e w' => e = .returned (.tuple #[.int .i64 r1, .int .i64 r2]) ∧ Below w.heap.size w w' := by
 have hu25 := Tryz.underlying25
 have HR0_4 := Aside0.mk hr0_4
 have HC0_4 := Aside0.mk hc0_4
 clear hr0_4 hc0_4
 have HR0_5 := Aside0.mk hr0_5
 have HC0_5 := Aside0.mk hc0_5
 clear hr0_5 hc0_5
 have HB := Aside0.mk (Below.refl w.heap.size w)
 have H : ((tape_number.f k a0_0 a0_1 a0_2 a0_3 l0_4 l0_5 a1 a0_3).bind fun bt113 => (some (bt113.1, bt113.2))) = some (r1, r2) := h
 clear h
 replace H := Option.bind_eq_some_iff.mp H
 obtain ⟨⟨t113, t114⟩, A30, H⟩ := H
 replace H : (some (t113, t114)) = some (r1, r2) := H
 have A3 := Aside0.mk A30
 clear A30
 simp only [Option.some.injEq, Prod.mk.injEq] at H
 obtain ⟨rfl, rfl⟩ := H
 go_enter Tryz.func22, Tryz.ntmps22
 go_wp2_with (first | ((with_reducible refine gate_dst (N := 2) rfl ?_); refine box_event ?hg (N := 2) ?hd (cs := #[.int .i64 a0_0, .int .i64 a0_1, .int .i64 a0_2, .int .i64 a0_3, .slice A0_4 l0_4.length c0_4, .slice A0_5 l0_5.length c0_5]) (t := 25) ?hr ?_; (case hd => rfl); (case hg => rfl); (case hr => first | (go_simp; done) | (go_simp; rfl)); intro gb112 hg w4 hbox hb; have BK112 := Aside0.mk (hbox); have GW112 := geB w hg; have GE112 := geB w hg; replace HB := Aside0.mk (below_step bel hb); clear hb hbox hg; have hcz5_0 : w4.cell? ⟨gb112, 0, none⟩ = some (.int .i64 a0_0) := (blk_cell BK112.out 0).trans rfl; have hcz5_1 : w4.cell? ⟨gb112, 1, none⟩ = some (.int .i64 a0_1) := (blk_cell BK112.out 1).trans rfl; have hcz5_2 : w4.cell? ⟨gb112, 2, none⟩ = some (.int .i64 a0_2) := (blk_cell BK112.out 2).trans rfl; have hcz5_3 : w4.cell? ⟨gb112, 3, none⟩ = some (.int .i64 a0_3) := (blk_cell BK112.out 3).trans rfl; have hcz5_4 : w4.cell? ⟨gb112, 4, none⟩ = some (.slice A0_4 l0_4.length c0_4) := (blk_cell BK112.out 4).trans rfl; have hcz5_5 : w4.cell? ⟨gb112, 5, none⟩ = some (.slice A0_5 l0_5.length c0_5) := (blk_cell BK112.out 5).trans rfl; have hfz5_0 := blk_frozen BK112.out 0; have hfz5_1 := blk_frozen BK112.out 1; have hfz5_2 := blk_frozen BK112.out 2; have hfz5_3 := blk_frozen BK112.out 3; have hfz5_4 := blk_frozen BK112.out 4; have hfz5_5 := blk_frozen BK112.out 5) | ((with_reducible refine gate_callee (f := 51) rfl ?_); refine gL (some 10) Tryz.func51 #[.agg #[.int .i64 a0_0, .int .i64 a0_1, .int .i64 a0_2, .int .i64 a0_3, .slice A0_4 l0_4.length c0_4, .slice A0_5 l0_5.length c0_5], .int .i64 a1, .int .i64 a0_3] ?_; (with_reducible refine (tape_number.calls k a0_0 a0_1 a0_2 a0_3 _ _ l0_4 _ _ l0_5 a1 a0_3 t113 t114 _ ?side1 ?side2 ?side3 ?side4 A3.out).mono ?_); (case side1 => exact cS (Kd.C_below HR0_4.out HB.out)); (case side2 => exact HC0_4.out); (case side3 => exact cS (Kd.C_below HR0_5.out HB.out)); (case side4 => exact HC0_5.out); rintro e w6 ⟨rfl, hb⟩; refine ⟨_, rfl, ?_⟩; replace BK112 := blB BK112 hb; replace HB := Aside0.mk (below_step bel hb); (try clear hb); (try clear hb2); (try clear hk); (try clear hi)))
 go_ret2
 exact ⟨eN, bel⟩
end Go.Proofs.YtailpfcbdopfeaaGreatDoor.F
namespace Go.Proofs.YtailpfcbdopfeaaGreatDoor.F
open Go.RowKit Go.Proofs.YtailpfcbdopfeaaGreatDoorW.PrintWords Go.Proofs.YtailpfcbdopfeaaGreatDoorW.PrintLast Go.Proofs.YtailpfcbdopfeaaGreatDoorW.PrintMore
attribute [local go_sem] max2_int min2_int max_two min_two max_three min_three max_four min_four
set_option linter.unusedVariables false
set_option linter.unusedSimpArgs false
/-! ### guess_Guesses: function 8 -/
def guess_Guesses.f (k : Nat) (a0_0 : Int) (a0_1 : Int) (a0_2 : Int) (a0_3 : Int) (l0_4 : List (S42)) (l0_5 : List (S69)) (a1 : Int) : Option (Int × Int) := (tape_Cells.f k a0_0 a0_1 a0_2 a0_3 l0_4 l0_5 a1).bind fun bt116 => (if bt116.2 = 0 then ((tape_Times.f k a0_0 a0_1 a0_2 a0_3 l0_4 l0_5 a1).bind fun bt118 => (if bt118.2 = 0 then ((logic_Bits.f k a0_1).bind fun t120 => ((logic_Bits.f k a0_0).bind fun t121 => (some (wrap64 ((wrap64 ((wrap64 ((wrap64 (t120 + 1)) * bt116.1)) * bt118.1)) + (wrap64 (t121 * bt118.1))), 0)))) else (some (0, bt118.2)))) else (some (0, bt116.2)))
theorem guess_Guesses.mono : ∀ a0 a1 a2 a3 a4 a5 a6 k, LeO (guess_Guesses.f k a0 a1 a2 a3 a4 a5 a6) (guess_Guesses.f (k + 1) a0 a1 a2 a3 a4 a5 a6) := by
 intro a0 a1 a2 a3 a4 a5 a6 k
 unfold guess_Guesses.f
 repeat' first
   | (with_reducible exact logic_Bits.mono _ _)
   | (with_reducible exact tape_Cells.mono _ _ _ _ _ _ _ _)
   | (with_reducible exact tape_Times.mono _ _ _ _ _ _ _ _)
   | (with_reducible exact LeO.refl _)
   | (with_reducible exact LeO.none _)
   | (with_reducible refine LeO.ite ?_ ?_)
   | (with_reducible refine LeO.bind ?_ (fun _ => ?_))
   | exact logic_Bits.mono _ _
   | exact tape_Cells.mono _ _ _ _ _ _ _ _
   | exact tape_Times.mono _ _ _ _ _ _ _ _
   | exact LeO.none _
   | refine LeO.ite ?_ ?_
   | refine LeO.bind ?_ (fun _ => ?_)
set_option maxHeartbeats 8000000 in
set_option maxRecDepth 100000 in
theorem guess_Guesses.calls (k : Nat) (a0_0 : Int) (a0_1 : Int) (a0_2 : Int) (a0_3 : Int) (A0_4 : Option Addr) (c0_4 : Nat) (l0_4 : List (S42)) (A0_5 : Option Addr) (c0_5 : Nat) (l0_5 : List (S69)) (a1 : Int) (r1 : Int) (r2 : Int) (w : World) (hr0_4 : Kd.C k42 w A0_4 l0_4.length l0_4) (hc0_4 : l0_4.length ≤ c0_4) (hr0_5 : Kd.C k69 w A0_5 l0_5.length l0_5) (hc0_5 : l0_5.length ≤ c0_5) (h : guess_Guesses.f k a0_0 a0_1 a0_2 a0_3 l0_4 l0_5 a1 = some (r1, r2)) :
  Calls Tryz.prog 8 #[.agg #[.int .i64 a0_0, .int .i64 a0_1, .int .i64 a0_2, .int .i64 a0_3, .slice A0_4 l0_4.length c0_4, .slice A0_5 l0_5.length c0_5], .int .i64 a1] w fun e w' => e = .returned (.tuple #[.int .i64 r1, .int .i64 r2]) ∧ Below w.heap.size w w' := by
 have hu25 := Tryz.underlying25
 have HR0_4 := Aside0.mk hr0_4
 have HC0_4 := Aside0.mk hc0_4
 clear hr0_4 hc0_4
 have HR0_5 := Aside0.mk hr0_5
 have HC0_5 := Aside0.mk hc0_5
 clear hr0_5 hc0_5
 have HB := Aside0.mk (Below.refl w.heap.size w)
 have H : ((tape_Cells.f k a0_0 a0_1 a0_2 a0_3 l0_4 l0_5 a1).bind fun bt116 => (if bt116.2 = 0 then ((tape_Times.f k a0_0 a0_1 a0_2 a0_3 l0_4 l0_5 a1).bind fun bt118 => (if bt118.2 = 0 then ((logic_Bits.f k a0_1).bind fun t120 => ((logic_Bits.f k a0_0).bind fun t121 => (some (wrap64 ((wrap64 ((wrap64 ((wrap64 (t120 + 1)) * bt116.1)) * bt118.1)) + (wrap64 (t121 * bt118.1))), 0)))) else (some (0, bt118.2)))) else (some (0, bt116.2)))) = some (r1, r2) := h
 clear h
 replace H := Option.bind_eq_some_iff.mp H
 obtain ⟨⟨t116, t117⟩, A30, H⟩ := H
 replace H : (if t117 = 0 then ((tape_Times.f k a0_0 a0_1 a0_2 a0_3 l0_4 l0_5 a1).bind fun bt118 => (if bt118.2 = 0 then ((logic_Bits.f k a0_1).bind fun t120 => ((logic_Bits.f k a0_0).bind fun t121 => (some (wrap64 ((wrap64 ((wrap64 ((wrap64 (t120 + 1)) * t116)) * bt118.1)) + (wrap64 (t121 * bt118.1))), 0)))) else (some (0, bt118.2)))) else (some (0, t117))) = some (r1, r2) := H
 have A3 := Aside0.mk A30
 clear A30
 by_cases c4 : t117 = 0
 ·rw [if_pos c4] at H
  have c4b0 : (t117 == 0) = true := beq_iff_eq.mpr c4
  have c4b1 : (t117 != 0) = false := bne_eq_false_iff_eq.mpr c4
  clear c4
  replace H := Option.bind_eq_some_iff.mp H
  obtain ⟨⟨t118, t119⟩, A50, H⟩ := H
  replace H : (if t119 = 0 then ((logic_Bits.f k a0_1).bind fun t120 => ((logic_Bits.f k a0_0).bind fun t121 => (some (wrap64 ((wrap64 ((wrap64 ((wrap64 (t120 + 1)) * t116)) * t118)) + (wrap64 (t121 * t118))), 0)))) else (some (0, t119))) = some (r1, r2) := H
  have A5 := Aside0.mk A50
  clear A50
  by_cases c6 : t119 = 0
  ·rw [if_pos c6] at H
   have c6b0 : (t119 == 0) = true := beq_iff_eq.mpr c6
   have c6b1 : (t119 != 0) = false := bne_eq_false_iff_eq.mpr c6
   clear c6
   replace H := Option.bind_eq_some_iff.mp H
   obtain ⟨t120, A70, H⟩ := H
   replace H : ((logic_Bits.f k a0_0).bind fun t121 => (some (wrap64 ((wrap64 ((wrap64 ((wrap64 (t120 + 1)) * t116)) * t118)) + (wrap64 (t121 * t118))), 0))) = some (r1, r2) := H
   have A7 := Aside0.mk A70
   clear A70
   replace H := Option.bind_eq_some_iff.mp H
   obtain ⟨t121, A80, H⟩ := H
   replace H : (some (wrap64 ((wrap64 ((wrap64 ((wrap64 (t120 + 1)) * t116)) * t118)) + (wrap64 (t121 * t118))), 0)) = some (r1, r2) := H
   have A8 := Aside0.mk A80
   clear A80
   simp only [Option.some.injEq, Prod.mk.injEq] at H
   obtain ⟨rfl, rfl⟩ := H
   go_enter Tryz.func8, Tryz.ntmps8
   go_wp2_with (first | ((with_reducible refine gate_dst (N := 2) rfl ?_); refine box_event ?hg (N := 2) ?hd (cs := #[.int .i64 a0_0, .int .i64 a0_1, .int .i64 a0_2, .int .i64 a0_3, .slice A0_4 l0_4.length c0_4, .slice A0_5 l0_5.length c0_5]) (t := 25) ?hr ?_; (case hd => rfl); (case hg => rfl); (case hr => first | (go_simp; done) | (go_simp; rfl)); intro gb115 hg w9 hbox hb; have BK115 := Aside0.mk (hbox); have GW115 := geB w hg; have GE115 := geB w hg; replace HB := Aside0.mk (below_step bel hb); clear hb hbox hg; have hcz10_0 : w9.cell? ⟨gb115, 0, none⟩ = some (.int .i64 a0_0) := (blk_cell BK115.out 0).trans rfl; have hcz10_1 : w9.cell? ⟨gb115, 1, none⟩ = some (.int .i64 a0_1) := (blk_cell BK115.out 1).trans rfl; have hcz10_2 : w9.cell? ⟨gb115, 2, none⟩ = some (.int .i64 a0_2) := (blk_cell BK115.out 2).trans rfl; have hcz10_3 : w9.cell? ⟨gb115, 3, none⟩ = some (.int .i64 a0_3) := (blk_cell BK115.out 3).trans rfl; have hcz10_4 : w9.cell? ⟨gb115, 4, none⟩ = some (.slice A0_4 l0_4.length c0_4) := (blk_cell BK115.out 4).trans rfl; have hcz10_5 : w9.cell? ⟨gb115, 5, none⟩ = some (.slice A0_5 l0_5.length c0_5) := (blk_cell BK115.out 5).trans rfl; have hfz10_0 := blk_frozen BK115.out 0; have hfz10_1 := blk_frozen BK115.out 1; have hfz10_2 := blk_frozen BK115.out 2; have hfz10_3 := blk_frozen BK115.out 3; have hfz10_4 := blk_frozen BK115.out 4; have hfz10_5 := blk_frozen BK115.out 5) | (go_at_call 21; (with_reducible refine (tape_Cells.calls k a0_0 a0_1 a0_2 a0_3 _ _ l0_4 _ _ l0_5 a1 t116 t117 _ ?side1 ?side2 ?side3 ?side4 A3.out).mono ?_); (case side1 => exact cS (Kd.C_below HR0_4.out HB.out)); (case side2 => exact HC0_4.out); (case side3 => exact cS (Kd.C_below HR0_5.out HB.out)); (case side4 => exact HC0_5.out); rintro e w11 ⟨rfl, hb⟩; replace BK115 := blB BK115 hb; replace HB := Aside0.mk (below_step bel hb); (try clear hb); (try clear hb2); (try clear hk); (try clear hi); have hcz12_0 : w11.cell? ⟨gb115, 0, none⟩ = some (.int .i64 a0_0) := (blk_cell BK115.out 0).trans rfl; have hcz12_1 : w11.cell? ⟨gb115, 1, none⟩ = some (.int .i64 a0_1) := (blk_cell BK115.out 1).trans rfl; have hcz12_2 : w11.cell? ⟨gb115, 2, none⟩ = some (.int .i64 a0_2) := (blk_cell BK115.out 2).trans rfl; have hcz12_3 : w11.cell? ⟨gb115, 3, none⟩ = some (.int .i64 a0_3) := (blk_cell BK115.out 3).trans rfl; have hcz12_4 : w11.cell? ⟨gb115, 4, none⟩ = some (.slice A0_4 l0_4.length c0_4) := (blk_cell BK115.out 4).trans rfl; have hcz12_5 : w11.cell? ⟨gb115, 5, none⟩ = some (.slice A0_5 l0_5.length c0_5) := (blk_cell BK115.out 5).trans rfl; have hfz12_0 := blk_frozen BK115.out 0; have hfz12_1 := blk_frozen BK115.out 1; have hfz12_2 := blk_frozen BK115.out 2; have hfz12_3 := blk_frozen BK115.out 3; have hfz12_4 := blk_frozen BK115.out 4; have hfz12_5 := blk_frozen BK115.out 5) | (go_at_call 22; (with_reducible refine (tape_Times.calls k a0_0 a0_1 a0_2 a0_3 _ _ l0_4 _ _ l0_5 a1 t118 t119 _ ?side1 ?side2 ?side3 ?side4 A5.out).mono ?_); (case side1 => exact cS (Kd.C_below HR0_4.out HB.out)); (case side2 => exact HC0_4.out); (case side3 => exact cS (Kd.C_below HR0_5.out HB.out)); (case side4 => exact HC0_5.out); rintro e w13 ⟨rfl, hb⟩; replace BK115 := blB BK115 hb; replace HB := Aside0.mk (below_step bel hb); (try clear hb); (try clear hb2); (try clear hk); (try clear hi); have hcz14_0 : w13.cell? ⟨gb115, 0, none⟩ = some (.int .i64 a0_0) := (blk_cell BK115.out 0).trans rfl; have hcz14_1 : w13.cell? ⟨gb115, 1, none⟩ = some (.int .i64 a0_1) := (blk_cell BK115.out 1).trans rfl; have hcz14_2 : w13.cell? ⟨gb115, 2, none⟩ = some (.int .i64 a0_2) := (blk_cell BK115.out 2).trans rfl; have hcz14_3 : w13.cell? ⟨gb115, 3, none⟩ = some (.int .i64 a0_3) := (blk_cell BK115.out 3).trans rfl; have hcz14_4 : w13.cell? ⟨gb115, 4, none⟩ = some (.slice A0_4 l0_4.length c0_4) := (blk_cell BK115.out 4).trans rfl; have hcz14_5 : w13.cell? ⟨gb115, 5, none⟩ = some (.slice A0_5 l0_5.length c0_5) := (blk_cell BK115.out 5).trans rfl; have hfz14_0 := blk_frozen BK115.out 0; have hfz14_1 := blk_frozen BK115.out 1; have hfz14_2 := blk_frozen BK115.out 2; have hfz14_3 := blk_frozen BK115.out 3; have hfz14_4 := blk_frozen BK115.out 4; have hfz14_5 := blk_frozen BK115.out 5) | (go_at_call 23; (with_reducible refine (logic_Bits.calls k a0_1 t120 _ A7.out).mono ?_); rintro e w' ⟨rfl, ⟨nd, rfl⟩⟩; (try first | exact ⟨rfl, _, World.drewN_drewN _ _ _⟩ | exact ⟨rfl, _, Eq.trans (World.drewN_drewN _ _ _) (congrArg (World.drewN _) (Nat.add_assoc _ _ _))⟩)) | (go_at_call 23; (with_reducible refine (logic_Bits.calls k a0_0 t121 _ A8.out).mono ?_); rintro e w' ⟨rfl, ⟨nd, rfl⟩⟩; (try first | exact ⟨rfl, _, World.drewN_drewN _ _ _⟩ | exact ⟨rfl, _, Eq.trans (World.drewN_drewN _ _ _) (congrArg (World.drewN _) (Nat.add_assoc _ _ _))⟩)))
   repeat (go_quiet (first | ((with_reducible refine gate_dst (N := 2) rfl ?_); refine box_event ?hg (N := 2) ?hd (cs := #[.int .i64 a0_0, .int .i64 a0_1, .int .i64 a0_2, .int .i64 a0_3, .slice A0_4 l0_4.length c0_4, .slice A0_5 l0_5.length c0_5]) (t := 25) ?hr ?_; (case hd => rfl); (case hg => rfl); (case hr => first | (go_simp; done) | (go_simp; rfl)); intro gb115 hg w9 hbox hb; have BK115 := Aside0.mk (hbox); have GW115 := geB w hg; have GE115 := geB w hg; replace HB := Aside0.mk (below_step bel hb); clear hb hbox hg; have hcz10_0 : w9.cell? ⟨gb115, 0, none⟩ = some (.int .i64 a0_0) := (blk_cell BK115.out 0).trans rfl; have hcz10_1 : w9.cell? ⟨gb115, 1, none⟩ = some (.int .i64 a0_1) := (blk_cell BK115.out 1).trans rfl; have hcz10_2 : w9.cell? ⟨gb115, 2, none⟩ = some (.int .i64 a0_2) := (blk_cell BK115.out 2).trans rfl; have hcz10_3 : w9.cell? ⟨gb115, 3, none⟩ = some (.int .i64 a0_3) := (blk_cell BK115.out 3).trans rfl; have hcz10_4 : w9.cell? ⟨gb115, 4, none⟩ = some (.slice A0_4 l0_4.length c0_4) := (blk_cell BK115.out 4).trans rfl; have hcz10_5 : w9.cell? ⟨gb115, 5, none⟩ = some (.slice A0_5 l0_5.length c0_5) := (blk_cell BK115.out 5).trans rfl; have hfz10_0 := blk_frozen BK115.out 0; have hfz10_1 := blk_frozen BK115.out 1; have hfz10_2 := blk_frozen BK115.out 2; have hfz10_3 := blk_frozen BK115.out 3; have hfz10_4 := blk_frozen BK115.out 4; have hfz10_5 := blk_frozen BK115.out 5) | (go_at_call 21; (with_reducible refine (tape_Cells.calls k a0_0 a0_1 a0_2 a0_3 _ _ l0_4 _ _ l0_5 a1 t116 t117 _ ?side1 ?side2 ?side3 ?side4 A3.out).mono ?_); (case side1 => exact cS (Kd.C_below HR0_4.out HB.out)); (case side2 => exact HC0_4.out); (case side3 => exact cS (Kd.C_below HR0_5.out HB.out)); (case side4 => exact HC0_5.out); rintro e w11 ⟨rfl, hb⟩; replace BK115 := blB BK115 hb; replace HB := Aside0.mk (below_step bel hb); (try clear hb); (try clear hb2); (try clear hk); (try clear hi); have hcz12_0 : w11.cell? ⟨gb115, 0, none⟩ = some (.int .i64 a0_0) := (blk_cell BK115.out 0).trans rfl; have hcz12_1 : w11.cell? ⟨gb115, 1, none⟩ = some (.int .i64 a0_1) := (blk_cell BK115.out 1).trans rfl; have hcz12_2 : w11.cell? ⟨gb115, 2, none⟩ = some (.int .i64 a0_2) := (blk_cell BK115.out 2).trans rfl; have hcz12_3 : w11.cell? ⟨gb115, 3, none⟩ = some (.int .i64 a0_3) := (blk_cell BK115.out 3).trans rfl; have hcz12_4 : w11.cell? ⟨gb115, 4, none⟩ = some (.slice A0_4 l0_4.length c0_4) := (blk_cell BK115.out 4).trans rfl; have hcz12_5 : w11.cell? ⟨gb115, 5, none⟩ = some (.slice A0_5 l0_5.length c0_5) := (blk_cell BK115.out 5).trans rfl; have hfz12_0 := blk_frozen BK115.out 0; have hfz12_1 := blk_frozen BK115.out 1; have hfz12_2 := blk_frozen BK115.out 2; have hfz12_3 := blk_frozen BK115.out 3; have hfz12_4 := blk_frozen BK115.out 4; have hfz12_5 := blk_frozen BK115.out 5) | (go_at_call 22; (with_reducible refine (tape_Times.calls k a0_0 a0_1 a0_2 a0_3 _ _ l0_4 _ _ l0_5 a1 t118 t119 _ ?side1 ?side2 ?side3 ?side4 A5.out).mono ?_); (case side1 => exact cS (Kd.C_below HR0_4.out HB.out)); (case side2 => exact HC0_4.out); (case side3 => exact cS (Kd.C_below HR0_5.out HB.out)); (case side4 => exact HC0_5.out); rintro e w13 ⟨rfl, hb⟩; replace BK115 := blB BK115 hb; replace HB := Aside0.mk (below_step bel hb); (try clear hb); (try clear hb2); (try clear hk); (try clear hi); have hcz14_0 : w13.cell? ⟨gb115, 0, none⟩ = some (.int .i64 a0_0) := (blk_cell BK115.out 0).trans rfl; have hcz14_1 : w13.cell? ⟨gb115, 1, none⟩ = some (.int .i64 a0_1) := (blk_cell BK115.out 1).trans rfl; have hcz14_2 : w13.cell? ⟨gb115, 2, none⟩ = some (.int .i64 a0_2) := (blk_cell BK115.out 2).trans rfl; have hcz14_3 : w13.cell? ⟨gb115, 3, none⟩ = some (.int .i64 a0_3) := (blk_cell BK115.out 3).trans rfl; have hcz14_4 : w13.cell? ⟨gb115, 4, none⟩ = some (.slice A0_4 l0_4.length c0_4) := (blk_cell BK115.out 4).trans rfl; have hcz14_5 : w13.cell? ⟨gb115, 5, none⟩ = some (.slice A0_5 l0_5.length c0_5) := (blk_cell BK115.out 5).trans rfl; have hfz14_0 := blk_frozen BK115.out 0; have hfz14_1 := blk_frozen BK115.out 1; have hfz14_2 := blk_frozen BK115.out 2; have hfz14_3 := blk_frozen BK115.out 3; have hfz14_4 := blk_frozen BK115.out 4; have hfz14_5 := blk_frozen BK115.out 5) | (go_at_call 23; (with_reducible refine (logic_Bits.calls k a0_1 t120 _ A7.out).mono ?_); rintro e w' ⟨rfl, ⟨nd, rfl⟩⟩; (try first | exact ⟨rfl, _, World.drewN_drewN _ _ _⟩ | exact ⟨rfl, _, Eq.trans (World.drewN_drewN _ _ _) (congrArg (World.drewN _) (Nat.add_assoc _ _ _))⟩)) | (go_at_call 23; (with_reducible refine (logic_Bits.calls k a0_0 t121 _ A8.out).mono ?_); rintro e w' ⟨rfl, ⟨nd, rfl⟩⟩; (try first | exact ⟨rfl, _, World.drewN_drewN _ _ _⟩ | exact ⟨rfl, _, Eq.trans (World.drewN_drewN _ _ _) (congrArg (World.drewN _) (Nat.add_assoc _ _ _))⟩))); try go_wp2_with (first | ((with_reducible refine gate_dst (N := 2) rfl ?_); refine box_event ?hg (N := 2) ?hd (cs := #[.int .i64 a0_0, .int .i64 a0_1, .int .i64 a0_2, .int .i64 a0_3, .slice A0_4 l0_4.length c0_4, .slice A0_5 l0_5.length c0_5]) (t := 25) ?hr ?_; (case hd => rfl); (case hg => rfl); (case hr => first | (go_simp; done) | (go_simp; rfl)); intro gb115 hg w9 hbox hb; have BK115 := Aside0.mk (hbox); have GW115 := geB w hg; have GE115 := geB w hg; replace HB := Aside0.mk (below_step bel hb); clear hb hbox hg; have hcz10_0 : w9.cell? ⟨gb115, 0, none⟩ = some (.int .i64 a0_0) := (blk_cell BK115.out 0).trans rfl; have hcz10_1 : w9.cell? ⟨gb115, 1, none⟩ = some (.int .i64 a0_1) := (blk_cell BK115.out 1).trans rfl; have hcz10_2 : w9.cell? ⟨gb115, 2, none⟩ = some (.int .i64 a0_2) := (blk_cell BK115.out 2).trans rfl; have hcz10_3 : w9.cell? ⟨gb115, 3, none⟩ = some (.int .i64 a0_3) := (blk_cell BK115.out 3).trans rfl; have hcz10_4 : w9.cell? ⟨gb115, 4, none⟩ = some (.slice A0_4 l0_4.length c0_4) := (blk_cell BK115.out 4).trans rfl; have hcz10_5 : w9.cell? ⟨gb115, 5, none⟩ = some (.slice A0_5 l0_5.length c0_5) := (blk_cell BK115.out 5).trans rfl; have hfz10_0 := blk_frozen BK115.out 0; have hfz10_1 := blk_frozen BK115.out 1; have hfz10_2 := blk_frozen BK115.out 2; have hfz10_3 := blk_frozen BK115.out 3; have hfz10_4 := blk_frozen BK115.out 4; have hfz10_5 := blk_frozen BK115.out 5) | (go_at_call 21; (with_reducible refine (tape_Cells.calls k a0_0 a0_1 a0_2 a0_3 _ _ l0_4 _ _ l0_5 a1 t116 t117 _ ?side1 ?side2 ?side3 ?side4 A3.out).mono ?_); (case side1 => exact cS (Kd.C_below HR0_4.out HB.out)); (case side2 => exact HC0_4.out); (case side3 => exact cS (Kd.C_below HR0_5.out HB.out)); (case side4 => exact HC0_5.out); rintro e w11 ⟨rfl, hb⟩; replace BK115 := blB BK115 hb; replace HB := Aside0.mk (below_step bel hb); (try clear hb); (try clear hb2); (try clear hk); (try clear hi); have hcz12_0 : w11.cell? ⟨gb115, 0, none⟩ = some (.int .i64 a0_0) := (blk_cell BK115.out 0).trans rfl; have hcz12_1 : w11.cell? ⟨gb115, 1, none⟩ = some (.int .i64 a0_1) := (blk_cell BK115.out 1).trans rfl; have hcz12_2 : w11.cell? ⟨gb115, 2, none⟩ = some (.int .i64 a0_2) := (blk_cell BK115.out 2).trans rfl; have hcz12_3 : w11.cell? ⟨gb115, 3, none⟩ = some (.int .i64 a0_3) := (blk_cell BK115.out 3).trans rfl; have hcz12_4 : w11.cell? ⟨gb115, 4, none⟩ = some (.slice A0_4 l0_4.length c0_4) := (blk_cell BK115.out 4).trans rfl; have hcz12_5 : w11.cell? ⟨gb115, 5, none⟩ = some (.slice A0_5 l0_5.length c0_5) := (blk_cell BK115.out 5).trans rfl; have hfz12_0 := blk_frozen BK115.out 0; have hfz12_1 := blk_frozen BK115.out 1; have hfz12_2 := blk_frozen BK115.out 2; have hfz12_3 := blk_frozen BK115.out 3; have hfz12_4 := blk_frozen BK115.out 4; have hfz12_5 := blk_frozen BK115.out 5) | (go_at_call 22; (with_reducible refine (tape_Times.calls k a0_0 a0_1 a0_2 a0_3 _ _ l0_4 _ _ l0_5 a1 t118 t119 _ ?side1 ?side2 ?side3 ?side4 A5.out).mono ?_); (case side1 => exact cS (Kd.C_below HR0_4.out HB.out)); (case side2 => exact HC0_4.out); (case side3 => exact cS (Kd.C_below HR0_5.out HB.out)); (case side4 => exact HC0_5.out); rintro e w13 ⟨rfl, hb⟩; replace BK115 := blB BK115 hb; replace HB := Aside0.mk (below_step bel hb); (try clear hb); (try clear hb2); (try clear hk); (try clear hi); have hcz14_0 : w13.cell? ⟨gb115, 0, none⟩ = some (.int .i64 a0_0) := (blk_cell BK115.out 0).trans rfl; have hcz14_1 : w13.cell? ⟨gb115, 1, none⟩ = some (.int .i64 a0_1) := (blk_cell BK115.out 1).trans rfl; have hcz14_2 : w13.cell? ⟨gb115, 2, none⟩ = some (.int .i64 a0_2) := (blk_cell BK115.out 2).trans rfl; have hcz14_3 : w13.cell? ⟨gb115, 3, none⟩ = some (.int .i64 a0_3) := (blk_cell BK115.out 3).trans rfl; have hcz14_4 : w13.cell? ⟨gb115, 4, none⟩ = some (.slice A0_4 l0_4.length c0_4) := (blk_cell BK115.out 4).trans rfl; have hcz14_5 : w13.cell? ⟨gb115, 5, none⟩ = some (.slice A0_5 l0_5.length c0_5) := (blk_cell BK115.out 5).trans rfl; have hfz14_0 := blk_frozen BK115.out 0; have hfz14_1 := blk_frozen BK115.out 1; have hfz14_2 := blk_frozen BK115.out 2; have hfz14_3 := blk_frozen BK115.out 3; have hfz14_4 := blk_frozen BK115.out 4; have hfz14_5 := blk_frozen BK115.out 5) | (go_at_call 23; (with_reducible refine (logic_Bits.calls k a0_1 t120 _ A7.out).mono ?_); rintro e w' ⟨rfl, ⟨nd, rfl⟩⟩; (try first | exact ⟨rfl, _, World.drewN_drewN _ _ _⟩ | exact ⟨rfl, _, Eq.trans (World.drewN_drewN _ _ _) (congrArg (World.drewN _) (Nat.add_assoc _ _ _))⟩)) | (go_at_call 23; (with_reducible refine (logic_Bits.calls k a0_0 t121 _ A8.out).mono ?_); rintro e w' ⟨rfl, ⟨nd, rfl⟩⟩; (try first | exact ⟨rfl, _, World.drewN_drewN _ _ _⟩ | exact ⟨rfl, _, Eq.trans (World.drewN_drewN _ _ _) (congrArg (World.drewN _) (Nat.add_assoc _ _ _))⟩))))
   go_ret2
   exact ⟨eN, bel⟩
  ·rw [if_neg c6] at H
   have c6b0 : (t119 == 0) = false := beq_eq_false_iff_ne.mpr c6
   have c6b1 : (t119 != 0) = true := bne_iff_ne.mpr c6
   simp only [Option.some.injEq, Prod.mk.injEq] at H
   obtain ⟨rfl, rfl⟩ := H
   go_enter Tryz.func8, Tryz.ntmps8
   go_wp2_with (first | ((with_reducible refine gate_dst (N := 2) rfl ?_); refine box_event ?hg (N := 2) ?hd (cs := #[.int .i64 a0_0, .int .i64 a0_1, .int .i64 a0_2, .int .i64 a0_3, .slice A0_4 l0_4.length c0_4, .slice A0_5 l0_5.length c0_5]) (t := 25) ?hr ?_; (case hd => rfl); (case hg => rfl); (case hr => first | (go_simp; done) | (go_simp; rfl)); intro gb115 hg w15 hbox hb; have BK115 := Aside0.mk (hbox); have GW115 := geB w hg; have GE115 := geB w hg; replace HB := Aside0.mk (below_step bel hb); clear hb hbox hg; have hcz16_0 : w15.cell? ⟨gb115, 0, none⟩ = some (.int .i64 a0_0) := (blk_cell BK115.out 0).trans rfl; have hcz16_1 : w15.cell? ⟨gb115, 1, none⟩ = some (.int .i64 a0_1) := (blk_cell BK115.out 1).trans rfl; have hcz16_2 : w15.cell? ⟨gb115, 2, none⟩ = some (.int .i64 a0_2) := (blk_cell BK115.out 2).trans rfl; have hcz16_3 : w15.cell? ⟨gb115, 3, none⟩ = some (.int .i64 a0_3) := (blk_cell BK115.out 3).trans rfl; have hcz16_4 : w15.cell? ⟨gb115, 4, none⟩ = some (.slice A0_4 l0_4.length c0_4) := (blk_cell BK115.out 4).trans rfl; have hcz16_5 : w15.cell? ⟨gb115, 5, none⟩ = some (.slice A0_5 l0_5.length c0_5) := (blk_cell BK115.out 5).trans rfl; have hfz16_0 := blk_frozen BK115.out 0; have hfz16_1 := blk_frozen BK115.out 1; have hfz16_2 := blk_frozen BK115.out 2; have hfz16_3 := blk_frozen BK115.out 3; have hfz16_4 := blk_frozen BK115.out 4; have hfz16_5 := blk_frozen BK115.out 5) | (go_at_call 21; (with_reducible refine (tape_Cells.calls k a0_0 a0_1 a0_2 a0_3 _ _ l0_4 _ _ l0_5 a1 t116 t117 _ ?side1 ?side2 ?side3 ?side4 A3.out).mono ?_); (case side1 => exact cS (Kd.C_below HR0_4.out HB.out)); (case side2 => exact HC0_4.out); (case side3 => exact cS (Kd.C_below HR0_5.out HB.out)); (case side4 => exact HC0_5.out); rintro e w17 ⟨rfl, hb⟩; replace BK115 := blB BK115 hb; replace HB := Aside0.mk (below_step bel hb); (try clear hb); (try clear hb2); (try clear hk); (try clear hi); have hcz18_0 : w17.cell? ⟨gb115, 0, none⟩ = some (.int .i64 a0_0) := (blk_cell BK115.out 0).trans rfl; have hcz18_1 : w17.cell? ⟨gb115, 1, none⟩ = some (.int .i64 a0_1) := (blk_cell BK115.out 1).trans rfl; have hcz18_2 : w17.cell? ⟨gb115, 2, none⟩ = some (.int .i64 a0_2) := (blk_cell BK115.out 2).trans rfl; have hcz18_3 : w17.cell? ⟨gb115, 3, none⟩ = some (.int .i64 a0_3) := (blk_cell BK115.out 3).trans rfl; have hcz18_4 : w17.cell? ⟨gb115, 4, none⟩ = some (.slice A0_4 l0_4.length c0_4) := (blk_cell BK115.out 4).trans rfl; have hcz18_5 : w17.cell? ⟨gb115, 5, none⟩ = some (.slice A0_5 l0_5.length c0_5) := (blk_cell BK115.out 5).trans rfl; have hfz18_0 := blk_frozen BK115.out 0; have hfz18_1 := blk_frozen BK115.out 1; have hfz18_2 := blk_frozen BK115.out 2; have hfz18_3 := blk_frozen BK115.out 3; have hfz18_4 := blk_frozen BK115.out 4; have hfz18_5 := blk_frozen BK115.out 5) | (go_at_call 22; (with_reducible refine (tape_Times.calls k a0_0 a0_1 a0_2 a0_3 _ _ l0_4 _ _ l0_5 a1 t118 t119 _ ?side1 ?side2 ?side3 ?side4 A5.out).mono ?_); (case side1 => exact cS (Kd.C_below HR0_4.out HB.out)); (case side2 => exact HC0_4.out); (case side3 => exact cS (Kd.C_below HR0_5.out HB.out)); (case side4 => exact HC0_5.out); rintro e w19 ⟨rfl, hb⟩; replace BK115 := blB BK115 hb; replace HB := Aside0.mk (below_step bel hb); (try clear hb); (try clear hb2); (try clear hk); (try clear hi)))
   repeat (go_quiet (first | ((with_reducible refine gate_dst (N := 2) rfl ?_); refine box_event ?hg (N := 2) ?hd (cs := #[.int .i64 a0_0, .int .i64 a0_1, .int .i64 a0_2, .int .i64 a0_3, .slice A0_4 l0_4.length c0_4, .slice A0_5 l0_5.length c0_5]) (t := 25) ?hr ?_; (case hd => rfl); (case hg => rfl); (case hr => first | (go_simp; done) | (go_simp; rfl)); intro gb115 hg w15 hbox hb; have BK115 := Aside0.mk (hbox); have GW115 := geB w hg; have GE115 := geB w hg; replace HB := Aside0.mk (below_step bel hb); clear hb hbox hg; have hcz16_0 : w15.cell? ⟨gb115, 0, none⟩ = some (.int .i64 a0_0) := (blk_cell BK115.out 0).trans rfl; have hcz16_1 : w15.cell? ⟨gb115, 1, none⟩ = some (.int .i64 a0_1) := (blk_cell BK115.out 1).trans rfl; have hcz16_2 : w15.cell? ⟨gb115, 2, none⟩ = some (.int .i64 a0_2) := (blk_cell BK115.out 2).trans rfl; have hcz16_3 : w15.cell? ⟨gb115, 3, none⟩ = some (.int .i64 a0_3) := (blk_cell BK115.out 3).trans rfl; have hcz16_4 : w15.cell? ⟨gb115, 4, none⟩ = some (.slice A0_4 l0_4.length c0_4) := (blk_cell BK115.out 4).trans rfl; have hcz16_5 : w15.cell? ⟨gb115, 5, none⟩ = some (.slice A0_5 l0_5.length c0_5) := (blk_cell BK115.out 5).trans rfl; have hfz16_0 := blk_frozen BK115.out 0; have hfz16_1 := blk_frozen BK115.out 1; have hfz16_2 := blk_frozen BK115.out 2; have hfz16_3 := blk_frozen BK115.out 3; have hfz16_4 := blk_frozen BK115.out 4; have hfz16_5 := blk_frozen BK115.out 5) | (go_at_call 21; (with_reducible refine (tape_Cells.calls k a0_0 a0_1 a0_2 a0_3 _ _ l0_4 _ _ l0_5 a1 t116 t117 _ ?side1 ?side2 ?side3 ?side4 A3.out).mono ?_); (case side1 => exact cS (Kd.C_below HR0_4.out HB.out)); (case side2 => exact HC0_4.out); (case side3 => exact cS (Kd.C_below HR0_5.out HB.out)); (case side4 => exact HC0_5.out); rintro e w17 ⟨rfl, hb⟩; replace BK115 := blB BK115 hb; replace HB := Aside0.mk (below_step bel hb); (try clear hb); (try clear hb2); (try clear hk); (try clear hi); have hcz18_0 : w17.cell? ⟨gb115, 0, none⟩ = some (.int .i64 a0_0) := (blk_cell BK115.out 0).trans rfl; have hcz18_1 : w17.cell? ⟨gb115, 1, none⟩ = some (.int .i64 a0_1) := (blk_cell BK115.out 1).trans rfl; have hcz18_2 : w17.cell? ⟨gb115, 2, none⟩ = some (.int .i64 a0_2) := (blk_cell BK115.out 2).trans rfl; have hcz18_3 : w17.cell? ⟨gb115, 3, none⟩ = some (.int .i64 a0_3) := (blk_cell BK115.out 3).trans rfl; have hcz18_4 : w17.cell? ⟨gb115, 4, none⟩ = some (.slice A0_4 l0_4.length c0_4) := (blk_cell BK115.out 4).trans rfl; have hcz18_5 : w17.cell? ⟨gb115, 5, none⟩ = some (.slice A0_5 l0_5.length c0_5) := (blk_cell BK115.out 5).trans rfl; have hfz18_0 := blk_frozen BK115.out 0; have hfz18_1 := blk_frozen BK115.out 1; have hfz18_2 := blk_frozen BK115.out 2; have hfz18_3 := blk_frozen BK115.out 3; have hfz18_4 := blk_frozen BK115.out 4; have hfz18_5 := blk_frozen BK115.out 5) | (go_at_call 22; (with_reducible refine (tape_Times.calls k a0_0 a0_1 a0_2 a0_3 _ _ l0_4 _ _ l0_5 a1 t118 t119 _ ?side1 ?side2 ?side3 ?side4 A5.out).mono ?_); (case side1 => exact cS (Kd.C_below HR0_4.out HB.out)); (case side2 => exact HC0_4.out); (case side3 => exact cS (Kd.C_below HR0_5.out HB.out)); (case side4 => exact HC0_5.out); rintro e w19 ⟨rfl, hb⟩; replace BK115 := blB BK115 hb; replace HB := Aside0.mk (below_step bel hb); (try clear hb); (try clear hb2); (try clear hk); (try clear hi))); try go_wp2_with (first | ((with_reducible refine gate_dst (N := 2) rfl ?_); refine box_event ?hg (N := 2) ?hd (cs := #[.int .i64 a0_0, .int .i64 a0_1, .int .i64 a0_2, .int .i64 a0_3, .slice A0_4 l0_4.length c0_4, .slice A0_5 l0_5.length c0_5]) (t := 25) ?hr ?_; (case hd => rfl); (case hg => rfl); (case hr => first | (go_simp; done) | (go_simp; rfl)); intro gb115 hg w15 hbox hb; have BK115 := Aside0.mk (hbox); have GW115 := geB w hg; have GE115 := geB w hg; replace HB := Aside0.mk (below_step bel hb); clear hb hbox hg; have hcz16_0 : w15.cell? ⟨gb115, 0, none⟩ = some (.int .i64 a0_0) := (blk_cell BK115.out 0).trans rfl; have hcz16_1 : w15.cell? ⟨gb115, 1, none⟩ = some (.int .i64 a0_1) := (blk_cell BK115.out 1).trans rfl; have hcz16_2 : w15.cell? ⟨gb115, 2, none⟩ = some (.int .i64 a0_2) := (blk_cell BK115.out 2).trans rfl; have hcz16_3 : w15.cell? ⟨gb115, 3, none⟩ = some (.int .i64 a0_3) := (blk_cell BK115.out 3).trans rfl; have hcz16_4 : w15.cell? ⟨gb115, 4, none⟩ = some (.slice A0_4 l0_4.length c0_4) := (blk_cell BK115.out 4).trans rfl; have hcz16_5 : w15.cell? ⟨gb115, 5, none⟩ = some (.slice A0_5 l0_5.length c0_5) := (blk_cell BK115.out 5).trans rfl; have hfz16_0 := blk_frozen BK115.out 0; have hfz16_1 := blk_frozen BK115.out 1; have hfz16_2 := blk_frozen BK115.out 2; have hfz16_3 := blk_frozen BK115.out 3; have hfz16_4 := blk_frozen BK115.out 4; have hfz16_5 := blk_frozen BK115.out 5) | (go_at_call 21; (with_reducible refine (tape_Cells.calls k a0_0 a0_1 a0_2 a0_3 _ _ l0_4 _ _ l0_5 a1 t116 t117 _ ?side1 ?side2 ?side3 ?side4 A3.out).mono ?_); (case side1 => exact cS (Kd.C_below HR0_4.out HB.out)); (case side2 => exact HC0_4.out); (case side3 => exact cS (Kd.C_below HR0_5.out HB.out)); (case side4 => exact HC0_5.out); rintro e w17 ⟨rfl, hb⟩; replace BK115 := blB BK115 hb; replace HB := Aside0.mk (below_step bel hb); (try clear hb); (try clear hb2); (try clear hk); (try clear hi); have hcz18_0 : w17.cell? ⟨gb115, 0, none⟩ = some (.int .i64 a0_0) := (blk_cell BK115.out 0).trans rfl; have hcz18_1 : w17.cell? ⟨gb115, 1, none⟩ = some (.int .i64 a0_1) := (blk_cell BK115.out 1).trans rfl; have hcz18_2 : w17.cell? ⟨gb115, 2, none⟩ = some (.int .i64 a0_2) := (blk_cell BK115.out 2).trans rfl; have hcz18_3 : w17.cell? ⟨gb115, 3, none⟩ = some (.int .i64 a0_3) := (blk_cell BK115.out 3).trans rfl; have hcz18_4 : w17.cell? ⟨gb115, 4, none⟩ = some (.slice A0_4 l0_4.length c0_4) := (blk_cell BK115.out 4).trans rfl; have hcz18_5 : w17.cell? ⟨gb115, 5, none⟩ = some (.slice A0_5 l0_5.length c0_5) := (blk_cell BK115.out 5).trans rfl; have hfz18_0 := blk_frozen BK115.out 0; have hfz18_1 := blk_frozen BK115.out 1; have hfz18_2 := blk_frozen BK115.out 2; have hfz18_3 := blk_frozen BK115.out 3; have hfz18_4 := blk_frozen BK115.out 4; have hfz18_5 := blk_frozen BK115.out 5) | (go_at_call 22; (with_reducible refine (tape_Times.calls k a0_0 a0_1 a0_2 a0_3 _ _ l0_4 _ _ l0_5 a1 t118 t119 _ ?side1 ?side2 ?side3 ?side4 A5.out).mono ?_); (case side1 => exact cS (Kd.C_below HR0_4.out HB.out)); (case side2 => exact HC0_4.out); (case side3 => exact cS (Kd.C_below HR0_5.out HB.out)); (case side4 => exact HC0_5.out); rintro e w19 ⟨rfl, hb⟩; replace BK115 := blB BK115 hb; replace HB := Aside0.mk (below_step bel hb); (try clear hb); (try clear hb2); (try clear hk); (try clear hi))))
   go_ret2
   exact ⟨eN, bel⟩
 ·rw [if_neg c4] at H
  have c4b0 : (t117 == 0) = false := beq_eq_false_iff_ne.mpr c4
  have c4b1 : (t117 != 0) = true := bne_iff_ne.mpr c4
  simp only [Option.some.injEq, Prod.mk.injEq] at H
  obtain ⟨rfl, rfl⟩ := H
  go_enter Tryz.func8, Tryz.ntmps8
  go_wp2_with (first | ((with_reducible refine gate_dst (N := 2) rfl ?_); refine box_event ?hg (N := 2) ?hd (cs := #[.int .i64 a0_0, .int .i64 a0_1, .int .i64 a0_2, .int .i64 a0_3, .slice A0_4 l0_4.length c0_4, .slice A0_5 l0_5.length c0_5]) (t := 25) ?hr ?_; (case hd => rfl); (case hg => rfl); (case hr => first | (go_simp; done) | (go_simp; rfl)); intro gb115 hg w20 hbox hb; have BK115 := Aside0.mk (hbox); have GW115 := geB w hg; have GE115 := geB w hg; replace HB := Aside0.mk (below_step bel hb); clear hb hbox hg; have hcz21_0 : w20.cell? ⟨gb115, 0, none⟩ = some (.int .i64 a0_0) := (blk_cell BK115.out 0).trans rfl; have hcz21_1 : w20.cell? ⟨gb115, 1, none⟩ = some (.int .i64 a0_1) := (blk_cell BK115.out 1).trans rfl; have hcz21_2 : w20.cell? ⟨gb115, 2, none⟩ = some (.int .i64 a0_2) := (blk_cell BK115.out 2).trans rfl; have hcz21_3 : w20.cell? ⟨gb115, 3, none⟩ = some (.int .i64 a0_3) := (blk_cell BK115.out 3).trans rfl; have hcz21_4 : w20.cell? ⟨gb115, 4, none⟩ = some (.slice A0_4 l0_4.length c0_4) := (blk_cell BK115.out 4).trans rfl; have hcz21_5 : w20.cell? ⟨gb115, 5, none⟩ = some (.slice A0_5 l0_5.length c0_5) := (blk_cell BK115.out 5).trans rfl; have hfz21_0 := blk_frozen BK115.out 0; have hfz21_1 := blk_frozen BK115.out 1; have hfz21_2 := blk_frozen BK115.out 2; have hfz21_3 := blk_frozen BK115.out 3; have hfz21_4 := blk_frozen BK115.out 4; have hfz21_5 := blk_frozen BK115.out 5) | (go_at_call 21; (with_reducible refine (tape_Cells.calls k a0_0 a0_1 a0_2 a0_3 _ _ l0_4 _ _ l0_5 a1 t116 t117 _ ?side1 ?side2 ?side3 ?side4 A3.out).mono ?_); (case side1 => exact cS (Kd.C_below HR0_4.out HB.out)); (case side2 => exact HC0_4.out); (case side3 => exact cS (Kd.C_below HR0_5.out HB.out)); (case side4 => exact HC0_5.out); rintro e w22 ⟨rfl, hb⟩; replace BK115 := blB BK115 hb; replace HB := Aside0.mk (below_step bel hb); (try clear hb); (try clear hb2); (try clear hk); (try clear hi)))
  repeat (go_quiet (first | ((with_reducible refine gate_dst (N := 2) rfl ?_); refine box_event ?hg (N := 2) ?hd (cs := #[.int .i64 a0_0, .int .i64 a0_1, .int .i64 a0_2, .int .i64 a0_3, .slice A0_4 l0_4.length c0_4, .slice A0_5 l0_5.length c0_5]) (t := 25) ?hr ?_; (case hd => rfl); (case hg => rfl); (case hr => first | (go_simp; done) | (go_simp; rfl)); intro gb115 hg w20 hbox hb; have BK115 := Aside0.mk (hbox); have GW115 := geB w hg; have GE115 := geB w hg; replace HB := Aside0.mk (below_step bel hb); clear hb hbox hg; have hcz21_0 : w20.cell? ⟨gb115, 0, none⟩ = some (.int .i64 a0_0) := (blk_cell BK115.out 0).trans rfl; have hcz21_1 : w20.cell? ⟨gb115, 1, none⟩ = some (.int .i64 a0_1) := (blk_cell BK115.out 1).trans rfl; have hcz21_2 : w20.cell? ⟨gb115, 2, none⟩ = some (.int .i64 a0_2) := (blk_cell BK115.out 2).trans rfl; have hcz21_3 : w20.cell? ⟨gb115, 3, none⟩ = some (.int .i64 a0_3) := (blk_cell BK115.out 3).trans rfl; have hcz21_4 : w20.cell? ⟨gb115, 4, none⟩ = some (.slice A0_4 l0_4.length c0_4) := (blk_cell BK115.out 4).trans rfl; have hcz21_5 : w20.cell? ⟨gb115, 5, none⟩ = some (.slice A0_5 l0_5.length c0_5) := (blk_cell BK115.out 5).trans rfl; have hfz21_0 := blk_frozen BK115.out 0; have hfz21_1 := blk_frozen BK115.out 1; have hfz21_2 := blk_frozen BK115.out 2; have hfz21_3 := blk_frozen BK115.out 3; have hfz21_4 := blk_frozen BK115.out 4; have hfz21_5 := blk_frozen BK115.out 5) | (go_at_call 21; (with_reducible refine (tape_Cells.calls k a0_0 a0_1 a0_2 a0_3 _ _ l0_4 _ _ l0_5 a1 t116 t117 _ ?side1 ?side2 ?side3 ?side4 A3.out).mono ?_); (case side1 => exact cS (Kd.C_below HR0_4.out HB.out)); (case side2 => exact HC0_4.out); (case side3 => exact cS (Kd.C_below HR0_5.out HB.out)); (case side4 => exact HC0_5.out); rintro e w22 ⟨rfl, hb⟩; replace BK115 := blB BK115 hb; replace HB := Aside0.mk (below_step bel hb); (try clear hb); (try clear hb2); (try clear hk); (try clear hi))); try go_wp2_with (first | ((with_reducible refine gate_dst (N := 2) rfl ?_); refine box_event ?hg (N := 2) ?hd (cs := #[.int .i64 a0_0, .int .i64 a0_1, .int .i64 a0_2, .int .i64 a0_3, .slice A0_4 l0_4.length c0_4, .slice A0_5 l0_5.length c0_5]) (t := 25) ?hr ?_; (case hd => rfl); (case hg => rfl); (case hr => first | (go_simp; done) | (go_simp; rfl)); intro gb115 hg w20 hbox hb; have BK115 := Aside0.mk (hbox); have GW115 := geB w hg; have GE115 := geB w hg; replace HB := Aside0.mk (below_step bel hb); clear hb hbox hg; have hcz21_0 : w20.cell? ⟨gb115, 0, none⟩ = some (.int .i64 a0_0) := (blk_cell BK115.out 0).trans rfl; have hcz21_1 : w20.cell? ⟨gb115, 1, none⟩ = some (.int .i64 a0_1) := (blk_cell BK115.out 1).trans rfl; have hcz21_2 : w20.cell? ⟨gb115, 2, none⟩ = some (.int .i64 a0_2) := (blk_cell BK115.out 2).trans rfl; have hcz21_3 : w20.cell? ⟨gb115, 3, none⟩ = some (.int .i64 a0_3) := (blk_cell BK115.out 3).trans rfl; have hcz21_4 : w20.cell? ⟨gb115, 4, none⟩ = some (.slice A0_4 l0_4.length c0_4) := (blk_cell BK115.out 4).trans rfl; have hcz21_5 : w20.cell? ⟨gb115, 5, none⟩ = some (.slice A0_5 l0_5.length c0_5) := (blk_cell BK115.out 5).trans rfl; have hfz21_0 := blk_frozen BK115.out 0; have hfz21_1 := blk_frozen BK115.out 1; have hfz21_2 := blk_frozen BK115.out 2; have hfz21_3 := blk_frozen BK115.out 3; have hfz21_4 := blk_frozen BK115.out 4; have hfz21_5 := blk_frozen BK115.out 5) | (go_at_call 21; (with_reducible refine (tape_Cells.calls k a0_0 a0_1 a0_2 a0_3 _ _ l0_4 _ _ l0_5 a1 t116 t117 _ ?side1 ?side2 ?side3 ?side4 A3.out).mono ?_); (case side1 => exact cS (Kd.C_below HR0_4.out HB.out)); (case side2 => exact HC0_4.out); (case side3 => exact cS (Kd.C_below HR0_5.out HB.out)); (case side4 => exact HC0_5.out); rintro e w22 ⟨rfl, hb⟩; replace BK115 := blB BK115 hb; replace HB := Aside0.mk (below_step bel hb); (try clear hb); (try clear hb2); (try clear hk); (try clear hi))))
  go_ret2
  exact ⟨eN, bel⟩
end Go.Proofs.YtailpfcbdopfeaaGreatDoor.F
/- literal.Number, by hand: it reads every numeral of a whole number that is not negative. -/
namespace Go.Proofs.YtailpfcbdopfeaaGreatDoor.F
open Go.RowKit Go.Proofs.YtailpfcbdopfeaaGreatDoorW.PrintWords Go.Proofs.YtailpfcbdopfeaaGreatDoorW.PrintLast Go.Proofs.YtailpfcbdopfeaaGreatDoorW.PrintMore
set_option linter.unusedVariables false
set_option linter.unusedSimpArgs false
theorem numB_bounds {s : ByteArray} {v : Int} (h : numB s = some v) : -9223372036854775808 ≤ v ∧ v ≤ 9223372036854775807 := by
  unfold numB at h
  split at h
  · rename_i v' hv
    obtain rfl := Option.some.inj h
    exact Lib.atoiAll_bounds hv
  · cases h
/-- What a string must be for Number to answer v, true. -/
def NumG (s : ByteArray) (v : Int) : Prop := numB s = some v ∧ 0 ≤ v ∧ s = mkB (Lib.itoa v)
theorem number_calls (s : ByteArray) (hs : s.size ≤ 140737488355328) (w : World) (hG : Glob w) :
    Calls Tryz.prog 88 #[.string s] w fun e w' => ∃ (n : Int) (b : Bool), e = .returned (.tuple #[.int .i64 n, .bool b]) ∧ (∀ v, NumG s v → n = v ∧ b = true) ∧ Below w.heap.size w w' := by
  have HG := Aside0.mk hG
  cases hn : numB s with
  | none =>
    obtain ⟨n, hc⟩ := atoi_bad s hs hn w hG
    have HC := Lib.hid hc
    have HN := Aside0.mk hn
    clear hc hn hG
    go_enter Tryz.func88, Tryz.ntmps88
    go_wp2_with fail
    refine HC.out.mono ?_
    rintro e w' ⟨N, rfl, hb⟩
    have HB := Aside0.mk hb
    clear hb
    go_wp2
    go_ret2
    exact ⟨n, false, rfl, fun v hv => absurd (HN.out.symm.trans hv.1) (by simp), HB.out⟩
  | some v =>
    have HC := Lib.hid (atoi_ok s hs v hn w)
    have HN := Aside0.mk hn
    have HV := Aside0.mk (numB_bounds hn)
    clear hn hG
    by_cases h0 : 0 ≤ v
    · have h0b : decide (0 ≤ v) = true := decide_eq_true h0
      have HI : Aside0 (∀ W, Below w.heap.size w W → Calls Tryz.prog 43 #[.int .i64 v] W fun e w' => e = .returned (.string (mkB (Lib.itoa v))) ∧ Below W.heap.size W w') :=
        ⟨fun W hW => strconv_Itoa.calls v _ W (HG.out.below hW) (if_pos HV.out)⟩
      have H0 := Aside0.mk h0
      obtain ⟨q, hq⟩ : ∃ q, mkB (Lib.itoa v) = q := ⟨_, rfl⟩
      rw [hq] at HI
      have HQ := Aside0.mk hq
      clear hq h0
      obtain ⟨b, hbq⟩ : ∃ b, (q.toList == s.toList) = b := ⟨_, rfl⟩
      have HBQ := Aside0.mk hbq
      cases b with
      | true =>
        go_enter Tryz.func88, Tryz.ntmps88
        go_wp2_with fail
        refine HC.out.mono ?_
        rintro e w' ⟨rfl, hb⟩
        have HB := Aside0.mk hb
        clear hb
        go_wp2_with (go_at_call 43; refine (HI.out _ HB.out).mono ?_; rintro e w2 ⟨rfl, hb2⟩)
        go_ret2
        exact ⟨v, true, rfl, fun u hu => ⟨Option.some.inj (HN.out.symm.trans hu.1), rfl⟩, below_step HB.out hb2⟩
      | false =>
        go_enter Tryz.func88, Tryz.ntmps88
        go_wp2_with fail
        refine HC.out.mono ?_
        rintro e w' ⟨rfl, hb⟩
        have HB := Aside0.mk hb
        clear hb
        go_wp2_with (go_at_call 43; refine (HI.out _ HB.out).mono ?_; rintro e w2 ⟨rfl, hb2⟩)
        go_ret2
        refine ⟨v, false, rfl, fun u hu => ?_, below_step HB.out hb2⟩
        exfalso
        obtain ⟨h1, h2, h3⟩ := hu
        rw [HN.out] at h1
        obtain rfl := Option.some.inj h1
        have := HBQ.out
        rw [← HQ.out, ← h3] at this
        simp at this
    · have h0b : decide (0 ≤ v) = false := decide_eq_false h0
      have H0 := Aside0.mk h0
      clear h0
      go_enter Tryz.func88, Tryz.ntmps88
      go_wp2_with fail
      refine HC.out.mono ?_
      rintro e w' ⟨rfl, hb⟩
      have HB := Aside0.mk hb
      clear hb
      go_wp2
      go_ret2
      refine ⟨v, false, rfl, fun u hu => ?_, HB.out⟩
      exfalso
      obtain ⟨h1, h2, _⟩ := hu
      rw [HN.out] at h1
      obtain rfl := Option.some.inj h1
      have := H0.out
      omega
end Go.Proofs.YtailpfcbdopfeaaGreatDoor.F
/- tape.ints, by hand. -/
namespace Go.Proofs.YtailpfcbdopfeaaGreatDoor.F
open Go.RowKit Go.Proofs.YtailpfcbdopfeaaGreatDoorW.PrintWords Go.Proofs.YtailpfcbdopfeaaGreatDoorW.PrintLast Go.Proofs.YtailpfcbdopfeaaGreatDoorW.PrintMore
set_option linter.unusedVariables false
set_option linter.unusedSimpArgs false
structure IntsEnds (s : ByteArray) (n : Nat) (w : World) (e : Ending) (w' : World) : Prop where
  ex : ∃ (v : Value) (xs : List Int) (b : Bool), e = .returned (.tuple #[v, .bool b]) ∧ Kd.R (Kd.int .i64) 3 w' w.heap.size (fun _ => True) v xs ∧ (b = true → xs.length = n) ∧ (∀ vs, vs.length = n → Each (fun x v => numB x = some v) (splitL s ⟨#[32]⟩) vs → xs = vs ∧ b = true) ∧ Below w.heap.size w w'
theorem ints_step {xs vs : List Int} {n i : Nat} {ws : List ByteArray} {x : ByteArray} {v : Int} (hx : ws[i]? = some x) (hv : numB x = some v) (hl : xs.length = n) (hvl : vs.length = n) (hi : i < n) (h : Each (fun x v => numB x = some v) ws vs) (e : xs.take i = vs.take i) : (xs.set i v).take (i + 1) = vs.take (i + 1) := by
  obtain ⟨u, hu, hR⟩ := h.at hx
  rw [hv] at hR
  obtain rfl := Option.some.inj hR
  rw [take_snocG hu, take_snocG (l := xs.set i v) (x := v) (by rw [List.getElem?_set]; simp; omega), ← e, List.take_set_of_le (Nat.le_refl _)]
theorem none_no {ws : List ByteArray} {vs : List Int} {i : Nat} {x : ByteArray} (hx : ws[i]? = some x) (hn : numB x = none) (h : Each (fun x v => numB x = some v) ws vs) : False := by
  obtain ⟨u, _, hR⟩ := h.at hx
  rw [hn] at hR
  cases hR
set_option maxHeartbeats 1000000 in
set_option maxRecDepth 100000 in
theorem ints_calls (s : ByteArray) (hs : s.size ≤ 45000) (n : Nat) (hn1 : 1 ≤ n) (hn : n ≤ 100) (w : World) (hG : Glob w) :
    Calls Tryz.prog 26 #[.string s, .int .i64 n] w fun e w' => IntsEnds s n w e w' := by
  have HG := Aside0.mk hG
  clear hG
  go_enter Tryz.func26, Tryz.ntmps26
  go_wp2_with fail
  refine (split_calls s ⟨#[32]⟩ w HG.out (by omega) (by decide)).mono ?_
  rintro e w1 ⟨A6, c6, rfl, hR6, hb1⟩
  have hc6 := (Kd.R_reads' hR6).2.1
  have HC6 := Aside0.mk hR6
  have HB := Aside0.mk hb1
  have hwl := splitL_many s ⟨#[32]⟩ (by decide)
  have hws : ∀ x ∈ splitL s ⟨#[32]⟩, x.size ≤ 45000 := fun x hx => Nat.le_trans (splitL_mem hx) hs
  have HW := Aside0.mk hws
  clear hb1 hR6 hws
  obtain ⟨ws, hwsE⟩ : ∃ q, q = splitL s ⟨#[32]⟩ := ⟨_, rfl⟩
  simp only [← hwsE] at HC6 hc6 hwl HW ⊢
  have HE := Aside0.mk hwsE
  clear hwsE
  go_wp2_with (first | ((with_reducible refine gate_dst (N := 15) rfl ?_); refine Kd.R_make (Kd.int .i64) _ 3 rfl (N := 15) rfl 40 _ _ rfl n rfl rfl Tryz.underlying40 (.int .i64 0) 8 infoI rfl (by decide) (by omega) 0 (ok := fun _ => True) (okp := fun _ => True) rfl (fun _ hk => hk) trivial (by omega) (by rw [Int.toNat_natCast]; omega) (Below.refl _ _) (Nat.le_refl _) ?_; intro v15 w11 ho hb hg hnew; rw [Int.toNat_natCast] at ho; have HO := Aside0.mk (Kd.R_lower ho HB.out.size); replace HB := belB HB hb; replace HC6 := rB HC6 hb; clear hb ho hg hnew))
  generalize w11 = W0 at *
  obtain ⟨g7, cap7, ev, hg7, _, _⟩ := Kd.R_form HO.out (by rw [List.length_replicate]; omega)
  rw [List.length_replicate] at ev
  subst ev
  go_loopw [18] (fun v18 wr => ∃ (i : Nat) (xs : List Int), v18 = .int .i64 i ∧ i ≤ ws.length ∧ i ≤ n ∧ Aside0 (xs.length = n ∧ ∀ vs, vs.length = n → Each (fun x v => numB x = some v) ws vs → xs.take i = vs.take i) ∧ Aside0 (Kd.R (Kd.int .i64) 3 wr w.heap.size (fun _ => True) (.slice (some ⟨g7, 0, none⟩) n cap7) xs) ∧ Aside0 (Below w.heap.size w wr) ∧ Aside0 (Kd.R Kd.string 9 wr w.heap.size (fun _ => True) (.slice A6 ws.length c6) ws)) (fun v18 _ => ws.length - (intOf v18).toNat)
  case atStart => exact ⟨0, _, rfl, Nat.zero_le _, Nat.zero_le _, ⟨List.length_replicate, fun vs _ _ => rfl⟩, HO, HB, HC6⟩
  case round =>
    clear HO HB HC6
    obtain ⟨i, xs, rfl, hi, hin, HX, HO, HB, HC6⟩ := hrel
    generalize wr = wq at *
    by_cases hlt : i < ws.length
    · obtain ⟨ad, hA, hcell⟩ := Kd.at_string (Kd.R_reads' HC6.out).2.2 (i : Int) (by omega) (by omega)
      subst hA
      simp only [Int.toNat_natCast] at hcell
      have hx := rds_str hlt
      have hxs := HW.out _ (List.mem_of_getElem? hx)
      generalize rdOf ByteArray.empty ws (i : Int) = x at *
      have HXI := Aside0.mk hx
      clear hx
      cases hnb : numB x with
      | none =>
        obtain ⟨nn, hcall⟩ := atoi_bad x (by omega) hnb wq (HG.out.below HB.out)
        have HN := Aside0.mk hnb
        have HCL := Aside0.mk hcall
        clear hnb hcall
        go_wp2_with fail
        refine HCL.out.mono ?_
        rintro e w2 ⟨N, rfl, hb2⟩
        replace HB := belB HB hb2
        clear hb2
        go_wp2
        go_ret2
        exact ⟨⟨.slice none 0 0, [], false, rfl, Kd.R_nil _ _ _ _ _, fun h => (by cases h), fun vs _ he => (none_no HXI.out HN.out (by rw [HE.out]; exact he)).elim, HB.out⟩⟩
      | some v =>
        have HCL := Aside0.mk (atoi_ok x (by omega) v hnb wq)
        have HN := Aside0.mk hnb
        clear hnb
        by_cases hii : i < n
        · have hq : decide ((n : Int) ≤ (i : Int)) = false := decide_eq_false (by omega)
          go_wp2_with fail
          refine HCL.out.mono ?_
          rintro e w2 ⟨rfl, hb2⟩
          replace HB := belB HB hb2
          replace HO := rB HO hb2
          replace HC6 := rB HC6 hb2
          clear hb2 hcell
          have hxl := HX.out.1
          obtain ⟨cl7, hcl7⟩ := row_typed HO.out
          obtain ⟨hz0, hz1⟩ := Kd.R_celln 0 HO.out (i : Int) (by omega) (by omega)
          simp only [Int.toNat_natCast] at hz0 hz1
          go_wp2
          have LO := Aside0.mk (Kd.R_putn HO.out (i : Int) v)
          have LC := Aside0.mk (Kd.R_set HC6.out hcl7 (by decide) i (.int .i64 v))
          have LB := belS HB hg7 i (.int .i64 v)
          rw [Int.toNat_natCast] at LO
          go_roundw
          case rel => exact ⟨i + 1, xs.set i v, by go_num, by omega, by omega, ⟨by rw [List.length_set]; exact hxl, fun vs h1 h2 => ints_step HXI.out HN.out hxl h1 hii h2 (HX.out.2 vs h1 h2)⟩, LO, LB, LC⟩
          case measure => simp [intOf]; omega
        · have hq : decide ((n : Int) ≤ (i : Int)) = true := decide_eq_true (by omega)
          go_wp2_with fail
          refine HCL.out.mono ?_
          rintro e w2 ⟨rfl, hb2⟩
          replace HB := belB HB hb2
          clear hb2
          go_wp2
          go_ret2
          exact ⟨⟨.slice none 0 0, [], false, rfl, Kd.R_nil _ _ _ _ _, fun h => (by cases h), fun vs h1 h2 => absurd h2.1 (by rw [← HE.out]; omega), HB.out⟩⟩
    · obtain rfl : i = ws.length := by omega
      have hxl := HX.out.1
      by_cases he : ws.length = n
      · have hq : decide ((ws.length : Int) = (n : Int)) = true := decide_eq_true (by omega)
        go_wp2
        go_ret2
        exact ⟨⟨_, xs, true, rfl, HO.out, fun _ => hxl, fun vs h1 h2 => ⟨by
          have := HX.out.2 vs h1 (by rw [HE.out]; exact h2)
          rw [List.take_of_length_le (by omega), List.take_of_length_le (by omega)] at this
          exact this, rfl⟩, HB.out⟩⟩
      · have hq : ((ws.length : Int) == (n : Int)) = false := beq_eq_false_iff_ne.2 (by omega)
        go_wp2
        go_ret2
        exact ⟨⟨_, xs, false, rfl, HO.out, fun h => (by cases h), fun vs h1 h2 => absurd h2.1 (by rw [← HE.out]; omega), HB.out⟩⟩
end Go.Proofs.YtailpfcbdopfeaaGreatDoor.F
/- literal.numbers, by hand. -/
namespace Go.Proofs.YtailpfcbdopfeaaGreatDoor.F
open Go.RowKit Go.Proofs.YtailpfcbdopfeaaGreatDoorW.PrintWords Go.Proofs.YtailpfcbdopfeaaGreatDoorW.PrintLast Go.Proofs.YtailpfcbdopfeaaGreatDoorW.PrintMore
set_option linter.unusedVariables false
set_option linter.unusedSimpArgs false
theorem num_step {ws : List ByteArray} {vs xs : List Int} {i : Nat} {x : ByteArray} {n : Int} {nb : Bool} (hx : ws[i]? = some x) (hn : ∀ v, NumG x v → n = v ∧ nb = true) (h : Each NumG ws vs) (e : xs = vs.take i) : xs ++ [n] = vs.take (i + 1) ∧ nb = true := by
  obtain ⟨v, hv, hR⟩ := h.at hx
  obtain ⟨rfl, hb⟩ := hn v hR
  exact ⟨by rw [take_snocG hv, e], hb⟩
set_option maxHeartbeats 1000000 in
set_option maxRecDepth 100000 in
theorem numbers_calls (f0 : Int) (f1 : Bool) (f2 : ByteArray) (ok : Bool) (A : Option Addr) (c : Nat) (ws : List ByteArray) (w : World) (hG : Glob w) (hr : Kd.C Kd.string w A ws.length ws) (hc : ws.length ≤ c) (hl : ws.length ≤ 100000) (hs : ∀ x ∈ ws, x.size ≤ 140737488355328) :
    Calls Tryz.prog 59 #[.agg #[.int .i64 f0, .bool f1, .string f2, .slice none 0 0], .bool ok, .slice A ws.length c] w fun e w' => ∃ (v : Value) (xs : List Int) (b : Bool), e = .returned (.tuple #[.agg #[.int .i64 f0, .bool f1, .string f2, v], .bool b]) ∧
      Kd.R (Kd.int .i64) 3 w' w.heap.size (fun _ => True) v xs ∧ xs.length = ws.length ∧ (∀ vs, ok = true → Each NumG ws vs → xs = vs ∧ b = true) ∧ Below w.heap.size w w' := by
  have HG := Aside0.mk hG
  have HR := Aside0.mk hr
  have HS := Aside0.mk hs
  clear hG hr hs
  go_enter Tryz.func59, Tryz.ntmps59
  go_wp2
  obtain ⟨k3, k6, hb0⟩ := box2 w (.cells #[.int .i64 f0, .bool f1, .string f2, .slice none 0 0] 42) (.cells #[.int .i64 0, .bool false, .string ⟨#[]⟩, .slice none 0 0] 42)
  have K3 := Aside0.mk k3
  have K6 := Aside0.mk k6
  have HB := Aside0.mk hb0
  generalize (w.alloc (.cells #[.int .i64 f0, .bool f1, .string f2, .slice none 0 0] 42)).alloc (.cells #[.int .i64 0, .bool false, .string ⟨#[]⟩, .slice none 0 0] 42) = W0 at *
  clear k3 k6 hb0
  obtain ⟨g6, hg6⟩ : ∃ g, w.heap.size + 1 = g := ⟨_, rfl⟩
  have hg6w : w.heap.size ≤ g6 := by omega
  have hg36 : w.heap.size ≠ g6 := by omega
  simp only [hg6] at K6 ⊢
  clear hg6
  go_loopw [1, 14] (fun v1 v14 wr => ∃ (i : Nat) (b : Bool) (v : Value) (xs : List Int), v1 = .bool b ∧ v14 = .int .i64 i ∧ i ≤ ws.length ∧ Aside0 (xs.length = i ∧ ∀ vs, ok = true → Each NumG ws vs → xs = vs.take i ∧ b = true) ∧ Aside0 (wr.heap[w.heap.size]? = some (.cells #[.int .i64 f0, .bool f1, .string f2, v] 42 (0, 0)))
    ∧ Aside0 (wr.heap[g6]? = some (.cells #[.int .i64 0, .bool false, .string ⟨#[]⟩, .slice none 0 0] 42 (0, 0))) ∧ Aside0 (Kd.R (Kd.int .i64) 3 wr w.heap.size (fun _ => True) v xs) ∧ Aside0 (Below w.heap.size w wr)) (fun _ v14 _ => ws.length - (intOf v14).toNat)
  case atStart => exact ⟨0, ok, _, [], rfl, rfl, Nat.zero_le _, ⟨rfl, fun vs h _ => ⟨rfl, h⟩⟩, K3, K6, ⟨Kd.R_nil _ _ _ _ _⟩, HB⟩
  case round =>
    clear K3 K6 HB
    obtain ⟨i, b, v, xs, rfl, rfl, hi, HX, K3, K6, HO, HB⟩ := hrel
    generalize wr = wq at *
    by_cases hlt : i < ws.length
    · obtain ⟨ad, hA, hcell⟩ := Kd.at_string (Kd.C_below HR.out HB.out) (i : Int) (by omega) (by omega)
      subst hA
      simp only [Int.toNat_natCast] at hcell
      have hx := rds_str hlt
      have hxs := HS.out _ (List.mem_of_getElem? hx)
      generalize rdOf ByteArray.empty ws (i : Int) = x at *
      have HXI := Aside0.mk hx
      clear hx
      go_wp2_with fail
      refine (number_calls x hxs _ (HG.out.below HB.out)).mono ?_
      rintro e w2 ⟨n, nb, rfl, hn, hb2⟩
      have HN := Aside0.mk hn
      replace K3 := blkB K3 hb2
      replace K6 := blkB K6 hb2
      replace HO := rB HO hb2
      replace HB := belB HB hb2
      clear hn hb2 hcell hxs
      have hxl : xs.length ≤ 100000 := by have := HX.out.1; omega
      obtain ⟨p0, p1, p2, p3, q0, q1, q2, q3⟩ := bq4 K3
      cases b with
      | true =>
        go_wp2_with (first | ((with_reducible refine gate_builtin (b := .append) (xs := #[.tmp 28, .tmp 30]) rfl ?_); at_builtin; refine Kd.R_append (Kd.int .i64) (w0 := w) w.heap.size rfl (.tmp 28) (.tmp 30) 40 3 (.int .i64 0) 8 rfl Tryz.underlying40 infoI rfl (by decide) (by omega) v xs n [.int .i64 n] (fun _ => True) (fun _ => False) rfl rfl ?aP (fun _ hk => hk.elim) ?aF ?aO ?aB ?aS ?aL ?_; (case aP => exact rfl); (case aB => exact bel); (case aF => exact (fun _ _ => trivial)); (case aO => exact (tw HO.out)); (case aS => exact (below_size bel)); (case aL => omega); intro v' w8 ho hb hg hat; obtain ⟨ys, hys⟩ : ∃ ys, ys = xs ++ [n] := ⟨_, rfl⟩; rw [← hys] at ho; have HY := Aside0.mk hys; clear hys; obtain ⟨A', c', rfl⟩ := Kd.R_slice ho; have K3n := Aside0.mk (blk_grown K3.out hg (Kd.R_ne HO.out K3.out (by decide))); have K6n := Aside0.mk (blk_grown K6.out hg (Kd.R_ne HO.out K6.out (by decide))); have HOn := Aside0.mk ho; have HBn := Aside0.mk hb; obtain ⟨n0, n1, n2, n3, m0, m1, m2, m3⟩ := bq4 K3n; clear ho hb hg hat))
        have L3 := blkP K3n 3 (.slice A' ys.length c')
        have L6 := blkS K6n (Ne.symm hg36) 3 (.slice A' ys.length c')
        have LB := belS HBn (Nat.le_refl _) 3 (.slice A' ys.length c')
        have LO := Aside0.mk (Kd.R_set HOn.out K3n.out (by decide) 3 (.slice A' ys.length c'))
        go_roundw
        case rel => exact ⟨i + 1, nb, _, ys, rfl, by go_num, by omega, ⟨by rw [HY.out, List.length_append]; have := HX.out.1; simp; omega, fun vs h1 h2 => HY.out ▸ num_step HXI.out HN.out h2 (HX.out.2 vs h1 h2).1⟩, L3, L6, LO, LB⟩
        case measure => simp [intOf]; omega
      | false =>
        go_wp2_with (first | ((with_reducible refine gate_builtin (b := .append) (xs := #[.tmp 28, .tmp 30]) rfl ?_); at_builtin; refine Kd.R_append (Kd.int .i64) (w0 := w) w.heap.size rfl (.tmp 28) (.tmp 30) 40 3 (.int .i64 0) 8 rfl Tryz.underlying40 infoI rfl (by decide) (by omega) v xs n [.int .i64 n] (fun _ => True) (fun _ => False) rfl rfl ?aP (fun _ hk => hk.elim) ?aF ?aO ?aB ?aS ?aL ?_; (case aP => exact rfl); (case aB => exact bel); (case aF => exact (fun _ _ => trivial)); (case aO => exact (tw HO.out)); (case aS => exact (below_size bel)); (case aL => omega); intro v' w8 ho hb hg hat; obtain ⟨ys, hys⟩ : ∃ ys, ys = xs ++ [n] := ⟨_, rfl⟩; rw [← hys] at ho; have HY := Aside0.mk hys; clear hys; obtain ⟨A', c', rfl⟩ := Kd.R_slice ho; have K3n := Aside0.mk (blk_grown K3.out hg (Kd.R_ne HO.out K3.out (by decide))); have K6n := Aside0.mk (blk_grown K6.out hg (Kd.R_ne HO.out K6.out (by decide))); have HOn := Aside0.mk ho; have HBn := Aside0.mk hb; obtain ⟨n0, n1, n2, n3, m0, m1, m2, m3⟩ := bq4 K3n; clear ho hb hg hat))
        have L3 := blkP K3n 3 (.slice A' ys.length c')
        have L6 := blkS K6n (Ne.symm hg36) 3 (.slice A' ys.length c')
        have LB := belS HBn (Nat.le_refl _) 3 (.slice A' ys.length c')
        have LO := Aside0.mk (Kd.R_set HOn.out K3n.out (by decide) 3 (.slice A' ys.length c'))
        go_roundw
        case rel => exact ⟨i + 1, false, _, ys, rfl, by go_num, by omega, ⟨by rw [HY.out, List.length_append]; have := HX.out.1; simp; omega, fun vs h1 h2 => absurd (HX.out.2 vs h1 h2).2 (by simp)⟩, L3, L6, LO, LB⟩
        case measure => simp [intOf]; omega
    · obtain rfl : i = ws.length := by omega
      obtain ⟨p0, p1, p2, p3, q0, q1, q2, q3⟩ := bq4 K3
      obtain ⟨r0, r1, r2, r3, s0, s1, s2, s3⟩ := bq4 K6
      obtain ⟨A', c', rfl⟩ := Kd.R_slice HO.out
      go_wp2
      have L6 := blkP (blkP (blkP (blkP K6 0 (.int .i64 f0)) 1 (.bool f1)) 2 (.string f2)) 3 (.slice A' xs.length c')
      have LB := belS (belS (belS (belS HB hg6w 0 (.int .i64 f0)) hg6w 1 (.bool f1)) hg6w 2 (.string f2)) hg6w 3 (.slice A' xs.length c')
      have LO := Aside0.mk (Kd.R_set (Kd.R_set (Kd.R_set (Kd.R_set HO.out K6.out (by decide) 0 (.int .i64 f0)) (blkP K6 0 (.int .i64 f0)).out (by decide) 1 (.bool f1)) (blkP (blkP K6 0 (.int .i64 f0)) 1 (.bool f1)).out (by decide) 2 (.string f2)) (blkP (blkP (blkP K6 0 (.int .i64 f0)) 1 (.bool f1)) 2 (.string f2)).out (by decide) 3 (.slice A' xs.length c'))
      refine bodyPost_ret (results_ct rfl _ _ g6 42 #[.int .i64 f0, .bool f1, .string f2, .slice A' xs.length c'] (0, 0) _ rfl L6.out Tryz.underlying42 rfl (by kernel_rfl)) rfl ?_
      exact ⟨_, xs, b, rfl, LO.out, HX.out.1, fun vs h1 h2 => by
        obtain ⟨e, hb⟩ := HX.out.2 vs h1 h2
        exact ⟨by rw [e, List.take_of_length_le (by have := h2.1; omega)], hb⟩, LB.out⟩
end Go.Proofs.YtailpfcbdopfeaaGreatDoor.F
/- literal.Parse, by hand. -/
namespace Go.Proofs.YtailpfcbdopfeaaGreatDoor.F
open Go.RowKit Go.Proofs.YtailpfcbdopfeaaGreatDoorW.PrintWords Go.Proofs.YtailpfcbdopfeaaGreatDoorW.PrintLast Go.Proofs.YtailpfcbdopfeaaGreatDoorW.PrintMore
set_option linter.unusedVariables false
set_option linter.unusedSimpArgs false
/-- 'm[k] = v' of a composite literal, at the operation. -/
theorem wpList_insert_own {H : Type} {P : Program} (w : World) {ops : Array Oper} {rest : List Oper} {o : Oper} {a : Act} {Q : Exit → Act → World → Prop}
    (hg : o.guard = none) (m x v : Operand) (t : TypeId) (hop : o.op = Op.insert t m x v)
    (k e : TypeId) (K : Maps.Keyed P k) (ht : P.underlying t = some (.map k e)) (R : Value → Option (DataW H × List MemPlace)) (b n : Nat) (D : DataW H)
    (hm : a.eval m = .map (some b)) (hown : w.ownsMap P k R b n D) (hn : n < maxLen) (key val : Value) (kl : Lit) (hx : a.eval x = key) (hv : a.eval v = val) (hkey : keyOf P k key = some kl)
    (d : DataW H) (ps : List MemPlace) (hval : R val = some (d, ps))
    (hK : ∀ w', w'.ownsMap P k R b (n + 1) (D.put kl d) → w.grownBy w' (some b) → wpList P ops Q rest (a.put o.dst undef) w') :
    wpList P ops Q (o :: rest) a w := by
  refine wpList_plain hg fun K' hK' => ?_
  obtain ⟨w', hrun, r1, r2⟩ := hown.update K ht hn hkey hval
  unfold Oper.wp
  simp [execOp, hop, hm, hx, hv, hrun, Result.andThen]
  exact hK' _ _ (hK w' r1 r2)
def sepLt : ByteArray := ⟨#[60]⟩
def sepEq : ByteArray := ⟨#[61]⟩
/-- What literal.Parse answers. -/
structure LitR (s : ByteArray) (l : S42) (b : Bool) : Prop where
  neg : b = true → l.f1 = Lib.hasPrefix s.data.toList [33]
  rel : ∀ s1, s1 = mkB (Lib.trimPrefix s.data.toList [33]) → (cutL s1 ⟨#[40]⟩).2.2 = true → ∀ r1, r1 = mkB (Lib.trimSuffix (cutL s1 ⟨#[40]⟩).2.1.data.toList [41]) → Lib.hasSuffix (cutL s1 ⟨#[40]⟩).2.1.data.toList [41] = true →
    l.f0 = 0 ∧ l.f2 = (cutL s1 ⟨#[40]⟩).1 ∧ l.f1 = Lib.hasPrefix s.data.toList [33] ∧ ((r1.size = 0 ∧ l.f3 = [] ∧ b = true) ∨ (r1.size ≠ 0 ∧ ∀ vs, Each NumG (splitL r1 ⟨#[44]⟩) vs → l.f3 = vs ∧ b = true))
  cmp : ∀ s1, s1 = mkB (Lib.trimPrefix s.data.toList [33]) → (cutL s1 ⟨#[40]⟩).2.2 = false → ∀ (k : Int) (sg : ByteArray), (k = 1 ∧ sg = sepEq ∧ (cutL s1 sepLt).2.2 = false) ∨ (k = 2 ∧ sg = sepLt ∧ (cutL s1 sepEq).2.2 = false) → (cutL s1 sg).2.2 = true →
    l.f0 = k ∧ l.f2 = ⟨#[]⟩ ∧ l.f1 = Lib.hasPrefix s.data.toList [33] ∧ ∀ vs, Each NumG [(cutL s1 sg).1, (cutL s1 sg).2.1] vs → l.f3 = vs ∧ b = true
theorem mapn0 : 0 < maxLen := by unfold maxLen; omega
theorem mapn1 : 1 < maxLen := by unfold maxLen; omega
theorem keyOf1 : keyOf Tryz.prog 3 (.int .i64 1) = some (.int .i64 1) := Maps.keyOf_int_mk Tryz.underlying3 (by simp [Lit.wf, IntKind.min, IntKind.max, IntKind.signed, IntKind.bits])
theorem keyOf2 : keyOf Tryz.prog 3 (.int .i64 2) = some (.int .i64 2) := Maps.keyOf_int_mk Tryz.underlying3 (by simp [Lit.wf, IntKind.min, IntKind.max, IntKind.signed, IntKind.bits])
theorem elemEq : plainElem (H := Unit) Tryz.prog 9 (.string ⟨#[61]⟩) = some (.lit (.string [61]), []) := plainElem_string Tryz.underlying9 (by unfold maxLen; show 1 ≤ _; omega)
theorem elemLt : plainElem (H := Unit) Tryz.prog 9 (.string ⟨#[60]⟩) = some (.lit (.string [60]), []) := plainElem_string Tryz.underlying9 (by unfold maxLen; show 1 ≤ _; omega)
def mapD : DataW Unit := ((DataW.map []).put (.int .i64 1) (.lit (.string [61]))).put (.int .i64 2) (.lit (.string [60]))
theorem mapD_at (x : Int) (h1 : x ≠ 1) (h2 : x ≠ 2) (z : DataW Unit) : mapD.atKey (.int .i64 x) z = z := by
  have e : mapD = .map [(.int .i64 1, .lit (.string [61])), (.int .i64 2, .lit (.string [60]))] := rfl
  rw [e]
  simp [DataW.atKey, Lit.sameKey, Ne.symm h1, Ne.symm h2]
theorem mapD_one (z : DataW Unit) : mapD.atKey (.int .i64 1) z = .lit (.string [61]) := rfl
theorem mapD_two (z : DataW Unit) : mapD.atKey (.int .i64 2) z = .lit (.string [60]) := rfl
theorem entry_is {x : Int} {c : ByteArray} (h : ∀ z : DataW Unit, mapD.atKey (.int .i64 x) z = .lit (.string c.data.toList)) : (x = 1 ∧ c = sepEq) ∨ (x = 2 ∧ c = sepLt) := by
  have h0 := h .nil
  by_cases h1 : x = 1
  · subst h1
    rw [mapD_one] at h0
    injection h0 with h0
    injection h0 with h0
    exact .inl ⟨rfl, by rw [← mkB_data c, ← h0]; rfl⟩
  · by_cases h2 : x = 2
    · subst h2
      rw [mapD_two] at h0
      injection h0 with h0
      injection h0 with h0
      exact .inr ⟨rfl, by rw [← mkB_data c, ← h0]; rfl⟩
    · rw [mapD_at x h1 h2] at h0
      cases h0
theorem left_one {x : Int} {s1 c na nb : ByteArray} {left : Lit → Bool} (hx : (x = 1 ∧ c = sepEq) ∨ (x = 2 ∧ c = sepLt)) (hc : (na, nb, false) = cutL s1 c) (hl : left (.int .i64 1) = false → (cutL s1 sepEq).2.2 = false) (h : (left (.int .i64 1) && !(Lit.int .i64 1).sameKey (.int .i64 x)) = false) : (cutL s1 sepEq).2.2 = false := by
  rcases hx with ⟨rfl, rfl⟩ | ⟨rfl, rfl⟩
  · rw [← hc]
  · refine hl ?_
    simpa [Lit.sameKey] using h
theorem left_two {x : Int} {s1 c na nb : ByteArray} {left : Lit → Bool} (hx : (x = 1 ∧ c = sepEq) ∨ (x = 2 ∧ c = sepLt)) (hc : (na, nb, false) = cutL s1 c) (hl : left (.int .i64 2) = false → (cutL s1 sepLt).2.2 = false) (h : (left (.int .i64 2) && !(Lit.int .i64 2).sameKey (.int .i64 x)) = false) : (cutL s1 sepLt).2.2 = false := by
  rcases hx with ⟨rfl, rfl⟩ | ⟨rfl, rfl⟩
  · refine hl ?_
    simpa [Lit.sameKey] using h
  · rw [← hc]
theorem lit_none {s s1 nm rs : ByteArray} (h1 : s1 = mkB (Lib.trimPrefix s.data.toList [33])) (h3 : (nm, rs, false) = cutL s1 ⟨#[40]⟩) (he : (cutL s1 sepEq).2.2 = false) (hl : (cutL s1 sepLt).2.2 = false) : LitR s ⟨0, false, ⟨#[]⟩, []⟩ false where
  neg := fun h => by cases h
  rel := fun q hq hc => by
    subst hq
    rw [← h1, ← h3] at hc
    cases hc
  cmp := fun q hq hc k sg h hf => by
    subst hq
    rw [← h1] at h hf
    rcases h with ⟨_, rfl, _⟩ | ⟨_, rfl, _⟩
    · rw [he] at hf; cases hf
    · rw [hl] at hf; cases hf
theorem strs2 (w : World) (a b : ByteArray) : Kd.C Kd.string (w.alloc (.cells #[.string a, .string b] 9)) (some ⟨w.heap.size, 0, none⟩) 2 [a, b] :=
  (Kd.R_reads' (Kd.R_of_own (h1 := fun _ => rfl) (ok := fun _ => True) (own_lit_of (enc := Value.string) w w.heap.size 9 [a, b] (Nat.le_refl _) (by simp)) (fun _ _ => trivial))).2.2
theorem lit_cmp {s s1 nm rs c na nb : ByteArray} {ng b : Bool} {x : Int} {xs : List Int} (h1 : s1 = mkB (Lib.trimPrefix s.data.toList [33])) (h2 : ng = Lib.hasPrefix s.data.toList [33]) (h3 : (nm, rs, false) = cutL s1 ⟨#[40]⟩) (hx : (x = 1 ∧ c = sepEq) ∨ (x = 2 ∧ c = sepLt)) (h5 : (na, nb, true) = cutL s1 c)
    (h6 : ∀ vs, true = true → Each NumG [na, nb] vs → xs = vs ∧ b = true) : LitR s ⟨x, ng, ⟨#[]⟩, xs⟩ b where
  neg := fun _ => h2
  rel := fun q hq hc => by
    subst hq
    rw [← h1, ← h3] at hc
    cases hc
  cmp := fun q hq hc k sg h hf => by
    subst hq
    rw [← h1] at h hf ⊢
    have key : x = k ∧ c = sg := by
      rcases h with ⟨rfl, rfl, hn⟩ | ⟨rfl, rfl, hn⟩ <;> rcases hx with ⟨rfl, rfl⟩ | ⟨rfl, rfl⟩
      · exact ⟨rfl, rfl⟩
      · rw [← h5] at hn; cases hn
      · rw [← h5] at hn; cases hn
      · exact ⟨rfl, rfl⟩
    obtain ⟨rfl, rfl⟩ := key
    rw [← h5]
    exact ⟨rfl, rfl, h2, fun vs hv => h6 vs rfl hv⟩
structure LitEnds (s : ByteArray) (w : World) (e : Ending) (w' : World) : Prop where
  ex : ∃ (v : Value) (l : S42) (b : Bool), e = .returned (.tuple #[.agg #[.int .i64 l.f0, .bool l.f1, .string l.f2, v], .bool b]) ∧
      Kd.R (Kd.int .i64) 3 w' w.heap.size (fun _ => True) v l.f3 ∧ l.f3.length ≤ 50000 ∧ l.f2.size ≤ 45000 ∧ LitR s l b ∧ Below w.heap.size w w'
theorem lit_rel0 {s s1 nm rs r1 : ByteArray} {ng ok : Bool} (h1 : s1 = mkB (Lib.trimPrefix s.data.toList [33])) (h2 : ng = Lib.hasPrefix s.data.toList [33]) (h3 : (nm, rs, true) = cutL s1 ⟨#[40]⟩) (h4 : r1 = mkB (Lib.trimSuffix rs.data.toList [41])) (h5 : ok = Lib.hasSuffix rs.data.toList [41]) (h0 : r1.size = 0) : LitR s ⟨0, ng, nm, []⟩ ok where
  neg := fun _ => h2
  rel := fun q hq hc r hr ho => by
    subst hq
    rw [← h1, ← h3] at hr ho ⊢
    rw [← h4] at hr
    exact ⟨rfl, rfl, h2, .inl ⟨by rw [hr]; exact h0, rfl, h5.trans ho⟩⟩
  cmp := fun q hq hc => by
    subst hq
    rw [← h1, ← h3] at hc
    cases hc
theorem lit_rel1 {s s1 nm rs r1 : ByteArray} {ng ok b : Bool} {xs : List Int} (h1 : s1 = mkB (Lib.trimPrefix s.data.toList [33])) (h2 : ng = Lib.hasPrefix s.data.toList [33]) (h3 : (nm, rs, true) = cutL s1 ⟨#[40]⟩) (h4 : r1 = mkB (Lib.trimSuffix rs.data.toList [41])) (h5 : ok = Lib.hasSuffix rs.data.toList [41]) (h0 : r1.size ≠ 0)
    (h6 : ∀ vs, ok = true → Each NumG (splitL r1 ⟨#[44]⟩) vs → xs = vs ∧ b = true) : LitR s ⟨0, ng, nm, xs⟩ b where
  neg := fun _ => h2
  rel := fun q hq hc r hr ho => by
    subst hq
    rw [← h1, ← h3] at hr ho ⊢
    rw [← h4] at hr
    subst hr
    exact ⟨rfl, rfl, h2, .inr ⟨h0, fun vs hv => h6 vs (h5.trans ho) hv⟩⟩
  cmp := fun q hq hc => by
    subst hq
    rw [← h1, ← h3] at hc
    cases hc
set_option maxHeartbeats 1000000 in
set_option maxRecDepth 100000 in
theorem lit_calls (s : ByteArray) (hs : s.size ≤ 45000) (w : World) (hG : Glob w) :
    Calls Tryz.prog 29 #[.string s] w fun e w' => LitEnds s w e w' := by
  have HG := Aside0.mk hG
  clear hG
  go_enter Tryz.func29, Tryz.ntmps29
  go_wp2_with fail
  obtain ⟨k2, k4, hb0⟩ := box2 w (.cells #[.int .i64 0, .bool false, .string ⟨#[]⟩, .slice none 0 0] 42) (.cells #[.int .i64 0, .bool false, .string ⟨#[]⟩, .slice none 0 0] 42)
  have K2 := Aside0.mk k2
  have K4 := Aside0.mk k4
  have HB := Aside0.mk hb0
  generalize (w.alloc (.cells #[.int .i64 0, .bool false, .string ⟨#[]⟩, .slice none 0 0] 42)).alloc (.cells #[.int .i64 0, .bool false, .string ⟨#[]⟩, .slice none 0 0] 42) = W0 at *
  clear k2 k4 hb0
  obtain ⟨g4, hg4⟩ : ∃ g, w.heap.size + 1 = g := ⟨_, rfl⟩
  have hg4w : w.heap.size ≤ g4 := by omega
  have hg24 : w.heap.size ≠ g4 := by omega
  simp only [hg4] at K4 ⊢
  clear hg4
  refine (prefix_calls s ⟨#[33]⟩ W0).mono ?_
  rintro e w1 ⟨rfl, hb⟩
  have e33 : (⟨#[33]⟩ : ByteArray).data.toList = [33] := rfl
  rw [e33]
  have hs1 : (mkB (Lib.trimPrefix s.data.toList [33])).size ≤ 45000 := by
    rw [mkB_size]
    have : s.data.toList.length = s.size := size_data s
    unfold Lib.trimPrefix
    split
    · rw [List.length_drop]; omega
    · omega
  obtain ⟨s1, hs1e⟩ : ∃ q, q = mkB (Lib.trimPrefix s.data.toList [33]) := ⟨_, rfl⟩
  obtain ⟨ng, hng⟩ : ∃ q, q = Lib.hasPrefix s.data.toList [33] := ⟨_, rfl⟩
  rw [← hs1e] at hs1
  simp only [← hs1e, ← hng]
  have HS1 := Aside0.mk hs1e
  have HNG := Aside0.mk hng
  clear hs1e hng e33
  replace K2 := blkB K2 hb
  replace K4 := blkB K4 hb
  replace HB := belB HB hb
  clear hb
  obtain ⟨p0, p1, p2, p3, q0, q1, q2, q3⟩ := bq4 K4
  go_wp2_with fail
  replace K2 := blkS K2 hg24 1 (.bool ng)
  replace K4 := blkP K4 1 (.bool ng)
  replace HB := belS HB hg4w 1 (.bool ng)
  generalize w1.setCell ⟨g4, 1, none⟩ (.bool ng) = w2 at *
  clear p0 p1 p2 p3 q0 q1 q2 q3
  refine (cut_calls s1 ⟨#[40]⟩ w2 (HG.out.below HB.out) (by omega)).mono ?_
  rintro e w3 ⟨rfl, hb⟩
  replace K2 := blkB K2 hb
  replace K4 := blkB K4 hb
  replace HB := belB HB hb
  clear hb
  obtain ⟨hcs1, hcs2⟩ := cutL_size s1 ⟨#[40]⟩
  obtain ⟨c0, hc0⟩ : ∃ q, q = cutL s1 ⟨#[40]⟩ := ⟨_, rfl⟩
  rw [← hc0] at hcs1 hcs2
  simp only [← hc0]
  have HC0 := Aside0.mk hc0
  clear hc0
  obtain ⟨nm, rs, is⟩ := c0
  simp only at hcs1 hcs2 ⊢
  obtain ⟨p0, p1, p2, p3, q0, q1, q2, q3⟩ := bq4 K4
  cases is with
  | true =>
    go_wp2_with fail
    refine (suffix_calls rs ⟨#[41]⟩ w3 (by omega)).mono ?_
    rintro e w4 ⟨rfl, hb⟩
    have e41 : (⟨#[41]⟩ : ByteArray).data.toList = [41] := rfl
    rw [e41]
    have hr1 : (mkB (Lib.trimSuffix rs.data.toList [41])).size ≤ 45000 := by
      rw [mkB_size]
      have : rs.data.toList.length = rs.size := size_data rs
      unfold Lib.trimSuffix
      split
      · rw [List.length_take]; omega
      · omega
    obtain ⟨r1, hr1e⟩ : ∃ q, q = mkB (Lib.trimSuffix rs.data.toList [41]) := ⟨_, rfl⟩
    obtain ⟨ok, hok⟩ : ∃ q, q = Lib.hasSuffix rs.data.toList [41] := ⟨_, rfl⟩
    rw [← hr1e] at hr1
    simp only [← hr1e, ← hok]
    have HR1 := Aside0.mk hr1e
    have HOK := Aside0.mk hok
    clear hr1e hok e41 p0 p1 p2 p3 q0 q1 q2 q3
    replace K2 := blkB K2 hb
    replace K4 := blkB K4 hb
    replace HB := belB HB hb
    clear hb
    obtain ⟨p0, p1, p2, p3, q0, q1, q2, q3⟩ := bq4 K4
    obtain ⟨t0, t1, t2, t3, z0, z1, z2, z3⟩ := bq4 K2
    by_cases h0 : r1.size = 0
    · have h0b : r1.toList.isEmpty = true := by rw [empty_dec]; exact decide_eq_true h0
      have H0 := Aside0.mk h0
      clear h0
      go_wp2
      replace HB := belS (belS HB hg4w 0 (.int .i64 0)) hg4w 2 (.string nm)
      replace K2 := blkS (blkS K2 hg24 0 (.int .i64 0)) hg24 2 (.string nm)
      generalize (w4.setCell ⟨g4, 0, none⟩ (.int .i64 0)).setCell ⟨g4, 2, none⟩ (.string nm) = w5 at *
      have L2 := blkP (blkP (blkP (blkP K2 0 (.int .i64 0)) 1 (.bool ng)) 2 (.string nm)) 3 (.slice none 0 0)
      have LB := belS (belS (belS (belS HB (Nat.le_refl _) 0 (.int .i64 0)) (Nat.le_refl _) 1 (.bool ng)) (Nat.le_refl _) 2 (.string nm)) (Nat.le_refl _) 3 (.slice none 0 0)
      refine bodyPost_ret (results_ct rfl _ _ w.heap.size 42 #[.int .i64 0, .bool ng, .string nm, .slice none 0 0] (0, 0) _ rfl L2.out Tryz.underlying42 rfl (by kernel_rfl)) rfl ?_
      exact ⟨⟨.slice none 0 0, ⟨0, ng, nm, []⟩, ok, rfl, Kd.R_nil _ _ _ _ _, by simp, by show nm.size ≤ 45000; omega, lit_rel0 HS1.out HNG.out HC0.out HR1.out HOK.out H0.out, LB.out⟩⟩
    · have h0b : r1.toList.isEmpty = false := by rw [empty_dec]; exact decide_eq_false h0
      have H0 := Aside0.mk h0
      clear h0
      go_upto_region 9 with (fail)
      replace HB := belS (belS HB hg4w 0 (.int .i64 0)) hg4w 2 (.string nm)
      replace K2 := blkS (blkS K2 hg24 0 (.int .i64 0)) hg24 2 (.string nm)
      replace K4 := blkP (blkP K4 0 (.int .i64 0)) 2 (.string nm)
      generalize (w4.setCell ⟨g4, 0, none⟩ (.int .i64 0)).setCell ⟨g4, 2, none⟩ (.string nm) = w5 at *
      clear p0 p1 p2 p3 q0 q1 q2 q3 t0 t1 t2 t3 z0 z1 z2 z3
      replace K4 := Aside0.mk (blk_drew K4.out)
      replace K2 := Aside0.mk (blk_drew K2.out)
      replace HB := Aside0.mk (below_drew HB.out)
      obtain ⟨p0, p1, p2, p3, _, _, _, _⟩ := bq4 K4
      refine wp_region_noPanic ?_
      refine hSt 9 (S := fun w' => w'.cell? ⟨g4, 0, none⟩ = some (.int .i64 0) ∧ w'.cell? ⟨g4, 1, none⟩ = some (.bool ng) ∧ w'.cell? ⟨g4, 2, none⟩ = some (.string nm) ∧ w'.cell? ⟨g4, 3, none⟩ = some (.slice none 0 0)) (ds := [7]) (fun hHeld => ?_) ⟨p0, p1, p2, p3⟩
      generalize w5.drew = wd at *
      clear p0 p1 p2 p3
      refine hTk 0 (some 38) ?_
      refine hPu 1 (some 39) ?_
      refine hPu 2 (some 40) ?_
      refine hOn 3 (some 41) (fun K hK => ?_)
      refine callE_ 27 #[.string r1, .string ⟨#[44]⟩] (by rfl) rfl (by go_simp) ?_
      refine (split_calls r1 ⟨#[44]⟩ _ (HG.out.below HB.out) (by omega) (by decide)).mono ?_
      rintro e w6 ⟨A6, c6, rfl, hR6, hb6⟩
      left
      refine ⟨_, rfl, ?_⟩
      refine hK.out _ _ ⟨pw_cell_below hb6 hHeld.1, pw_cell_below hb6 hHeld.2.1, pw_cell_below hb6 hHeld.2.2.1, pw_cell_below hb6 hHeld.2.2.2⟩ (fun hHeld2 => ?_)
      clear hK K
      replace K2 := blkB K2 hb6
      replace HB := belB HB hb6
      obtain ⟨_, hc6, hC6⟩ := Kd.R_reads' hR6
      have HC6 := Aside0.mk hC6
      clear hb6 hR6 hC6 hHeld
      refine hNo (some 41) ?_
      refine hOn 4 (some 42) (fun K hK => ?_)
      refine callE_ 59 #[.agg #[.int .i64 0, .bool ng, .string nm, .slice none 0 0], .bool ok, .slice A6 (splitL r1 ⟨#[44]⟩).length c6] (by rfl) rfl (by go_simp) ?_
      refine (numbers_calls 0 ng nm ok A6 c6 (splitL r1 ⟨#[44]⟩) _ (HG.out.below HB.out) HC6.out hc6 (by have := splitL_many r1 ⟨#[44]⟩ (by decide); omega) (fun x hx => by have := splitL_mem hx; omega)).mono ?_
      rintro e w7 ⟨v7, xs, b7, rfl, hR7, hl7, hv7, hb7⟩
      left
      refine ⟨_, rfl, ?_⟩
      refine hK.out _ _ ⟨pw_cell_below hb7 hHeld2.1, pw_cell_below hb7 hHeld2.2.1, pw_cell_below hb7 hHeld2.2.2.1, pw_cell_below hb7 hHeld2.2.2.2⟩ (fun _ => ?_)
      clear hK K hHeld2
      replace K2 := blkB K2 hb7
      have HR7 := Aside0.mk (Kd.R_lower hR7 HB.out.size)
      replace HB := belB HB hb7
      have HV7 := Aside0.mk hv7
      obtain ⟨A7, c7, rfl⟩ := Kd.R_slice hR7
      have HL7 := Aside0.mk hl7
      clear hb7 hv7 hR7 hl7
      refine hNo (some 42) ?_
      refine hPu 5 (some 43) ?_
      refine hPu 6 (some 44) ?_
      obtain ⟨t0, t1, t2, t3, z0, z1, z2, z3⟩ := bq4 K2
      refine hLa 7 none (fun K hK => ?_)
      refine skip_ (w1 := ?_) (by rfl) rfl ?_ ?_
      rotate_left
      · go_simp
        rfl
      refine hK.out _ _ ?_
      clear hK K
      refine hPu 8 (some 3) ?_
      refine done_ (by kernel_rfl) ?_
      refine NoPanic.normal ?_
      have L2 := blkP (blkP (blkP (blkP K2 0 (.int .i64 0)) 1 (.bool ng)) 2 (.string nm)) 3 (.slice A7 xs.length c7)
      have LB := belS (belS (belS (belS HB (Nat.le_refl _) 0 (.int .i64 0)) (Nat.le_refl _) 1 (.bool ng)) (Nat.le_refl _) 2 (.string nm)) (Nat.le_refl _) 3 (.slice A7 xs.length c7)
      have LO := Aside0.mk (set4 HR7.out K2.out (by decide) (.int .i64 0) (.bool ng) (.string nm) (.slice A7 xs.length c7))
      go_wp2
      refine bodyPost_ret (results_ct rfl _ _ w.heap.size 42 #[.int .i64 0, .bool ng, .string nm, .slice A7 xs.length c7] (0, 0) _ rfl L2.out Tryz.underlying42 rfl (by kernel_rfl)) rfl ?_
      exact ⟨⟨.slice A7 xs.length c7, ⟨0, ng, nm, xs⟩, b7, rfl, LO.out, by show xs.length ≤ 50000; have := splitL_many r1 ⟨#[44]⟩ (by decide); have := HL7.out; omega, by show nm.size ≤ 45000; omega, lit_rel1 HS1.out HNG.out HC0.out HR1.out HOK.out H0.out HV7.out, LB.out⟩⟩
  | false =>
    have hmm := @run_makeMap Tryz.prog
    have hb4 := blk_lt K4.out
    have hb2 := blk_lt K2.out
    have hbw := HB.out.size
    have HM := Aside0.mk (World.ownsMap_made w3 Tryz.prog 3 (plainElem (H := Unit) Tryz.prog 9))
    have hba := (box1 w3 (.map #[] 0)).2
    obtain ⟨gm, hgm⟩ : ∃ g, w3.heap.size = g := ⟨_, rfl⟩
    have hg4m : g4 ≠ gm := by omega
    have hg2m : w.heap.size ≠ gm := by omega
    have hgmw : w.heap.size ≤ gm := by omega
    replace K2 := blkB K2 hba
    replace K4 := blkB K4 hba
    replace HB := belB HB hba
    rw [hgm] at HM
    clear hba p0 p1 p2 p3 q0 q1 q2 q3 hbw hb4 hb2
    go_wp2_with (first | (refine wpList_insert_own _ rfl _ _ _ 101 rfl 3 9 (Maps.int_keyed Tryz.underlying3) Tryz.underlying101 _ gm 0 _ rfl HM.out mapn0 (.int .i64 1) _ _ rfl rfl keyOf1 _ _ elemEq ?_; intro w9 ho9 hg9; replace HB := belG HB hg9 hgmw; replace K2 := blkG K2 hg9 hg2m; replace K4 := blkG K4 hg9 hg4m; clear hg9) | (refine wpList_insert_own _ rfl _ _ _ 101 rfl 3 9 (Maps.int_keyed Tryz.underlying3) Tryz.underlying101 _ gm 1 _ rfl ho9 mapn1 (.int .i64 2) _ _ rfl rfl keyOf2 _ _ elemLt ?_; intro w10 ho10 hg10; replace HB := belG HB hg10 hgmw; replace K2 := blkG K2 hg10 hg2m; replace K4 := blkG K4 hg10 hg4m; clear hg10 ho9 HM) | (at_range; refine wpList_range_own _ rfl _ 101 rfl 3 9 (Maps.int_keyed Tryz.underlying3) Tryz.underlying101 _ gm 2 _ rfl ho10 ?_; intro w0 hrg0 hg0 hs0))
    go_frame
    have h4i : g4 ≠ w10.heap.size := by have := blk_lt K4.out; omega
    replace K2 := blkN K2 hg0
    replace K4 := blkN K4 hg0
    replace HB := belN HB hg0
    have HRG := Aside0.mk hrg0
    have h2i : w.heap.size ≠ w10.heap.size := by have := ho10.lt; omega
    have hiw : w.heap.size ≤ w10.heap.size := by have := ho10.lt; omega
    clear hg0 hrg0 hs0 ho10
    generalize w10.heap.size = gi at *
    go_loopw [8] (fun _ wr => ∃ (left : Lit → Bool) (cnt : Nat), Aside0 (wr.ranges Tryz.prog 3 (plainElem (H := Unit) Tryz.prog 9) gm gi 2 mapD left cnt) ∧ Aside0 (wr.heap[w.heap.size]? = some (.cells #[.int .i64 0, .bool false, .string ⟨#[]⟩, .slice none 0 0] 42 (0, 0))) ∧ Aside0 (wr.heap[g4]? = some (.cells #[.int .i64 0, .bool ng, .string ⟨#[]⟩, .slice none 0 0] 42 (0, 0)))
      ∧ Aside0 (Below w.heap.size w wr) ∧ Aside0 (left (.int .i64 1) = false → (cutL s1 sepEq).2.2 = false) ∧ Aside0 (left (.int .i64 2) = false → (cutL s1 sepLt).2.2 = false)) (fun _ wr => wr.rangeLeft gm gi)
    case atStart => exact ⟨_, _, HRG, K2, K4, HB, ⟨fun h => absurd h (by decide)⟩, ⟨fun h => absurd h (by decide)⟩⟩
    case round =>
      clear HRG K2 K4 HB
      obtain ⟨left, cnt, HRG, K2, K4, HB, HL1, HL2⟩ := hrel
      go_wp2_with (first | (at_next; refine wpList_next_ranges_is _ rfl _ rfl 3 9 .i64 (Maps.int_keyed Tryz.underlying3) Tryz.underlying3 Tryz.underlying9 gm gi 2 _ _ _ rfl HRG.out ?_ ?_))
      · intro hc0 hl0
        obtain ⟨t0, t1, t2, t3, z0, z1, z2, z3⟩ := bq4 K2
        have HL0 := Aside0.mk hl0
        clear hl0
        go_wp2
        have L2 := blkP (blkP (blkP (blkP K2 0 (.int .i64 0)) 1 (.bool false)) 2 (.string ⟨#[]⟩)) 3 (.slice none 0 0)
        have LB := belS (belS (belS (belS HB (Nat.le_refl _) 0 (.int .i64 0)) (Nat.le_refl _) 1 (.bool false)) (Nat.le_refl _) 2 (.string ⟨#[]⟩)) (Nat.le_refl _) 3 (.slice none 0 0)
        refine bodyPost_ret (results_ct rfl _ _ w.heap.size 42 #[.int .i64 0, .bool false, .string ⟨#[]⟩, .slice none 0 0] (0, 0) _ rfl L2.out Tryz.underlying42 rfl (by kernel_rfl)) rfl ?_
        exact ⟨⟨.slice none 0 0, ⟨0, false, ⟨#[]⟩, []⟩, false, rfl, Kd.R_nil _ _ _ _ _, by simp, by show 0 ≤ 45000; omega, lit_none HS1.out HC0.out (HL1.out (HL0.out _)) (HL2.out (HL0.out _)), LB.out⟩⟩
      · intro x c w1 cnt1 hwx hwc hlx hat hrg1 hlt hg1 hs1' hen
        have HXC := Aside0.mk (entry_is hat)
        replace K2 := blkG K2 hg1 h2i
        replace K4 := blkG K4 hg1 h4i
        replace HB := belG HB hg1 hiw
        have HR1 := Aside0.mk hrg1
        have HE := Aside0.mk (HRG.out.left_eq)
        have HLT := Aside0.mk hlt
        clear hg1 hat hlx hwx hwc hrg1 hlt hs1' HRG
        go_wp2_with fail
        refine (cut_calls s1 c w1 (HG.out.below HB.out) (by omega)).mono ?_
        rintro e w5 ⟨rfl, hb⟩
        replace K2 := blkB K2 hb
        replace K4 := blkB K4 hb
        replace HB := belB HB hb
        replace HR1 := Aside0.mk (HR1.out.kept (grown_of_below hb none) (by simp) (by simp))
        clear hb hen
        obtain ⟨hd1, hd2⟩ := cutL_size s1 c
        obtain ⟨c5, hc5⟩ : ∃ q, q = cutL s1 c := ⟨_, rfl⟩
        rw [← hc5] at hd1 hd2
        simp only [← hc5]
        have HC5 := Aside0.mk hc5
        clear hc5
        obtain ⟨na, nb, is5⟩ := c5
        simp only at hd1 hd2 ⊢
        obtain ⟨p0, p1, p2, p3, q0, q1, q2, q3⟩ := bq4 K4
        cases is5 with
        | true =>
          go_wp2_with fail
          replace K2 := blkS K2 hg24 0 (.int .i64 x)
          replace HB := belS HB hg4w 0 (.int .i64 x)
          have HC6 := Aside0.mk (strs2 (w5.setCell ⟨g4, 0, none⟩ (.int .i64 x)) na nb)
          have hba := (box1 (w5.setCell ⟨g4, 0, none⟩ (.int .i64 x)) (.cells #[.string na, .string nb] 9)).2
          replace K2 := blkB K2 hba
          replace HB := belB HB hba
          clear hba p0 p1 p2 p3 q0 q1 q2 q3 HR1 HE HLT
          obtain ⟨A6, hA6⟩ : ∃ q : Option Addr, q = some ⟨(w5.setCell ⟨g4, 0, none⟩ (.int .i64 x)).heap.size, 0, none⟩ := ⟨_, rfl⟩
          obtain ⟨w6, hw6⟩ : ∃ q, q = (w5.setCell ⟨g4, 0, none⟩ (.int .i64 x)).alloc (.cells #[.string na, .string nb] 9) := ⟨_, rfl⟩
          rw [← hA6, ← hw6] at HC6
          rw [← hw6] at K2 HB
          have hsz : (w5.setCell ⟨g4, 0, none⟩ (.int .i64 x)).heap.size = w5.heap.size := by simp
          rw [hsz] at hA6
          simp only [← hw6, ← hA6]
          clear hw6 hA6 hsz
          refine (numbers_calls x ng ⟨#[]⟩ true A6 2 [na, nb] w6 (HG.out.below HB.out) HC6.out (Nat.le_refl _) (by simp) (fun y hy => ?_)).mono ?_
          · rcases List.mem_cons.1 hy with rfl | hy
            · omega
            · rcases List.mem_cons.1 hy with rfl | hy
              · omega
              · cases hy
          rintro e w7 ⟨v7, xs, b7, rfl, hR7, hl7, hv7, hb7⟩
          replace K2 := blkB K2 hb7
          have HR7 := Aside0.mk (Kd.R_lower hR7 HB.out.size)
          replace HB := belB HB hb7
          have HV7 := Aside0.mk hv7
          have HL7 := Aside0.mk hl7
          obtain ⟨A7, c7, rfl⟩ := Kd.R_slice hR7
          clear hb7 hv7 hR7 hl7 HC6
          obtain ⟨t0, t1, t2, t3, z0, z1, z2, z3⟩ := bq4 K2
          go_wp2
          have L2 := blkP (blkP (blkP (blkP K2 0 (.int .i64 x)) 1 (.bool ng)) 2 (.string ⟨#[]⟩)) 3 (.slice A7 xs.length c7)
          have LB := belS (belS (belS (belS HB (Nat.le_refl _) 0 (.int .i64 x)) (Nat.le_refl _) 1 (.bool ng)) (Nat.le_refl _) 2 (.string ⟨#[]⟩)) (Nat.le_refl _) 3 (.slice A7 xs.length c7)
          have LO := Aside0.mk (set4 HR7.out K2.out (by decide) (.int .i64 x) (.bool ng) (.string ⟨#[]⟩) (.slice A7 xs.length c7))
          refine bodyPost_ret (results_ct rfl _ _ w.heap.size 42 #[.int .i64 x, .bool ng, .string ⟨#[]⟩, .slice A7 xs.length c7] (0, 0) _ rfl L2.out Tryz.underlying42 rfl (by kernel_rfl)) rfl ?_
          exact ⟨⟨.slice A7 xs.length c7, ⟨x, ng, ⟨#[]⟩, xs⟩, b7, rfl, LO.out, by show xs.length ≤ 50000; have := HL7.out; simp at this; omega, by show 0 ≤ 45000; omega, lit_cmp HS1.out HNG.out HC0.out HXC.out HC5.out (fun vs _ hv => HV7.out vs trivial hv), LB.out⟩⟩
        | false =>
          go_wp2_with fail
          go_roundw
          case rel => exact ⟨_, cnt1, HR1, K2, K4, HB, ⟨fun h => left_one HXC.out HC5.out HL1.out h⟩, ⟨fun h => left_two HXC.out HC5.out HL2.out h⟩⟩
          case measure => rw [HR1.out.left_eq, HE.out]; exact HLT.out
end Go.Proofs.YtailpfcbdopfeaaGreatDoor.F
/- tape.Parse, by hand, at a text whose machine is told. -/
namespace Go.Proofs.YtailpfcbdopfeaaGreatDoor.F
open Go.RowKit Go.Proofs.YtailpfcbdopfeaaGreatDoorW.PrintWords Go.Proofs.YtailpfcbdopfeaaGreatDoorW.PrintLast Go.Proofs.YtailpfcbdopfeaaGreatDoorW.PrintMore
set_option linter.unusedVariables false
set_option linter.unusedSimpArgs false
/-- The word of a literal, as literal.Parse reads it. -/
def LitC (s : ByteArray) (l : S42) : Prop := s.size ≤ 45000 ∧ ∀ l' b, LitR s l' b → l' = l ∧ b = true
/-- A text and its machine. -/
structure ParseH (s : ByteArray) (n0 n1 n2 n3 : Int) (ls : List S42) (ss : List S69) : Prop where
  size : s.size ≤ 40000
  ex : ∃ (hd rest p0 : ByteArray) (ps ws : List ByteArray), (hd, rest, true) = cutL s ⟨#[59]⟩ ∧ Each (fun x v => numB x = some v) (splitL hd ⟨#[32]⟩) [n0, n1, n2, n3] ∧ splitL rest ⟨#[59, 32]⟩ = p0 :: ps ∧ p0.size ≤ 40000 ∧ fieldsL p0 = ws ∧ Each LitC ws ls
    ∧ Each (fun p x => p.size ≤ 45000 ∧ Each (fun x v => numB x = some v) (splitL p ⟨#[32]⟩) (stepL x)) ps ss
  ok : TapeOk n0 n1 n2 n3 ls ss
  wr : OkM n0 n1 n2 n3 ls ss
  text : mkB (tapeT n0 n1 n2 n3 ls ss) = s
  sizes : ∀ x ∈ ls, x.f2.size ≤ 1000000 ∧ x.f3.length ≤ 50000
  nums : ∀ x ∈ ss, stepW x
set_option maxHeartbeats 4000000 in
set_option maxRecDepth 100000 in
theorem parse_calls (s : ByteArray) (n0 n1 n2 n3 : Int) (ls : List S42) (ss : List S69) (h : ParseH s n0 n1 n2 n3 ls ss) (w : World) (hG : Glob w) :
    Calls Tryz.prog 12 #[.string s] w fun e w' => ∃ v4 v5, e = .returned (.tuple #[.agg #[.int .i64 n0, .int .i64 n1, .int .i64 n2, .int .i64 n3, v4, v5], .int .i64 0]) ∧ k42.R 42 w' w.heap.size (fun _ => True) v4 ls ∧ k69.R 69 w' w.heap.size (fun _ => True) v5 ss ∧ Below w.heap.size w w' := by
  have HG := Aside0.mk hG
  have HH := Aside0.mk h
  have hsz := h.size
  obtain ⟨hd, rest, p0, ps, ws, hcut, hints, hsp, hp0, hfl, hlits, hsteps⟩ := h.ex
  have hd40 : decide ((40000 : Int) < (s.size : Int)) = false := decide_eq_false (by omega)
  have HI := Aside0.mk hints
  have HSP := Aside0.mk hsp
  have HFL := Aside0.mk hfl
  have HLT := Aside0.mk hlits
  have HST := Aside0.mk hsteps
  obtain ⟨hcs1, hcs2⟩ := cutL_size s ⟨#[59]⟩
  rw [← hcut] at hcs1 hcs2
  simp only at hcs1 hcs2
  have HC := Aside0.mk hcut
  clear h hints hsp hfl hlits hsteps hcut hG
  go_enter Tryz.func12, Tryz.ntmps12
  go_wp2_with fail
  have K2 := Aside0.mk (box1 w (.cells #[.int .i64 0, .int .i64 0, .int .i64 0, .int .i64 0, .slice none 0 0, .slice none 0 0] 25)).1
  have HB := Aside0.mk (box1 w (.cells #[.int .i64 0, .int .i64 0, .int .i64 0, .int .i64 0, .slice none 0 0, .slice none 0 0] 25)).2
  have hs1 : (w.alloc (.cells #[.int .i64 0, .int .i64 0, .int .i64 0, .int .i64 0, .slice none 0 0, .slice none 0 0] 25)).heap.size = w.heap.size + 1 := by simp
  generalize w.alloc (.cells #[.int .i64 0, .int .i64 0, .int .i64 0, .int .i64 0, .slice none 0 0, .slice none 0 0] 25) = W1 at *
  refine (cut_calls s ⟨#[59]⟩ W1 (HG.out.below HB.out) (by omega)).mono ?_
  rw [← HC.out]
  rintro e w2 ⟨rfl, hb⟩
  replace K2 := blkB K2 hb
  replace HB := belB HB hb
  have hs2 := hb.size
  clear hb
  go_wp2_with fail
  refine (ints_calls hd (by omega) 4 (by omega) (by omega) w2 (HG.out.below HB.out)).mono ?_
  rintro e w3 ⟨v7, xs, b8, rfl, hR7, _, hcomp, hb⟩
  obtain ⟨rfl, rfl⟩ := hcomp [n0, n1, n2, n3] rfl HI.out
  have hBs2 := HB.out.size
  replace K2 := blkB K2 hb
  have HR7 := Aside0.mk hR7
  replace HB := belB HB hb
  obtain ⟨g7, c7, rfl, hg7b, hg7, _⟩ := Kd.R_form hR7 (by simp)
  have HC7 := Aside0.mk (Kd.R_reads' hR7).2.2
  clear hb hcomp hR7
  go_upto_region 7 with (fail)
  have zz : ∀ j : Nat, j < 4 → w3.cell? ⟨g7, j, none⟩ = some (.int .i64 (rd [n0, n1, n2, n3] (j : Int))) := fun j hj => by
    obtain ⟨ad, hA, z⟩ := Kd.at_int HC7.out (j : Int) (by omega) (by simp; omega)
    injection hA with hA
    subst hA
    rw [Int.toNat_natCast, Go.Proofs.YtailpfcbdopfeaaGreatDoorW.PrintWords.add_plain] at z
    exact z
  have z0 : w3.cell? ⟨g7, 0, none⟩ = some (.int .i64 n0) := zz 0 (by omega)
  have z1 : w3.cell? ⟨g7, 1, none⟩ = some (.int .i64 n1) := zz 1 (by omega)
  have z2 : w3.cell? ⟨g7, 2, none⟩ = some (.int .i64 n2) := zz 2 (by omega)
  have z3 : w3.cell? ⟨g7, 3, none⟩ = some (.int .i64 n3) := zz 3 (by omega)
  clear zz
  go_region
  have K9 : Aside0 (((w3.alloc (.cells #[.int .i64 n0, .int .i64 n1, .int .i64 n2, .int .i64 n3, .slice none 0 0, .slice none 0 0] 25)).drew).heap[w3.heap.size]? = some (.cells #[.int .i64 n0, .int .i64 n1, .int .i64 n2, .int .i64 n3, .slice none 0 0, .slice none 0 0] 25 (0, 0))) := ⟨(box1 w3 (.cells #[.int .i64 n0, .int .i64 n1, .int .i64 n2, .int .i64 n3, .slice none 0 0, .slice none 0 0] 25)).1⟩
  have hbx := (box1 w3 (.cells #[.int .i64 n0, .int .i64 n1, .int .i64 n2, .int .i64 n3, .slice none 0 0, .slice none 0 0] 25)).2
  have hBs3 := HB.out.size
  have h2lt := blk_lt K2.out
  replace K2 := Aside0.mk (blk_drew (blkB K2 hbx).out)
  replace HB := Aside0.mk (below_drew (belB HB hbx).out)
  generalize (w3.alloc (.cells #[.int .i64 n0, .int .i64 n1, .int .i64 n2, .int .i64 n3, .slice none 0 0, .slice none 0 0] 25)).drew = w4 at *
  obtain ⟨g9, hg9⟩ : ∃ g, w3.heap.size = g := ⟨_, rfl⟩
  have hg9w : w.heap.size ≤ g9 := by omega
  have hg29 : w.heap.size ≠ g9 := by omega
  simp only [hg9] at K9 ⊢
  clear hbx z0 z1 z2 z3 HC7 HR7 hg7 hg7b hBs2 hBs3 h2lt hg9 hs1 hs2
  go_wp2_with fail
  refine (split_calls rest ⟨#[59, 32]⟩ w4 (HG.out.below HB.out) (by omega) (by decide)).mono ?_
  rw [HSP.out]
  rintro e w5 ⟨A10, c10, rfl, hR10, hb⟩
  obtain ⟨g10, c10', ev, _, hg10, _⟩ := Kd.R_form hR10 (by simp)
  injection ev with ev1 _ ev3
  subst ev1
  clear ev3
  have hc10 := (Kd.R_reads' hR10).2.1
  have HC10 := Aside0.mk (Kd.R_lower hR10 HB.out.size)
  replace K2 := blkB K2 hb
  replace K9 := blkB K9 hb
  replace HB := belB HB hb
  clear hb hR10
  have hz10 : w5.cell? ⟨g10, 0, none⟩ = some (.string p0) := by
    obtain ⟨ad, hA, z⟩ := Kd.at_string (Kd.R_reads' HC10.out).2.2 (0 : Int) (by omega) (by simp)
    injection hA with hA
    subst hA
    exact z
  have hpl : (p0 :: ps).length = ps.length + 1 := rfl
  have hpos : (0 : Int) < ((p0 :: ps).length : Int) := by rw [hpl]; omega
  have HHpl := Aside0.mk hpl
  clear hpl
  go_wp2_with fail
  refine (fields_calls p0 w5 (HG.out.below HB.out) (by omega)).mono ?_
  rw [HFL.out]
  rintro e w6 ⟨A11, c11, rfl, hR11, hb⟩
  have hc11 := (Kd.R_reads' hR11).2.1
  have HC11 := Aside0.mk (Kd.R_lower hR11 HB.out.size)
  replace HC10 := rB HC10 hb
  replace K2 := blkB K2 hb
  replace K9 := blkB K9 hb
  replace HB := belB HB hb
  clear hb hR11 hz10
  go_wp2
  have hwl : ws.length ≤ 4 := by have := HLT.out.1; have := HH.out.ok.len4; omega
  have hpsl : ps.length ≤ 400 := by have := HST.out.1; have := HH.out.ok.len5; omega
  go_loopw [61] (fun v61 wr => ∃ (i : Nat) (v4 : Value), v61 = .int .i64 i ∧ i ≤ ws.length ∧ Aside0 (wr.heap[g9]? = some (.cells #[.int .i64 n0, .int .i64 n1, .int .i64 n2, .int .i64 n3, v4, .slice none 0 0] 25 (0, 0))) ∧ Aside0 (k42.R 42 wr w.heap.size (fun _ => True) v4 (ls.take i))
    ∧ Aside0 (wr.heap[w.heap.size]? = some (.cells #[.int .i64 0, .int .i64 0, .int .i64 0, .int .i64 0, .slice none 0 0, .slice none 0 0] 25 (0, 0))) ∧ Aside0 (Below w.heap.size w wr) ∧ Aside0 (Kd.R Kd.string 9 wr w.heap.size (fun _ => True) (.slice (some ⟨g10, 0, none⟩) (p0 :: ps).length c10) (p0 :: ps)) ∧ Aside0 (Kd.R Kd.string 9 wr w.heap.size (fun _ => True) (.slice A11 ws.length c11) ws)) (fun v61 _ => ws.length - (intOf v61).toNat)
  case atStart => exact ⟨0, _, rfl, Nat.zero_le _, K9, ⟨by rw [List.take_zero]; exact Kd.R_nil _ _ _ _ _⟩, K2, HB, HC10, HC11⟩
  case round =>
    clear K9 K2 HB HC10 HC11
    obtain ⟨i, v4, rfl, hi, K9, HV, K2, HB, HC10, HC11⟩ := hrel
    generalize wr = wq at *
    by_cases hlt : i < ws.length
    · obtain ⟨ad, hA, hcell⟩ := Kd.at_string (Kd.R_reads' HC11.out).2.2 (i : Int) (by omega) (by omega)
      subst hA
      simp only [Int.toNat_natCast] at hcell
      have hx := rds_str hlt
      generalize rdOf ByteArray.empty ws (i : Int) = x at *
      obtain ⟨l, hl, hxs, hlc⟩ := HLT.out.at hx
      have HXI := Aside0.mk hl
      have HLC := Aside0.mk hlc
      clear hx hl hlc
      have hgs := HB.out.size
      have h9lt := blk_lt K9.out
      go_wp2_with fail
      refine (lit_calls x hxs wq (HG.out.below HB.out)).mono ?_
      rintro e w7 ⟨v, l', b', rfl, hR7, hl7, hs7, hLR, hb⟩
      obtain ⟨rfl, rfl⟩ := HLC.out l' b' hLR
      obtain ⟨Al, cl, rfl⟩ := Kd.R_slice hR7
      have HR7 := Aside0.mk (Kd.R_lower (Kd.R_bound hR7) hgs)
      have hv4 := Kd.R_lt HV.out
      have HV4 := Aside0.mk hv4
      have hbx := (box1 w7 (.cells #[.int .i64 l'.f0, .bool l'.f1, .string l'.f2, .slice Al l'.f3.length cl] 42)).2
      replace K2 := blkB (blkB K2 hb) hbx
      replace K9 := blkB (blkB K9 hb) hbx
      replace HB := belB (belB HB hb) hbx
      replace HV := rB (rB HV hb) hbx
      replace HC10 := rB (rB HC10 hb) hbx
      replace HC11 := rB (rB HC11 hb) hbx
      replace HR7 := rB HR7 hbx
      have hwW := HB.out.size
      have hil : (ls.take i).length ≤ 1000 := by rw [List.length_take]; have := HH.out.ok.len4; omega
      clear hb hbx hv4 hR7 hcell
      have HS7 : Aside0 (w7.heap.size + 1 = (w7.alloc (.cells #[.int .i64 l'.f0, .bool l'.f1, .string l'.f2, .slice Al l'.f3.length cl] 42)).heap.size) := ⟨by simp⟩
      have q4 : (w7.alloc (.cells #[.int .i64 l'.f0, .bool l'.f1, .string l'.f2, .slice Al l'.f3.length cl] 42)).cell? ⟨g9, 4, none⟩ = some v4 := (blk_cell K9.out 4).trans rfl
      obtain ⟨xs4, hxs4⟩ : ∃ xs4, ls.take i = xs4 := ⟨_, rfl⟩
      rw [hxs4] at HV hil
      have HXS4 := Aside0.mk hxs4
      clear hxs4
      go_wp2_with (first | ((with_reducible refine gate_builtin (b := .append) (xs := #[.tmp 74, .tmp 76]) rfl ?_); at_builtin; refine Kd.R_append k42 (w0 := w) w.heap.size rfl (.tmp 74) (.tmp 76) 22 42 (.agg #[.int .i64 0, .bool false, .string ⟨#[]⟩, .slice none 0 0]) 56 rfl Tryz.underlying22 infoL rfl (by decide) (by omega) v4 xs4 l' [.int .i64 l'.f0, .bool l'.f1, .string l'.f2, .slice Al l'.f3.length cl] (fun _ => True) (fun k => True ∧ wq.heap.size ≤ k ∧ k < w7.heap.size ∧ ∃ q, q ∈ 3 :: (Kd.int .i64).E ∧ ∃ cells, w7.heap[k]? = some (.cells cells q (0, 0))) rfl (congrArg (fun n => Value.slice (some ⟨n, 0, none⟩) 1 1) HS7.out) ?aP ?aK ?aF ?aO ?aB ?aS ?aL ?_; (case aP => exact k42_mkM _ _ _ l' HR7.out); (case aK => exact (fun k hk => ⟨trivial, fun e => by have := HV4.out k e.symm; have := hk.2.1; omega⟩)); (case aB => exact HB.out); (case aF => exact (fun _ _ => trivial)); (case aO => exact HV.out); (case aS => exact hwW); (case aL => omega); intro v' w8 ho hb hg hat; obtain ⟨ys, hys⟩ : ∃ ys, ys = xs4 ++ [l'] := ⟨_, rfl⟩; rw [← hys] at ho; have HY := Aside0.mk hys; clear hys; obtain ⟨A', c', rfl⟩ := Kd.R_slice ho; have HOn := Aside0.mk ho; have HBn := Aside0.mk hb; have K2n := Aside0.mk (blk_grown K2.out hg (Kd.R_ne HV.out K2.out (by decide))); have K9n := Aside0.mk (blk_grown K9.out hg (Kd.R_ne HV.out K9.out (by decide))); have HC10n := Aside0.mk (Kd.R_over' HC10.out (Kd.R_typed HV.out) (by decide) hg); have HC11n := Aside0.mk (Kd.R_over' HC11.out (Kd.R_typed HV.out) (by decide) hg); have n4 : w8.cell? ⟨g9, 4, none⟩ = some v4 := (blk_cell K9n.out 4).trans rfl; have m4 : w8.frozen? ⟨g9, 4, none⟩ = false := blk_frozen K9n.out 4; clear ho hb hg hat))
      have L9 := blkP K9n 4 (.slice A' ys.length c')
      have L2 := blkS K2n hg29 4 (.slice A' ys.length c')
      have LB := belS HBn hg9w 4 (.slice A' ys.length c')
      have LV := Aside0.mk (Kd.R_set HOn.out K9n.out (by decide) 4 (.slice A' ys.length c'))
      have L10 := Aside0.mk (Kd.R_set HC10n.out K9n.out (by decide) 4 (.slice A' ys.length c'))
      have L11 := Aside0.mk (Kd.R_set HC11n.out K9n.out (by decide) 4 (.slice A' ys.length c'))
      rw [HY.out, ← HXS4.out, ← take_snocG HXI.out] at LV
      have hys : ys.length = (ls.take (i + 1)).length := by rw [HY.out, ← HXS4.out, ← take_snocG HXI.out]
      have HYL := Aside0.mk hys
      clear hys
      go_roundw
      case rel => exact ⟨i + 1, _, by go_num, by omega, L9, by rw [HYL.out]; exact LV, L2, LB, L10, L11⟩
      case measure => simp [intOf]; omega
    · obtain rfl : i = ws.length := by omega
      rw [HLT.out.1, List.take_length] at HV
      have HHl := HHpl.out
      go_upto_region 17 with (fail)
      go_cut [10, 81, 82, 83] (fun v10 v81 v82 v83 wc => ∃ A : Option Addr, v10 = .slice (some ⟨g10, 0, none⟩) (ps.length + 1) c10 ∧ v81 = .slice A ps.length (c10 - 1) ∧ v82 = .int .i64 ps.length ∧ v83 = .int .i64 0 ∧ (0 < ps.length → A = some ⟨g10, 1, none⟩) ∧ wc = wq)
      case first =>
        go_wp2
        · go_meet
          exact ⟨some ⟨g10, 0, none⟩, by simp [*], by simp [*], by simp, rfl, (fun hp => by simp only [List.length_cons] at hc10; omega), rfl⟩
        · go_meet
          exact ⟨_, rfl, by simp, by simp, rfl, (fun hp => rfl), rfl⟩
      case rest =>
        obtain ⟨A81, rfl, rfl, rfl, rfl, hA81, rfl⟩ := hcut
        have HA := Aside0.mk hA81
        clear hA81 HC11 HLT HFL HSP HI HC
        obtain ⟨A4, c4, rfl⟩ := Kd.R_slice HV.out
        go_wp2
        go_loopw [83] (fun v83 wr => ∃ (j : Nat) (v5 : Value), v83 = .int .i64 j ∧ j ≤ ps.length ∧ Aside0 (wr.heap[g9]? = some (.cells #[.int .i64 n0, .int .i64 n1, .int .i64 n2, .int .i64 n3, .slice A4 ls.length c4, v5] 25 (0, 0))) ∧ Aside0 (k42.R 42 wr w.heap.size (fun _ => True) (.slice A4 ls.length c4) ls) ∧ Aside0 (k69.R 69 wr w.heap.size (fun _ => True) v5 (ss.take j))
          ∧ Aside0 (wr.heap[w.heap.size]? = some (.cells #[.int .i64 0, .int .i64 0, .int .i64 0, .int .i64 0, .slice none 0 0, .slice none 0 0] 25 (0, 0))) ∧ Aside0 (Below w.heap.size w wr) ∧ Aside0 (Kd.R Kd.string 9 wr w.heap.size (fun _ => True) (.slice (some ⟨g10, 0, none⟩) (p0 :: ps).length c10) (p0 :: ps))) (fun v83 _ => ps.length - (intOf v83).toNat)
        case atStart => exact ⟨0, _, rfl, Nat.zero_le _, K9, HV, ⟨by rw [List.take_zero]; exact Kd.R_nil _ _ _ _ _⟩, K2, HB, HC10⟩
        case round =>
          clear K9 K2 HB HC10 HV
          obtain ⟨j, v5, rfl, hj, K9, HV, HU, K2, HB, HC10⟩ := hrel
          generalize wr = wt at *
          by_cases hlt2 : j < ps.length
          · obtain ⟨ad, hA, hcell⟩ := Kd.at_string (Kd.R_reads' HC10.out).2.2 ((j + 1 : Nat) : Int) (by omega) (by simp; omega)
            injection hA with hA
            subst hA
            simp only [Int.toNat_natCast] at hcell
            have hx := rds_str (l := p0 :: ps) (k := j + 1) (by simp; omega)
            generalize rdOf ByteArray.empty (p0 :: ps) ((j + 1 : Nat) : Int) = x at *
            rw [List.getElem?_cons_succ] at hx
            obtain ⟨y, hy, hxs, hyc⟩ := HST.out.at hx
            obtain ⟨ad, hadA, hadE⟩ : ∃ ad, A81 = some ad ∧ ad.add j = (⟨g10, 0, none⟩ : Addr).add (j + 1) := ⟨⟨g10, 1, none⟩, HA.out (by omega), by rw [add_at, add_at, Nat.zero_add, Nat.add_comm]⟩
            rw [← hadE] at hcell
            subst hadA
            have HYI := Aside0.mk hy
            have HYC := Aside0.mk hyc
            clear hx hy hyc hadE
            have hgs := HB.out.size
            go_wp2_with fail
            refine (ints_calls x hxs 5 (by omega) (by omega) wt (HG.out.below HB.out)).mono ?_
            rintro e w7 ⟨v7, xs, b8, rfl, hR7, _, hcomp, hb⟩
            obtain ⟨rfl, rfl⟩ := hcomp (stepL y) rfl HYC.out
            replace K2 := blkB K2 hb
            replace K9 := blkB K9 hb
            replace HV := rB HV hb
            replace HU := rB HU hb
            replace HC10 := rB HC10 hb
            replace HB := belB HB hb
            have HR7 := Aside0.mk hR7
            obtain ⟨g17, c17, rfl, hg17b, hg17, _⟩ := Kd.R_form hR7 (by simp [stepL])
            have HC17 := Aside0.mk (Kd.R_reads' hR7).2.2
            clear hb hcomp hR7 hcell
            go_upto_region 23 with (fail)
            have hcs : w7.cell? ⟨g9, 5, none⟩ = some v5 := (blk_cell K9.out 5).trans rfl
            have zz : ∀ i : Nat, i < 5 → w7.cell? ⟨g17, i, none⟩ = some (.int .i64 (rd (stepL y) (i : Int))) := fun i hi => by
              obtain ⟨ad, hA, z⟩ := Kd.at_int HC17.out (i : Int) (by omega) (by simp [stepL]; omega)
              injection hA with hA
              subst hA
              rw [Int.toNat_natCast, Go.Proofs.YtailpfcbdopfeaaGreatDoorW.PrintWords.add_plain] at z
              exact z
            have z0 : w7.cell? ⟨g17, 0, none⟩ = some (.int .i64 y.f0) := zz 0 (by omega)
            have z1 : w7.cell? ⟨g17, 1, none⟩ = some (.int .i64 y.f1) := zz 1 (by omega)
            have z2 : w7.cell? ⟨g17, 2, none⟩ = some (.int .i64 y.f2) := zz 2 (by omega)
            have z3 : w7.cell? ⟨g17, 3, none⟩ = some (.int .i64 y.f3) := zz 3 (by omega)
            have z4 : w7.cell? ⟨g17, 4, none⟩ = some (.int .i64 y.f4) := zz 4 (by omega)
            clear zz
            have hwW := HB.out.size
            have hjl : (ss.take j).length ≤ 1000 := by rw [List.length_take]; have := HH.out.ok.len5; omega
            obtain ⟨xs5, hxs5⟩ : ∃ xs5, ss.take j = xs5 := ⟨_, rfl⟩
            rw [hxs5] at HU hjl
            have HXS5 := Aside0.mk hxs5
            clear hxs5
            have hcd : w7.drew.cell? ⟨g9, 5, none⟩ = some v5 ∧ w7.drew.cell? ⟨g17, 0, none⟩ = some (.int .i64 y.f0) ∧ w7.drew.cell? ⟨g17, 1, none⟩ = some (.int .i64 y.f1) ∧ w7.drew.cell? ⟨g17, 2, none⟩ = some (.int .i64 y.f2) ∧ w7.drew.cell? ⟨g17, 3, none⟩ = some (.int .i64 y.f3) ∧ w7.drew.cell? ⟨g17, 4, none⟩ = some (.int .i64 y.f4) := ⟨hcs, z0, z1, z2, z3, z4⟩
            refine wp_region_noPanic ?_
            refine start_ (n := 22) (S := fun w' => w'.cell? ⟨g9, 5, none⟩ = some v5 ∧ w'.cell? ⟨g17, 0, none⟩ = some (.int .i64 y.f0) ∧ w'.cell? ⟨g17, 1, none⟩ = some (.int .i64 y.f1) ∧ w'.cell? ⟨g17, 2, none⟩ = some (.int .i64 y.f2) ∧ w'.cell? ⟨g17, 3, none⟩ = some (.int .i64 y.f3) ∧ w'.cell? ⟨g17, 4, none⟩ = some (.int .i64 y.f4)) (ds := [19, 21]) #[false, false, false, false, false, false, false, false, false, false, false, false, false, false, false, false, false, false, false, false, false, false] (by kernel_rfl) rfl rfl hcd (fun hHeld => ?_)
            replace K2 := Aside0.mk (blk_drew K2.out)
            replace K9 := Aside0.mk (blk_drew K9.out)
            replace HB := Aside0.mk (below_drew HB.out)
            replace HV := Aside0.mk (Kd.R_drew HV.out)
            replace HU := Aside0.mk (Kd.R_drew HU.out)
            replace HC10 := Aside0.mk (Kd.R_drew HC10.out)
            have hwWd := HB.out.size
            generalize w7.drew = wd at *
            clear hcs z0 z1 z2 z3 z4
            refine pure_ (i := 0) (N := some 95) (v := ?_) (a' := ?_) #[true, false, false, false, false, false, false, false, false, false, false, false, false, false, false, false, false, false, false, false, false, false] rfl rfl (by kernel_rfl) (fun _ _ _ h => h) (Or.inl ⟨by rfl, ?_⟩) ?_ ?_
            rotate_left
            · intro w'
              go_simp
              with_reducible rfl
            rotate_left
            · simp only [Act.put, List.setIfInBounds_toArray, List.set_cons_zero, List.set_cons_succ, i64_w, i32_w]
              rfl
            refine take_ (i := 1) (N := some 96) (v := ?_) (a' := ?_) #[true, true, false, false, false, false, false, false, false, false, false, false, false, false, false, false, false, false, false, false, false, false] rfl rfl (by kernel_rfl) (fun _ _ _ h => h) (Or.inl ⟨by rfl, ?_⟩) hHeld ?_ ?_
            rotate_left
            · intro w' s0
              obtain ⟨t0, t1, t2, t3, t4, t5⟩ := s0
              go_simp
              with_reducible rfl
            rotate_left
            · simp only [Act.put, List.setIfInBounds_toArray, List.set_cons_zero, List.set_cons_succ, i64_w, i32_w]
              rfl
            refine pure_ (i := 2) (N := some 97) (v := ?_) (a' := ?_) #[true, true, true, false, false, false, false, false, false, false, false, false, false, false, false, false, false, false, false, false, false, false] rfl rfl (by kernel_rfl) (fun _ _ _ h => h) (Or.inl ⟨by rfl, ?_⟩) ?_ ?_
            rotate_left
            · intro w'
              go_simp
              with_reducible rfl
            rotate_left
            · simp only [Act.put, List.setIfInBounds_toArray, List.set_cons_zero, List.set_cons_succ, i64_w, i32_w]
              rfl
            refine pure_ (i := 3) (N := some 98) (v := ?_) (a' := ?_) #[true, true, true, true, false, false, false, false, false, false, false, false, false, false, false, false, false, false, false, false, false, false] rfl rfl (by kernel_rfl) (fun _ _ _ h => h) (Or.inl ⟨by rfl, ?_⟩) ?_ ?_
            rotate_left
            · intro w'
              go_simp
              with_reducible rfl
            rotate_left
            · simp only [Act.put, List.setIfInBounds_toArray, List.set_cons_zero, List.set_cons_succ, i64_w, i32_w]
              rfl
            refine take_ (i := 4) (N := some 99) (v := ?_) (a' := ?_) #[true, true, true, true, true, false, false, false, false, false, false, false, false, false, false, false, false, false, false, false, false, false] rfl rfl (by kernel_rfl) (fun _ _ _ h => h) (Or.inl ⟨by rfl, ?_⟩) hHeld ?_ ?_
            rotate_left
            · intro w' s0
              obtain ⟨t0, t1, t2, t3, t4, t5⟩ := s0
              go_simp
              with_reducible rfl
            rotate_left
            · simp only [Act.put, List.setIfInBounds_toArray, List.set_cons_zero, List.set_cons_succ, i64_w, i32_w]
              rfl
            refine pure_ (i := 5) (N := some 100) (v := ?_) (a' := ?_) #[true, true, true, true, true, true, false, false, false, false, false, false, false, false, false, false, false, false, false, false, false, false] rfl rfl (by kernel_rfl) (fun _ _ _ h => h) (Or.inl ⟨by rfl, ?_⟩) ?_ ?_
            rotate_left
            · intro w'
              go_simp
              with_reducible rfl
            rotate_left
            · simp only [Act.put, List.setIfInBounds_toArray, List.set_cons_zero, List.set_cons_succ, i64_w, i32_w]
              rfl
            refine pure_ (i := 6) (N := some 101) (v := ?_) (a' := ?_) #[true, true, true, true, true, true, true, false, false, false, false, false, false, false, false, false, false, false, false, false, false, false] rfl rfl (by kernel_rfl) (fun _ _ _ h => h) (Or.inl ⟨by rfl, ?_⟩) ?_ ?_
            rotate_left
            · intro w'
              go_simp
              with_reducible rfl
            rotate_left
            · simp only [Act.put, List.setIfInBounds_toArray, List.set_cons_zero, List.set_cons_succ, i64_w, i32_w]
              rfl
            refine take_ (i := 7) (N := some 102) (v := ?_) (a' := ?_) #[true, true, true, true, true, true, true, true, false, false, false, false, false, false, false, false, false, false, false, false, false, false] rfl rfl (by kernel_rfl) (fun _ _ _ h => h) (Or.inl ⟨by rfl, ?_⟩) hHeld ?_ ?_
            rotate_left
            · intro w' s0
              obtain ⟨t0, t1, t2, t3, t4, t5⟩ := s0
              go_simp
              with_reducible rfl
            rotate_left
            · simp only [Act.put, List.setIfInBounds_toArray, List.set_cons_zero, List.set_cons_succ, i64_w, i32_w]
              rfl
            refine pure_ (i := 8) (N := some 103) (v := ?_) (a' := ?_) #[true, true, true, true, true, true, true, true, true, false, false, false, false, false, false, false, false, false, false, false, false, false] rfl rfl (by kernel_rfl) (fun _ _ _ h => h) (Or.inl ⟨by rfl, ?_⟩) ?_ ?_
            rotate_left
            · intro w'
              go_simp
              with_reducible rfl
            rotate_left
            · simp only [Act.put, List.setIfInBounds_toArray, List.set_cons_zero, List.set_cons_succ, i64_w, i32_w]
              rfl
            refine pure_ (i := 9) (N := some 104) (v := ?_) (a' := ?_) #[true, true, true, true, true, true, true, true, true, true, false, false, false, false, false, false, false, false, false, false, false, false] rfl rfl (by kernel_rfl) (fun _ _ _ h => h) (Or.inl ⟨by rfl, ?_⟩) ?_ ?_
            rotate_left
            · intro w'
              go_simp
              with_reducible rfl
            rotate_left
            · simp only [Act.put, List.setIfInBounds_toArray, List.set_cons_zero, List.set_cons_succ, i64_w, i32_w]
              rfl
            refine take_ (i := 10) (N := some 105) (v := ?_) (a' := ?_) #[true, true, true, true, true, true, true, true, true, true, true, false, false, false, false, false, false, false, false, false, false, false] rfl rfl (by kernel_rfl) (fun _ _ _ h => h) (Or.inl ⟨by rfl, ?_⟩) hHeld ?_ ?_
            rotate_left
            · intro w' s0
              obtain ⟨t0, t1, t2, t3, t4, t5⟩ := s0
              go_simp
              with_reducible rfl
            rotate_left
            · simp only [Act.put, List.setIfInBounds_toArray, List.set_cons_zero, List.set_cons_succ, i64_w, i32_w]
              rfl
            refine pure_ (i := 11) (N := some 106) (v := ?_) (a' := ?_) #[true, true, true, true, true, true, true, true, true, true, true, true, false, false, false, false, false, false, false, false, false, false] rfl rfl (by kernel_rfl) (fun _ _ _ h => h) (Or.inl ⟨by rfl, ?_⟩) ?_ ?_
            rotate_left
            · intro w'
              go_simp
              with_reducible rfl
            rotate_left
            · simp only [Act.put, List.setIfInBounds_toArray, List.set_cons_zero, List.set_cons_succ, i64_w, i32_w]
              rfl
            refine pure_ (i := 12) (N := some 107) (v := ?_) (a' := ?_) #[true, true, true, true, true, true, true, true, true, true, true, true, true, false, false, false, false, false, false, false, false, false] rfl rfl (by kernel_rfl) (fun _ _ _ h => h) (Or.inl ⟨by rfl, ?_⟩) ?_ ?_
            rotate_left
            · intro w'
              go_simp
              with_reducible rfl
            rotate_left
            · simp only [Act.put, List.setIfInBounds_toArray, List.set_cons_zero, List.set_cons_succ, i64_w, i32_w]
              rfl
            refine take_ (i := 13) (N := some 108) (v := ?_) (a' := ?_) #[true, true, true, true, true, true, true, true, true, true, true, true, true, true, false, false, false, false, false, false, false, false] rfl rfl (by kernel_rfl) (fun _ _ _ h => h) (Or.inl ⟨by rfl, ?_⟩) hHeld ?_ ?_
            rotate_left
            · intro w' s0
              obtain ⟨t0, t1, t2, t3, t4, t5⟩ := s0
              go_simp
              with_reducible rfl
            rotate_left
            · simp only [Act.put, List.setIfInBounds_toArray, List.set_cons_zero, List.set_cons_succ, i64_w, i32_w]
              rfl
            refine pure_ (i := 14) (N := some 109) (v := ?_) (a' := ?_) #[true, true, true, true, true, true, true, true, true, true, true, true, true, true, true, false, false, false, false, false, false, false] rfl rfl (by kernel_rfl) (fun _ _ _ h => h) (Or.inl ⟨by rfl, ?_⟩) ?_ ?_
            rotate_left
            · intro w'
              go_simp
              with_reducible rfl
            rotate_left
            · simp only [Act.put, List.setIfInBounds_toArray, List.set_cons_zero, List.set_cons_succ, i64_w, i32_w]
              rfl
            refine pure_ (i := 15) (N := some 110) (v := ?_) (a' := ?_) #[true, true, true, true, true, true, true, true, true, true, true, true, true, true, true, true, false, false, false, false, false, false] rfl rfl (by kernel_rfl) (fun _ _ _ h => h) (Or.inl ⟨by rfl, ?_⟩) ?_ ?_
            rotate_left
            · intro w'
              go_simp
              with_reducible rfl
            rotate_left
            · simp only [Act.put, List.setIfInBounds_toArray, List.set_cons_zero, List.set_cons_succ, i64_w, i32_w]
              rfl
            refine take_ (i := 16) (N := some 111) (v := ?_) (a' := ?_) #[true, true, true, true, true, true, true, true, true, true, true, true, true, true, true, true, true, false, false, false, false, false] rfl rfl (by kernel_rfl) (fun _ _ _ h => h) (Or.inl ⟨by rfl, ?_⟩) hHeld ?_ ?_
            rotate_left
            · intro w' s0
              obtain ⟨t0, t1, t2, t3, t4, t5⟩ := s0
              go_simp
              with_reducible rfl
            rotate_left
            · simp only [Act.put, List.setIfInBounds_toArray, List.set_cons_zero, List.set_cons_succ, i64_w, i32_w]
              rfl
            refine pure_ (i := 17) (N := some 112) (v := ?_) (a' := ?_) #[true, true, true, true, true, true, true, true, true, true, true, true, true, true, true, true, true, true, false, false, false, false] rfl rfl (by kernel_rfl) (fun _ _ _ h => h) (Or.inl ⟨by rfl, ?_⟩) ?_ ?_
            rotate_left
            · intro w'
              go_simp
              with_reducible rfl
            rotate_left
            · simp only [Act.put, List.setIfInBounds_toArray, List.set_cons_zero, List.set_cons_succ, i64_w, i32_w]
              rfl
            refine one_ (i := 18) (N := some 113) #[true, true, true, true, true, true, true, true, true, true, true, true, true, true, true, true, true, true, true, false, false, false] rfl rfl (by kernel_rfl) (by decide) (fun K hK => ?_)
            refine value_ (w1 := ?_) (v := ?_) (by rfl) rfl ?_ ?_
            rotate_left 2
            · go_simp
              constructor
              · rfl
              · rfl
            refine hK.out _ _ ?_ (fun _ => ?_)
            · obtain ⟨t0, t1, t2, t3, t4, t5⟩ := hHeld
              have hbx := (box1 wd (.cells #[.int .i64 y.f0, .int .i64 y.f1, .int .i64 y.f2, .int .i64 y.f3, .int .i64 y.f4] 69)).2
              exact ⟨(hbx.cell (World.block_lt_of_cell? _ _ t0)).trans t0, (hbx.cell (World.block_lt_of_cell? _ _ t1)).trans t1, (hbx.cell (World.block_lt_of_cell? _ _ t2)).trans t2, (hbx.cell (World.block_lt_of_cell? _ _ t3)).trans t3, (hbx.cell (World.block_lt_of_cell? _ _ t4)).trans t4, (hbx.cell (World.block_lt_of_cell? _ _ t5)).trans t5⟩
            clear hK K
            refine norm_ (a' := ?_) ?_ ?_
            rotate_left
            · show Act.put _ (some 113) _ = _
              simp only [Act.put, List.setIfInBounds_toArray, List.set_cons_zero, List.set_cons_succ, i64_w, i32_w]
              rfl
            refine last_ (i := 19) (N := some 114) #[true, true, true, true, true, true, true, true, true, true, true, true, true, true, true, true, true, true, true, true, false, false] rfl rfl (by kernel_rfl) (by decide) (fun K hK => ?_)
            refine Kd.R_append_step k69 (w0 := w) w.heap.size (by rfl) (.tmp 96) (.tmp 113) 23 69 (.agg #[.int .i64 0, .int .i64 0, .int .i64 0, .int .i64 0, .int .i64 0]) 40 rfl Tryz.underlying23 infoP rfl (by decide) (by omega) v5 xs5 y [.int .i64 y.f0, .int .i64 y.f1, .int .i64 y.f2, .int .i64 y.f3, .int .i64 y.f4] (fun _ => True) (fun _ => False) rfl rfl ?aP (fun _ hk => hk.elim) ?aF ?aO ?aB ?aS ?aL ?_
            (case aP => exact k69_mkM _ _ _ y)
            (case aF => exact (fun _ _ => trivial))
            (case aO => exact HU.out)
            (case aB => exact HB.out)
            (case aS => exact hwWd)
            (case aL => omega)
            intro v' w8 ho hb hg hat
            obtain ⟨ys, hys⟩ : ∃ ys, ys = xs5 ++ [y] := ⟨_, rfl⟩
            rw [← hys] at ho
            have HY := Aside0.mk hys
            clear hys
            obtain ⟨A', c', rfl⟩ := Kd.R_slice ho
            have HOn := Aside0.mk ho
            have HBn := Aside0.mk hb
            have K2n := Aside0.mk (blk_grown K2.out hg (Kd.R_ne HU.out K2.out (by decide)))
            have K9n := Aside0.mk (blk_grown K9.out hg (Kd.R_ne HU.out K9.out (by decide)))
            have HVn := Aside0.mk (Kd.R_over' HV.out (Kd.R_typed HU.out) (by decide) hg)
            have HC10n := Aside0.mk (Kd.R_over' HC10.out (Kd.R_typed HU.out) (by decide) hg)
            clear ho hb hg hat
            refine hK.out _ _ ?_
            clear hK K
            refine norm_ (a' := ?_) ?_ ?_
            rotate_left
            · show Act.put _ (some 114) _ = _
              simp only [Act.put, List.setIfInBounds_toArray, List.set_cons_zero, List.set_cons_succ, i64_w, i32_w]
              rfl
            refine pure_ (i := 20) (N := some 115) (v := ?_) (a' := ?_) #[true, true, true, true, true, true, true, true, true, true, true, true, true, true, true, true, true, true, true, true, true, false] rfl rfl (by kernel_rfl) (fun _ _ _ h => h) (Or.inl ⟨by rfl, ?_⟩) ?_ ?_
            rotate_left
            · intro w'
              go_simp
              with_reducible rfl
            rotate_left
            · simp only [Act.put, List.setIfInBounds_toArray, List.set_cons_zero, List.set_cons_succ, i64_w, i32_w]
              rfl
            refine last_ (i := 21) (N := none) #[true, true, true, true, true, true, true, true, true, true, true, true, true, true, true, true, true, true, true, true, true, true] rfl rfl (by kernel_rfl) (by decide) (fun K hK => ?_)
            have hs8 : w8.cell? ⟨g9, 5, none⟩ = some v5 := (blk_cell K9n.out 5).trans rfl
            have hf8 := blk_frozen K9n.out 5
            refine skip_ (w1 := ?_) (by rfl) rfl ?_ ?_
            rotate_left
            · go_simp
              rfl
            refine hK.out _ _ ?_
            clear hK K
            refine done_ (by kernel_rfl) ?_
            refine NoPanic.normal ?_
            have L9 := blkP K9n 5 (.slice A' ys.length c')
            have L2 := blkS K2n hg29 5 (.slice A' ys.length c')
            have LB := belS HBn hg9w 5 (.slice A' ys.length c')
            have LU := Aside0.mk (Kd.R_set HOn.out K9n.out (by decide) 5 (.slice A' ys.length c'))
            have LV := Aside0.mk (Kd.R_set HVn.out K9n.out (by decide) 5 (.slice A' ys.length c'))
            have L10 := Aside0.mk (Kd.R_set HC10n.out K9n.out (by decide) 5 (.slice A' ys.length c'))
            rw [HY.out, ← HXS5.out, ← take_snocG HYI.out] at LU
            have hys : ys.length = (ss.take (j + 1)).length := by rw [HY.out, ← HXS5.out, ← take_snocG HYI.out]
            have HYL := Aside0.mk hys
            clear hys
            try go_wp2
            go_roundw
            case rel => exact ⟨j + 1, _, by go_num, by omega, L9, LV, by rw [HYL.out]; exact LU, L2, LB, L10⟩
            case measure => simp [intOf]; omega
          · obtain rfl : j = ps.length := by omega
            rw [HST.out.1, List.take_length] at HU
            obtain ⟨A5, c5, rfl⟩ := Kd.R_slice HU.out
            have hgs := HB.out.size
            obtain ⟨_, hl4c, hC4⟩ := Kd.R_reads' HV.out
            obtain ⟨_, hl5c, hC5⟩ := Kd.R_reads' HU.out
            have H4 := Aside0.mk hC4
            have H5 := Aside0.mk hC5
            clear hC4 hC5
            have p0_ : wt.cell? ⟨g9, 0, none⟩ = some (.int .i64 n0) := (blk_cell K9.out 0).trans rfl
            have p1_ : wt.cell? ⟨g9, 1, none⟩ = some (.int .i64 n1) := (blk_cell K9.out 1).trans rfl
            have p2_ : wt.cell? ⟨g9, 2, none⟩ = some (.int .i64 n2) := (blk_cell K9.out 2).trans rfl
            have p3_ : wt.cell? ⟨g9, 3, none⟩ = some (.int .i64 n3) := (blk_cell K9.out 3).trans rfl
            have p4_ : wt.cell? ⟨g9, 4, none⟩ = some (.slice A4 ls.length c4) := (blk_cell K9.out 4).trans rfl
            have p5_ : wt.cell? ⟨g9, 5, none⟩ = some (.slice A5 ss.length c5) := (blk_cell K9.out 5).trans rfl
            go_wp2_with fail
            refine (valid_calls n0 n1 n2 n3 A4 c4 ls A5 c5 ss wt H4.out hl4c H5.out hl5c HH.out.nums).mono ?_
            rintro e w9 ⟨b, rfl, hbv, hb⟩
            have hbt : b = true := hbv.2 HH.out.ok
            subst hbt
            replace H4 := Aside0.mk (Kd.C_below H4.out hb)
            replace H5 := Aside0.mk (Kd.C_below H5.out hb)
            replace K2 := blkB K2 hb
            replace K9 := blkB K9 hb
            replace HV := rB HV hb
            replace HU := rB HU hb
            replace HB := belB HB hb
            clear hb hbv p0_ p1_ p2_ p3_ p4_ p5_ HC10
            have hgs9 := HB.out.size
            have p0_ : w9.cell? ⟨g9, 0, none⟩ = some (.int .i64 n0) := (blk_cell K9.out 0).trans rfl
            have p1_ : w9.cell? ⟨g9, 1, none⟩ = some (.int .i64 n1) := (blk_cell K9.out 1).trans rfl
            have p2_ : w9.cell? ⟨g9, 2, none⟩ = some (.int .i64 n2) := (blk_cell K9.out 2).trans rfl
            have p3_ : w9.cell? ⟨g9, 3, none⟩ = some (.int .i64 n3) := (blk_cell K9.out 3).trans rfl
            have p4_ : w9.cell? ⟨g9, 4, none⟩ = some (.slice A4 ls.length c4) := (blk_cell K9.out 4).trans rfl
            have p5_ : w9.cell? ⟨g9, 5, none⟩ = some (.slice A5 ss.length c5) := (blk_cell K9.out 5).trans rfl
            go_wp2_with fail
            refine (write_calls n0 n1 n2 n3 A4 c4 ls A5 c5 ss w9 (HG.out.below HB.out) H4.out hl4c H5.out hl5c HH.out.wr).mono ?_
            rintro e w10 ⟨rfl, hb⟩
            rw [HH.out.text]
            replace K2 := blkB K2 hb
            replace K9 := blkB K9 hb
            replace HV := rB HV hb
            replace HU := rB HU hb
            replace HB := belB HB hb
            clear hb p0_ p1_ p2_ p3_ p4_ p5_
            skip
            have p0_ : w10.cell? ⟨g9, 0, none⟩ = some (.int .i64 n0) := (blk_cell K9.out 0).trans rfl
            have p1_ : w10.cell? ⟨g9, 1, none⟩ = some (.int .i64 n1) := (blk_cell K9.out 1).trans rfl
            have p2_ : w10.cell? ⟨g9, 2, none⟩ = some (.int .i64 n2) := (blk_cell K9.out 2).trans rfl
            have p3_ : w10.cell? ⟨g9, 3, none⟩ = some (.int .i64 n3) := (blk_cell K9.out 3).trans rfl
            have p4_ : w10.cell? ⟨g9, 4, none⟩ = some (.slice A4 ls.length c4) := (blk_cell K9.out 4).trans rfl
            have p5_ : w10.cell? ⟨g9, 5, none⟩ = some (.slice A5 ss.length c5) := (blk_cell K9.out 5).trans rfl
            have q0_ := (blk_cell K2.out 0).trans rfl
            have q1_ := (blk_cell K2.out 1).trans rfl
            have q2_ := (blk_cell K2.out 2).trans rfl
            have q3_ := (blk_cell K2.out 3).trans rfl
            have q4_ := (blk_cell K2.out 4).trans rfl
            have q5_ := (blk_cell K2.out 5).trans rfl
            have r0_ := blk_frozen K2.out 0
            have r1_ := blk_frozen K2.out 1
            have r2_ := blk_frozen K2.out 2
            have r3_ := blk_frozen K2.out 3
            have r4_ := blk_frozen K2.out 4
            have r5_ := blk_frozen K2.out 5
            go_wp2
            have L2 := (blkP (blkP (blkP (blkP (blkP (blkP K2 0 (.int .i64 n0)) 1 (.int .i64 n1)) 2 (.int .i64 n2)) 3 (.int .i64 n3)) 4 (.slice A4 ls.length c4)) 5 (.slice A5 ss.length c5))
            have LB := (belS (belS (belS (belS (belS (belS HB (Nat.le_refl _) 0 (.int .i64 n0)) (Nat.le_refl _) 1 (.int .i64 n1)) (Nat.le_refl _) 2 (.int .i64 n2)) (Nat.le_refl _) 3 (.int .i64 n3)) (Nat.le_refl _) 4 (.slice A4 ls.length c4)) (Nat.le_refl _) 5 (.slice A5 ss.length c5))
            have LV := Aside0.mk (Kd.R_set (Kd.R_set (Kd.R_set (Kd.R_set (Kd.R_set (Kd.R_set HV.out K2.out (by decide) 0 (.int .i64 n0)) (blkP K2 0 (.int .i64 n0)).out (by decide) 1 (.int .i64 n1)) (blkP (blkP K2 0 (.int .i64 n0)) 1 (.int .i64 n1)).out (by decide) 2 (.int .i64 n2)) (blkP (blkP (blkP K2 0 (.int .i64 n0)) 1 (.int .i64 n1)) 2 (.int .i64 n2)).out (by decide) 3 (.int .i64 n3)) (blkP (blkP (blkP (blkP K2 0 (.int .i64 n0)) 1 (.int .i64 n1)) 2 (.int .i64 n2)) 3 (.int .i64 n3)).out (by decide) 4 (.slice A4 ls.length c4)) (blkP (blkP (blkP (blkP (blkP K2 0 (.int .i64 n0)) 1 (.int .i64 n1)) 2 (.int .i64 n2)) 3 (.int .i64 n3)) 4 (.slice A4 ls.length c4)).out (by decide) 5 (.slice A5 ss.length c5))
            have LU := Aside0.mk (Kd.R_set (Kd.R_set (Kd.R_set (Kd.R_set (Kd.R_set (Kd.R_set HU.out K2.out (by decide) 0 (.int .i64 n0)) (blkP K2 0 (.int .i64 n0)).out (by decide) 1 (.int .i64 n1)) (blkP (blkP K2 0 (.int .i64 n0)) 1 (.int .i64 n1)).out (by decide) 2 (.int .i64 n2)) (blkP (blkP (blkP K2 0 (.int .i64 n0)) 1 (.int .i64 n1)) 2 (.int .i64 n2)).out (by decide) 3 (.int .i64 n3)) (blkP (blkP (blkP (blkP K2 0 (.int .i64 n0)) 1 (.int .i64 n1)) 2 (.int .i64 n2)) 3 (.int .i64 n3)).out (by decide) 4 (.slice A4 ls.length c4)) (blkP (blkP (blkP (blkP (blkP K2 0 (.int .i64 n0)) 1 (.int .i64 n1)) 2 (.int .i64 n2)) 3 (.int .i64 n3)) 4 (.slice A4 ls.length c4)).out (by decide) 5 (.slice A5 ss.length c5))
            refine bodyPost_ret (results_ct rfl _ _ w.heap.size 25 #[.int .i64 n0, .int .i64 n1, .int .i64 n2, .int .i64 n3, .slice A4 ls.length c4, .slice A5 ss.length c5] (0, 0) _ rfl L2.out Tryz.underlying25 rfl (by kernel_rfl)) rfl ?_
            exact ⟨_, _, rfl, LV.out, LU.out, LB.out⟩
end Go.Proofs.YtailpfcbdopfeaaGreatDoor.F
/- The example's text: how it falls out, by the kernel. -/
namespace Go.Proofs.YtailpfcbdopfeaaGreatDoor.F
open Go.RowKit Go.Proofs.YtailpfcbdopfeaaGreatDoorW.PrintWords Go.Proofs.YtailpfcbdopfeaaGreatDoorW.PrintLast Go.Proofs.YtailpfcbdopfeaaGreatDoorW.PrintMore
set_option linter.unusedVariables false
set_option linter.unusedSimpArgs false
def awT : ByteArray := ⟨#[50, 32, 50, 32, 49, 32, 49, 59, 32, 80, 40, 48, 41, 59, 32, 48, 32, 48, 32, 48, 32, 48, 32, 49, 59, 32, 48, 32, 49, 32, 49, 32, 49, 32, 48]⟩
def awL : S42 := ⟨0, false, ⟨#[80]⟩, [0]⟩
def awS : List S69 := [⟨0, 0, 0, 0, 1⟩, ⟨0, 1, 1, 1, 0⟩]
def awHd : ByteArray := ⟨#[50, 32, 50, 32, 49, 32, 49]⟩
def awRest : ByteArray := ⟨#[32, 80, 40, 48, 41, 59, 32, 48, 32, 48, 32, 48, 32, 48, 32, 49, 59, 32, 48, 32, 49, 32, 49, 32, 49, 32, 48]⟩
def awP0 : ByteArray := ⟨#[32, 80, 40, 48, 41]⟩
def awP1 : ByteArray := ⟨#[48, 32, 48, 32, 48, 32, 48, 32, 49]⟩
def awP2 : ByteArray := ⟨#[48, 32, 49, 32, 49, 32, 49, 32, 48]⟩
def awW : ByteArray := ⟨#[80, 40, 48, 41]⟩
theorem aw_cut : (awHd, awRest, true) = cutL awT ⟨#[59]⟩ := by kernel_rfl
theorem aw_split : splitL awRest ⟨#[59, 32]⟩ = [awP0, awP1, awP2] := by kernel_rfl
theorem aw_fields : fieldsL awP0 = [awW] := by kernel_rfl
theorem aw_hd : splitL awHd ⟨#[32]⟩ = [⟨#[50]⟩, ⟨#[50]⟩, ⟨#[49]⟩, ⟨#[49]⟩] := by kernel_rfl
theorem aw_p1 : splitL awP1 ⟨#[32]⟩ = [⟨#[48]⟩, ⟨#[48]⟩, ⟨#[48]⟩, ⟨#[48]⟩, ⟨#[49]⟩] := by kernel_rfl
theorem aw_p2 : splitL awP2 ⟨#[32]⟩ = [⟨#[48]⟩, ⟨#[49]⟩, ⟨#[49]⟩, ⟨#[49]⟩, ⟨#[48]⟩] := by kernel_rfl
theorem aw_n0 : numB ⟨#[48]⟩ = some 0 := by kernel_rfl
theorem aw_n1 : numB ⟨#[49]⟩ = some 1 := by kernel_rfl
theorem aw_n2 : numB ⟨#[50]⟩ = some 2 := by kernel_rfl
theorem aw_i0 : mkB (Lib.itoa 0) = ⟨#[48]⟩ := by kernel_rfl
theorem aw_text : mkB (tapeT 2 2 1 1 [awL] awS) = awT := by kernel_rfl
theorem aw_s1 : mkB (Lib.trimPrefix awW.data.toList [33]) = awW := by kernel_rfl
theorem aw_pre : Lib.hasPrefix awW.data.toList [33] = false := by kernel_rfl
theorem aw_c : cutL awW ⟨#[40]⟩ = (⟨#[80]⟩, ⟨#[48, 41]⟩, true) := by kernel_rfl
theorem aw_suf : Lib.hasSuffix (⟨#[48, 41]⟩ : ByteArray).data.toList [41] = true := by kernel_rfl
theorem aw_r1 : mkB (Lib.trimSuffix (⟨#[48, 41]⟩ : ByteArray).data.toList [41]) = ⟨#[48]⟩ := by kernel_rfl
theorem aw_sp : splitL ⟨#[48]⟩ ⟨#[44]⟩ = [⟨#[48]⟩] := by kernel_rfl
end Go.Proofs.YtailpfcbdopfeaaGreatDoor.F
/- tape.Parse at the example's text. -/
namespace Go.Proofs.YtailpfcbdopfeaaGreatDoor.F
open Go.RowKit Go.Proofs.YtailpfcbdopfeaaGreatDoorW.PrintWords Go.Proofs.YtailpfcbdopfeaaGreatDoorW.PrintLast Go.Proofs.YtailpfcbdopfeaaGreatDoorW.PrintMore
set_option linter.unusedVariables false
set_option linter.unusedSimpArgs false
theorem each_nil {α β : Type} (R : α → β → Prop) : Each R [] [] := ⟨rfl, fun j x y h => by simp at h⟩
theorem each_cons {α β : Type} {R : α → β → Prop} {x : α} {y : β} {xs : List α} {ys : List β} (h : R x y) (hs : Each R xs ys) : Each R (x :: xs) (y :: ys) := by
  refine ⟨by simp [hs.1], fun j a b ha hb => ?_⟩
  cases j with
  | zero =>
    simp at ha hb
    subst ha
    subst hb
    exact h
  | succ j => exact hs.2 j a b (by simpa using ha) (by simpa using hb)
theorem aw_lit : LitC awW awL := by
  refine ⟨by decide, fun l' b h => ?_⟩
  have h1 := h.rel awW aw_s1.symm (by rw [aw_c]) ⟨#[48]⟩ (by rw [aw_c, aw_r1]) (by rw [aw_c]; exact aw_suf)
  rw [aw_c, aw_pre] at h1
  obtain ⟨e0, e2, e1, h3⟩ := h1
  rcases h3 with ⟨h3, _⟩ | ⟨_, h3⟩
  · cases h3
  · obtain ⟨e3, rfl⟩ := h3 [0] (by rw [aw_sp]; exact each_cons ⟨aw_n0, by omega, aw_i0.symm⟩ (each_nil _))
    refine ⟨?_, rfl⟩
    cases l'
    simp only at e0 e1 e2 e3
    rw [e0, e1, e2, e3]
    rfl
theorem aw_ok : TapeOk 2 2 1 1 [awL] awS where
  h0 := rfl
  h1 := rfl
  h2 := rfl
  h3 := rfl
  len4 := by decide
  pow := by decide
  len5 := by decide
  lit := fun l hl => by
    rw [List.mem_singleton] at hl
    subst hl
    kernel_rfl
  step := fun x hx => by
    simp only [awS, List.mem_cons, List.not_mem_nil, or_false] at hx
    rcases hx with rfl | rfl <;> rfl
  nodup := by decide
  sym := fun x hx y hy _ _ _ => by
    rw [List.mem_singleton] at hx hy
    rw [hx, hy]
theorem aw_wr : OkM 2 2 1 1 [awL] awS where
  hd := fun x hx => by
    simp only [List.mem_cons, List.not_mem_nil, or_false] at hx
    unfold okN
    omega
  word := fun l hl => by
    rw [List.mem_singleton] at hl
    subst hl
    exact ⟨5, by kernel_rfl⟩
  short := fun l hl => by
    rw [List.mem_singleton] at hl
    subst hl
    have : litT awL = [80, 40, 48, 41] := by kernel_rfl
    rw [this]
    decide
  step := fun x hx y hy => by
    simp only [awS, List.mem_cons, List.not_mem_nil, or_false] at hx
    rcases hx with rfl | rfl <;> simp only [stepL, List.mem_cons, List.not_mem_nil, or_false] at hy <;> unfold okN <;> omega
  len := by decide
theorem aw_H : ParseH awT 2 2 1 1 [awL] awS where
  size := by decide
  ex := ⟨awHd, awRest, awP0, [awP1, awP2], [awW], aw_cut, by rw [aw_hd]; exact each_cons aw_n2 (each_cons aw_n2 (each_cons aw_n1 (each_cons aw_n1 (each_nil _)))), aw_split, by decide, aw_fields, each_cons aw_lit (each_nil _),
    each_cons ⟨by decide, by rw [aw_p1]; exact each_cons aw_n0 (each_cons aw_n0 (each_cons aw_n0 (each_cons aw_n0 (each_cons aw_n1 (each_nil _)))))⟩ (each_cons ⟨by decide, by rw [aw_p2]; exact each_cons aw_n0 (each_cons aw_n1 (each_cons aw_n1 (each_cons aw_n1 (each_cons aw_n0 (each_nil _)))))⟩ (each_nil _))⟩
  ok := aw_ok
  wr := aw_wr
  text := aw_text
  sizes := fun x hx => by
    rw [List.mem_singleton] at hx
    subst hx
    exact ⟨by decide, by decide⟩
  nums := fun x hx y hy => by
    simp only [awS, List.mem_cons, List.not_mem_nil, or_false] at hx
    rcases hx with rfl | rfl <;> simp only [List.mem_cons, List.not_mem_nil, or_false] at hy <;> rcases hy with rfl | rfl | rfl | rfl | rfl <;> rfl
/-- What tape.Parse answers at the example's text, for the printer. -/
def tape_Parse.f (k : Nat) (s : ByteArray) : Option (Int × Int × Int × Int × List S42 × List S69 × Int) := if s = awT then some (2, 2, 1, 1, [awL], awS, 0) else none
theorem tape_Parse.mono : ∀ s k, LeO (tape_Parse.f k s) (tape_Parse.f (k + 1) s) := fun _ _ => LeO.refl _
theorem tape_Parse.calls (k : Nat) (s : ByteArray) (n0 n1 n2 n3 : Int) (ls : List S42) (ss : List S69) (r : Int) (w : World) (hG : Glob w) (h : tape_Parse.f k s = some (n0, n1, n2, n3, ls, ss, r)) :
    Calls Tryz.prog 12 #[.string s] w fun e w' => ∃ v4 v5, e = .returned (.tuple #[.agg #[.int .i64 n0, .int .i64 n1, .int .i64 n2, .int .i64 n3, v4, v5], .int .i64 r]) ∧ k42.R 42 w' w.heap.size (fun _ => True) v4 ls ∧ k69.R 69 w' w.heap.size (fun _ => True) v5 ss ∧ Below w.heap.size w w' := by
  unfold tape_Parse.f at h
  split at h
  · rename_i hs
    subst hs
    injection h with h
    simp only [Prod.mk.injEq] at h
    obtain ⟨rfl, rfl, rfl, rfl, rfl, rfl, rfl⟩ := h
    exact parse_calls awT 2 2 1 1 [awL] awS aw_H w hG
  · cases h
end Go.Proofs.YtailpfcbdopfeaaGreatDoor.F
namespace Go.Proofs.YtailpfcbdopfeaaGreatDoor.F
open Go.RowKit Go.Proofs.YtailpfcbdopfeaaGreatDoorW.PrintWords Go.Proofs.YtailpfcbdopfeaaGreatDoorW.PrintLast Go.Proofs.YtailpfcbdopfeaaGreatDoorW.PrintMore
attribute [local go_sem] max2_int min2_int max_two min_two max_three min_three max_four min_four
set_option linter.unusedVariables false
set_option linter.unusedSimpArgs false
/-! ### paraphrastlaw18_Awake: function 5 -/
noncomputable def paraphrastlaw18_Awake.f (k : Nat)  : Option (Bool) := (tape_Parse.f k (⟨#[50, 32, 50, 32, 49, 32, 49, 59, 32, 80, 40, 48, 41, 59, 32, 48, 32, 48, 32, 48, 32, 48, 32, 49, 59, 32, 48, 32, 49, 32, 49, 32, 49, 32, 48]⟩ : ByteArray)).bind fun bt124 => ((guess_Relations.f k bt124.1 bt124.2.1 bt124.2.2.1 bt124.2.2.2.1 bt124.2.2.2.2.1 bt124.2.2.2.2.2.1).bind fun bt136 => ((guess_Guesses.f k bt124.1 bt124.2.1 bt124.2.2.1 bt124.2.2.2.1 bt124.2.2.2.2.1 bt124.2.2.2.2.2.1 2).bind fun bt140 => (if bt124.2.2.2.2.2.2 = 0 then (if bt136.2 = 0 then (if bt140.2 = 0 then (if bt140.1 = 10 then ((paraphrastref12_SameSymbols.f k bt136.1 (([(⟨(⟨#[89, 49]⟩ : ByteArray), 2⟩ : S46), (⟨(⟨#[72]⟩ : ByteArray), 2⟩ : S46), (⟨(⟨#[90, 49]⟩ : ByteArray), 1⟩ : S46)] : List (S46)))).bind fun t145 => (some t145)) else (some false)) else (some false)) else (some false)) else (some false))))
theorem paraphrastlaw18_Awake.mono : ∀ k, LeO (paraphrastlaw18_Awake.f k ) (paraphrastlaw18_Awake.f (k + 1) ) := by
 intro  k
 unfold paraphrastlaw18_Awake.f
 repeat' first
   | (with_reducible exact guess_Guesses.mono _ _ _ _ _ _ _ _)
   | (with_reducible exact guess_Relations.mono _ _ _ _ _ _ _)
   | (with_reducible exact paraphrastref12_SameSymbols.mono _ _ _)
   | (with_reducible exact tape_Parse.mono _ _)
   | (with_reducible exact LeO.refl _)
   | (with_reducible exact LeO.none _)
   | (with_reducible refine LeO.ite ?_ ?_)
   | (with_reducible refine LeO.bind ?_ (fun _ => ?_))
   | exact guess_Guesses.mono _ _ _ _ _ _ _ _
   | exact guess_Relations.mono _ _ _ _ _ _ _
   | exact paraphrastref12_SameSymbols.mono _ _ _
   | exact tape_Parse.mono _ _
   | exact LeO.none _
   | refine LeO.ite ?_ ?_
   | refine LeO.bind ?_ (fun _ => ?_)
set_option maxHeartbeats 8000000 in
set_option maxRecDepth 100000 in
theorem paraphrastlaw18_Awake.calls (k : Nat)  (r : Bool) (w : World) (hG : Glob w) (h : paraphrastlaw18_Awake.f k  = some r) :
  Calls Tryz.prog 5 #[] w fun e w' => e = .returned (.bool r) ∧ Below w.heap.size w w' := by
 have hu25 := Tryz.underlying25
 have hu46 := Tryz.underlying46
 have HG := Aside0.mk hG
 clear hG
 have HB := Aside0.mk (Below.refl w.heap.size w)
 have H : ((tape_Parse.f k (⟨#[50, 32, 50, 32, 49, 32, 49, 59, 32, 80, 40, 48, 41, 59, 32, 48, 32, 48, 32, 48, 32, 48, 32, 49, 59, 32, 48, 32, 49, 32, 49, 32, 49, 32, 48]⟩ : ByteArray)).bind fun bt124 => ((guess_Relations.f k bt124.1 bt124.2.1 bt124.2.2.1 bt124.2.2.2.1 bt124.2.2.2.2.1 bt124.2.2.2.2.2.1).bind fun bt136 => ((guess_Guesses.f k bt124.1 bt124.2.1 bt124.2.2.1 bt124.2.2.2.1 bt124.2.2.2.2.1 bt124.2.2.2.2.2.1 2).bind fun bt140 => (if bt124.2.2.2.2.2.2 = 0 then (if bt136.2 = 0 then (if bt140.2 = 0 then (if bt140.1 = 10 then ((paraphrastref12_SameSymbols.f k bt136.1 (([(⟨(⟨#[89, 49]⟩ : ByteArray), 2⟩ : S46), (⟨(⟨#[72]⟩ : ByteArray), 2⟩ : S46), (⟨(⟨#[90, 49]⟩ : ByteArray), 1⟩ : S46)] : List (S46)))).bind fun t145 => (some t145)) else (some false)) else (some false)) else (some false)) else (some false))))) = some r := h
 clear h
 replace H := Option.bind_eq_some_iff.mp H
 obtain ⟨⟨t124, t125, t126, t127, t128, t131, t134⟩, A10, H⟩ := H
 replace H : ((guess_Relations.f k t124 t125 t126 t127 t128 t131).bind fun bt136 => ((guess_Guesses.f k t124 t125 t126 t127 t128 t131 2).bind fun bt140 => (if t134 = 0 then (if bt136.2 = 0 then (if bt140.2 = 0 then (if bt140.1 = 10 then ((paraphrastref12_SameSymbols.f k bt136.1 (([(⟨(⟨#[89, 49]⟩ : ByteArray), 2⟩ : S46), (⟨(⟨#[72]⟩ : ByteArray), 2⟩ : S46), (⟨(⟨#[90, 49]⟩ : ByteArray), 1⟩ : S46)] : List (S46)))).bind fun t145 => (some t145)) else (some false)) else (some false)) else (some false)) else (some false)))) = some r := H
 have A1 := Aside0.mk A10
 clear A10
 replace H := Option.bind_eq_some_iff.mp H
 obtain ⟨⟨t136, t139⟩, A20, H⟩ := H
 replace H : ((guess_Guesses.f k t124 t125 t126 t127 t128 t131 2).bind fun bt140 => (if t134 = 0 then (if t139 = 0 then (if bt140.2 = 0 then (if bt140.1 = 10 then ((paraphrastref12_SameSymbols.f k t136 (([(⟨(⟨#[89, 49]⟩ : ByteArray), 2⟩ : S46), (⟨(⟨#[72]⟩ : ByteArray), 2⟩ : S46), (⟨(⟨#[90, 49]⟩ : ByteArray), 1⟩ : S46)] : List (S46)))).bind fun t145 => (some t145)) else (some false)) else (some false)) else (some false)) else (some false))) = some r := H
 have A2 := Aside0.mk A20
 clear A20
 replace H := Option.bind_eq_some_iff.mp H
 obtain ⟨⟨t140, t141⟩, A30, H⟩ := H
 replace H : (if t134 = 0 then (if t139 = 0 then (if t141 = 0 then (if t140 = 10 then ((paraphrastref12_SameSymbols.f k t136 (([(⟨(⟨#[89, 49]⟩ : ByteArray), 2⟩ : S46), (⟨(⟨#[72]⟩ : ByteArray), 2⟩ : S46), (⟨(⟨#[90, 49]⟩ : ByteArray), 1⟩ : S46)] : List (S46)))).bind fun t145 => (some t145)) else (some false)) else (some false)) else (some false)) else (some false)) = some r := H
 have A3 := Aside0.mk A30
 clear A30
 by_cases c4 : t134 = 0
 ·rw [if_pos c4] at H
  have c4b0 : (t134 == 0) = true := beq_iff_eq.mpr c4
  have c4b1 : (t134 != 0) = false := bne_eq_false_iff_eq.mpr c4
  clear c4
  by_cases c5 : t139 = 0
  ·rw [if_pos c5] at H
   have c5b0 : (t139 == 0) = true := beq_iff_eq.mpr c5
   have c5b1 : (t139 != 0) = false := bne_eq_false_iff_eq.mpr c5
   clear c5
   by_cases c6 : t141 = 0
   ·rw [if_pos c6] at H
    have c6b0 : (t141 == 0) = true := beq_iff_eq.mpr c6
    have c6b1 : (t141 != 0) = false := bne_eq_false_iff_eq.mpr c6
    clear c6
    by_cases c7 : t140 = 10
    ·rw [if_pos c7] at H
     have c7b0 : (t140 == 10) = true := beq_iff_eq.mpr c7
     have c7b1 : (t140 != 10) = false := bne_eq_false_iff_eq.mpr c7
     clear c7
     obtain ⟨y142, hy142⟩ : ∃ y_ : List (S46), y_ = (([(⟨(⟨#[89, 49]⟩ : ByteArray), 2⟩ : S46), (⟨(⟨#[72]⟩ : ByteArray), 2⟩ : S46), (⟨(⟨#[90, 49]⟩ : ByteArray), 1⟩ : S46)] : List (S46))) := ⟨_, rfl⟩
     replace H : ((paraphrastref12_SameSymbols.f k t136 y142).bind fun t145 => (some t145)) = some r := by first | (rw [hy142]; with_reducible exact H) | (have H2_ := (Option.bind_some _ _).symm.trans H; rw [hy142]; with_reducible exact H2_) | (have H2_ := (Option.bind_some _ _).symm.trans H; with_reducible exact H2_) | with_reducible exact H | (rw [hy142]; exact H) | exact H
     have Ny142 := Aside0.mk hy142
     clear hy142
     replace H := Option.bind_eq_some_iff.mp H
     obtain ⟨t145, A80, H⟩ := H
     replace H : (some t145) = some r := H
     have A8 := Aside0.mk A80
     clear A80
     obtain rfl := Option.some.inj H
     go_enter Tryz.func5, Tryz.ntmps5
     go_wp2_with (first | ((with_reducible refine gate_callee (f := 12) rfl ?_); refine gL (some 8) Tryz.func12 #[.string (⟨#[50, 32, 50, 32, 49, 32, 49, 59, 32, 80, 40, 48, 41, 59, 32, 48, 32, 48, 32, 48, 32, 48, 32, 49, 59, 32, 48, 32, 49, 32, 49, 32, 49, 32, 48]⟩ : ByteArray)] ?_; (with_reducible refine (tape_Parse.calls k (⟨#[50, 32, 50, 32, 49, 32, 49, 59, 32, 80, 40, 48, 41, 59, 32, 48, 32, 48, 32, 48, 32, 48, 32, 49, 59, 32, 48, 32, 49, 32, 49, 32, 49, 32, 48]⟩ : ByteArray) t124 t125 t126 t127 t128 t131 t134 _ ?side1 A1.out).mono ?_); (case side1 => first | exact HG.out | exact Glob.below HG.out bel); rintro e w9 ⟨v129, v132, rfl, ho0, ho1, hb⟩; refine ⟨_, rfl, ?_⟩; have HO130 := Aside0.mk (Kd.R_lower ho0 (below_size bel)); have HO133 := Aside0.mk (Kd.R_lower ho1 (below_size bel)); replace HB := Aside0.mk (below_step bel hb); (try clear hb); (try clear hb2); (try clear hk); (try clear hi); (try clear ho0); (try clear ho1)) | ((with_reducible refine gate_dst (N := 1) rfl ?_); (try (refine gate_guard (by rfl) ?_; dsimp only)); refine box_event ?hg (N := 1) ?hd (cs := #[.int .i64 0, .int .i64 0, .int .i64 0, .int .i64 0, .slice none 0 0, .slice none 0 0]) (t := 25) ?hr ?_; (case hd => rfl); (case hg => rfl); (case hr => first | (go_simp; done) | (go_simp; rfl)); intro gb135 hg w10 hbox hb; have BK135 := Aside0.mk (hbox); have GW135 := geB w hg; have GE135 := geB w hg; replace HO130 := rD HO130 hb; replace HO133 := rD HO133 hb; replace HB := Aside0.mk (below_step bel hb); clear hb hbox hg; have hcz11_0 : w10.cell? ⟨gb135, 0, none⟩ = some (.int .i64 0) := (blk_cell BK135.out 0).trans rfl; have hcz11_1 : w10.cell? ⟨gb135, 1, none⟩ = some (.int .i64 0) := (blk_cell BK135.out 1).trans rfl; have hcz11_2 : w10.cell? ⟨gb135, 2, none⟩ = some (.int .i64 0) := (blk_cell BK135.out 2).trans rfl; have hcz11_3 : w10.cell? ⟨gb135, 3, none⟩ = some (.int .i64 0) := (blk_cell BK135.out 3).trans rfl; have hcz11_4 : w10.cell? ⟨gb135, 4, none⟩ = some (.slice none 0 0) := (blk_cell BK135.out 4).trans rfl; have hcz11_5 : w10.cell? ⟨gb135, 5, none⟩ = some (.slice none 0 0) := (blk_cell BK135.out 5).trans rfl; have hfz11_0 := blk_frozen BK135.out 0; have hfz11_1 := blk_frozen BK135.out 1; have hfz11_2 := blk_frozen BK135.out 2; have hfz11_3 := blk_frozen BK135.out 3; have hfz11_4 := blk_frozen BK135.out 4; have hfz11_5 := blk_frozen BK135.out 5; obtain ⟨Ao12, co12, eo12⟩ := Kd.R_slice HO130.out; subst eo12; obtain ⟨Ao13, co13, eo13⟩ := Kd.R_slice HO133.out; subst eo13) | ((with_reducible refine gate_callee (f := 7) rfl ?_); refine gL (some 13) Tryz.func7 #[.agg #[.int .i64 t124, .int .i64 t125, .int .i64 t126, .int .i64 t127, .slice Ao12 t128.length co12, .slice Ao13 t131.length co13]] ?_; (with_reducible refine (guess_Relations.calls k t124 t125 t126 t127 _ _ t128 _ _ t131 t136 t139 _ ?side1 ?side2 ?side3 ?side4 ?side5 A2.out).mono ?_); (case side1 => first | exact HG.out | exact Glob.below HG.out bel); (case side2 => refine (Kd.R_reads' (e := 42) (base := w.heap.size) (ok := fun k_ => True) (n := t128.length) (c := co12) ?_).2.2; exact (by (with_reducible repeat (first | apply Kd.R_alloc | apply Kd.R_drewN | apply Kd.R_drew)); exact (Kd.R_mono (Kd.R_far (p := ⟨gb135, 5, none⟩) (Kd.R_far (p := ⟨gb135, 4, none⟩) (Kd.R_far (p := ⟨gb135, 3, none⟩) (Kd.R_far (p := ⟨gb135, 2, none⟩) (Kd.R_far (p := ⟨gb135, 1, none⟩) (Kd.R_far (p := ⟨gb135, 0, none⟩) (Kd.R_types HO130.out BK135.out (by decide)) (fun _ hk => hk.2) (.int .i64 t124)) (fun _ hk => hk.2) (.int .i64 t125)) (fun _ hk => hk.2) (.int .i64 t126)) (fun _ hk => hk.2) (.int .i64 t127)) (fun _ hk => hk.2) (.slice Ao12 t128.length co12)) (fun _ hk => hk.2) (.slice Ao13 t131.length co13)) (fun _ h_ => h_.1)))); (case side3 => exact (Kd.R_reads' HO130.out).2.1); (case side4 => refine (Kd.R_reads' (e := 69) (base := w.heap.size) (ok := fun k_ => True) (n := t131.length) (c := co13) ?_).2.2; exact (by (with_reducible repeat (first | apply Kd.R_alloc | apply Kd.R_drewN | apply Kd.R_drew)); exact (Kd.R_mono (Kd.R_far (p := ⟨gb135, 5, none⟩) (Kd.R_far (p := ⟨gb135, 4, none⟩) (Kd.R_far (p := ⟨gb135, 3, none⟩) (Kd.R_far (p := ⟨gb135, 2, none⟩) (Kd.R_far (p := ⟨gb135, 1, none⟩) (Kd.R_far (p := ⟨gb135, 0, none⟩) (Kd.R_types HO133.out BK135.out (by decide)) (fun _ hk => hk.2) (.int .i64 t124)) (fun _ hk => hk.2) (.int .i64 t125)) (fun _ hk => hk.2) (.int .i64 t126)) (fun _ hk => hk.2) (.int .i64 t127)) (fun _ hk => hk.2) (.slice Ao12 t128.length co12)) (fun _ hk => hk.2) (.slice Ao13 t131.length co13)) (fun _ h_ => h_.1)))); (case side5 => exact (Kd.R_reads' HO133.out).2.1); rintro e w14 ⟨v137, rfl, ho0, hb⟩; refine ⟨_, rfl, ?_⟩; have HO138 := Aside0.mk (Kd.R_lower ho0 (below_size bel)); replace HO130 := Aside0.mk (Kd.R_below (by (with_reducible repeat (first | apply Kd.R_alloc | apply Kd.R_drewN | apply Kd.R_drew)); exact (Kd.R_mono (Kd.R_far (p := ⟨gb135, 5, none⟩) (Kd.R_far (p := ⟨gb135, 4, none⟩) (Kd.R_far (p := ⟨gb135, 3, none⟩) (Kd.R_far (p := ⟨gb135, 2, none⟩) (Kd.R_far (p := ⟨gb135, 1, none⟩) (Kd.R_far (p := ⟨gb135, 0, none⟩) (Kd.R_types HO130.out BK135.out (by decide)) (fun _ hk => hk.2) (.int .i64 t124)) (fun _ hk => hk.2) (.int .i64 t125)) (fun _ hk => hk.2) (.int .i64 t126)) (fun _ hk => hk.2) (.int .i64 t127)) (fun _ hk => hk.2) (.slice Ao12 t128.length co12)) (fun _ hk => hk.2) (.slice Ao13 t131.length co13)) (fun _ h_ => h_.1))) hb); replace HO133 := Aside0.mk (Kd.R_below (by (with_reducible repeat (first | apply Kd.R_alloc | apply Kd.R_drewN | apply Kd.R_drew)); exact (Kd.R_mono (Kd.R_far (p := ⟨gb135, 5, none⟩) (Kd.R_far (p := ⟨gb135, 4, none⟩) (Kd.R_far (p := ⟨gb135, 3, none⟩) (Kd.R_far (p := ⟨gb135, 2, none⟩) (Kd.R_far (p := ⟨gb135, 1, none⟩) (Kd.R_far (p := ⟨gb135, 0, none⟩) (Kd.R_types HO133.out BK135.out (by decide)) (fun _ hk => hk.2) (.int .i64 t124)) (fun _ hk => hk.2) (.int .i64 t125)) (fun _ hk => hk.2) (.int .i64 t126)) (fun _ hk => hk.2) (.int .i64 t127)) (fun _ hk => hk.2) (.slice Ao12 t128.length co12)) (fun _ hk => hk.2) (.slice Ao13 t131.length co13)) (fun _ h_ => h_.1))) hb); replace BK135 := Aside0.mk (blk_below (g := gb135) (o := .cells #[.int .i64 t124, .int .i64 t125, .int .i64 t126, .int .i64 t127, .slice Ao12 t128.length co12, .slice Ao13 t131.length co13] 25 (0, 0)) (by (with_reducible repeat (first | refine blk_drewN ?_ _ | refine blk_drew ?_ | refine blk_alloc ?_ _)); refine blk_put (cs := #[.int .i64 t124, .int .i64 t125, .int .i64 t126, .int .i64 t127, .slice Ao12 t128.length co12, .slice none 0 0]) ?_ 5 _ rfl; (with_reducible repeat (first | refine blk_drewN ?_ _ | refine blk_drew ?_ | refine blk_alloc ?_ _)); refine blk_put (cs := #[.int .i64 t124, .int .i64 t125, .int .i64 t126, .int .i64 t127, .slice none 0 0, .slice none 0 0]) ?_ 4 _ rfl; (with_reducible repeat (first | refine blk_drewN ?_ _ | refine blk_drew ?_ | refine blk_alloc ?_ _)); refine blk_put (cs := #[.int .i64 t124, .int .i64 t125, .int .i64 t126, .int .i64 0, .slice none 0 0, .slice none 0 0]) ?_ 3 _ rfl; (with_reducible repeat (first | refine blk_drewN ?_ _ | refine blk_drew ?_ | refine blk_alloc ?_ _)); refine blk_put (cs := #[.int .i64 t124, .int .i64 t125, .int .i64 0, .int .i64 0, .slice none 0 0, .slice none 0 0]) ?_ 2 _ rfl; (with_reducible repeat (first | refine blk_drewN ?_ _ | refine blk_drew ?_ | refine blk_alloc ?_ _)); refine blk_put (cs := #[.int .i64 t124, .int .i64 0, .int .i64 0, .int .i64 0, .slice none 0 0, .slice none 0 0]) ?_ 1 _ rfl; (with_reducible repeat (first | refine blk_drewN ?_ _ | refine blk_drew ?_ | refine blk_alloc ?_ _)); refine blk_put (cs := #[.int .i64 0, .int .i64 0, .int .i64 0, .int .i64 0, .slice none 0 0, .slice none 0 0]) ?_ 0 _ rfl; (with_reducible repeat (first | refine blk_drewN ?_ _ | refine blk_drew ?_ | refine blk_alloc ?_ _)); exact BK135.out) hb); replace HB := Aside0.mk (below_step bel hb); (try clear hb); (try clear hb2); (try clear hk); (try clear hi); (try clear ho0); have hcz15_0 : w14.cell? ⟨gb135, 0, none⟩ = some (.int .i64 t124) := (blk_cell BK135.out 0).trans rfl; have hcz15_1 : w14.cell? ⟨gb135, 1, none⟩ = some (.int .i64 t125) := (blk_cell BK135.out 1).trans rfl; have hcz15_2 : w14.cell? ⟨gb135, 2, none⟩ = some (.int .i64 t126) := (blk_cell BK135.out 2).trans rfl; have hcz15_3 : w14.cell? ⟨gb135, 3, none⟩ = some (.int .i64 t127) := (blk_cell BK135.out 3).trans rfl; have hcz15_4 : w14.cell? ⟨gb135, 4, none⟩ = some (.slice Ao12 t128.length co12) := (blk_cell BK135.out 4).trans rfl; have hcz15_5 : w14.cell? ⟨gb135, 5, none⟩ = some (.slice Ao13 t131.length co13) := (blk_cell BK135.out 5).trans rfl; have hfz15_0 := blk_frozen BK135.out 0; have hfz15_1 := blk_frozen BK135.out 1; have hfz15_2 := blk_frozen BK135.out 2; have hfz15_3 := blk_frozen BK135.out 3; have hfz15_4 := blk_frozen BK135.out 4; have hfz15_5 := blk_frozen BK135.out 5) | ((with_reducible refine gate_callee (f := 8) rfl ?_); refine gL (some 18) Tryz.func8 #[.agg #[.int .i64 t124, .int .i64 t125, .int .i64 t126, .int .i64 t127, .slice Ao12 t128.length co12, .slice Ao13 t131.length co13], .int .i64 2] ?_; (with_reducible refine (guess_Guesses.calls k t124 t125 t126 t127 _ _ t128 _ _ t131 2 t140 t141 _ ?side1 ?side2 ?side3 ?side4 A3.out).mono ?_); (case side1 => exact cS (Kd.R_reads' HO130.out).2.2); (case side2 => exact (Kd.R_reads' HO130.out).2.1); (case side3 => exact cS (Kd.R_reads' HO133.out).2.2); (case side4 => exact (Kd.R_reads' HO133.out).2.1); rintro e w16 ⟨rfl, hb⟩; refine ⟨_, rfl, ?_⟩; replace HO130 := rD HO130 hb; replace HO133 := rD HO133 hb; replace HO138 := rD HO138 hb; replace BK135 := blB BK135 hb; replace HB := Aside0.mk (below_step bel hb); (try clear hb); (try clear hb2); (try clear hk); (try clear hi)) | ((with_reducible refine gate_dst (N := 40) rfl ?_); (try (refine gate_guard (by rfl) ?_; dsimp only)); refine Kd.R_lit k46 _ 46 ?hg (N := 40) ?hd (xs := ([(⟨(⟨#[89, 49]⟩ : ByteArray), 2⟩ : S46), (⟨(⟨#[72]⟩ : ByteArray), 2⟩ : S46), (⟨(⟨#[90, 49]⟩ : ByteArray), 1⟩ : S46)] : List (S46))) (inner := [.string (⟨#[89, 49]⟩ : ByteArray), .int .i64 2, .string (⟨#[72]⟩ : ByteArray), .int .i64 2, .string (⟨#[90, 49]⟩ : ByteArray), .int .i64 1]) (ok := fun _ => True) (okp := fun _ => True) ?hr ?hp (fun _ hk => hk) trivial (Below.refl _ _) (Nat.le_refl _) (by simp) ?_; (case hd => rfl); (case hg => rfl); (case hr => first | (go_simp; done) | (go_simp; rfl)); (case hp => exact (Reps.c2 (show Kd.M k46 _ _ _ (⟨(⟨#[89, 49]⟩ : ByteArray), 2⟩ : S46) [.string (⟨#[89, 49]⟩ : ByteArray), .int .i64 2] from (k46_mkM _ _ _ (⟨(⟨#[89, 49]⟩ : ByteArray), 2⟩ : S46) )) (Reps.c2 (show Kd.M k46 _ _ _ (⟨(⟨#[72]⟩ : ByteArray), 2⟩ : S46) [.string (⟨#[72]⟩ : ByteArray), .int .i64 2] from (k46_mkM _ _ _ (⟨(⟨#[72]⟩ : ByteArray), 2⟩ : S46) )) (Reps.c2 (show Kd.M k46 _ _ _ (⟨(⟨#[90, 49]⟩ : ByteArray), 1⟩ : S46) [.string (⟨#[90, 49]⟩ : ByteArray), .int .i64 1] from (k46_mkM _ _ _ (⟨(⟨#[90, 49]⟩ : ByteArray), 1⟩ : S46) )) (Reps.none _ _))))); intro v143 w17 ho18 hb hg_ hnew_; clear hg_ hnew_; (first | rw [← Ny142.out] at ho18 | (simp only [Int.reduceToNat] at ho18; rw [← Ny142.out] at ho18)); have HO144 := Aside0.mk (Kd.R_lower (Kd.R_new' ho18 (Kd.R_lt (tw HO138.out))) (below_size bel)); replace HO130 := rD HO130 hb; replace HO133 := rD HO133 hb; replace HO138 := Aside0.mk (Kd.R_elder' (tw HO138.out) (Kd.R_base ho18) hb); replace BK135 := blB BK135 hb; replace HB := Aside0.mk (below_step bel hb); clear hb ho18; obtain ⟨Ao19, co19, eo19⟩ := Kd.R_slice HO138.out; subst eo19; obtain ⟨Ao20, co20, eo20⟩ := Kd.R_slice HO144.out; subst eo20) | (go_at_call 9; (with_reducible refine (paraphrastref12_SameSymbols.calls k _ _ t136 _ _ y142 t145 _ ?side1 ?side2 ?side3 ?side4 A8.out).mono ?_); (case side1 => exact cS (Kd.R_reads' HO138.out).2.2); (case side2 => exact (Kd.R_reads' HO138.out).2.1); (case side3 => exact cS (Kd.R_reads' HO144.out).2.2); (case side4 => exact (Kd.R_reads' HO144.out).2.1); rintro e w' ⟨rfl, ⟨nd, rfl⟩⟩))
     go_ret
     exact ⟨eN, bel⟩
    ·rw [if_neg c7] at H
     have c7b0 : (t140 == 10) = false := beq_eq_false_iff_ne.mpr c7
     have c7b1 : (t140 != 10) = true := bne_iff_ne.mpr c7
     obtain rfl := Option.some.inj H
     go_enter Tryz.func5, Tryz.ntmps5
     go_wp2_with (first | ((with_reducible refine gate_callee (f := 12) rfl ?_); refine gL (some 8) Tryz.func12 #[.string (⟨#[50, 32, 50, 32, 49, 32, 49, 59, 32, 80, 40, 48, 41, 59, 32, 48, 32, 48, 32, 48, 32, 48, 32, 49, 59, 32, 48, 32, 49, 32, 49, 32, 49, 32, 48]⟩ : ByteArray)] ?_; (with_reducible refine (tape_Parse.calls k (⟨#[50, 32, 50, 32, 49, 32, 49, 59, 32, 80, 40, 48, 41, 59, 32, 48, 32, 48, 32, 48, 32, 48, 32, 49, 59, 32, 48, 32, 49, 32, 49, 32, 49, 32, 48]⟩ : ByteArray) t124 t125 t126 t127 t128 t131 t134 _ ?side1 A1.out).mono ?_); (case side1 => first | exact HG.out | exact Glob.below HG.out bel); rintro e w21 ⟨v129, v132, rfl, ho0, ho1, hb⟩; refine ⟨_, rfl, ?_⟩; have HO130 := Aside0.mk (Kd.R_lower ho0 (below_size bel)); have HO133 := Aside0.mk (Kd.R_lower ho1 (below_size bel)); replace HB := Aside0.mk (below_step bel hb); (try clear hb); (try clear hb2); (try clear hk); (try clear hi); (try clear ho0); (try clear ho1)) | ((with_reducible refine gate_dst (N := 1) rfl ?_); (try (refine gate_guard (by rfl) ?_; dsimp only)); refine box_event ?hg (N := 1) ?hd (cs := #[.int .i64 0, .int .i64 0, .int .i64 0, .int .i64 0, .slice none 0 0, .slice none 0 0]) (t := 25) ?hr ?_; (case hd => rfl); (case hg => rfl); (case hr => first | (go_simp; done) | (go_simp; rfl)); intro gb135 hg w22 hbox hb; have BK135 := Aside0.mk (hbox); have GW135 := geB w hg; have GE135 := geB w hg; replace HO130 := rD HO130 hb; replace HO133 := rD HO133 hb; replace HB := Aside0.mk (below_step bel hb); clear hb hbox hg; have hcz23_0 : w22.cell? ⟨gb135, 0, none⟩ = some (.int .i64 0) := (blk_cell BK135.out 0).trans rfl; have hcz23_1 : w22.cell? ⟨gb135, 1, none⟩ = some (.int .i64 0) := (blk_cell BK135.out 1).trans rfl; have hcz23_2 : w22.cell? ⟨gb135, 2, none⟩ = some (.int .i64 0) := (blk_cell BK135.out 2).trans rfl; have hcz23_3 : w22.cell? ⟨gb135, 3, none⟩ = some (.int .i64 0) := (blk_cell BK135.out 3).trans rfl; have hcz23_4 : w22.cell? ⟨gb135, 4, none⟩ = some (.slice none 0 0) := (blk_cell BK135.out 4).trans rfl; have hcz23_5 : w22.cell? ⟨gb135, 5, none⟩ = some (.slice none 0 0) := (blk_cell BK135.out 5).trans rfl; have hfz23_0 := blk_frozen BK135.out 0; have hfz23_1 := blk_frozen BK135.out 1; have hfz23_2 := blk_frozen BK135.out 2; have hfz23_3 := blk_frozen BK135.out 3; have hfz23_4 := blk_frozen BK135.out 4; have hfz23_5 := blk_frozen BK135.out 5; obtain ⟨Ao24, co24, eo24⟩ := Kd.R_slice HO130.out; subst eo24; obtain ⟨Ao25, co25, eo25⟩ := Kd.R_slice HO133.out; subst eo25) | ((with_reducible refine gate_callee (f := 7) rfl ?_); refine gL (some 13) Tryz.func7 #[.agg #[.int .i64 t124, .int .i64 t125, .int .i64 t126, .int .i64 t127, .slice Ao24 t128.length co24, .slice Ao25 t131.length co25]] ?_; (with_reducible refine (guess_Relations.calls k t124 t125 t126 t127 _ _ t128 _ _ t131 t136 t139 _ ?side1 ?side2 ?side3 ?side4 ?side5 A2.out).mono ?_); (case side1 => first | exact HG.out | exact Glob.below HG.out bel); (case side2 => refine (Kd.R_reads' (e := 42) (base := w.heap.size) (ok := fun k_ => True) (n := t128.length) (c := co24) ?_).2.2; exact (by (with_reducible repeat (first | apply Kd.R_alloc | apply Kd.R_drewN | apply Kd.R_drew)); exact (Kd.R_mono (Kd.R_far (p := ⟨gb135, 5, none⟩) (Kd.R_far (p := ⟨gb135, 4, none⟩) (Kd.R_far (p := ⟨gb135, 3, none⟩) (Kd.R_far (p := ⟨gb135, 2, none⟩) (Kd.R_far (p := ⟨gb135, 1, none⟩) (Kd.R_far (p := ⟨gb135, 0, none⟩) (Kd.R_types HO130.out BK135.out (by decide)) (fun _ hk => hk.2) (.int .i64 t124)) (fun _ hk => hk.2) (.int .i64 t125)) (fun _ hk => hk.2) (.int .i64 t126)) (fun _ hk => hk.2) (.int .i64 t127)) (fun _ hk => hk.2) (.slice Ao24 t128.length co24)) (fun _ hk => hk.2) (.slice Ao25 t131.length co25)) (fun _ h_ => h_.1)))); (case side3 => exact (Kd.R_reads' HO130.out).2.1); (case side4 => refine (Kd.R_reads' (e := 69) (base := w.heap.size) (ok := fun k_ => True) (n := t131.length) (c := co25) ?_).2.2; exact (by (with_reducible repeat (first | apply Kd.R_alloc | apply Kd.R_drewN | apply Kd.R_drew)); exact (Kd.R_mono (Kd.R_far (p := ⟨gb135, 5, none⟩) (Kd.R_far (p := ⟨gb135, 4, none⟩) (Kd.R_far (p := ⟨gb135, 3, none⟩) (Kd.R_far (p := ⟨gb135, 2, none⟩) (Kd.R_far (p := ⟨gb135, 1, none⟩) (Kd.R_far (p := ⟨gb135, 0, none⟩) (Kd.R_types HO133.out BK135.out (by decide)) (fun _ hk => hk.2) (.int .i64 t124)) (fun _ hk => hk.2) (.int .i64 t125)) (fun _ hk => hk.2) (.int .i64 t126)) (fun _ hk => hk.2) (.int .i64 t127)) (fun _ hk => hk.2) (.slice Ao24 t128.length co24)) (fun _ hk => hk.2) (.slice Ao25 t131.length co25)) (fun _ h_ => h_.1)))); (case side5 => exact (Kd.R_reads' HO133.out).2.1); rintro e w26 ⟨v137, rfl, ho0, hb⟩; refine ⟨_, rfl, ?_⟩; have HO138 := Aside0.mk (Kd.R_lower ho0 (below_size bel)); replace HO130 := Aside0.mk (Kd.R_below (by (with_reducible repeat (first | apply Kd.R_alloc | apply Kd.R_drewN | apply Kd.R_drew)); exact (Kd.R_mono (Kd.R_far (p := ⟨gb135, 5, none⟩) (Kd.R_far (p := ⟨gb135, 4, none⟩) (Kd.R_far (p := ⟨gb135, 3, none⟩) (Kd.R_far (p := ⟨gb135, 2, none⟩) (Kd.R_far (p := ⟨gb135, 1, none⟩) (Kd.R_far (p := ⟨gb135, 0, none⟩) (Kd.R_types HO130.out BK135.out (by decide)) (fun _ hk => hk.2) (.int .i64 t124)) (fun _ hk => hk.2) (.int .i64 t125)) (fun _ hk => hk.2) (.int .i64 t126)) (fun _ hk => hk.2) (.int .i64 t127)) (fun _ hk => hk.2) (.slice Ao24 t128.length co24)) (fun _ hk => hk.2) (.slice Ao25 t131.length co25)) (fun _ h_ => h_.1))) hb); replace HO133 := Aside0.mk (Kd.R_below (by (with_reducible repeat (first | apply Kd.R_alloc | apply Kd.R_drewN | apply Kd.R_drew)); exact (Kd.R_mono (Kd.R_far (p := ⟨gb135, 5, none⟩) (Kd.R_far (p := ⟨gb135, 4, none⟩) (Kd.R_far (p := ⟨gb135, 3, none⟩) (Kd.R_far (p := ⟨gb135, 2, none⟩) (Kd.R_far (p := ⟨gb135, 1, none⟩) (Kd.R_far (p := ⟨gb135, 0, none⟩) (Kd.R_types HO133.out BK135.out (by decide)) (fun _ hk => hk.2) (.int .i64 t124)) (fun _ hk => hk.2) (.int .i64 t125)) (fun _ hk => hk.2) (.int .i64 t126)) (fun _ hk => hk.2) (.int .i64 t127)) (fun _ hk => hk.2) (.slice Ao24 t128.length co24)) (fun _ hk => hk.2) (.slice Ao25 t131.length co25)) (fun _ h_ => h_.1))) hb); replace BK135 := Aside0.mk (blk_below (g := gb135) (o := .cells #[.int .i64 t124, .int .i64 t125, .int .i64 t126, .int .i64 t127, .slice Ao24 t128.length co24, .slice Ao25 t131.length co25] 25 (0, 0)) (by (with_reducible repeat (first | refine blk_drewN ?_ _ | refine blk_drew ?_ | refine blk_alloc ?_ _)); refine blk_put (cs := #[.int .i64 t124, .int .i64 t125, .int .i64 t126, .int .i64 t127, .slice Ao24 t128.length co24, .slice none 0 0]) ?_ 5 _ rfl; (with_reducible repeat (first | refine blk_drewN ?_ _ | refine blk_drew ?_ | refine blk_alloc ?_ _)); refine blk_put (cs := #[.int .i64 t124, .int .i64 t125, .int .i64 t126, .int .i64 t127, .slice none 0 0, .slice none 0 0]) ?_ 4 _ rfl; (with_reducible repeat (first | refine blk_drewN ?_ _ | refine blk_drew ?_ | refine blk_alloc ?_ _)); refine blk_put (cs := #[.int .i64 t124, .int .i64 t125, .int .i64 t126, .int .i64 0, .slice none 0 0, .slice none 0 0]) ?_ 3 _ rfl; (with_reducible repeat (first | refine blk_drewN ?_ _ | refine blk_drew ?_ | refine blk_alloc ?_ _)); refine blk_put (cs := #[.int .i64 t124, .int .i64 t125, .int .i64 0, .int .i64 0, .slice none 0 0, .slice none 0 0]) ?_ 2 _ rfl; (with_reducible repeat (first | refine blk_drewN ?_ _ | refine blk_drew ?_ | refine blk_alloc ?_ _)); refine blk_put (cs := #[.int .i64 t124, .int .i64 0, .int .i64 0, .int .i64 0, .slice none 0 0, .slice none 0 0]) ?_ 1 _ rfl; (with_reducible repeat (first | refine blk_drewN ?_ _ | refine blk_drew ?_ | refine blk_alloc ?_ _)); refine blk_put (cs := #[.int .i64 0, .int .i64 0, .int .i64 0, .int .i64 0, .slice none 0 0, .slice none 0 0]) ?_ 0 _ rfl; (with_reducible repeat (first | refine blk_drewN ?_ _ | refine blk_drew ?_ | refine blk_alloc ?_ _)); exact BK135.out) hb); replace HB := Aside0.mk (below_step bel hb); (try clear hb); (try clear hb2); (try clear hk); (try clear hi); (try clear ho0); have hcz27_0 : w26.cell? ⟨gb135, 0, none⟩ = some (.int .i64 t124) := (blk_cell BK135.out 0).trans rfl; have hcz27_1 : w26.cell? ⟨gb135, 1, none⟩ = some (.int .i64 t125) := (blk_cell BK135.out 1).trans rfl; have hcz27_2 : w26.cell? ⟨gb135, 2, none⟩ = some (.int .i64 t126) := (blk_cell BK135.out 2).trans rfl; have hcz27_3 : w26.cell? ⟨gb135, 3, none⟩ = some (.int .i64 t127) := (blk_cell BK135.out 3).trans rfl; have hcz27_4 : w26.cell? ⟨gb135, 4, none⟩ = some (.slice Ao24 t128.length co24) := (blk_cell BK135.out 4).trans rfl; have hcz27_5 : w26.cell? ⟨gb135, 5, none⟩ = some (.slice Ao25 t131.length co25) := (blk_cell BK135.out 5).trans rfl; have hfz27_0 := blk_frozen BK135.out 0; have hfz27_1 := blk_frozen BK135.out 1; have hfz27_2 := blk_frozen BK135.out 2; have hfz27_3 := blk_frozen BK135.out 3; have hfz27_4 := blk_frozen BK135.out 4; have hfz27_5 := blk_frozen BK135.out 5) | ((with_reducible refine gate_callee (f := 8) rfl ?_); refine gL (some 18) Tryz.func8 #[.agg #[.int .i64 t124, .int .i64 t125, .int .i64 t126, .int .i64 t127, .slice Ao24 t128.length co24, .slice Ao25 t131.length co25], .int .i64 2] ?_; (with_reducible refine (guess_Guesses.calls k t124 t125 t126 t127 _ _ t128 _ _ t131 2 t140 t141 _ ?side1 ?side2 ?side3 ?side4 A3.out).mono ?_); (case side1 => exact cS (Kd.R_reads' HO130.out).2.2); (case side2 => exact (Kd.R_reads' HO130.out).2.1); (case side3 => exact cS (Kd.R_reads' HO133.out).2.2); (case side4 => exact (Kd.R_reads' HO133.out).2.1); rintro e w28 ⟨rfl, hb⟩; refine ⟨_, rfl, ?_⟩; replace HO130 := rD HO130 hb; replace HO133 := rD HO133 hb; replace HO138 := rD HO138 hb; replace BK135 := blB BK135 hb; replace HB := Aside0.mk (below_step bel hb); (try clear hb); (try clear hb2); (try clear hk); (try clear hi)))
     go_ret
     exact ⟨eN, bel⟩
   ·rw [if_neg c6] at H
    have c6b0 : (t141 == 0) = false := beq_eq_false_iff_ne.mpr c6
    have c6b1 : (t141 != 0) = true := bne_iff_ne.mpr c6
    obtain rfl := Option.some.inj H
    go_enter Tryz.func5, Tryz.ntmps5
    go_wp2_with (first | ((with_reducible refine gate_callee (f := 12) rfl ?_); refine gL (some 8) Tryz.func12 #[.string (⟨#[50, 32, 50, 32, 49, 32, 49, 59, 32, 80, 40, 48, 41, 59, 32, 48, 32, 48, 32, 48, 32, 48, 32, 49, 59, 32, 48, 32, 49, 32, 49, 32, 49, 32, 48]⟩ : ByteArray)] ?_; (with_reducible refine (tape_Parse.calls k (⟨#[50, 32, 50, 32, 49, 32, 49, 59, 32, 80, 40, 48, 41, 59, 32, 48, 32, 48, 32, 48, 32, 48, 32, 49, 59, 32, 48, 32, 49, 32, 49, 32, 49, 32, 48]⟩ : ByteArray) t124 t125 t126 t127 t128 t131 t134 _ ?side1 A1.out).mono ?_); (case side1 => first | exact HG.out | exact Glob.below HG.out bel); rintro e w29 ⟨v129, v132, rfl, ho0, ho1, hb⟩; refine ⟨_, rfl, ?_⟩; have HO130 := Aside0.mk (Kd.R_lower ho0 (below_size bel)); have HO133 := Aside0.mk (Kd.R_lower ho1 (below_size bel)); replace HB := Aside0.mk (below_step bel hb); (try clear hb); (try clear hb2); (try clear hk); (try clear hi); (try clear ho0); (try clear ho1)) | ((with_reducible refine gate_dst (N := 1) rfl ?_); (try (refine gate_guard (by rfl) ?_; dsimp only)); refine box_event ?hg (N := 1) ?hd (cs := #[.int .i64 0, .int .i64 0, .int .i64 0, .int .i64 0, .slice none 0 0, .slice none 0 0]) (t := 25) ?hr ?_; (case hd => rfl); (case hg => rfl); (case hr => first | (go_simp; done) | (go_simp; rfl)); intro gb135 hg w30 hbox hb; have BK135 := Aside0.mk (hbox); have GW135 := geB w hg; have GE135 := geB w hg; replace HO130 := rD HO130 hb; replace HO133 := rD HO133 hb; replace HB := Aside0.mk (below_step bel hb); clear hb hbox hg; have hcz31_0 : w30.cell? ⟨gb135, 0, none⟩ = some (.int .i64 0) := (blk_cell BK135.out 0).trans rfl; have hcz31_1 : w30.cell? ⟨gb135, 1, none⟩ = some (.int .i64 0) := (blk_cell BK135.out 1).trans rfl; have hcz31_2 : w30.cell? ⟨gb135, 2, none⟩ = some (.int .i64 0) := (blk_cell BK135.out 2).trans rfl; have hcz31_3 : w30.cell? ⟨gb135, 3, none⟩ = some (.int .i64 0) := (blk_cell BK135.out 3).trans rfl; have hcz31_4 : w30.cell? ⟨gb135, 4, none⟩ = some (.slice none 0 0) := (blk_cell BK135.out 4).trans rfl; have hcz31_5 : w30.cell? ⟨gb135, 5, none⟩ = some (.slice none 0 0) := (blk_cell BK135.out 5).trans rfl; have hfz31_0 := blk_frozen BK135.out 0; have hfz31_1 := blk_frozen BK135.out 1; have hfz31_2 := blk_frozen BK135.out 2; have hfz31_3 := blk_frozen BK135.out 3; have hfz31_4 := blk_frozen BK135.out 4; have hfz31_5 := blk_frozen BK135.out 5; obtain ⟨Ao32, co32, eo32⟩ := Kd.R_slice HO130.out; subst eo32; obtain ⟨Ao33, co33, eo33⟩ := Kd.R_slice HO133.out; subst eo33) | ((with_reducible refine gate_callee (f := 7) rfl ?_); refine gL (some 13) Tryz.func7 #[.agg #[.int .i64 t124, .int .i64 t125, .int .i64 t126, .int .i64 t127, .slice Ao32 t128.length co32, .slice Ao33 t131.length co33]] ?_; (with_reducible refine (guess_Relations.calls k t124 t125 t126 t127 _ _ t128 _ _ t131 t136 t139 _ ?side1 ?side2 ?side3 ?side4 ?side5 A2.out).mono ?_); (case side1 => first | exact HG.out | exact Glob.below HG.out bel); (case side2 => refine (Kd.R_reads' (e := 42) (base := w.heap.size) (ok := fun k_ => True) (n := t128.length) (c := co32) ?_).2.2; exact (by (with_reducible repeat (first | apply Kd.R_alloc | apply Kd.R_drewN | apply Kd.R_drew)); exact (Kd.R_mono (Kd.R_far (p := ⟨gb135, 5, none⟩) (Kd.R_far (p := ⟨gb135, 4, none⟩) (Kd.R_far (p := ⟨gb135, 3, none⟩) (Kd.R_far (p := ⟨gb135, 2, none⟩) (Kd.R_far (p := ⟨gb135, 1, none⟩) (Kd.R_far (p := ⟨gb135, 0, none⟩) (Kd.R_types HO130.out BK135.out (by decide)) (fun _ hk => hk.2) (.int .i64 t124)) (fun _ hk => hk.2) (.int .i64 t125)) (fun _ hk => hk.2) (.int .i64 t126)) (fun _ hk => hk.2) (.int .i64 t127)) (fun _ hk => hk.2) (.slice Ao32 t128.length co32)) (fun _ hk => hk.2) (.slice Ao33 t131.length co33)) (fun _ h_ => h_.1)))); (case side3 => exact (Kd.R_reads' HO130.out).2.1); (case side4 => refine (Kd.R_reads' (e := 69) (base := w.heap.size) (ok := fun k_ => True) (n := t131.length) (c := co33) ?_).2.2; exact (by (with_reducible repeat (first | apply Kd.R_alloc | apply Kd.R_drewN | apply Kd.R_drew)); exact (Kd.R_mono (Kd.R_far (p := ⟨gb135, 5, none⟩) (Kd.R_far (p := ⟨gb135, 4, none⟩) (Kd.R_far (p := ⟨gb135, 3, none⟩) (Kd.R_far (p := ⟨gb135, 2, none⟩) (Kd.R_far (p := ⟨gb135, 1, none⟩) (Kd.R_far (p := ⟨gb135, 0, none⟩) (Kd.R_types HO133.out BK135.out (by decide)) (fun _ hk => hk.2) (.int .i64 t124)) (fun _ hk => hk.2) (.int .i64 t125)) (fun _ hk => hk.2) (.int .i64 t126)) (fun _ hk => hk.2) (.int .i64 t127)) (fun _ hk => hk.2) (.slice Ao32 t128.length co32)) (fun _ hk => hk.2) (.slice Ao33 t131.length co33)) (fun _ h_ => h_.1)))); (case side5 => exact (Kd.R_reads' HO133.out).2.1); rintro e w34 ⟨v137, rfl, ho0, hb⟩; refine ⟨_, rfl, ?_⟩; have HO138 := Aside0.mk (Kd.R_lower ho0 (below_size bel)); replace HO130 := Aside0.mk (Kd.R_below (by (with_reducible repeat (first | apply Kd.R_alloc | apply Kd.R_drewN | apply Kd.R_drew)); exact (Kd.R_mono (Kd.R_far (p := ⟨gb135, 5, none⟩) (Kd.R_far (p := ⟨gb135, 4, none⟩) (Kd.R_far (p := ⟨gb135, 3, none⟩) (Kd.R_far (p := ⟨gb135, 2, none⟩) (Kd.R_far (p := ⟨gb135, 1, none⟩) (Kd.R_far (p := ⟨gb135, 0, none⟩) (Kd.R_types HO130.out BK135.out (by decide)) (fun _ hk => hk.2) (.int .i64 t124)) (fun _ hk => hk.2) (.int .i64 t125)) (fun _ hk => hk.2) (.int .i64 t126)) (fun _ hk => hk.2) (.int .i64 t127)) (fun _ hk => hk.2) (.slice Ao32 t128.length co32)) (fun _ hk => hk.2) (.slice Ao33 t131.length co33)) (fun _ h_ => h_.1))) hb); replace HO133 := Aside0.mk (Kd.R_below (by (with_reducible repeat (first | apply Kd.R_alloc | apply Kd.R_drewN | apply Kd.R_drew)); exact (Kd.R_mono (Kd.R_far (p := ⟨gb135, 5, none⟩) (Kd.R_far (p := ⟨gb135, 4, none⟩) (Kd.R_far (p := ⟨gb135, 3, none⟩) (Kd.R_far (p := ⟨gb135, 2, none⟩) (Kd.R_far (p := ⟨gb135, 1, none⟩) (Kd.R_far (p := ⟨gb135, 0, none⟩) (Kd.R_types HO133.out BK135.out (by decide)) (fun _ hk => hk.2) (.int .i64 t124)) (fun _ hk => hk.2) (.int .i64 t125)) (fun _ hk => hk.2) (.int .i64 t126)) (fun _ hk => hk.2) (.int .i64 t127)) (fun _ hk => hk.2) (.slice Ao32 t128.length co32)) (fun _ hk => hk.2) (.slice Ao33 t131.length co33)) (fun _ h_ => h_.1))) hb); replace BK135 := Aside0.mk (blk_below (g := gb135) (o := .cells #[.int .i64 t124, .int .i64 t125, .int .i64 t126, .int .i64 t127, .slice Ao32 t128.length co32, .slice Ao33 t131.length co33] 25 (0, 0)) (by (with_reducible repeat (first | refine blk_drewN ?_ _ | refine blk_drew ?_ | refine blk_alloc ?_ _)); refine blk_put (cs := #[.int .i64 t124, .int .i64 t125, .int .i64 t126, .int .i64 t127, .slice Ao32 t128.length co32, .slice none 0 0]) ?_ 5 _ rfl; (with_reducible repeat (first | refine blk_drewN ?_ _ | refine blk_drew ?_ | refine blk_alloc ?_ _)); refine blk_put (cs := #[.int .i64 t124, .int .i64 t125, .int .i64 t126, .int .i64 t127, .slice none 0 0, .slice none 0 0]) ?_ 4 _ rfl; (with_reducible repeat (first | refine blk_drewN ?_ _ | refine blk_drew ?_ | refine blk_alloc ?_ _)); refine blk_put (cs := #[.int .i64 t124, .int .i64 t125, .int .i64 t126, .int .i64 0, .slice none 0 0, .slice none 0 0]) ?_ 3 _ rfl; (with_reducible repeat (first | refine blk_drewN ?_ _ | refine blk_drew ?_ | refine blk_alloc ?_ _)); refine blk_put (cs := #[.int .i64 t124, .int .i64 t125, .int .i64 0, .int .i64 0, .slice none 0 0, .slice none 0 0]) ?_ 2 _ rfl; (with_reducible repeat (first | refine blk_drewN ?_ _ | refine blk_drew ?_ | refine blk_alloc ?_ _)); refine blk_put (cs := #[.int .i64 t124, .int .i64 0, .int .i64 0, .int .i64 0, .slice none 0 0, .slice none 0 0]) ?_ 1 _ rfl; (with_reducible repeat (first | refine blk_drewN ?_ _ | refine blk_drew ?_ | refine blk_alloc ?_ _)); refine blk_put (cs := #[.int .i64 0, .int .i64 0, .int .i64 0, .int .i64 0, .slice none 0 0, .slice none 0 0]) ?_ 0 _ rfl; (with_reducible repeat (first | refine blk_drewN ?_ _ | refine blk_drew ?_ | refine blk_alloc ?_ _)); exact BK135.out) hb); replace HB := Aside0.mk (below_step bel hb); (try clear hb); (try clear hb2); (try clear hk); (try clear hi); (try clear ho0); have hcz35_0 : w34.cell? ⟨gb135, 0, none⟩ = some (.int .i64 t124) := (blk_cell BK135.out 0).trans rfl; have hcz35_1 : w34.cell? ⟨gb135, 1, none⟩ = some (.int .i64 t125) := (blk_cell BK135.out 1).trans rfl; have hcz35_2 : w34.cell? ⟨gb135, 2, none⟩ = some (.int .i64 t126) := (blk_cell BK135.out 2).trans rfl; have hcz35_3 : w34.cell? ⟨gb135, 3, none⟩ = some (.int .i64 t127) := (blk_cell BK135.out 3).trans rfl; have hcz35_4 : w34.cell? ⟨gb135, 4, none⟩ = some (.slice Ao32 t128.length co32) := (blk_cell BK135.out 4).trans rfl; have hcz35_5 : w34.cell? ⟨gb135, 5, none⟩ = some (.slice Ao33 t131.length co33) := (blk_cell BK135.out 5).trans rfl; have hfz35_0 := blk_frozen BK135.out 0; have hfz35_1 := blk_frozen BK135.out 1; have hfz35_2 := blk_frozen BK135.out 2; have hfz35_3 := blk_frozen BK135.out 3; have hfz35_4 := blk_frozen BK135.out 4; have hfz35_5 := blk_frozen BK135.out 5) | ((with_reducible refine gate_callee (f := 8) rfl ?_); refine gL (some 18) Tryz.func8 #[.agg #[.int .i64 t124, .int .i64 t125, .int .i64 t126, .int .i64 t127, .slice Ao32 t128.length co32, .slice Ao33 t131.length co33], .int .i64 2] ?_; (with_reducible refine (guess_Guesses.calls k t124 t125 t126 t127 _ _ t128 _ _ t131 2 t140 t141 _ ?side1 ?side2 ?side3 ?side4 A3.out).mono ?_); (case side1 => exact cS (Kd.R_reads' HO130.out).2.2); (case side2 => exact (Kd.R_reads' HO130.out).2.1); (case side3 => exact cS (Kd.R_reads' HO133.out).2.2); (case side4 => exact (Kd.R_reads' HO133.out).2.1); rintro e w36 ⟨rfl, hb⟩; refine ⟨_, rfl, ?_⟩; replace HO130 := rD HO130 hb; replace HO133 := rD HO133 hb; replace HO138 := rD HO138 hb; replace BK135 := blB BK135 hb; replace HB := Aside0.mk (below_step bel hb); (try clear hb); (try clear hb2); (try clear hk); (try clear hi)))
    go_ret
    exact ⟨eN, bel⟩
  ·rw [if_neg c5] at H
   have c5b0 : (t139 == 0) = false := beq_eq_false_iff_ne.mpr c5
   have c5b1 : (t139 != 0) = true := bne_iff_ne.mpr c5
   obtain rfl := Option.some.inj H
   go_enter Tryz.func5, Tryz.ntmps5
   go_wp2_with (first | ((with_reducible refine gate_callee (f := 12) rfl ?_); refine gL (some 8) Tryz.func12 #[.string (⟨#[50, 32, 50, 32, 49, 32, 49, 59, 32, 80, 40, 48, 41, 59, 32, 48, 32, 48, 32, 48, 32, 48, 32, 49, 59, 32, 48, 32, 49, 32, 49, 32, 49, 32, 48]⟩ : ByteArray)] ?_; (with_reducible refine (tape_Parse.calls k (⟨#[50, 32, 50, 32, 49, 32, 49, 59, 32, 80, 40, 48, 41, 59, 32, 48, 32, 48, 32, 48, 32, 48, 32, 49, 59, 32, 48, 32, 49, 32, 49, 32, 49, 32, 48]⟩ : ByteArray) t124 t125 t126 t127 t128 t131 t134 _ ?side1 A1.out).mono ?_); (case side1 => first | exact HG.out | exact Glob.below HG.out bel); rintro e w37 ⟨v129, v132, rfl, ho0, ho1, hb⟩; refine ⟨_, rfl, ?_⟩; have HO130 := Aside0.mk (Kd.R_lower ho0 (below_size bel)); have HO133 := Aside0.mk (Kd.R_lower ho1 (below_size bel)); replace HB := Aside0.mk (below_step bel hb); (try clear hb); (try clear hb2); (try clear hk); (try clear hi); (try clear ho0); (try clear ho1)) | ((with_reducible refine gate_dst (N := 1) rfl ?_); (try (refine gate_guard (by rfl) ?_; dsimp only)); refine box_event ?hg (N := 1) ?hd (cs := #[.int .i64 0, .int .i64 0, .int .i64 0, .int .i64 0, .slice none 0 0, .slice none 0 0]) (t := 25) ?hr ?_; (case hd => rfl); (case hg => rfl); (case hr => first | (go_simp; done) | (go_simp; rfl)); intro gb135 hg w38 hbox hb; have BK135 := Aside0.mk (hbox); have GW135 := geB w hg; have GE135 := geB w hg; replace HO130 := rD HO130 hb; replace HO133 := rD HO133 hb; replace HB := Aside0.mk (below_step bel hb); clear hb hbox hg; have hcz39_0 : w38.cell? ⟨gb135, 0, none⟩ = some (.int .i64 0) := (blk_cell BK135.out 0).trans rfl; have hcz39_1 : w38.cell? ⟨gb135, 1, none⟩ = some (.int .i64 0) := (blk_cell BK135.out 1).trans rfl; have hcz39_2 : w38.cell? ⟨gb135, 2, none⟩ = some (.int .i64 0) := (blk_cell BK135.out 2).trans rfl; have hcz39_3 : w38.cell? ⟨gb135, 3, none⟩ = some (.int .i64 0) := (blk_cell BK135.out 3).trans rfl; have hcz39_4 : w38.cell? ⟨gb135, 4, none⟩ = some (.slice none 0 0) := (blk_cell BK135.out 4).trans rfl; have hcz39_5 : w38.cell? ⟨gb135, 5, none⟩ = some (.slice none 0 0) := (blk_cell BK135.out 5).trans rfl; have hfz39_0 := blk_frozen BK135.out 0; have hfz39_1 := blk_frozen BK135.out 1; have hfz39_2 := blk_frozen BK135.out 2; have hfz39_3 := blk_frozen BK135.out 3; have hfz39_4 := blk_frozen BK135.out 4; have hfz39_5 := blk_frozen BK135.out 5; obtain ⟨Ao40, co40, eo40⟩ := Kd.R_slice HO130.out; subst eo40; obtain ⟨Ao41, co41, eo41⟩ := Kd.R_slice HO133.out; subst eo41) | ((with_reducible refine gate_callee (f := 7) rfl ?_); refine gL (some 13) Tryz.func7 #[.agg #[.int .i64 t124, .int .i64 t125, .int .i64 t126, .int .i64 t127, .slice Ao40 t128.length co40, .slice Ao41 t131.length co41]] ?_; (with_reducible refine (guess_Relations.calls k t124 t125 t126 t127 _ _ t128 _ _ t131 t136 t139 _ ?side1 ?side2 ?side3 ?side4 ?side5 A2.out).mono ?_); (case side1 => first | exact HG.out | exact Glob.below HG.out bel); (case side2 => refine (Kd.R_reads' (e := 42) (base := w.heap.size) (ok := fun k_ => True) (n := t128.length) (c := co40) ?_).2.2; exact (by (with_reducible repeat (first | apply Kd.R_alloc | apply Kd.R_drewN | apply Kd.R_drew)); exact (Kd.R_mono (Kd.R_far (p := ⟨gb135, 5, none⟩) (Kd.R_far (p := ⟨gb135, 4, none⟩) (Kd.R_far (p := ⟨gb135, 3, none⟩) (Kd.R_far (p := ⟨gb135, 2, none⟩) (Kd.R_far (p := ⟨gb135, 1, none⟩) (Kd.R_far (p := ⟨gb135, 0, none⟩) (Kd.R_types HO130.out BK135.out (by decide)) (fun _ hk => hk.2) (.int .i64 t124)) (fun _ hk => hk.2) (.int .i64 t125)) (fun _ hk => hk.2) (.int .i64 t126)) (fun _ hk => hk.2) (.int .i64 t127)) (fun _ hk => hk.2) (.slice Ao40 t128.length co40)) (fun _ hk => hk.2) (.slice Ao41 t131.length co41)) (fun _ h_ => h_.1)))); (case side3 => exact (Kd.R_reads' HO130.out).2.1); (case side4 => refine (Kd.R_reads' (e := 69) (base := w.heap.size) (ok := fun k_ => True) (n := t131.length) (c := co41) ?_).2.2; exact (by (with_reducible repeat (first | apply Kd.R_alloc | apply Kd.R_drewN | apply Kd.R_drew)); exact (Kd.R_mono (Kd.R_far (p := ⟨gb135, 5, none⟩) (Kd.R_far (p := ⟨gb135, 4, none⟩) (Kd.R_far (p := ⟨gb135, 3, none⟩) (Kd.R_far (p := ⟨gb135, 2, none⟩) (Kd.R_far (p := ⟨gb135, 1, none⟩) (Kd.R_far (p := ⟨gb135, 0, none⟩) (Kd.R_types HO133.out BK135.out (by decide)) (fun _ hk => hk.2) (.int .i64 t124)) (fun _ hk => hk.2) (.int .i64 t125)) (fun _ hk => hk.2) (.int .i64 t126)) (fun _ hk => hk.2) (.int .i64 t127)) (fun _ hk => hk.2) (.slice Ao40 t128.length co40)) (fun _ hk => hk.2) (.slice Ao41 t131.length co41)) (fun _ h_ => h_.1)))); (case side5 => exact (Kd.R_reads' HO133.out).2.1); rintro e w42 ⟨v137, rfl, ho0, hb⟩; refine ⟨_, rfl, ?_⟩; have HO138 := Aside0.mk (Kd.R_lower ho0 (below_size bel)); replace HO130 := Aside0.mk (Kd.R_below (by (with_reducible repeat (first | apply Kd.R_alloc | apply Kd.R_drewN | apply Kd.R_drew)); exact (Kd.R_mono (Kd.R_far (p := ⟨gb135, 5, none⟩) (Kd.R_far (p := ⟨gb135, 4, none⟩) (Kd.R_far (p := ⟨gb135, 3, none⟩) (Kd.R_far (p := ⟨gb135, 2, none⟩) (Kd.R_far (p := ⟨gb135, 1, none⟩) (Kd.R_far (p := ⟨gb135, 0, none⟩) (Kd.R_types HO130.out BK135.out (by decide)) (fun _ hk => hk.2) (.int .i64 t124)) (fun _ hk => hk.2) (.int .i64 t125)) (fun _ hk => hk.2) (.int .i64 t126)) (fun _ hk => hk.2) (.int .i64 t127)) (fun _ hk => hk.2) (.slice Ao40 t128.length co40)) (fun _ hk => hk.2) (.slice Ao41 t131.length co41)) (fun _ h_ => h_.1))) hb); replace HO133 := Aside0.mk (Kd.R_below (by (with_reducible repeat (first | apply Kd.R_alloc | apply Kd.R_drewN | apply Kd.R_drew)); exact (Kd.R_mono (Kd.R_far (p := ⟨gb135, 5, none⟩) (Kd.R_far (p := ⟨gb135, 4, none⟩) (Kd.R_far (p := ⟨gb135, 3, none⟩) (Kd.R_far (p := ⟨gb135, 2, none⟩) (Kd.R_far (p := ⟨gb135, 1, none⟩) (Kd.R_far (p := ⟨gb135, 0, none⟩) (Kd.R_types HO133.out BK135.out (by decide)) (fun _ hk => hk.2) (.int .i64 t124)) (fun _ hk => hk.2) (.int .i64 t125)) (fun _ hk => hk.2) (.int .i64 t126)) (fun _ hk => hk.2) (.int .i64 t127)) (fun _ hk => hk.2) (.slice Ao40 t128.length co40)) (fun _ hk => hk.2) (.slice Ao41 t131.length co41)) (fun _ h_ => h_.1))) hb); replace BK135 := Aside0.mk (blk_below (g := gb135) (o := .cells #[.int .i64 t124, .int .i64 t125, .int .i64 t126, .int .i64 t127, .slice Ao40 t128.length co40, .slice Ao41 t131.length co41] 25 (0, 0)) (by (with_reducible repeat (first | refine blk_drewN ?_ _ | refine blk_drew ?_ | refine blk_alloc ?_ _)); refine blk_put (cs := #[.int .i64 t124, .int .i64 t125, .int .i64 t126, .int .i64 t127, .slice Ao40 t128.length co40, .slice none 0 0]) ?_ 5 _ rfl; (with_reducible repeat (first | refine blk_drewN ?_ _ | refine blk_drew ?_ | refine blk_alloc ?_ _)); refine blk_put (cs := #[.int .i64 t124, .int .i64 t125, .int .i64 t126, .int .i64 t127, .slice none 0 0, .slice none 0 0]) ?_ 4 _ rfl; (with_reducible repeat (first | refine blk_drewN ?_ _ | refine blk_drew ?_ | refine blk_alloc ?_ _)); refine blk_put (cs := #[.int .i64 t124, .int .i64 t125, .int .i64 t126, .int .i64 0, .slice none 0 0, .slice none 0 0]) ?_ 3 _ rfl; (with_reducible repeat (first | refine blk_drewN ?_ _ | refine blk_drew ?_ | refine blk_alloc ?_ _)); refine blk_put (cs := #[.int .i64 t124, .int .i64 t125, .int .i64 0, .int .i64 0, .slice none 0 0, .slice none 0 0]) ?_ 2 _ rfl; (with_reducible repeat (first | refine blk_drewN ?_ _ | refine blk_drew ?_ | refine blk_alloc ?_ _)); refine blk_put (cs := #[.int .i64 t124, .int .i64 0, .int .i64 0, .int .i64 0, .slice none 0 0, .slice none 0 0]) ?_ 1 _ rfl; (with_reducible repeat (first | refine blk_drewN ?_ _ | refine blk_drew ?_ | refine blk_alloc ?_ _)); refine blk_put (cs := #[.int .i64 0, .int .i64 0, .int .i64 0, .int .i64 0, .slice none 0 0, .slice none 0 0]) ?_ 0 _ rfl; (with_reducible repeat (first | refine blk_drewN ?_ _ | refine blk_drew ?_ | refine blk_alloc ?_ _)); exact BK135.out) hb); replace HB := Aside0.mk (below_step bel hb); (try clear hb); (try clear hb2); (try clear hk); (try clear hi); (try clear ho0); have hcz43_0 : w42.cell? ⟨gb135, 0, none⟩ = some (.int .i64 t124) := (blk_cell BK135.out 0).trans rfl; have hcz43_1 : w42.cell? ⟨gb135, 1, none⟩ = some (.int .i64 t125) := (blk_cell BK135.out 1).trans rfl; have hcz43_2 : w42.cell? ⟨gb135, 2, none⟩ = some (.int .i64 t126) := (blk_cell BK135.out 2).trans rfl; have hcz43_3 : w42.cell? ⟨gb135, 3, none⟩ = some (.int .i64 t127) := (blk_cell BK135.out 3).trans rfl; have hcz43_4 : w42.cell? ⟨gb135, 4, none⟩ = some (.slice Ao40 t128.length co40) := (blk_cell BK135.out 4).trans rfl; have hcz43_5 : w42.cell? ⟨gb135, 5, none⟩ = some (.slice Ao41 t131.length co41) := (blk_cell BK135.out 5).trans rfl; have hfz43_0 := blk_frozen BK135.out 0; have hfz43_1 := blk_frozen BK135.out 1; have hfz43_2 := blk_frozen BK135.out 2; have hfz43_3 := blk_frozen BK135.out 3; have hfz43_4 := blk_frozen BK135.out 4; have hfz43_5 := blk_frozen BK135.out 5) | ((with_reducible refine gate_callee (f := 8) rfl ?_); refine gL (some 18) Tryz.func8 #[.agg #[.int .i64 t124, .int .i64 t125, .int .i64 t126, .int .i64 t127, .slice Ao40 t128.length co40, .slice Ao41 t131.length co41], .int .i64 2] ?_; (with_reducible refine (guess_Guesses.calls k t124 t125 t126 t127 _ _ t128 _ _ t131 2 t140 t141 _ ?side1 ?side2 ?side3 ?side4 A3.out).mono ?_); (case side1 => exact cS (Kd.R_reads' HO130.out).2.2); (case side2 => exact (Kd.R_reads' HO130.out).2.1); (case side3 => exact cS (Kd.R_reads' HO133.out).2.2); (case side4 => exact (Kd.R_reads' HO133.out).2.1); rintro e w44 ⟨rfl, hb⟩; refine ⟨_, rfl, ?_⟩; replace HO130 := rD HO130 hb; replace HO133 := rD HO133 hb; replace HO138 := rD HO138 hb; replace BK135 := blB BK135 hb; replace HB := Aside0.mk (below_step bel hb); (try clear hb); (try clear hb2); (try clear hk); (try clear hi)))
   go_ret
   exact ⟨eN, bel⟩
 ·rw [if_neg c4] at H
  have c4b0 : (t134 == 0) = false := beq_eq_false_iff_ne.mpr c4
  have c4b1 : (t134 != 0) = true := bne_iff_ne.mpr c4
  obtain rfl := Option.some.inj H
  go_enter Tryz.func5, Tryz.ntmps5
  go_wp2_with (first | ((with_reducible refine gate_callee (f := 12) rfl ?_); refine gL (some 8) Tryz.func12 #[.string (⟨#[50, 32, 50, 32, 49, 32, 49, 59, 32, 80, 40, 48, 41, 59, 32, 48, 32, 48, 32, 48, 32, 48, 32, 49, 59, 32, 48, 32, 49, 32, 49, 32, 49, 32, 48]⟩ : ByteArray)] ?_; (with_reducible refine (tape_Parse.calls k (⟨#[50, 32, 50, 32, 49, 32, 49, 59, 32, 80, 40, 48, 41, 59, 32, 48, 32, 48, 32, 48, 32, 48, 32, 49, 59, 32, 48, 32, 49, 32, 49, 32, 49, 32, 48]⟩ : ByteArray) t124 t125 t126 t127 t128 t131 t134 _ ?side1 A1.out).mono ?_); (case side1 => first | exact HG.out | exact Glob.below HG.out bel); rintro e w45 ⟨v129, v132, rfl, ho0, ho1, hb⟩; refine ⟨_, rfl, ?_⟩; have HO130 := Aside0.mk (Kd.R_lower ho0 (below_size bel)); have HO133 := Aside0.mk (Kd.R_lower ho1 (below_size bel)); replace HB := Aside0.mk (below_step bel hb); (try clear hb); (try clear hb2); (try clear hk); (try clear hi); (try clear ho0); (try clear ho1)) | ((with_reducible refine gate_dst (N := 1) rfl ?_); (try (refine gate_guard (by rfl) ?_; dsimp only)); refine box_event ?hg (N := 1) ?hd (cs := #[.int .i64 0, .int .i64 0, .int .i64 0, .int .i64 0, .slice none 0 0, .slice none 0 0]) (t := 25) ?hr ?_; (case hd => rfl); (case hg => rfl); (case hr => first | (go_simp; done) | (go_simp; rfl)); intro gb135 hg w46 hbox hb; have BK135 := Aside0.mk (hbox); have GW135 := geB w hg; have GE135 := geB w hg; replace HO130 := rD HO130 hb; replace HO133 := rD HO133 hb; replace HB := Aside0.mk (below_step bel hb); clear hb hbox hg; have hcz47_0 : w46.cell? ⟨gb135, 0, none⟩ = some (.int .i64 0) := (blk_cell BK135.out 0).trans rfl; have hcz47_1 : w46.cell? ⟨gb135, 1, none⟩ = some (.int .i64 0) := (blk_cell BK135.out 1).trans rfl; have hcz47_2 : w46.cell? ⟨gb135, 2, none⟩ = some (.int .i64 0) := (blk_cell BK135.out 2).trans rfl; have hcz47_3 : w46.cell? ⟨gb135, 3, none⟩ = some (.int .i64 0) := (blk_cell BK135.out 3).trans rfl; have hcz47_4 : w46.cell? ⟨gb135, 4, none⟩ = some (.slice none 0 0) := (blk_cell BK135.out 4).trans rfl; have hcz47_5 : w46.cell? ⟨gb135, 5, none⟩ = some (.slice none 0 0) := (blk_cell BK135.out 5).trans rfl; have hfz47_0 := blk_frozen BK135.out 0; have hfz47_1 := blk_frozen BK135.out 1; have hfz47_2 := blk_frozen BK135.out 2; have hfz47_3 := blk_frozen BK135.out 3; have hfz47_4 := blk_frozen BK135.out 4; have hfz47_5 := blk_frozen BK135.out 5; obtain ⟨Ao48, co48, eo48⟩ := Kd.R_slice HO130.out; subst eo48; obtain ⟨Ao49, co49, eo49⟩ := Kd.R_slice HO133.out; subst eo49) | ((with_reducible refine gate_callee (f := 7) rfl ?_); refine gL (some 13) Tryz.func7 #[.agg #[.int .i64 t124, .int .i64 t125, .int .i64 t126, .int .i64 t127, .slice Ao48 t128.length co48, .slice Ao49 t131.length co49]] ?_; (with_reducible refine (guess_Relations.calls k t124 t125 t126 t127 _ _ t128 _ _ t131 t136 t139 _ ?side1 ?side2 ?side3 ?side4 ?side5 A2.out).mono ?_); (case side1 => first | exact HG.out | exact Glob.below HG.out bel); (case side2 => refine (Kd.R_reads' (e := 42) (base := w.heap.size) (ok := fun k_ => True) (n := t128.length) (c := co48) ?_).2.2; exact (by (with_reducible repeat (first | apply Kd.R_alloc | apply Kd.R_drewN | apply Kd.R_drew)); exact (Kd.R_mono (Kd.R_far (p := ⟨gb135, 5, none⟩) (Kd.R_far (p := ⟨gb135, 4, none⟩) (Kd.R_far (p := ⟨gb135, 3, none⟩) (Kd.R_far (p := ⟨gb135, 2, none⟩) (Kd.R_far (p := ⟨gb135, 1, none⟩) (Kd.R_far (p := ⟨gb135, 0, none⟩) (Kd.R_types HO130.out BK135.out (by decide)) (fun _ hk => hk.2) (.int .i64 t124)) (fun _ hk => hk.2) (.int .i64 t125)) (fun _ hk => hk.2) (.int .i64 t126)) (fun _ hk => hk.2) (.int .i64 t127)) (fun _ hk => hk.2) (.slice Ao48 t128.length co48)) (fun _ hk => hk.2) (.slice Ao49 t131.length co49)) (fun _ h_ => h_.1)))); (case side3 => exact (Kd.R_reads' HO130.out).2.1); (case side4 => refine (Kd.R_reads' (e := 69) (base := w.heap.size) (ok := fun k_ => True) (n := t131.length) (c := co49) ?_).2.2; exact (by (with_reducible repeat (first | apply Kd.R_alloc | apply Kd.R_drewN | apply Kd.R_drew)); exact (Kd.R_mono (Kd.R_far (p := ⟨gb135, 5, none⟩) (Kd.R_far (p := ⟨gb135, 4, none⟩) (Kd.R_far (p := ⟨gb135, 3, none⟩) (Kd.R_far (p := ⟨gb135, 2, none⟩) (Kd.R_far (p := ⟨gb135, 1, none⟩) (Kd.R_far (p := ⟨gb135, 0, none⟩) (Kd.R_types HO133.out BK135.out (by decide)) (fun _ hk => hk.2) (.int .i64 t124)) (fun _ hk => hk.2) (.int .i64 t125)) (fun _ hk => hk.2) (.int .i64 t126)) (fun _ hk => hk.2) (.int .i64 t127)) (fun _ hk => hk.2) (.slice Ao48 t128.length co48)) (fun _ hk => hk.2) (.slice Ao49 t131.length co49)) (fun _ h_ => h_.1)))); (case side5 => exact (Kd.R_reads' HO133.out).2.1); rintro e w50 ⟨v137, rfl, ho0, hb⟩; refine ⟨_, rfl, ?_⟩; have HO138 := Aside0.mk (Kd.R_lower ho0 (below_size bel)); replace HO130 := Aside0.mk (Kd.R_below (by (with_reducible repeat (first | apply Kd.R_alloc | apply Kd.R_drewN | apply Kd.R_drew)); exact (Kd.R_mono (Kd.R_far (p := ⟨gb135, 5, none⟩) (Kd.R_far (p := ⟨gb135, 4, none⟩) (Kd.R_far (p := ⟨gb135, 3, none⟩) (Kd.R_far (p := ⟨gb135, 2, none⟩) (Kd.R_far (p := ⟨gb135, 1, none⟩) (Kd.R_far (p := ⟨gb135, 0, none⟩) (Kd.R_types HO130.out BK135.out (by decide)) (fun _ hk => hk.2) (.int .i64 t124)) (fun _ hk => hk.2) (.int .i64 t125)) (fun _ hk => hk.2) (.int .i64 t126)) (fun _ hk => hk.2) (.int .i64 t127)) (fun _ hk => hk.2) (.slice Ao48 t128.length co48)) (fun _ hk => hk.2) (.slice Ao49 t131.length co49)) (fun _ h_ => h_.1))) hb); replace HO133 := Aside0.mk (Kd.R_below (by (with_reducible repeat (first | apply Kd.R_alloc | apply Kd.R_drewN | apply Kd.R_drew)); exact (Kd.R_mono (Kd.R_far (p := ⟨gb135, 5, none⟩) (Kd.R_far (p := ⟨gb135, 4, none⟩) (Kd.R_far (p := ⟨gb135, 3, none⟩) (Kd.R_far (p := ⟨gb135, 2, none⟩) (Kd.R_far (p := ⟨gb135, 1, none⟩) (Kd.R_far (p := ⟨gb135, 0, none⟩) (Kd.R_types HO133.out BK135.out (by decide)) (fun _ hk => hk.2) (.int .i64 t124)) (fun _ hk => hk.2) (.int .i64 t125)) (fun _ hk => hk.2) (.int .i64 t126)) (fun _ hk => hk.2) (.int .i64 t127)) (fun _ hk => hk.2) (.slice Ao48 t128.length co48)) (fun _ hk => hk.2) (.slice Ao49 t131.length co49)) (fun _ h_ => h_.1))) hb); replace BK135 := Aside0.mk (blk_below (g := gb135) (o := .cells #[.int .i64 t124, .int .i64 t125, .int .i64 t126, .int .i64 t127, .slice Ao48 t128.length co48, .slice Ao49 t131.length co49] 25 (0, 0)) (by (with_reducible repeat (first | refine blk_drewN ?_ _ | refine blk_drew ?_ | refine blk_alloc ?_ _)); refine blk_put (cs := #[.int .i64 t124, .int .i64 t125, .int .i64 t126, .int .i64 t127, .slice Ao48 t128.length co48, .slice none 0 0]) ?_ 5 _ rfl; (with_reducible repeat (first | refine blk_drewN ?_ _ | refine blk_drew ?_ | refine blk_alloc ?_ _)); refine blk_put (cs := #[.int .i64 t124, .int .i64 t125, .int .i64 t126, .int .i64 t127, .slice none 0 0, .slice none 0 0]) ?_ 4 _ rfl; (with_reducible repeat (first | refine blk_drewN ?_ _ | refine blk_drew ?_ | refine blk_alloc ?_ _)); refine blk_put (cs := #[.int .i64 t124, .int .i64 t125, .int .i64 t126, .int .i64 0, .slice none 0 0, .slice none 0 0]) ?_ 3 _ rfl; (with_reducible repeat (first | refine blk_drewN ?_ _ | refine blk_drew ?_ | refine blk_alloc ?_ _)); refine blk_put (cs := #[.int .i64 t124, .int .i64 t125, .int .i64 0, .int .i64 0, .slice none 0 0, .slice none 0 0]) ?_ 2 _ rfl; (with_reducible repeat (first | refine blk_drewN ?_ _ | refine blk_drew ?_ | refine blk_alloc ?_ _)); refine blk_put (cs := #[.int .i64 t124, .int .i64 0, .int .i64 0, .int .i64 0, .slice none 0 0, .slice none 0 0]) ?_ 1 _ rfl; (with_reducible repeat (first | refine blk_drewN ?_ _ | refine blk_drew ?_ | refine blk_alloc ?_ _)); refine blk_put (cs := #[.int .i64 0, .int .i64 0, .int .i64 0, .int .i64 0, .slice none 0 0, .slice none 0 0]) ?_ 0 _ rfl; (with_reducible repeat (first | refine blk_drewN ?_ _ | refine blk_drew ?_ | refine blk_alloc ?_ _)); exact BK135.out) hb); replace HB := Aside0.mk (below_step bel hb); (try clear hb); (try clear hb2); (try clear hk); (try clear hi); (try clear ho0); have hcz51_0 : w50.cell? ⟨gb135, 0, none⟩ = some (.int .i64 t124) := (blk_cell BK135.out 0).trans rfl; have hcz51_1 : w50.cell? ⟨gb135, 1, none⟩ = some (.int .i64 t125) := (blk_cell BK135.out 1).trans rfl; have hcz51_2 : w50.cell? ⟨gb135, 2, none⟩ = some (.int .i64 t126) := (blk_cell BK135.out 2).trans rfl; have hcz51_3 : w50.cell? ⟨gb135, 3, none⟩ = some (.int .i64 t127) := (blk_cell BK135.out 3).trans rfl; have hcz51_4 : w50.cell? ⟨gb135, 4, none⟩ = some (.slice Ao48 t128.length co48) := (blk_cell BK135.out 4).trans rfl; have hcz51_5 : w50.cell? ⟨gb135, 5, none⟩ = some (.slice Ao49 t131.length co49) := (blk_cell BK135.out 5).trans rfl; have hfz51_0 := blk_frozen BK135.out 0; have hfz51_1 := blk_frozen BK135.out 1; have hfz51_2 := blk_frozen BK135.out 2; have hfz51_3 := blk_frozen BK135.out 3; have hfz51_4 := blk_frozen BK135.out 4; have hfz51_5 := blk_frozen BK135.out 5) | ((with_reducible refine gate_callee (f := 8) rfl ?_); refine gL (some 18) Tryz.func8 #[.agg #[.int .i64 t124, .int .i64 t125, .int .i64 t126, .int .i64 t127, .slice Ao48 t128.length co48, .slice Ao49 t131.length co49], .int .i64 2] ?_; (with_reducible refine (guess_Guesses.calls k t124 t125 t126 t127 _ _ t128 _ _ t131 2 t140 t141 _ ?side1 ?side2 ?side3 ?side4 A3.out).mono ?_); (case side1 => exact cS (Kd.R_reads' HO130.out).2.2); (case side2 => exact (Kd.R_reads' HO130.out).2.1); (case side3 => exact cS (Kd.R_reads' HO133.out).2.2); (case side4 => exact (Kd.R_reads' HO133.out).2.1); rintro e w52 ⟨rfl, hb⟩; refine ⟨_, rfl, ?_⟩; replace HO130 := rD HO130 hb; replace HO133 := rD HO133 hb; replace HO138 := rD HO138 hb; replace BK135 := blB BK135 hb; replace HB := Aside0.mk (below_step bel hb); (try clear hb); (try clear hb2); (try clear hk); (try clear hi)))
  go_ret
  exact ⟨eN, bel⟩
end Go.Proofs.YtailpfcbdopfeaaGreatDoor.F
/- GuessRelations, the plain law: the example holds. -/
namespace Go.Proofs.YtailpfcbdopfeaaGreatDoor.F
open Go.RowKit Go.Proofs.YtailpfcbdopfeaaGreatDoorW.PrintWords Go.Proofs.YtailpfcbdopfeaaGreatDoorW.PrintLast Go.Proofs.YtailpfcbdopfeaaGreatDoorW.PrintMore
set_option linter.unusedVariables false
set_option linter.unusedSimpArgs false
theorem aw_rels : relsE 2 2 1 1 [awL] awS = ([⟨⟨#[89, 49]⟩, 2⟩, ⟨⟨#[72]⟩, 2⟩, ⟨⟨#[90, 49]⟩, 1⟩], 0) := by
  unfold relsE
  have h1 : relsB 2 2 1 1 [awL] = [⟨⟨#[89, 49]⟩, 2⟩, ⟨⟨#[72]⟩, 2⟩, ⟨⟨#[90, 49]⟩, 1⟩] := by kernel_rfl
  have h2 : ([⟨⟨#[89, 49]⟩, 2⟩, ⟨⟨#[72]⟩, 2⟩, ⟨⟨#[90, 49]⟩, 1⟩] : List S46).any (fun s => !nameB s.f0) = false := by kernel_rfl
  rw [if_pos aw_ok, h1, h2, if_neg (by simp)]
theorem aw_rf : guess_Relations.f 20 2 2 1 1 [awL] awS = some (relsE 2 2 1 1 [awL] awS) := by
  unfold guess_Relations.f
  rw [if_pos aw_H.nums]
theorem aw_gs : guess_Guesses.f 20 2 2 1 1 [awL] awS 2 = some (10, 0) := by kernel_rfl
theorem aw_same : paraphrastref12_SameSymbols.f 20 [⟨⟨#[89, 49]⟩, 2⟩, ⟨⟨#[72]⟩, 2⟩, ⟨⟨#[90, 49]⟩, 1⟩] [⟨⟨#[89, 49]⟩, 2⟩, ⟨⟨#[72]⟩, 2⟩, ⟨⟨#[90, 49]⟩, 1⟩] = some true := by kernel_rfl
theorem awake_eq : paraphrastlaw18_Awake.f 20 = some true := by
  unfold paraphrastlaw18_Awake.f
  have hq : tape_Parse.f 20 awT = some (2, 2, 1, 1, [awL], awS, 0) := by
    unfold tape_Parse.f
    exact if_pos rfl
  have hp : tape_Parse.f 20 (⟨#[50, 32, 50, 32, 49, 32, 49, 59, 32, 80, 40, 48, 41, 59, 32, 48, 32, 48, 32, 48, 32, 48, 32, 49, 59, 32, 48, 32, 49, 32, 49, 32, 49, 32, 48]⟩ : ByteArray) = some (2, 2, 1, 1, [awL], awS, 0) := hq
  rw [hp, Option.bind_some, aw_rf, Option.bind_some, aw_gs, Option.bind_some, aw_rels]
  rw [if_pos rfl, if_pos rfl, if_pos rfl, if_pos rfl, aw_same]
  rfl
end Go.Proofs.YtailpfcbdopfeaaGreatDoor.F
namespace Go.Proofs.YtailpfcbdopfeaaGreatDoor.F
open Go.RowKit Go.Proofs.YtailpfcbdopfeaaGreatDoorW.PrintWords Go.Proofs.YtailpfcbdopfeaaGreatDoorW.PrintLast Go.Proofs.YtailpfcbdopfeaaGreatDoorW.PrintMore
attribute [local go_sem] max2_int min2_int max_two min_two max_three min_three max_four min_four
set_option linter.unusedVariables false
set_option linter.unusedSimpArgs false
/-! ### paraphrastref01_Pow: function 10 -/
def paraphrastref01_Pow.l0 : Nat → Int → Int → Int → Int → Option (Int)
 | 0, _, _, _, _ => none
 | k + 1, x0, x1, x5, x6 => if x6 < x1 then (if x5 ≤ 4096 then (paraphrastref01_Pow.l0 k x0 x1 (wrap64 (x5 * x0)) (wrap64 (x6 + 1))) else (some x5)) else (some x5)
def paraphrastref01_Pow.f (k : Nat) (a0 : Int) (a1 : Int) : Option (Int) := paraphrastref01_Pow.l0 k a0 a1 1 0
theorem paraphrastref01_Pow.mono_l : ∀ k, (∀ y0 y1 y2 y3, LeO (paraphrastref01_Pow.l0 k y0 y1 y2 y3) (paraphrastref01_Pow.l0 (k + 1) y0 y1 y2 y3))
 | 0 => fun _ _ _ _ r h => by simp [paraphrastref01_Pow.l0] at h
 | k + 1 => by
  have ih0 := paraphrastref01_Pow.mono_l k
  ·intro y0 y1 y2 y3
   unfold paraphrastref01_Pow.l0
   repeat' first
   | (with_reducible exact ih0 _ _ _ _)
   | (with_reducible exact LeO.refl _)
   | (with_reducible exact LeO.none _)
   | (with_reducible refine LeO.ite ?_ ?_)
   | (with_reducible refine LeO.bind ?_ (fun _ => ?_))
   | exact ih0 _ _ _ _
   | exact LeO.none _
   | refine LeO.ite ?_ ?_
   | refine LeO.bind ?_ (fun _ => ?_)
theorem paraphrastref01_Pow.mono : ∀ a0 a1 k, LeO (paraphrastref01_Pow.f k a0 a1) (paraphrastref01_Pow.f (k + 1) a0 a1) := by
 intro a0 a1 k
 have ih0 := paraphrastref01_Pow.mono_l k
 unfold paraphrastref01_Pow.f
 repeat' first
   | (with_reducible exact ih0 _ _ _ _)
   | (with_reducible exact LeO.refl _)
   | (with_reducible exact LeO.none _)
   | (with_reducible refine LeO.ite ?_ ?_)
   | (with_reducible refine LeO.bind ?_ (fun _ => ?_))
   | exact ih0 _ _ _ _
   | exact LeO.none _
   | refine LeO.ite ?_ ?_
   | refine LeO.bind ?_ (fun _ => ?_)
set_option maxHeartbeats 8000000 in
set_option maxRecDepth 100000 in
theorem paraphrastref01_Pow.calls (k : Nat) (a0 : Int) (a1 : Int) (r : Int) (w : World) (h : paraphrastref01_Pow.f k a0 a1 = some r) :
  Calls Tryz.prog 10 #[.int .i64 a0, .int .i64 a1] w fun e w' => e = .returned (.int .i64 r) ∧ Drawn0 w w' := by
 have H : (paraphrastref01_Pow.l0 k a0 a1 1 0) = some r := h
 clear h
 have H' := Aside0.mk H
 clear H
 go_enter Tryz.func10, Tryz.ntmps10
 go_wp2
 go_loopg [5, 6] k (fun kq v5 v6 w' => ∃ (x5_1 : Int) (x6_1 : Int), v5 = .int .i64 x5_1 ∧ v6 = .int .i64 x6_1 ∧ Aside0 (paraphrastref01_Pow.l0 kq a0 a1 x5_1 x6_1 = some r) ∧ Aside0 (kq ≤ k) ∧ Drawn0 w w')
 case atStart => exact ⟨(1), (0), eS, eS, H', ⟨Nat.le_refl _⟩, dr0⟩
 case round =>
  clear H'
  obtain ⟨x5_1, x6_1, rfl, rfl, HA, HK1, ⟨m1, rfl⟩⟩ := hrel
  cases gk with
  | zero => exact absurd HA.out (by simp [paraphrastref01_Pow.l0])
  | succ k1 =>
   have H := HA.out
   clear HA
   simp only [paraphrastref01_Pow.l0] at H
   by_cases c3 : x6_1 < a1
   ·rw [if_pos c3] at H
    have c3b0 : decide (x6_1 < a1) = true := decide_eq_true c3
    clear c3
    by_cases c4 : x5_1 ≤ 4096
    ·rw [if_pos c4] at H
     have c4b0 : decide (x5_1 ≤ 4096) = true := decide_eq_true c4
     clear c4
     have H' := Aside0.mk H
     clear H
     go_wp2
     go_roundg k1
     case measure => have := HK1.out; omega
     case rel => exact ⟨(wrap64 (x5_1 * a0)), (wrap64 (x6_1 + 1)), eS, eS, H', ⟨by have := HK1.out; omega⟩, dr0⟩
    ·rw [if_neg c4] at H
     have c4b0 : decide (x5_1 ≤ 4096) = false := decide_eq_false c4
     clear c4
     obtain rfl := Option.some.inj H
     go_wp2
     go_ret
     exact ⟨eS, dr0⟩
   ·rw [if_neg c3] at H
    have c3b0 : decide (x6_1 < a1) = false := decide_eq_false c3
    clear c3
    obtain rfl := Option.some.inj H
    go_wp2
    go_ret
    exact ⟨eS, dr0⟩
end Go.Proofs.YtailpfcbdopfeaaGreatDoor.F
namespace Go.Proofs.YtailpfcbdopfeaaGreatDoor.F
open Go.RowKit Go.Proofs.YtailpfcbdopfeaaGreatDoorW.PrintWords Go.Proofs.YtailpfcbdopfeaaGreatDoorW.PrintLast Go.Proofs.YtailpfcbdopfeaaGreatDoorW.PrintMore
attribute [local go_sem] max2_int min2_int max_two min_two max_three min_three max_four min_four
set_option linter.unusedVariables false
set_option linter.unusedSimpArgs false
/-! ### paraphrastref18_Guesses: function 11 -/
def paraphrastref18_Guesses.f (k : Nat) (a0_0 : Int) (a0_1 : Int) (a0_2 : Int) (a0_3 : Int) (l0_4 : List (S42)) (l0_5 : List (S69)) (a1 : Int) : Option (Int) := (paraphrastref01_Pow.f k a1 a0_2).bind fun t220 => ((paraphrastref01_Pow.f k a1 a0_3).bind fun t221 => ((paraphrastref13_Bits.f k a0_1).bind fun t222 => ((paraphrastref13_Bits.f k a0_0).bind fun t223 => (some (wrap64 ((wrap64 ((wrap64 ((wrap64 (t222 + 1)) * t220)) * t221)) + (wrap64 (t223 * t221))))))))
set_option maxHeartbeats 8000000 in
set_option maxRecDepth 100000 in
theorem paraphrastref18_Guesses.calls (k : Nat) (a0_0 : Int) (a0_1 : Int) (a0_2 : Int) (a0_3 : Int) (A0_4 : Option Addr) (c0_4 : Nat) (l0_4 : List (S42)) (A0_5 : Option Addr) (c0_5 : Nat) (l0_5 : List (S69)) (a1 : Int) (r : Int) (w : World) (hr0_4 : Kd.C k42 w A0_4 l0_4.length l0_4) (hc0_4 : l0_4.length ≤ c0_4) (hr0_5 : Kd.C k69 w A0_5 l0_5.length l0_5) (hc0_5 : l0_5.length ≤ c0_5) (h : paraphrastref18_Guesses.f k a0_0 a0_1 a0_2 a0_3 l0_4 l0_5 a1 = some r) :
  Calls Tryz.prog 11 #[.agg #[.int .i64 a0_0, .int .i64 a0_1, .int .i64 a0_2, .int .i64 a0_3, .slice A0_4 l0_4.length c0_4, .slice A0_5 l0_5.length c0_5], .int .i64 a1] w fun e w' => e = .returned (.int .i64 r) ∧ Below w.heap.size w w' := by
 have hu25 := Tryz.underlying25
 have HR0_4 := Aside0.mk hr0_4
 have HC0_4 := Aside0.mk hc0_4
 clear hr0_4 hc0_4
 have HR0_5 := Aside0.mk hr0_5
 have HC0_5 := Aside0.mk hc0_5
 clear hr0_5 hc0_5
 have HB := Aside0.mk (Below.refl w.heap.size w)
 have H : ((paraphrastref01_Pow.f k a1 a0_2).bind fun t220 => ((paraphrastref01_Pow.f k a1 a0_3).bind fun t221 => ((paraphrastref13_Bits.f k a0_1).bind fun t222 => ((paraphrastref13_Bits.f k a0_0).bind fun t223 => (some (wrap64 ((wrap64 ((wrap64 ((wrap64 (t222 + 1)) * t220)) * t221)) + (wrap64 (t223 * t221))))))))) = some r := h
 clear h
 replace H := Option.bind_eq_some_iff.mp H
 obtain ⟨t220, A30, H⟩ := H
 replace H : ((paraphrastref01_Pow.f k a1 a0_3).bind fun t221 => ((paraphrastref13_Bits.f k a0_1).bind fun t222 => ((paraphrastref13_Bits.f k a0_0).bind fun t223 => (some (wrap64 ((wrap64 ((wrap64 ((wrap64 (t222 + 1)) * t220)) * t221)) + (wrap64 (t223 * t221)))))))) = some r := H
 have A3 := Aside0.mk A30
 clear A30
 replace H := Option.bind_eq_some_iff.mp H
 obtain ⟨t221, A40, H⟩ := H
 replace H : ((paraphrastref13_Bits.f k a0_1).bind fun t222 => ((paraphrastref13_Bits.f k a0_0).bind fun t223 => (some (wrap64 ((wrap64 ((wrap64 ((wrap64 (t222 + 1)) * t220)) * t221)) + (wrap64 (t223 * t221))))))) = some r := H
 have A4 := Aside0.mk A40
 clear A40
 replace H := Option.bind_eq_some_iff.mp H
 obtain ⟨t222, A50, H⟩ := H
 replace H : ((paraphrastref13_Bits.f k a0_0).bind fun t223 => (some (wrap64 ((wrap64 ((wrap64 ((wrap64 (t222 + 1)) * t220)) * t221)) + (wrap64 (t223 * t221)))))) = some r := H
 have A5 := Aside0.mk A50
 clear A50
 replace H := Option.bind_eq_some_iff.mp H
 obtain ⟨t223, A60, H⟩ := H
 replace H : (some (wrap64 ((wrap64 ((wrap64 ((wrap64 (t222 + 1)) * t220)) * t221)) + (wrap64 (t223 * t221))))) = some r := H
 have A6 := Aside0.mk A60
 clear A60
 obtain rfl := Option.some.inj H
 go_enter Tryz.func11, Tryz.ntmps11
 go_wp2_with (first | ((with_reducible refine gate_dst (N := 2) rfl ?_); refine box_event ?hg (N := 2) ?hd (cs := #[.int .i64 a0_0, .int .i64 a0_1, .int .i64 a0_2, .int .i64 a0_3, .slice A0_4 l0_4.length c0_4, .slice A0_5 l0_5.length c0_5]) (t := 25) ?hr ?_; (case hd => rfl); (case hg => rfl); (case hr => first | (go_simp; done) | (go_simp; rfl)); intro gb219 hg w7 hbox hb; have BK219 := Aside0.mk (hbox); have GW219 := geB w hg; have GE219 := geB w hg; replace HB := Aside0.mk (below_step bel hb); clear hb hbox hg; have hcz8_0 : w7.cell? ⟨gb219, 0, none⟩ = some (.int .i64 a0_0) := (blk_cell BK219.out 0).trans rfl; have hcz8_1 : w7.cell? ⟨gb219, 1, none⟩ = some (.int .i64 a0_1) := (blk_cell BK219.out 1).trans rfl; have hcz8_2 : w7.cell? ⟨gb219, 2, none⟩ = some (.int .i64 a0_2) := (blk_cell BK219.out 2).trans rfl; have hcz8_3 : w7.cell? ⟨gb219, 3, none⟩ = some (.int .i64 a0_3) := (blk_cell BK219.out 3).trans rfl; have hcz8_4 : w7.cell? ⟨gb219, 4, none⟩ = some (.slice A0_4 l0_4.length c0_4) := (blk_cell BK219.out 4).trans rfl; have hcz8_5 : w7.cell? ⟨gb219, 5, none⟩ = some (.slice A0_5 l0_5.length c0_5) := (blk_cell BK219.out 5).trans rfl; have hfz8_0 := blk_frozen BK219.out 0; have hfz8_1 := blk_frozen BK219.out 1; have hfz8_2 := blk_frozen BK219.out 2; have hfz8_3 := blk_frozen BK219.out 3; have hfz8_4 := blk_frozen BK219.out 4; have hfz8_5 := blk_frozen BK219.out 5) | (go_at_call 10; (with_reducible refine (paraphrastref01_Pow.calls k a1 a0_2 t220 _ A3.out).mono ?_); rintro e w' ⟨rfl, ⟨nd, rfl⟩⟩; (try first | exact ⟨rfl, _, World.drewN_drewN _ _ _⟩ | exact ⟨rfl, _, Eq.trans (World.drewN_drewN _ _ _) (congrArg (World.drewN _) (Nat.add_assoc _ _ _))⟩)) | (go_at_call 10; (with_reducible refine (paraphrastref01_Pow.calls k a1 a0_3 t221 _ A4.out).mono ?_); rintro e w' ⟨rfl, ⟨nd, rfl⟩⟩; (try first | exact ⟨rfl, _, World.drewN_drewN _ _ _⟩ | exact ⟨rfl, _, Eq.trans (World.drewN_drewN _ _ _) (congrArg (World.drewN _) (Nat.add_assoc _ _ _))⟩)) | (go_at_call 24; (with_reducible refine (paraphrastref13_Bits.calls k a0_1 t222 _ A5.out).mono ?_); rintro e w' ⟨rfl, ⟨nd, rfl⟩⟩; (try first | exact ⟨rfl, _, World.drewN_drewN _ _ _⟩ | exact ⟨rfl, _, Eq.trans (World.drewN_drewN _ _ _) (congrArg (World.drewN _) (Nat.add_assoc _ _ _))⟩)) | (go_at_call 24; (with_reducible refine (paraphrastref13_Bits.calls k a0_0 t223 _ A6.out).mono ?_); rintro e w' ⟨rfl, ⟨nd, rfl⟩⟩; (try first | exact ⟨rfl, _, World.drewN_drewN _ _ _⟩ | exact ⟨rfl, _, Eq.trans (World.drewN_drewN _ _ _) (congrArg (World.drewN _) (Nat.add_assoc _ _ _))⟩)))
 repeat (go_quiet (first | ((with_reducible refine gate_dst (N := 2) rfl ?_); refine box_event ?hg (N := 2) ?hd (cs := #[.int .i64 a0_0, .int .i64 a0_1, .int .i64 a0_2, .int .i64 a0_3, .slice A0_4 l0_4.length c0_4, .slice A0_5 l0_5.length c0_5]) (t := 25) ?hr ?_; (case hd => rfl); (case hg => rfl); (case hr => first | (go_simp; done) | (go_simp; rfl)); intro gb219 hg w7 hbox hb; have BK219 := Aside0.mk (hbox); have GW219 := geB w hg; have GE219 := geB w hg; replace HB := Aside0.mk (below_step bel hb); clear hb hbox hg; have hcz8_0 : w7.cell? ⟨gb219, 0, none⟩ = some (.int .i64 a0_0) := (blk_cell BK219.out 0).trans rfl; have hcz8_1 : w7.cell? ⟨gb219, 1, none⟩ = some (.int .i64 a0_1) := (blk_cell BK219.out 1).trans rfl; have hcz8_2 : w7.cell? ⟨gb219, 2, none⟩ = some (.int .i64 a0_2) := (blk_cell BK219.out 2).trans rfl; have hcz8_3 : w7.cell? ⟨gb219, 3, none⟩ = some (.int .i64 a0_3) := (blk_cell BK219.out 3).trans rfl; have hcz8_4 : w7.cell? ⟨gb219, 4, none⟩ = some (.slice A0_4 l0_4.length c0_4) := (blk_cell BK219.out 4).trans rfl; have hcz8_5 : w7.cell? ⟨gb219, 5, none⟩ = some (.slice A0_5 l0_5.length c0_5) := (blk_cell BK219.out 5).trans rfl; have hfz8_0 := blk_frozen BK219.out 0; have hfz8_1 := blk_frozen BK219.out 1; have hfz8_2 := blk_frozen BK219.out 2; have hfz8_3 := blk_frozen BK219.out 3; have hfz8_4 := blk_frozen BK219.out 4; have hfz8_5 := blk_frozen BK219.out 5) | (go_at_call 10; (with_reducible refine (paraphrastref01_Pow.calls k a1 a0_2 t220 _ A3.out).mono ?_); rintro e w' ⟨rfl, ⟨nd, rfl⟩⟩; (try first | exact ⟨rfl, _, World.drewN_drewN _ _ _⟩ | exact ⟨rfl, _, Eq.trans (World.drewN_drewN _ _ _) (congrArg (World.drewN _) (Nat.add_assoc _ _ _))⟩)) | (go_at_call 10; (with_reducible refine (paraphrastref01_Pow.calls k a1 a0_3 t221 _ A4.out).mono ?_); rintro e w' ⟨rfl, ⟨nd, rfl⟩⟩; (try first | exact ⟨rfl, _, World.drewN_drewN _ _ _⟩ | exact ⟨rfl, _, Eq.trans (World.drewN_drewN _ _ _) (congrArg (World.drewN _) (Nat.add_assoc _ _ _))⟩)) | (go_at_call 24; (with_reducible refine (paraphrastref13_Bits.calls k a0_1 t222 _ A5.out).mono ?_); rintro e w' ⟨rfl, ⟨nd, rfl⟩⟩; (try first | exact ⟨rfl, _, World.drewN_drewN _ _ _⟩ | exact ⟨rfl, _, Eq.trans (World.drewN_drewN _ _ _) (congrArg (World.drewN _) (Nat.add_assoc _ _ _))⟩)) | (go_at_call 24; (with_reducible refine (paraphrastref13_Bits.calls k a0_0 t223 _ A6.out).mono ?_); rintro e w' ⟨rfl, ⟨nd, rfl⟩⟩; (try first | exact ⟨rfl, _, World.drewN_drewN _ _ _⟩ | exact ⟨rfl, _, Eq.trans (World.drewN_drewN _ _ _) (congrArg (World.drewN _) (Nat.add_assoc _ _ _))⟩))); try go_wp2_with (first | ((with_reducible refine gate_dst (N := 2) rfl ?_); refine box_event ?hg (N := 2) ?hd (cs := #[.int .i64 a0_0, .int .i64 a0_1, .int .i64 a0_2, .int .i64 a0_3, .slice A0_4 l0_4.length c0_4, .slice A0_5 l0_5.length c0_5]) (t := 25) ?hr ?_; (case hd => rfl); (case hg => rfl); (case hr => first | (go_simp; done) | (go_simp; rfl)); intro gb219 hg w7 hbox hb; have BK219 := Aside0.mk (hbox); have GW219 := geB w hg; have GE219 := geB w hg; replace HB := Aside0.mk (below_step bel hb); clear hb hbox hg; have hcz8_0 : w7.cell? ⟨gb219, 0, none⟩ = some (.int .i64 a0_0) := (blk_cell BK219.out 0).trans rfl; have hcz8_1 : w7.cell? ⟨gb219, 1, none⟩ = some (.int .i64 a0_1) := (blk_cell BK219.out 1).trans rfl; have hcz8_2 : w7.cell? ⟨gb219, 2, none⟩ = some (.int .i64 a0_2) := (blk_cell BK219.out 2).trans rfl; have hcz8_3 : w7.cell? ⟨gb219, 3, none⟩ = some (.int .i64 a0_3) := (blk_cell BK219.out 3).trans rfl; have hcz8_4 : w7.cell? ⟨gb219, 4, none⟩ = some (.slice A0_4 l0_4.length c0_4) := (blk_cell BK219.out 4).trans rfl; have hcz8_5 : w7.cell? ⟨gb219, 5, none⟩ = some (.slice A0_5 l0_5.length c0_5) := (blk_cell BK219.out 5).trans rfl; have hfz8_0 := blk_frozen BK219.out 0; have hfz8_1 := blk_frozen BK219.out 1; have hfz8_2 := blk_frozen BK219.out 2; have hfz8_3 := blk_frozen BK219.out 3; have hfz8_4 := blk_frozen BK219.out 4; have hfz8_5 := blk_frozen BK219.out 5) | (go_at_call 10; (with_reducible refine (paraphrastref01_Pow.calls k a1 a0_2 t220 _ A3.out).mono ?_); rintro e w' ⟨rfl, ⟨nd, rfl⟩⟩; (try first | exact ⟨rfl, _, World.drewN_drewN _ _ _⟩ | exact ⟨rfl, _, Eq.trans (World.drewN_drewN _ _ _) (congrArg (World.drewN _) (Nat.add_assoc _ _ _))⟩)) | (go_at_call 10; (with_reducible refine (paraphrastref01_Pow.calls k a1 a0_3 t221 _ A4.out).mono ?_); rintro e w' ⟨rfl, ⟨nd, rfl⟩⟩; (try first | exact ⟨rfl, _, World.drewN_drewN _ _ _⟩ | exact ⟨rfl, _, Eq.trans (World.drewN_drewN _ _ _) (congrArg (World.drewN _) (Nat.add_assoc _ _ _))⟩)) | (go_at_call 24; (with_reducible refine (paraphrastref13_Bits.calls k a0_1 t222 _ A5.out).mono ?_); rintro e w' ⟨rfl, ⟨nd, rfl⟩⟩; (try first | exact ⟨rfl, _, World.drewN_drewN _ _ _⟩ | exact ⟨rfl, _, Eq.trans (World.drewN_drewN _ _ _) (congrArg (World.drewN _) (Nat.add_assoc _ _ _))⟩)) | (go_at_call 24; (with_reducible refine (paraphrastref13_Bits.calls k a0_0 t223 _ A6.out).mono ?_); rintro e w' ⟨rfl, ⟨nd, rfl⟩⟩; (try first | exact ⟨rfl, _, World.drewN_drewN _ _ _⟩ | exact ⟨rfl, _, Eq.trans (World.drewN_drewN _ _ _) (congrArg (World.drewN _) (Nat.add_assoc _ _ _))⟩))))
 go_ret
 exact ⟨eN, bel⟩
end Go.Proofs.YtailpfcbdopfeaaGreatDoor.F
namespace Go.Proofs.YtailpfcbdopfeaaGreatDoor.F
open Go.RowKit Go.Proofs.YtailpfcbdopfeaaGreatDoorW.PrintWords Go.Proofs.YtailpfcbdopfeaaGreatDoorW.PrintLast Go.Proofs.YtailpfcbdopfeaaGreatDoorW.PrintMore
attribute [local go_sem] max2_int min2_int max_two min_two max_three min_three max_four min_four
set_option linter.unusedVariables false
set_option linter.unusedSimpArgs false
/-! ### paraphrastlaw16_Wide: function 4 -/
def paraphrastlaw16_Wide.l0 : Nat → Int → Int → Int → Int → Int → Int → List (S42) → List (S69) → Option (Bool)
 | 0, _, _, _, _, _, _, _, _ => none
 | k + 1, x3, x4, x102000, x102001, x102002, x102003, x102004, x102005 => if x4 < (x102004.length : Int) then (if x4 < 100 then (if 0 ≤ x4 then (paraphrastlaw16_Wide.l0 k (wrap64 ((wrap64 (x3 + (((rd_T42 x102004 x4).f3).length : Int))) + (((rd_T42 x102004 x4).f2).size : Int))) (wrap64 (x4 + 1)) x102000 x102001 x102002 x102003 x102004 x102005) else (none)) else (some (decide (x3 > 1000)))) else (some (decide (x3 > 1000)))
def paraphrastlaw16_Wide.f (k : Nat) (a0_0 : Int) (a0_1 : Int) (a0_2 : Int) (a0_3 : Int) (l0_4 : List (S42)) (l0_5 : List (S69)) : Option (Bool) := paraphrastlaw16_Wide.l0 k (wrap64 ((l0_5.length : Int) + (l0_4.length : Int))) 0 a0_0 a0_1 a0_2 a0_3 l0_4 l0_5
set_option maxHeartbeats 8000000 in
set_option maxRecDepth 100000 in
theorem paraphrastlaw16_Wide.calls (k : Nat) (a0_0 : Int) (a0_1 : Int) (a0_2 : Int) (a0_3 : Int) (A0_4 : Option Addr) (c0_4 : Nat) (l0_4 : List (S42)) (A0_5 : Option Addr) (c0_5 : Nat) (l0_5 : List (S69)) (r : Bool) (w : World) (hr0_4 : Kd.C k42 w A0_4 l0_4.length l0_4) (hc0_4 : l0_4.length ≤ c0_4) (hr0_5 : Kd.C k69 w A0_5 l0_5.length l0_5) (hc0_5 : l0_5.length ≤ c0_5) (h : paraphrastlaw16_Wide.f k a0_0 a0_1 a0_2 a0_3 l0_4 l0_5 = some r) :
  Calls Tryz.prog 4 #[.agg #[.int .i64 a0_0, .int .i64 a0_1, .int .i64 a0_2, .int .i64 a0_3, .slice A0_4 l0_4.length c0_4, .slice A0_5 l0_5.length c0_5]] w fun e w' => e = .returned (.bool r) ∧ Below w.heap.size w w' := by
 have hu25 := Tryz.underlying25
 have HR0_4 := Aside0.mk hr0_4
 have HC0_4 := Aside0.mk hc0_4
 clear hr0_4 hc0_4
 have HR0_5 := Aside0.mk hr0_5
 have HC0_5 := Aside0.mk hc0_5
 clear hr0_5 hc0_5
 have HB := Aside0.mk (Below.refl w.heap.size w)
 have H : (paraphrastlaw16_Wide.l0 k (wrap64 ((l0_5.length : Int) + (l0_4.length : Int))) 0 a0_0 a0_1 a0_2 a0_3 l0_4 l0_5) = some r := h
 clear h
 have H' := Aside0.mk H
 clear H
 go_enter Tryz.func4, Tryz.ntmps4
 go_wp2_with (first | ((with_reducible refine gate_dst (N := 1) rfl ?_); refine box_event ?hg (N := 1) ?hd (cs := #[.int .i64 a0_0, .int .i64 a0_1, .int .i64 a0_2, .int .i64 a0_3, .slice A0_4 l0_4.length c0_4, .slice A0_5 l0_5.length c0_5]) (t := 25) ?hr ?_; (case hd => rfl); (case hg => rfl); (case hr => first | (go_simp; done) | (go_simp; rfl)); intro gb101 hg w2 hbox hb; have BK101 := Aside0.mk (hbox); have GW101 := geB w hg; have GE101 := geB w hg; replace HB := Aside0.mk (below_step bel hb); clear hb hbox hg; have hcz3_0 : w2.cell? ⟨gb101, 0, none⟩ = some (.int .i64 a0_0) := (blk_cell BK101.out 0).trans rfl; have hcz3_1 : w2.cell? ⟨gb101, 1, none⟩ = some (.int .i64 a0_1) := (blk_cell BK101.out 1).trans rfl; have hcz3_2 : w2.cell? ⟨gb101, 2, none⟩ = some (.int .i64 a0_2) := (blk_cell BK101.out 2).trans rfl; have hcz3_3 : w2.cell? ⟨gb101, 3, none⟩ = some (.int .i64 a0_3) := (blk_cell BK101.out 3).trans rfl; have hcz3_4 : w2.cell? ⟨gb101, 4, none⟩ = some (.slice A0_4 l0_4.length c0_4) := (blk_cell BK101.out 4).trans rfl; have hcz3_5 : w2.cell? ⟨gb101, 5, none⟩ = some (.slice A0_5 l0_5.length c0_5) := (blk_cell BK101.out 5).trans rfl; have hfz3_0 := blk_frozen BK101.out 0; have hfz3_1 := blk_frozen BK101.out 1; have hfz3_2 := blk_frozen BK101.out 2; have hfz3_3 := blk_frozen BK101.out 3; have hfz3_4 := blk_frozen BK101.out 4; have hfz3_5 := blk_frozen BK101.out 5))
 repeat (go_quiet (first | ((with_reducible refine gate_dst (N := 1) rfl ?_); refine box_event ?hg (N := 1) ?hd (cs := #[.int .i64 a0_0, .int .i64 a0_1, .int .i64 a0_2, .int .i64 a0_3, .slice A0_4 l0_4.length c0_4, .slice A0_5 l0_5.length c0_5]) (t := 25) ?hr ?_; (case hd => rfl); (case hg => rfl); (case hr => first | (go_simp; done) | (go_simp; rfl)); intro gb101 hg w2 hbox hb; have BK101 := Aside0.mk (hbox); have GW101 := geB w hg; have GE101 := geB w hg; replace HB := Aside0.mk (below_step bel hb); clear hb hbox hg; have hcz3_0 : w2.cell? ⟨gb101, 0, none⟩ = some (.int .i64 a0_0) := (blk_cell BK101.out 0).trans rfl; have hcz3_1 : w2.cell? ⟨gb101, 1, none⟩ = some (.int .i64 a0_1) := (blk_cell BK101.out 1).trans rfl; have hcz3_2 : w2.cell? ⟨gb101, 2, none⟩ = some (.int .i64 a0_2) := (blk_cell BK101.out 2).trans rfl; have hcz3_3 : w2.cell? ⟨gb101, 3, none⟩ = some (.int .i64 a0_3) := (blk_cell BK101.out 3).trans rfl; have hcz3_4 : w2.cell? ⟨gb101, 4, none⟩ = some (.slice A0_4 l0_4.length c0_4) := (blk_cell BK101.out 4).trans rfl; have hcz3_5 : w2.cell? ⟨gb101, 5, none⟩ = some (.slice A0_5 l0_5.length c0_5) := (blk_cell BK101.out 5).trans rfl; have hfz3_0 := blk_frozen BK101.out 0; have hfz3_1 := blk_frozen BK101.out 1; have hfz3_2 := blk_frozen BK101.out 2; have hfz3_3 := blk_frozen BK101.out 3; have hfz3_4 := blk_frozen BK101.out 4; have hfz3_5 := blk_frozen BK101.out 5)); try go_wp2_with (first | ((with_reducible refine gate_dst (N := 1) rfl ?_); refine box_event ?hg (N := 1) ?hd (cs := #[.int .i64 a0_0, .int .i64 a0_1, .int .i64 a0_2, .int .i64 a0_3, .slice A0_4 l0_4.length c0_4, .slice A0_5 l0_5.length c0_5]) (t := 25) ?hr ?_; (case hd => rfl); (case hg => rfl); (case hr => first | (go_simp; done) | (go_simp; rfl)); intro gb101 hg w2 hbox hb; have BK101 := Aside0.mk (hbox); have GW101 := geB w hg; have GE101 := geB w hg; replace HB := Aside0.mk (below_step bel hb); clear hb hbox hg; have hcz3_0 : w2.cell? ⟨gb101, 0, none⟩ = some (.int .i64 a0_0) := (blk_cell BK101.out 0).trans rfl; have hcz3_1 : w2.cell? ⟨gb101, 1, none⟩ = some (.int .i64 a0_1) := (blk_cell BK101.out 1).trans rfl; have hcz3_2 : w2.cell? ⟨gb101, 2, none⟩ = some (.int .i64 a0_2) := (blk_cell BK101.out 2).trans rfl; have hcz3_3 : w2.cell? ⟨gb101, 3, none⟩ = some (.int .i64 a0_3) := (blk_cell BK101.out 3).trans rfl; have hcz3_4 : w2.cell? ⟨gb101, 4, none⟩ = some (.slice A0_4 l0_4.length c0_4) := (blk_cell BK101.out 4).trans rfl; have hcz3_5 : w2.cell? ⟨gb101, 5, none⟩ = some (.slice A0_5 l0_5.length c0_5) := (blk_cell BK101.out 5).trans rfl; have hfz3_0 := blk_frozen BK101.out 0; have hfz3_1 := blk_frozen BK101.out 1; have hfz3_2 := blk_frozen BK101.out 2; have hfz3_3 := blk_frozen BK101.out 3; have hfz3_4 := blk_frozen BK101.out 4; have hfz3_5 := blk_frozen BK101.out 5)))
 go_loopg [3, 4] k (fun kq v3 v4 w' => ∃ (x3_1 : Int) (x4_1 : Int), v3 = .int .i64 x3_1 ∧ v4 = .int .i64 x4_1 ∧ Aside0 (paraphrastlaw16_Wide.l0 kq x3_1 x4_1 a0_0 a0_1 a0_2 a0_3 l0_4 l0_5 = some r) ∧ Aside0 (kq ≤ k) ∧ Aside0 (w'.heap[gb101]? = some (.cells #[.int .i64 a0_0, .int .i64 a0_1, .int .i64 a0_2, .int .i64 a0_3, (.slice A0_4 l0_4.length c0_4), (.slice A0_5 l0_5.length c0_5)] 25 (0, 0))) ∧ Aside0 (Below w.heap.size w w'))
 case atStart => exact ⟨(wrap64 ((l0_5.length : Int) + (l0_4.length : Int))), (0), eS, eS, H', ⟨Nat.le_refl _⟩, ⟨bk BK101⟩, ⟨bel⟩⟩
 case round =>
  clear H'
  (try clear hcz3_0); (try clear hcz3_1); (try clear hcz3_2); (try clear hcz3_3); (try clear hcz3_4); (try clear hcz3_5); (try clear hfz3_0); (try clear hfz3_1); (try clear hfz3_2); (try clear hfz3_3); (try clear hfz3_4); (try clear hfz3_5)
  obtain ⟨x3_1, x4_1, rfl, rfl, HA, HK1, BK101, HB⟩ := hrel
  cases gk with
  | zero => exact absurd HA.out (by simp [paraphrastlaw16_Wide.l0])
  | succ k1 =>
   have H := HA.out
   clear HA
   simp only [paraphrastlaw16_Wide.l0] at H
   by_cases c4 : x4_1 < (l0_4.length : Int)
   ·rw [if_pos c4] at H
    have c4b0 : decide (x4_1 < (l0_4.length : Int)) = true := decide_eq_true c4
    clear c4
    by_cases c5 : x4_1 < 100
    ·rw [if_pos c5] at H
     have c5b0 : decide (x4_1 < 100) = true := decide_eq_true c5
     clear c5
     by_cases c6 : 0 ≤ x4_1
     ·rw [if_pos c6] at H
      have c6b0 : decide (0 ≤ x4_1) = true := decide_eq_true c6
      clear c6
      have H' := Aside0.mk H
      clear H
      have hcz7_0 : wr.cell? ⟨gb101, 0, none⟩ = some (.int .i64 a0_0) := (blk_cell BK101.out 0).trans rfl
      have hcz7_1 : wr.cell? ⟨gb101, 1, none⟩ = some (.int .i64 a0_1) := (blk_cell BK101.out 1).trans rfl
      have hcz7_2 : wr.cell? ⟨gb101, 2, none⟩ = some (.int .i64 a0_2) := (blk_cell BK101.out 2).trans rfl
      have hcz7_3 : wr.cell? ⟨gb101, 3, none⟩ = some (.int .i64 a0_3) := (blk_cell BK101.out 3).trans rfl
      have hcz7_4 : wr.cell? ⟨gb101, 4, none⟩ = some (.slice A0_4 l0_4.length c0_4) := (blk_cell BK101.out 4).trans rfl
      have hcz7_5 : wr.cell? ⟨gb101, 5, none⟩ = some (.slice A0_5 l0_5.length c0_5) := (blk_cell BK101.out 5).trans rfl
      have hfz7_0 := blk_frozen BK101.out 0
      have hfz7_1 := blk_frozen BK101.out 1
      have hfz7_2 := blk_frozen BK101.out 2
      have hfz7_3 := blk_frozen BK101.out 3
      have hfz7_4 := blk_frozen BK101.out 4
      have hfz7_5 := blk_frozen BK101.out 5
      have p102 : 0 ≤ (x4_1 : Int) := dtr
      have q102 : x4_1 < (l0_4.length : Int) := dtr
      obtain ⟨ad102, A102_3, c102_3, e102, hx102_0, hx102_1, hx102_2, hx102_3, hl102_3, hi102_3⟩ := at_T42 HR0_4.out x4_1 p102 q102
      cases e102
      replace hx102_0 := oc hx102_0
      replace hx102_1 := oc hx102_1
      replace hx102_2 := oc hx102_2
      replace hx102_3 := oc hx102_3
      have HR102_3 := Aside0.mk hi102_3
      have HC102_3 := Aside0.mk hl102_3
      clear hi102_3 hl102_3
      replace p102 := eq_true p102
      replace q102 := eq_true q102
      have p103 : 0 ≤ (x4_1 : Int) := dtr
      have q103 : x4_1 < (l0_4.length : Int) := dtr
      obtain ⟨ad103, A103_3, c103_3, e103, hx103_0, hx103_1, hx103_2, hx103_3, hl103_3, hi103_3⟩ := at_T42 HR0_4.out x4_1 p103 q103
      obtain rfl : ad102 = ad103 := (by injection e103)
      replace hx103_0 := oc hx103_0
      replace hx103_1 := oc hx103_1
      replace hx103_2 := oc hx103_2
      replace hx103_3 := oc hx103_3
      have HR103_3 := Aside0.mk hi103_3
      have HC103_3 := Aside0.mk hl103_3
      clear hi103_3 hl103_3
      replace p103 := eq_true p103
      replace q103 := eq_true q103
      have ea_ := Option.some.inj (hx102_3.symm.trans hx103_3)
      injection ea_ with ea_ en_ ec_
      subst ea_
      subst ec_
      clear en_
      go_wp2
      repeat (go_quiet (fail); try go_wp2)
      go_roundg k1
      case measure => have := HK1.out; omega
      case rel => exact ⟨(wrap64 ((wrap64 (x3_1 + (((rd_T42 l0_4 x4_1).f3).length : Int))) + (((rd_T42 l0_4 x4_1).f2).size : Int))), (wrap64 (x4_1 + 1)), eS, eS, H', ⟨by have := HK1.out; omega⟩, ⟨bk BK101⟩, ⟨bel⟩⟩
     ·rw [if_neg c6] at H
      exact absurd H (by simp)
    ·rw [if_neg c5] at H
     have c5b0 : decide (x4_1 < 100) = false := decide_eq_false c5
     clear c5
     obtain rfl := Option.some.inj H
     have hcz8_0 : wr.cell? ⟨gb101, 0, none⟩ = some (.int .i64 a0_0) := (blk_cell BK101.out 0).trans rfl
     have hcz8_1 : wr.cell? ⟨gb101, 1, none⟩ = some (.int .i64 a0_1) := (blk_cell BK101.out 1).trans rfl
     have hcz8_2 : wr.cell? ⟨gb101, 2, none⟩ = some (.int .i64 a0_2) := (blk_cell BK101.out 2).trans rfl
     have hcz8_3 : wr.cell? ⟨gb101, 3, none⟩ = some (.int .i64 a0_3) := (blk_cell BK101.out 3).trans rfl
     have hcz8_4 : wr.cell? ⟨gb101, 4, none⟩ = some (.slice A0_4 l0_4.length c0_4) := (blk_cell BK101.out 4).trans rfl
     have hcz8_5 : wr.cell? ⟨gb101, 5, none⟩ = some (.slice A0_5 l0_5.length c0_5) := (blk_cell BK101.out 5).trans rfl
     have hfz8_0 := blk_frozen BK101.out 0
     have hfz8_1 := blk_frozen BK101.out 1
     have hfz8_2 := blk_frozen BK101.out 2
     have hfz8_3 := blk_frozen BK101.out 3
     have hfz8_4 := blk_frozen BK101.out 4
     have hfz8_5 := blk_frozen BK101.out 5
     go_wp2
     repeat (go_quiet (fail); try go_wp2)
     go_ret
     exact ⟨eN, bel⟩
   ·rw [if_neg c4] at H
    have c4b0 : decide (x4_1 < (l0_4.length : Int)) = false := decide_eq_false c4
    clear c4
    obtain rfl := Option.some.inj H
    have hcz9_0 : wr.cell? ⟨gb101, 0, none⟩ = some (.int .i64 a0_0) := (blk_cell BK101.out 0).trans rfl
    have hcz9_1 : wr.cell? ⟨gb101, 1, none⟩ = some (.int .i64 a0_1) := (blk_cell BK101.out 1).trans rfl
    have hcz9_2 : wr.cell? ⟨gb101, 2, none⟩ = some (.int .i64 a0_2) := (blk_cell BK101.out 2).trans rfl
    have hcz9_3 : wr.cell? ⟨gb101, 3, none⟩ = some (.int .i64 a0_3) := (blk_cell BK101.out 3).trans rfl
    have hcz9_4 : wr.cell? ⟨gb101, 4, none⟩ = some (.slice A0_4 l0_4.length c0_4) := (blk_cell BK101.out 4).trans rfl
    have hcz9_5 : wr.cell? ⟨gb101, 5, none⟩ = some (.slice A0_5 l0_5.length c0_5) := (blk_cell BK101.out 5).trans rfl
    have hfz9_0 := blk_frozen BK101.out 0
    have hfz9_1 := blk_frozen BK101.out 1
    have hfz9_2 := blk_frozen BK101.out 2
    have hfz9_3 := blk_frozen BK101.out 3
    have hfz9_4 := blk_frozen BK101.out 4
    have hfz9_5 := blk_frozen BK101.out 5
    go_wp2
    repeat (go_quiet (fail); try go_wp2)
    go_ret
    exact ⟨eN, bel⟩
end Go.Proofs.YtailpfcbdopfeaaGreatDoor.F
