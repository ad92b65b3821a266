/- Part 4 of the proof: For every machine and every size, GuessRelations answers true, whatever the input; no condition. -/
import Derived.Test.YtailpfcbdopfeaaGreatDoorGrel3
import Derived.BigRegion
import Derived.Deep.LoopGhost
import Derived.Lib.ItoaLen
import Derived.BigQuiet
namespace Go.Proofs.YtailpfcbdopfeaaGreatDoor.F
open Go.RowKit Go.Proofs.YtailpfcbdopfeaaGreatDoorW.PrintWords Go.Proofs.YtailpfcbdopfeaaGreatDoorW.PrintLast Go.Proofs.YtailpfcbdopfeaaGreatDoorW.PrintMore
attribute [local go_sem] max2_int min2_int max_two min_two max_three min_three max_four min_four
set_option linter.unusedVariables false
set_option linter.unusedSimpArgs false
attribute [local go_sem high] eqA69
/-! ### paraphrastref16_Valid: function 13 -/
mutual
def paraphrastref16_Valid.j0 : Nat → Bool → Int → Int → Int → Int → List (S42) → List (S69) → Option (Bool)
 | 0, _, _, _, _, _, _, _ => none
 | k + 1, x43, x167000, x167001, x167002, x167003, x167004, x167005 => if x43 = true then (some false) else (if (x167004.length : Int) > 4 then (paraphrastref16_Valid.j1 k true x167000 x167001 x167002 x167003 x167004 x167005) else (if (shl .i64 1 (x167004.length : Int)) > x167001 then (paraphrastref16_Valid.j1 k true x167000 x167001 x167002 x167003 x167004 x167005) else (paraphrastref16_Valid.j1 k (decide ((x167005.length : Int) > 400)) x167000 x167001 x167002 x167003 x167004 x167005)))
def paraphrastref16_Valid.j1 : Nat → Bool → Int → Int → Int → Int → List (S42) → List (S69) → Option (Bool)
 | 0, _, _, _, _, _, _, _ => none
 | k + 1, x62, x167000, x167001, x167002, x167003, x167004, x167005 => if x62 = true then (some false) else (paraphrastref16_Valid.l0 k 0 x167000 x167001 x167002 x167003 x167004 x167005)
def paraphrastref16_Valid.l0 : Nat → Int → Int → Int → Int → Int → List (S42) → List (S69) → Option (Bool)
 | 0, _, _, _, _, _, _, _ => none
 | k + 1, x3, x167000, x167001, x167002, x167003, x167004, x167005 => if x3 < (x167004.length : Int) then (if 0 ≤ x3 then ((paraphrastref12_Literal.f k ((rd_T42 x167004 x3).f0) ((rd_T42 x167004 x3).f1) ((rd_T42 x167004 x3).f2) ((rd_T42 x167004 x3).f3) x167002).bind fun t168 => (if t168 = true then (paraphrastref16_Valid.l0 k (wrap64 (x3 + 1)) x167000 x167001 x167002 x167003 x167004 x167005) else (some false))) else (none)) else (paraphrastref16_Valid.l1 k 0 x167000 x167001 x167002 x167003 x167004 x167005)
def paraphrastref16_Valid.l1 : Nat → Int → Int → Int → Int → Int → List (S42) → List (S69) → Option (Bool)
 | 0, _, _, _, _, _, _, _ => none
 | k + 1, x4, x167000, x167001, x167002, x167003, x167004, x167005 => if x4 < (x167005.length : Int) then (if 0 ≤ x4 then ((paraphrastref16_step.f x167000 x167001 x167002 x167003 x167004 x167005 ((rd_T69 x167005 x4).f0) ((rd_T69 x167005 x4).f1) ((rd_T69 x167005 x4).f2) ((rd_T69 x167005 x4).f3) ((rd_T69 x167005 x4).f4)).bind fun t171 => (if t171 = true then (paraphrastref16_Valid.l2 k x4 0 x167000 x167001 x167002 x167003 x167004 x167005) else (some false))) else (none)) else ((paraphrastref12_Agree.f k x167004).bind fun t169 => (some t169))
def paraphrastref16_Valid.l2 : Nat → Int → Int → Int → Int → Int → Int → List (S42) → List (S69) → Option (Bool)
 | 0, _, _, _, _, _, _, _, _ => none
 | k + 1, x4, x5, x167000, x167001, x167002, x167003, x167004, x167005 => if x5 < x4 then (if 0 ≤ x5 then (if x5 < (x167005.length : Int) then (if 0 ≤ x4 then (if x4 < (x167005.length : Int) then (if (((rd_T69 x167005 x5).f0) == ((rd_T69 x167005 x4).f0) && (((rd_T69 x167005 x5).f1) == ((rd_T69 x167005 x4).f1) && (((rd_T69 x167005 x5).f2) == ((rd_T69 x167005 x4).f2) && (((rd_T69 x167005 x5).f3) == ((rd_T69 x167005 x4).f3) && (((rd_T69 x167005 x5).f4) == ((rd_T69 x167005 x4).f4)))))) = true then (some false) else (paraphrastref16_Valid.l2 k x4 (wrap64 (x5 + 1)) x167000 x167001 x167002 x167003 x167004 x167005)) else (none)) else (none)) else (none)) else (none)) else (paraphrastref16_Valid.l1 k (wrap64 (x4 + 1)) x167000 x167001 x167002 x167003 x167004 x167005)
end
def paraphrastref16_Valid.f (k : Nat) (a0_0 : Int) (a0_1 : Int) (a0_2 : Int) (a0_3 : Int) (l0_4 : List (S42)) (l0_5 : List (S69)) : Option (Bool) := if a0_0 < 2 then (paraphrastref16_Valid.j0 k true a0_0 a0_1 a0_2 a0_3 l0_4 l0_5) else (if a0_0 > 400 then (paraphrastref16_Valid.j0 k true a0_0 a0_1 a0_2 a0_3 l0_4 l0_5) else (if a0_1 < 1 then (paraphrastref16_Valid.j0 k true a0_0 a0_1 a0_2 a0_3 l0_4 l0_5) else (if a0_1 > 16 then (paraphrastref16_Valid.j0 k true a0_0 a0_1 a0_2 a0_3 l0_4 l0_5) else (if a0_2 < 1 then (paraphrastref16_Valid.j0 k true a0_0 a0_1 a0_2 a0_3 l0_4 l0_5) else (if a0_2 > 3 then (paraphrastref16_Valid.j0 k true a0_0 a0_1 a0_2 a0_3 l0_4 l0_5) else (if a0_3 < 1 then (paraphrastref16_Valid.j0 k true a0_0 a0_1 a0_2 a0_3 l0_4 l0_5) else (paraphrastref16_Valid.j0 k (decide (a0_3 > 3)) a0_0 a0_1 a0_2 a0_3 l0_4 l0_5)))))))
def paraphrastref16_Valid.T3 : Bool × List (List Nat × List Nat) := (true, [([], []), ([0], [0]), ([1], [1]), ([2], [2]), ([3], [3]), ([4], [4]), ([5, 4], [4, 5]), ([6, 4], [4, 6]), ([7, 4], [4, 7]), ([4], [4]), ([9, 4], [4, 9]), ([8, 10, 4], [4, 8, 10]), ([4, 11], [4, 11]), ([12, 4], [12]), ([13], [13]), ([14, 13], [13, 14]), ([15, 13], [13, 15]), ([16, 13], [13, 16]), ([13, 17], [13, 17])])
def paraphrastref16_Valid.B3 : List Nat := [0, 1, 3, 7, 15, 31, 63, 127, 255, 31, 543, 2047, 4095, 8191, 16383, 32767, 65535, 131071, 262143]
theorem paraphrastref16_Valid.tab3 : rtab .any (opsOf Tryz.f13 3) = paraphrastref16_Valid.T3 := by kernel_rfl
theorem paraphrastref16_Valid.bits3 : waitsOk paraphrastref16_Valid.T3.2 paraphrastref16_Valid.B3 = true := by kernel_rfl
def paraphrastref16_Valid.T8 : Bool × List (List Nat × List Nat) := (true, [([], []), ([0], [0]), ([], []), ([1, 2], [1, 2]), ([3], [3]), ([], []), ([5], [5]), ([4, 6], [4, 6]), ([7], [7])])
def paraphrastref16_Valid.B8 : List Nat := [0, 1, 0, 7, 15, 0, 32, 127, 255]
theorem paraphrastref16_Valid.tab8 : rtab .any (opsOf Tryz.f13 8) = paraphrastref16_Valid.T8 := by kernel_rfl
theorem paraphrastref16_Valid.bits8 : waitsOk paraphrastref16_Valid.T8.2 paraphrastref16_Valid.B8 = true := by kernel_rfl
def paraphrastref16_Valid.T13 : Bool × List (List Nat × List Nat) := (true, [([], []), ([], []), ([1], [1]), ([], []), ([2, 3], [2, 3]), ([4], [4]), ([0, 5], [0, 5]), ([6], [6])])
def paraphrastref16_Valid.B13 : List Nat := [0, 0, 2, 0, 14, 30, 63, 127]
theorem paraphrastref16_Valid.tab13 : rtab .any (opsOf Tryz.f13 13) = paraphrastref16_Valid.T13 := by kernel_rfl
theorem paraphrastref16_Valid.bits13 : waitsOk paraphrastref16_Valid.T13.2 paraphrastref16_Valid.B13 = true := by kernel_rfl
def paraphrastref16_Valid.T18 : Bool × List (List Nat × List Nat) := (true, [([], []), ([0], [0]), ([], []), ([1, 2], [1, 2]), ([3], [3]), ([], []), ([5], [5]), ([], []), ([6, 7], [6, 7]), ([8], [8]), ([4, 9], [4, 9])])
def paraphrastref16_Valid.B18 : List Nat := [0, 1, 0, 7, 15, 0, 32, 0, 224, 480, 1023]
theorem paraphrastref16_Valid.tab18 : rtab .any (opsOf Tryz.f13 18) = paraphrastref16_Valid.T18 := by kernel_rfl
theorem paraphrastref16_Valid.bits18 : waitsOk paraphrastref16_Valid.T18.2 paraphrastref16_Valid.B18 = true := by kernel_rfl
set_option maxHeartbeats 8000000 in
set_option maxRecDepth 100000 in
theorem paraphrastref16_Valid.calls (k : Nat) (a0_0 : Int) (a0_1 : Int) (a0_2 : Int) (a0_3 : Int) (A0_4 : Option Addr) (c0_4 : Nat) (l0_4 : List (S42)) (A0_5 : Option Addr) (c0_5 : Nat) (l0_5 : List (S69)) (r : Bool) (w : World) (hr0_4 : Kd.C k42 w A0_4 l0_4.length l0_4) (hc0_4 : l0_4.length ≤ c0_4) (hr0_5 : Kd.C k69 w A0_5 l0_5.length l0_5) (hc0_5 : l0_5.length ≤ c0_5) (h : paraphrastref16_Valid.f k a0_0 a0_1 a0_2 a0_3 l0_4 l0_5 = some r) :
  Calls Tryz.prog 13 #[.agg #[.int .i64 a0_0, .int .i64 a0_1, .int .i64 a0_2, .int .i64 a0_3, .slice A0_4 l0_4.length c0_4, .slice A0_5 l0_5.length c0_5]] w fun e w' => e = .returned (.bool r) ∧ Below w.heap.size w w' := by
 have hu25 := Tryz.underlying25
 have hu42 := Tryz.underlying42
 have hu69 := Tryz.underlying69
 have HR0_4 := Aside0.mk hr0_4
 have HC0_4 := Aside0.mk hc0_4
 clear hr0_4 hc0_4
 have HR0_5 := Aside0.mk hr0_5
 have HC0_5 := Aside0.mk hc0_5
 clear hr0_5 hc0_5
 have HB := Aside0.mk (Below.refl w.heap.size w)
 have H : (if a0_0 < 2 then (paraphrastref16_Valid.j0 k true a0_0 a0_1 a0_2 a0_3 l0_4 l0_5) else (if a0_0 > 400 then (paraphrastref16_Valid.j0 k true a0_0 a0_1 a0_2 a0_3 l0_4 l0_5) else (if a0_1 < 1 then (paraphrastref16_Valid.j0 k true a0_0 a0_1 a0_2 a0_3 l0_4 l0_5) else (if a0_1 > 16 then (paraphrastref16_Valid.j0 k true a0_0 a0_1 a0_2 a0_3 l0_4 l0_5) else (if a0_2 < 1 then (paraphrastref16_Valid.j0 k true a0_0 a0_1 a0_2 a0_3 l0_4 l0_5) else (if a0_2 > 3 then (paraphrastref16_Valid.j0 k true a0_0 a0_1 a0_2 a0_3 l0_4 l0_5) else (if a0_3 < 1 then (paraphrastref16_Valid.j0 k true a0_0 a0_1 a0_2 a0_3 l0_4 l0_5) else (paraphrastref16_Valid.j0 k (decide (a0_3 > 3)) a0_0 a0_1 a0_2 a0_3 l0_4 l0_5)))))))) = some r := h
 clear h
 have HC2 := Aside0.mk H
 clear H
 go_enter Tryz.func13, Tryz.ntmps13
 go_upto_region 1 with (first | ((with_reducible refine gate_dst (N := 1) rfl ?_); (try (refine gate_guard (by rfl) ?_; dsimp only)); refine box_event ?hg (N := 1) ?hd (cs := #[.int .i64 a0_0, .int .i64 a0_1, .int .i64 a0_2, .int .i64 a0_3, .slice A0_4 l0_4.length c0_4, .slice A0_5 l0_5.length c0_5]) (t := 25) ?hr ?_; (case hd => rfl); (case hg => rfl); (case hr => first | (go_simp; done) | (go_simp; rfl)); intro gb166 hg w3 hbox hb; have BK166 := Aside0.mk (hbox); have GW166 := geB w hg; have GE166 := geB w hg; replace HB := Aside0.mk (below_step bel hb); clear hb hbox hg))
 (try simp only [Act.put, List.setIfInBounds_toArray, List.set_cons_zero, List.set_cons_succ])
 go_cut [43] (fun v43 wc => ∃ (kq : Nat) (x43_1 : Bool), v43 = .bool x43_1 ∧ Aside0 (paraphrastref16_Valid.j0 kq x43_1 a0_0 a0_1 a0_2 a0_3 l0_4 l0_5 = some r) ∧ Aside0 (kq ≤ k) ∧ Aside0 (wc.heap[gb166]? = some (.cells #[.int .i64 a0_0, .int .i64 a0_1, .int .i64 a0_2, .int .i64 a0_3, (.slice A0_4 l0_4.length c0_4), (.slice A0_5 l0_5.length c0_5)] 25 (0, 0))) ∧ Aside0 (Below w.heap.size w wc))
 case first =>
  have H := HC2.out
  clear HC2
  by_cases c4 : a0_0 < 2
  ·rw [if_pos c4] at H
   have c4b0 : decide (a0_0 < 2) = true := decide_eq_true c4
   clear c4
   (first | rw [c4b0] | (simp only [i64_w, i32_w]; rw [c4b0]) | skip)
   have H' := Aside0.mk H
   clear H
   have hcz5_0 : w3.cell? ⟨gb166, 0, none⟩ = some (.int .i64 a0_0) := (blk_cell BK166.out 0).trans rfl
   have hcz5_1 : w3.cell? ⟨gb166, 1, none⟩ = some (.int .i64 a0_1) := (blk_cell BK166.out 1).trans rfl
   have hcz5_2 : w3.cell? ⟨gb166, 2, none⟩ = some (.int .i64 a0_2) := (blk_cell BK166.out 2).trans rfl
   have hcz5_3 : w3.cell? ⟨gb166, 3, none⟩ = some (.int .i64 a0_3) := (blk_cell BK166.out 3).trans rfl
   have hcz5_4 : w3.cell? ⟨gb166, 4, none⟩ = some (.slice A0_4 l0_4.length c0_4) := (blk_cell BK166.out 4).trans rfl
   have hcz5_5 : w3.cell? ⟨gb166, 5, none⟩ = some (.slice A0_5 l0_5.length c0_5) := (blk_cell BK166.out 5).trans rfl
   have hfz5_0 := blk_frozen BK166.out 0
   have hfz5_1 := blk_frozen BK166.out 1
   have hfz5_2 := blk_frozen BK166.out 2
   have hfz5_3 := blk_frozen BK166.out 3
   have hfz5_4 := blk_frozen BK166.out 4
   have hfz5_5 := blk_frozen BK166.out 5
   go_wp2
   go_meet
   case rel => exact ⟨_, (true), eS, H', ⟨kle⟩, ⟨bk BK166⟩, ⟨bel⟩⟩
  ·rw [if_neg c4] at H
   have c4b0 : decide (a0_0 < 2) = false := decide_eq_false c4
   clear c4
   (first | rw [c4b0] | (simp only [i64_w, i32_w]; rw [c4b0]) | skip)
   by_cases c6 : a0_0 > 400
   ·rw [if_pos c6] at H
    have c6b0 : decide (400 < a0_0) = true := decide_eq_true c6
    clear c6
    have H' := Aside0.mk H
    clear H
    have hcz7_0 : w3.cell? ⟨gb166, 0, none⟩ = some (.int .i64 a0_0) := (blk_cell BK166.out 0).trans rfl
    have hcz7_1 : w3.cell? ⟨gb166, 1, none⟩ = some (.int .i64 a0_1) := (blk_cell BK166.out 1).trans rfl
    have hcz7_2 : w3.cell? ⟨gb166, 2, none⟩ = some (.int .i64 a0_2) := (blk_cell BK166.out 2).trans rfl
    have hcz7_3 : w3.cell? ⟨gb166, 3, none⟩ = some (.int .i64 a0_3) := (blk_cell BK166.out 3).trans rfl
    have hcz7_4 : w3.cell? ⟨gb166, 4, none⟩ = some (.slice A0_4 l0_4.length c0_4) := (blk_cell BK166.out 4).trans rfl
    have hcz7_5 : w3.cell? ⟨gb166, 5, none⟩ = some (.slice A0_5 l0_5.length c0_5) := (blk_cell BK166.out 5).trans rfl
    have hfz7_0 := blk_frozen BK166.out 0
    have hfz7_1 := blk_frozen BK166.out 1
    have hfz7_2 := blk_frozen BK166.out 2
    have hfz7_3 := blk_frozen BK166.out 3
    have hfz7_4 := blk_frozen BK166.out 4
    have hfz7_5 := blk_frozen BK166.out 5
    go_wp2
    go_meet
    case rel => exact ⟨_, (true), eS, H', ⟨kle⟩, ⟨bk BK166⟩, ⟨bel⟩⟩
   ·rw [if_neg c6] at H
    have c6b0 : decide (400 < a0_0) = false := decide_eq_false c6
    clear c6
    by_cases c8 : a0_1 < 1
    ·rw [if_pos c8] at H
     have c8b0 : decide (a0_1 < 1) = true := decide_eq_true c8
     clear c8
     have H' := Aside0.mk H
     clear H
     have hcz9_0 : w3.cell? ⟨gb166, 0, none⟩ = some (.int .i64 a0_0) := (blk_cell BK166.out 0).trans rfl
     have hcz9_1 : w3.cell? ⟨gb166, 1, none⟩ = some (.int .i64 a0_1) := (blk_cell BK166.out 1).trans rfl
     have hcz9_2 : w3.cell? ⟨gb166, 2, none⟩ = some (.int .i64 a0_2) := (blk_cell BK166.out 2).trans rfl
     have hcz9_3 : w3.cell? ⟨gb166, 3, none⟩ = some (.int .i64 a0_3) := (blk_cell BK166.out 3).trans rfl
     have hcz9_4 : w3.cell? ⟨gb166, 4, none⟩ = some (.slice A0_4 l0_4.length c0_4) := (blk_cell BK166.out 4).trans rfl
     have hcz9_5 : w3.cell? ⟨gb166, 5, none⟩ = some (.slice A0_5 l0_5.length c0_5) := (blk_cell BK166.out 5).trans rfl
     have hfz9_0 := blk_frozen BK166.out 0
     have hfz9_1 := blk_frozen BK166.out 1
     have hfz9_2 := blk_frozen BK166.out 2
     have hfz9_3 := blk_frozen BK166.out 3
     have hfz9_4 := blk_frozen BK166.out 4
     have hfz9_5 := blk_frozen BK166.out 5
     go_wp2
     go_meet
     case rel => exact ⟨_, (true), eS, H', ⟨kle⟩, ⟨bk BK166⟩, ⟨bel⟩⟩
    ·rw [if_neg c8] at H
     have c8b0 : decide (a0_1 < 1) = false := decide_eq_false c8
     clear c8
     by_cases c10 : a0_1 > 16
     ·rw [if_pos c10] at H
      have c10b0 : decide (16 < a0_1) = true := decide_eq_true c10
      clear c10
      have H' := Aside0.mk H
      clear H
      have hcz11_0 : w3.cell? ⟨gb166, 0, none⟩ = some (.int .i64 a0_0) := (blk_cell BK166.out 0).trans rfl
      have hcz11_1 : w3.cell? ⟨gb166, 1, none⟩ = some (.int .i64 a0_1) := (blk_cell BK166.out 1).trans rfl
      have hcz11_2 : w3.cell? ⟨gb166, 2, none⟩ = some (.int .i64 a0_2) := (blk_cell BK166.out 2).trans rfl
      have hcz11_3 : w3.cell? ⟨gb166, 3, none⟩ = some (.int .i64 a0_3) := (blk_cell BK166.out 3).trans rfl
      have hcz11_4 : w3.cell? ⟨gb166, 4, none⟩ = some (.slice A0_4 l0_4.length c0_4) := (blk_cell BK166.out 4).trans rfl
      have hcz11_5 : w3.cell? ⟨gb166, 5, none⟩ = some (.slice A0_5 l0_5.length c0_5) := (blk_cell BK166.out 5).trans rfl
      have hfz11_0 := blk_frozen BK166.out 0
      have hfz11_1 := blk_frozen BK166.out 1
      have hfz11_2 := blk_frozen BK166.out 2
      have hfz11_3 := blk_frozen BK166.out 3
      have hfz11_4 := blk_frozen BK166.out 4
      have hfz11_5 := blk_frozen BK166.out 5
      go_wp2
      go_meet
      case rel => exact ⟨_, (true), eS, H', ⟨kle⟩, ⟨bk BK166⟩, ⟨bel⟩⟩
     ·rw [if_neg c10] at H
      have c10b0 : decide (16 < a0_1) = false := decide_eq_false c10
      clear c10
      by_cases c12 : a0_2 < 1
      ·rw [if_pos c12] at H
       have c12b0 : decide (a0_2 < 1) = true := decide_eq_true c12
       clear c12
       have H' := Aside0.mk H
       clear H
       have hcz13_0 : w3.cell? ⟨gb166, 0, none⟩ = some (.int .i64 a0_0) := (blk_cell BK166.out 0).trans rfl
       have hcz13_1 : w3.cell? ⟨gb166, 1, none⟩ = some (.int .i64 a0_1) := (blk_cell BK166.out 1).trans rfl
       have hcz13_2 : w3.cell? ⟨gb166, 2, none⟩ = some (.int .i64 a0_2) := (blk_cell BK166.out 2).trans rfl
       have hcz13_3 : w3.cell? ⟨gb166, 3, none⟩ = some (.int .i64 a0_3) := (blk_cell BK166.out 3).trans rfl
       have hcz13_4 : w3.cell? ⟨gb166, 4, none⟩ = some (.slice A0_4 l0_4.length c0_4) := (blk_cell BK166.out 4).trans rfl
       have hcz13_5 : w3.cell? ⟨gb166, 5, none⟩ = some (.slice A0_5 l0_5.length c0_5) := (blk_cell BK166.out 5).trans rfl
       have hfz13_0 := blk_frozen BK166.out 0
       have hfz13_1 := blk_frozen BK166.out 1
       have hfz13_2 := blk_frozen BK166.out 2
       have hfz13_3 := blk_frozen BK166.out 3
       have hfz13_4 := blk_frozen BK166.out 4
       have hfz13_5 := blk_frozen BK166.out 5
       go_wp2
       go_meet
       case rel => exact ⟨_, (true), eS, H', ⟨kle⟩, ⟨bk BK166⟩, ⟨bel⟩⟩
      ·rw [if_neg c12] at H
       have c12b0 : decide (a0_2 < 1) = false := decide_eq_false c12
       clear c12
       by_cases c14 : a0_2 > 3
       ·rw [if_pos c14] at H
        have c14b0 : decide (3 < a0_2) = true := decide_eq_true c14
        clear c14
        have H' := Aside0.mk H
        clear H
        have hcz15_0 : w3.cell? ⟨gb166, 0, none⟩ = some (.int .i64 a0_0) := (blk_cell BK166.out 0).trans rfl
        have hcz15_1 : w3.cell? ⟨gb166, 1, none⟩ = some (.int .i64 a0_1) := (blk_cell BK166.out 1).trans rfl
        have hcz15_2 : w3.cell? ⟨gb166, 2, none⟩ = some (.int .i64 a0_2) := (blk_cell BK166.out 2).trans rfl
        have hcz15_3 : w3.cell? ⟨gb166, 3, none⟩ = some (.int .i64 a0_3) := (blk_cell BK166.out 3).trans rfl
        have hcz15_4 : w3.cell? ⟨gb166, 4, none⟩ = some (.slice A0_4 l0_4.length c0_4) := (blk_cell BK166.out 4).trans rfl
        have hcz15_5 : w3.cell? ⟨gb166, 5, none⟩ = some (.slice A0_5 l0_5.length c0_5) := (blk_cell BK166.out 5).trans rfl
        have hfz15_0 := blk_frozen BK166.out 0
        have hfz15_1 := blk_frozen BK166.out 1
        have hfz15_2 := blk_frozen BK166.out 2
        have hfz15_3 := blk_frozen BK166.out 3
        have hfz15_4 := blk_frozen BK166.out 4
        have hfz15_5 := blk_frozen BK166.out 5
        go_wp2
        go_meet
        case rel => exact ⟨_, (true), eS, H', ⟨kle⟩, ⟨bk BK166⟩, ⟨bel⟩⟩
       ·rw [if_neg c14] at H
        have c14b0 : decide (3 < a0_2) = false := decide_eq_false c14
        clear c14
        by_cases c16 : a0_3 < 1
        ·rw [if_pos c16] at H
         have c16b0 : decide (a0_3 < 1) = true := decide_eq_true c16
         clear c16
         have H' := Aside0.mk H
         clear H
         have hcz17_0 : w3.cell? ⟨gb166, 0, none⟩ = some (.int .i64 a0_0) := (blk_cell BK166.out 0).trans rfl
         have hcz17_1 : w3.cell? ⟨gb166, 1, none⟩ = some (.int .i64 a0_1) := (blk_cell BK166.out 1).trans rfl
         have hcz17_2 : w3.cell? ⟨gb166, 2, none⟩ = some (.int .i64 a0_2) := (blk_cell BK166.out 2).trans rfl
         have hcz17_3 : w3.cell? ⟨gb166, 3, none⟩ = some (.int .i64 a0_3) := (blk_cell BK166.out 3).trans rfl
         have hcz17_4 : w3.cell? ⟨gb166, 4, none⟩ = some (.slice A0_4 l0_4.length c0_4) := (blk_cell BK166.out 4).trans rfl
         have hcz17_5 : w3.cell? ⟨gb166, 5, none⟩ = some (.slice A0_5 l0_5.length c0_5) := (blk_cell BK166.out 5).trans rfl
         have hfz17_0 := blk_frozen BK166.out 0
         have hfz17_1 := blk_frozen BK166.out 1
         have hfz17_2 := blk_frozen BK166.out 2
         have hfz17_3 := blk_frozen BK166.out 3
         have hfz17_4 := blk_frozen BK166.out 4
         have hfz17_5 := blk_frozen BK166.out 5
         go_wp2
         go_meet
         case rel => exact ⟨_, (true), eS, H', ⟨kle⟩, ⟨bk BK166⟩, ⟨bel⟩⟩
        ·rw [if_neg c16] at H
         have c16b0 : decide (a0_3 < 1) = false := decide_eq_false c16
         clear c16
         have H' := Aside0.mk H
         clear H
         have hcz18_0 : w3.cell? ⟨gb166, 0, none⟩ = some (.int .i64 a0_0) := (blk_cell BK166.out 0).trans rfl
         have hcz18_1 : w3.cell? ⟨gb166, 1, none⟩ = some (.int .i64 a0_1) := (blk_cell BK166.out 1).trans rfl
         have hcz18_2 : w3.cell? ⟨gb166, 2, none⟩ = some (.int .i64 a0_2) := (blk_cell BK166.out 2).trans rfl
         have hcz18_3 : w3.cell? ⟨gb166, 3, none⟩ = some (.int .i64 a0_3) := (blk_cell BK166.out 3).trans rfl
         have hcz18_4 : w3.cell? ⟨gb166, 4, none⟩ = some (.slice A0_4 l0_4.length c0_4) := (blk_cell BK166.out 4).trans rfl
         have hcz18_5 : w3.cell? ⟨gb166, 5, none⟩ = some (.slice A0_5 l0_5.length c0_5) := (blk_cell BK166.out 5).trans rfl
         have hfz18_0 := blk_frozen BK166.out 0
         have hfz18_1 := blk_frozen BK166.out 1
         have hfz18_2 := blk_frozen BK166.out 2
         have hfz18_3 := blk_frozen BK166.out 3
         have hfz18_4 := blk_frozen BK166.out 4
         have hfz18_5 := blk_frozen BK166.out 5
         go_wp2
         go_meet
         case rel => exact ⟨_, (decide (a0_3 > 3)), eS, H', ⟨kle⟩, ⟨bk BK166⟩, ⟨bel⟩⟩
 case rest =>
  clear HC2
  obtain ⟨kq, x43_1, rfl, HA, HJ1, BK166, HB⟩ := hcut
  cases kq with
  | zero => exact absurd HA.out (by simp [paraphrastref16_Valid.j0])
  | succ kj1 =>
   have H := HA.out
   clear HA
   simp only [paraphrastref16_Valid.j0] at H
   by_cases c19 : x43_1 = true
   ·subst c19
    have H1 : (some false) = some r := by rw [if_pos rfl] at H; exact H
    clear H
    have H := H1
    clear H1
    obtain rfl := Option.some.inj H
    go_wp2
    go_ret
    exact ⟨eN, bel⟩
   ·replace c19 := Bool.eq_false_iff.mpr c19
    subst c19
    have H1 : (if (l0_4.length : Int) > 4 then (paraphrastref16_Valid.j1 kj1 true a0_0 a0_1 a0_2 a0_3 l0_4 l0_5) else (if (shl .i64 1 (l0_4.length : Int)) > a0_1 then (paraphrastref16_Valid.j1 kj1 true a0_0 a0_1 a0_2 a0_3 l0_4 l0_5) else (paraphrastref16_Valid.j1 kj1 (decide ((l0_5.length : Int) > 400)) a0_0 a0_1 a0_2 a0_3 l0_4 l0_5))) = some r := by rw [if_neg (show ¬ (false = true) by decide)] at H; exact H
    clear H
    have H := H1
    clear H1
    have HC20 := Aside0.mk H
    clear H
    go_upto_region 3 with (fail)
    go_cut [62] (fun v62 wc => ∃ (kq : Nat) (x62_19 : Bool), v62 = .bool x62_19 ∧ Aside0 (paraphrastref16_Valid.j1 kq x62_19 a0_0 a0_1 a0_2 a0_3 l0_4 l0_5 = some r) ∧ Aside0 (kq ≤ kj1) ∧ Aside0 (wc.heap[gb166]? = some (.cells #[.int .i64 a0_0, .int .i64 a0_1, .int .i64 a0_2, .int .i64 a0_3, (.slice A0_4 l0_4.length c0_4), (.slice A0_5 l0_5.length c0_5)] 25 (0, 0))) ∧ Aside0 (Below w.heap.size w wc))
    case first =>
     have H := HC20.out
     clear HC20
     by_cases c21 : (l0_4.length : Int) > 4
     ·rw [if_pos c21] at H
      have c21b0 : decide (4 < (l0_4.length : Int)) = true := decide_eq_true c21
      have c21b1 : decide (4 < l0_4.length) = true := decide_eq_true (by omega)
      clear c21
      (first | rw [c21b0] | (simp only [i64_w, i32_w]; rw [c21b0]) | skip)
      have H' := Aside0.mk H
      clear H
      try go_wp2
      replace BK166 := Aside0.mk (blk_drew BK166.out)
      replace HB := Aside0.mk (below_drew1 HB.out)
      refine start_ (n := 19) (S := fun w' => w'.cell? ⟨gb166, 0, none⟩ = some (.int .i64 a0_0) ∧ w'.cell? ⟨gb166, 1, none⟩ = some (.int .i64 a0_1) ∧ w'.cell? ⟨gb166, 2, none⟩ = some (.int .i64 a0_2) ∧ w'.cell? ⟨gb166, 3, none⟩ = some (.int .i64 a0_3) ∧ w'.cell? ⟨gb166, 4, none⟩ = some (.slice A0_4 l0_4.length c0_4) ∧ w'.cell? ⟨gb166, 5, none⟩ = some (.slice A0_5 l0_5.length c0_5)) (ds := []) #[false, false, false, false, false, false, false, false, false, false, false, false, false, false, false, false, false, false, false] (by kernel_rfl) rfl rfl ⟨(blk_cell BK166.out 0).trans rfl, (blk_cell BK166.out 1).trans rfl, (blk_cell BK166.out 2).trans rfl, (blk_cell BK166.out 3).trans rfl, (blk_cell BK166.out 4).trans rfl, (blk_cell BK166.out 5).trans rfl⟩ (fun hHeld => ?_); refine with_tabW paraphrastref16_Valid.tab3 paraphrastref16_Valid.bits3 (fun HT_ HW_ => ?_)
      generalize wc.drew = w22 at BK166 HB hHeld ⊢
      refine sPu 0 (some 44) ?_
      refine sTk 1 (some 45) ?_
      refine sPu 2 (some 46) ?_
      refine sPu 3 (some 47) ?_
      refine sPu 4 (some 48) ?_
      refine sPv 5 (some 49) ?_
      refine sPv 6 (some 50) ?_
      refine sPv 7 (some 51) ?_
      refine sPv 8 (some 52) ?_
      refine sPv 9 (some 53) ?_
      refine sPv 10 (some 54) ?_
      refine sPv 11 (some 55) ?_
      refine sPu 12 (some 56) ?_
      refine sPu 13 (some 57) ?_
      refine sPv 14 (some 58) ?_
      refine sPv 15 (some 59) ?_
      refine sPv 16 (some 60) ?_
      refine sPv 17 (some 61) ?_
      refine sPu 18 (some 62) ?_
      refine done_ (done_of HT_.out (by kernel_rfl)) ?_
      try go_wp2
      go_meet
      case rel => exact ⟨_, (true), eS, H', ⟨by have := HJ1.out; first | omega | exact Nat.le_refl _⟩, ⟨bk BK166⟩, ⟨bel⟩⟩
     ·rw [if_neg c21] at H
      have c21b0 : decide (4 < (l0_4.length : Int)) = false := decide_eq_false c21
      have c21b1 : decide (4 < l0_4.length) = false := decide_eq_false (by omega)
      clear c21
      (first | rw [c21b0] | (simp only [i64_w, i32_w]; rw [c21b0]) | skip)
      obtain ⟨ji23, hji23⟩ : ∃ j_ : Int, (shl .i64 1 (l0_4.length : Int)) = j_ := ⟨_, rfl⟩
      replace H : (if (ji23) > a0_1 then (paraphrastref16_Valid.j1 kj1 true a0_0 a0_1 a0_2 a0_3 l0_4 l0_5) else (paraphrastref16_Valid.j1 kj1 (decide ((l0_5.length : Int) > 400)) a0_0 a0_1 a0_2 a0_3 l0_4 l0_5)) = some r := by first | (rw [hji23] at H; exact H) | (simp only [hji23] at H ⊢; exact H)
      have hji23_ : (IntKind.i64.wrap (1 * 2 ^ min (l0_4.length : Int).toNat 64)) = ji23 := hji23
      have hji23z : (l0_4.length : Int) ≤ 64 → (IntKind.i64.wrap (1 * 2 ^ (l0_4.length : Int).toNat)) = ji23 := shl_small hji23
      have hji23p : (IntKind.i64.wrap (1 * 2 ^ min l0_4.length 64)) = ji23 := hji23_
      have hji23q : (l0_4.length : Int) ≤ 64 → (IntKind.i64.wrap (1 * 2 ^ l0_4.length)) = ji23 := hji23z
      have hji23r : (IntKind.i64.wrap (2 ^ min l0_4.length 64)) = ji23 := by have h_ := hji23p; rw [Int.one_mul] at h_; exact h_
      have hji23s : (l0_4.length : Int) ≤ 64 → (IntKind.i64.wrap (2 ^ l0_4.length)) = ji23 := fun hle_ => by have h_ := hji23q hle_; rw [Int.one_mul] at h_; exact h_
      have hji23u : (IntKind.i64.wrap (2 ^ min (l0_4.length : Int).toNat 64)) = ji23 := by have h_ := hji23_; rw [Int.one_mul] at h_; exact h_
      have hji23v : (l0_4.length : Int) ≤ 64 → (IntKind.i64.wrap (2 ^ (l0_4.length : Int).toNat)) = ji23 := fun hle_ => by have h_ := hji23z hle_; rw [Int.one_mul] at h_; exact h_
      have hji23y : (wrap64 (1 * 2 ^ min (l0_4.length : Int).toNat 64)) = ji23 := (i64_w _).symm.trans hji23_
      have hji23x : (l0_4.length : Int) ≤ 64 → (wrap64 (1 * 2 ^ (l0_4.length : Int).toNat)) = ji23 := fun h_ => (i64_w _).symm.trans (hji23z h_)
      by_cases c24 : (ji23) > a0_1
      ·rw [if_pos c24] at H
       have c24b0 : decide (a0_1 < (ji23)) = true := decide_eq_true c24
       clear c24
       have H' := Aside0.mk H
       clear H
       try go_wp2
       replace BK166 := Aside0.mk (blk_drew BK166.out)
       replace HB := Aside0.mk (below_drew1 HB.out)
       refine start_ (n := 19) (S := fun w' => w'.cell? ⟨gb166, 0, none⟩ = some (.int .i64 a0_0) ∧ w'.cell? ⟨gb166, 1, none⟩ = some (.int .i64 a0_1) ∧ w'.cell? ⟨gb166, 2, none⟩ = some (.int .i64 a0_2) ∧ w'.cell? ⟨gb166, 3, none⟩ = some (.int .i64 a0_3) ∧ w'.cell? ⟨gb166, 4, none⟩ = some (.slice A0_4 l0_4.length c0_4) ∧ w'.cell? ⟨gb166, 5, none⟩ = some (.slice A0_5 l0_5.length c0_5)) (ds := []) #[false, false, false, false, false, false, false, false, false, false, false, false, false, false, false, false, false, false, false] (by kernel_rfl) rfl rfl ⟨(blk_cell BK166.out 0).trans rfl, (blk_cell BK166.out 1).trans rfl, (blk_cell BK166.out 2).trans rfl, (blk_cell BK166.out 3).trans rfl, (blk_cell BK166.out 4).trans rfl, (blk_cell BK166.out 5).trans rfl⟩ (fun hHeld => ?_); refine with_tabW paraphrastref16_Valid.tab3 paraphrastref16_Valid.bits3 (fun HT_ HW_ => ?_)
       generalize wc.drew = w25 at BK166 HB hHeld ⊢
       refine sPu 0 (some 44) ?_
       refine sTk 1 (some 45) ?_
       refine sPu 2 (some 46) ?_
       refine sPu 3 (some 47) ?_
       refine sPu 4 (some 48) ?_
       refine sPu 5 (some 49) ?_
       refine sPu 9 (some 53) ?_
       refine sTk 6 (some 50) ?_
       refine sPu 7 (some 51) ?_
       refine sPu 8 (some 52) ?_
       refine sTk 10 (some 54) ?_
       refine sPu 11 (some 55) ?_
       refine sPu 12 (some 56) ?_
       refine sPu 13 (some 57) ?_
       refine sPv 14 (some 58) ?_
       refine sPv 15 (some 59) ?_
       refine sPv 16 (some 60) ?_
       refine sPv 17 (some 61) ?_
       refine sPu 18 (some 62) ?_
       refine done_ (done_of HT_.out (by kernel_rfl)) ?_
       try go_wp2
       go_meet
       case rel => exact ⟨_, (true), eS, H', ⟨by have := HJ1.out; first | omega | exact Nat.le_refl _⟩, ⟨bk BK166⟩, ⟨bel⟩⟩
      ·rw [if_neg c24] at H
       have c24b0 : decide (a0_1 < (ji23)) = false := decide_eq_false c24
       clear c24
       have H' := Aside0.mk H
       clear H
       try go_wp2
       replace BK166 := Aside0.mk (blk_drew BK166.out)
       replace HB := Aside0.mk (below_drew1 HB.out)
       refine start_ (n := 19) (S := fun w' => w'.cell? ⟨gb166, 0, none⟩ = some (.int .i64 a0_0) ∧ w'.cell? ⟨gb166, 1, none⟩ = some (.int .i64 a0_1) ∧ w'.cell? ⟨gb166, 2, none⟩ = some (.int .i64 a0_2) ∧ w'.cell? ⟨gb166, 3, none⟩ = some (.int .i64 a0_3) ∧ w'.cell? ⟨gb166, 4, none⟩ = some (.slice A0_4 l0_4.length c0_4) ∧ w'.cell? ⟨gb166, 5, none⟩ = some (.slice A0_5 l0_5.length c0_5)) (ds := []) #[false, false, false, false, false, false, false, false, false, false, false, false, false, false, false, false, false, false, false] (by kernel_rfl) rfl rfl ⟨(blk_cell BK166.out 0).trans rfl, (blk_cell BK166.out 1).trans rfl, (blk_cell BK166.out 2).trans rfl, (blk_cell BK166.out 3).trans rfl, (blk_cell BK166.out 4).trans rfl, (blk_cell BK166.out 5).trans rfl⟩ (fun hHeld => ?_); refine with_tabW paraphrastref16_Valid.tab3 paraphrastref16_Valid.bits3 (fun HT_ HW_ => ?_)
       generalize wc.drew = w26 at BK166 HB hHeld ⊢
       refine sPu 0 (some 44) ?_
       refine sTk 1 (some 45) ?_
       refine sPu 2 (some 46) ?_
       refine sPu 3 (some 47) ?_
       refine sPu 4 (some 48) ?_
       refine sPu 5 (some 49) ?_
       refine sPu 9 (some 53) ?_
       refine sTk 6 (some 50) ?_
       refine sPu 7 (some 51) ?_
       refine sPu 8 (some 52) ?_
       refine sTk 10 (some 54) ?_
       refine sPu 11 (some 55) ?_
       refine sPu 12 (some 56) ?_
       refine sPu 13 (some 57) ?_
       refine sPu 14 (some 58) ?_
       refine sTk 15 (some 59) ?_
       refine sPu 16 (some 60) ?_
       refine sPu 17 (some 61) ?_
       refine sPu 18 (some 62) ?_
       refine done_ (done_of HT_.out (by kernel_rfl)) ?_
       try go_wp2
       go_meet
       case rel => exact ⟨_, (decide ((l0_5.length : Int) > 400)), eS, H', ⟨by have := HJ1.out; first | omega | exact Nat.le_refl _⟩, ⟨bk BK166⟩, ⟨bel⟩⟩
    case rest =>
     clear HC20
     (try clear c19)
     obtain ⟨kq, x62_19, rfl, HA, HJ19, BK166, HB⟩ := hcut
     cases kq with
     | zero => exact absurd HA.out (by simp [paraphrastref16_Valid.j1])
     | succ kj19 =>
      have H := HA.out
      clear HA
      simp only [paraphrastref16_Valid.j1] at H
      by_cases c27 : x62_19 = true
      ·subst c27
       have H1 : (some false) = some r := by rw [if_pos rfl] at H; exact H
       clear H
       have H := H1
       clear H1
       obtain rfl := Option.some.inj H
       go_wp2
       go_ret
       exact ⟨eN, bel⟩
      ·replace c27 := Bool.eq_false_iff.mpr c27
       subst c27
       have H1 : (paraphrastref16_Valid.l0 kj19 0 a0_0 a0_1 a0_2 a0_3 l0_4 l0_5) = some r := by rw [if_neg (show ¬ (false = true) by decide)] at H; exact H
       clear H
       have H := H1
       clear H1
       have H' := Aside0.mk H
       clear H
       go_wp2
       go_loopg [3] kj19 (fun kq v3 w' => ∃ (x3_3 : Int), v3 = .int .i64 x3_3 ∧ Aside0 (paraphrastref16_Valid.l0 kq x3_3 a0_0 a0_1 a0_2 a0_3 l0_4 l0_5 = some r) ∧ Aside0 (kq ≤ kj19) ∧ Aside0 (w'.heap[gb166]? = some (.cells #[.int .i64 a0_0, .int .i64 a0_1, .int .i64 a0_2, .int .i64 a0_3, (.slice A0_4 l0_4.length c0_4), (.slice A0_5 l0_5.length c0_5)] 25 (0, 0))) ∧ Aside0 (Below w.heap.size w w'))
       case atStart => exact ⟨(0), eS, H', ⟨Nat.le_refl _⟩, ⟨bk BK166⟩, ⟨bel⟩⟩
       case round =>
        clear H'
        (try clear c19); (try clear c27)
        obtain ⟨x3_3, rfl, HA, HK3, BK166, HB⟩ := hrel
        cases gk with
        | zero => exact absurd HA.out (by simp [paraphrastref16_Valid.l0])
        | succ k3 =>
         have H := HA.out
         clear HA
         simp only [paraphrastref16_Valid.l0] at H
         by_cases c28 : x3_3 < (l0_4.length : Int)
         ·rw [if_pos c28] at H
          have c28b0 : decide (x3_3 < (l0_4.length : Int)) = true := decide_eq_true c28
          clear c28
          by_cases c29 : 0 ≤ x3_3
          ·rw [if_pos c29] at H
           have c29b0 : decide (0 ≤ x3_3) = true := decide_eq_true c29
           clear c29
           replace H := Option.bind_eq_some_iff.mp H
           obtain ⟨t168, A300, H⟩ := H
           replace H : (if t168 = true then (paraphrastref16_Valid.l0 k3 (wrap64 (x3_3 + 1)) a0_0 a0_1 a0_2 a0_3 l0_4 l0_5) else (some false)) = some r := H
           have A30 := Aside0.mk A300
           clear A300
           by_cases c31 : t168 = true
           ·subst c31
            have H1 : (paraphrastref16_Valid.l0 k3 (wrap64 (x3_3 + 1)) a0_0 a0_1 a0_2 a0_3 l0_4 l0_5) = some r := by rw [if_pos rfl] at H; exact H
            clear H
            have H := H1
            clear H1
            have H' := Aside0.mk H
            clear H
            have hcz32_0 : wr.cell? ⟨gb166, 0, none⟩ = some (.int .i64 a0_0) := (blk_cell BK166.out 0).trans rfl
            have hcz32_1 : wr.cell? ⟨gb166, 1, none⟩ = some (.int .i64 a0_1) := (blk_cell BK166.out 1).trans rfl
            have hcz32_2 : wr.cell? ⟨gb166, 2, none⟩ = some (.int .i64 a0_2) := (blk_cell BK166.out 2).trans rfl
            have hcz32_3 : wr.cell? ⟨gb166, 3, none⟩ = some (.int .i64 a0_3) := (blk_cell BK166.out 3).trans rfl
            have hcz32_4 : wr.cell? ⟨gb166, 4, none⟩ = some (.slice A0_4 l0_4.length c0_4) := (blk_cell BK166.out 4).trans rfl
            have hcz32_5 : wr.cell? ⟨gb166, 5, none⟩ = some (.slice A0_5 l0_5.length c0_5) := (blk_cell BK166.out 5).trans rfl
            have hfz32_0 := blk_frozen BK166.out 0
            have hfz32_1 := blk_frozen BK166.out 1
            have hfz32_2 := blk_frozen BK166.out 2
            have hfz32_3 := blk_frozen BK166.out 3
            have hfz32_4 := blk_frozen BK166.out 4
            have hfz32_5 := blk_frozen BK166.out 5
            try go_wp2
            replace BK166 := Aside0.mk (blk_drew BK166.out)
            replace HB := Aside0.mk (below_drew1 HB.out)
            have p167 : 0 ≤ (x3_3 : Int) := dtr
            have q167 : x3_3 < (l0_4.length : Int) := dtr
            obtain ⟨ad167, A167_3, c167_3, e167, hx167_0, hx167_1, hx167_2, hx167_3, hl167_3, hi167_3⟩ := at_T42 HR0_4.out x3_3 p167 q167
            have hw167_3 := hx167_3
            have hw167_2 := hx167_2
            have hw167_1 := hx167_1
            have hw167_0 := hx167_0
            cases e167
            replace hx167_0 := oc hx167_0
            replace hx167_1 := oc hx167_1
            replace hx167_2 := oc hx167_2
            replace hx167_3 := oc hx167_3
            have HR167_3 := Aside0.mk hi167_3
            have HC167_3 := Aside0.mk hl167_3
            clear hi167_3 hl167_3
            replace p167 := eq_true p167
            replace q167 := eq_true q167
            refine start_ (n := 9) (S := fun w' => w'.cell? ⟨gb166, 0, none⟩ = some (.int .i64 a0_0) ∧ w'.cell? ⟨gb166, 1, none⟩ = some (.int .i64 a0_1) ∧ w'.cell? ⟨gb166, 2, none⟩ = some (.int .i64 a0_2) ∧ w'.cell? ⟨gb166, 3, none⟩ = some (.int .i64 a0_3) ∧ w'.cell? ⟨gb166, 4, none⟩ = some (.slice (some ad167) l0_4.length c0_4) ∧ w'.cell? ⟨gb166, 5, none⟩ = some (.slice A0_5 l0_5.length c0_5) ∧ w'.cell? (ad167.add ((x3_3).toNat * 4)) = some (.int .i64 ((rd_T42 l0_4 x3_3).f0)) ∧ w'.cell? ⟨(ad167.add ((x3_3).toNat * 4)).block, (ad167.add ((x3_3).toNat * 4)).off + 1, none⟩ = some (.bool ((rd_T42 l0_4 x3_3).f1)) ∧ w'.cell? ⟨(ad167.add ((x3_3).toNat * 4)).block, (ad167.add ((x3_3).toNat * 4)).off + 2, none⟩ = some (.string ((rd_T42 l0_4 x3_3).f2)) ∧ w'.cell? ⟨(ad167.add ((x3_3).toNat * 4)).block, (ad167.add ((x3_3).toNat * 4)).off + 3, none⟩ = some (.slice A167_3 ((rd_T42 l0_4 x3_3).f3).length c167_3)) (ds := []) #[false, false, false, false, false, false, false, false, false] (by kernel_rfl) rfl rfl ⟨(blk_cell BK166.out 0).trans rfl, (blk_cell BK166.out 1).trans rfl, (blk_cell BK166.out 2).trans rfl, (blk_cell BK166.out 3).trans rfl, (blk_cell BK166.out 4).trans rfl, (blk_cell BK166.out 5).trans rfl, (oc hw167_0), (oc hw167_1), (oc hw167_2), (oc hw167_3)⟩ (fun hHeld => ?_); refine with_tabW paraphrastref16_Valid.tab8 paraphrastref16_Valid.bits8 (fun HT_ HW_ => ?_)
            generalize wr.drew = w33 at BK166 HB HR167_3 hx167_0 hx167_1 hx167_2 hx167_3 hHeld ⊢
            refine sPu 0 (some 70) ?_
            refine sPu 2 (some 72) ?_
            refine sPu 5 (some 75) ?_
            refine sTk 1 (some 71) ?_
            refine sPu 3 (some 73) ?_
            refine sTk 4 (some 74) ?_
            refine sTk 6 (some 76) ?_
            refine sOn 7 (some 77) (fun K hK => ?_)
            refine goes_ Tryz.func31 (by kernel_rfl) rfl #[.agg #[.int .i64 ((rd_T42 l0_4 x3_3).f0), .bool ((rd_T42 l0_4 x3_3).f1), .string ((rd_T42 l0_4 x3_3).f2), .slice A167_3 ((rd_T42 l0_4 x3_3).f3).length c167_3], .int .i64 a0_2] (by rfl) rfl rfl (by (try simp only [List.map_toArray, List.map_cons, List.map_nil]); first | done | rfl | (simp only [List.length_drop, List.length_take]; rfl)) ?_
            with_reducible refine (paraphrastref12_Literal.calls k3 ((rd_T42 l0_4 x3_3).f0) ((rd_T42 l0_4 x3_3).f1) ((rd_T42 l0_4 x3_3).f2) _ _ ((rd_T42 l0_4 x3_3).f3) a0_2 true _ ?side1 ?side2 A30.out).mono ?_
            (case side1 => exact cS (Kd.C_below HR167_3.out HB.out))
            (case side2 => exact HC167_3.out)
            rintro e w34 ⟨rfl, hb⟩
            refine ⟨_, rfl, ?_⟩
            replace BK166 := blB BK166 hb
            replace HB := Aside0.mk (below_step bel hb)
            (try clear hb)
            (try clear hb2)
            (try clear hk)
            (try clear hi)
            refine hK.out _ _ ⟨(blk_cell BK166.out 0).trans rfl, (blk_cell BK166.out 1).trans rfl, (blk_cell BK166.out 2).trans rfl, (blk_cell BK166.out 3).trans rfl, (blk_cell BK166.out 4).trans rfl, (blk_cell BK166.out 5).trans rfl, (oc hw167_0), (oc hw167_1), (oc hw167_2), (oc hw167_3)⟩ (fun hHeld => ?_)
            clear hK K
            refine norm_ (a' := ?_) ?_ ?_
            rotate_left
            ·show Act.put _ (some 77) _ = _
             simp only [Act.put, List.setIfInBounds_toArray, List.set_cons_zero, List.set_cons_succ, i64_w, i32_w]
             rfl
            refine sPu 8 (some 78) ?_
            refine done_ (done_of HT_.out (by kernel_rfl)) ?_
            try go_wp2
            go_roundg k3
            case measure => have := HJ1.out; have := HJ19.out; have := HK3.out; omega
            case rel => exact ⟨(wrap64 (x3_3 + 1)), eS, H', ⟨by have := HJ1.out; have := HJ19.out; have := HK3.out; omega⟩, ⟨bk BK166⟩, ⟨bel⟩⟩
           ·replace c31 := Bool.eq_false_iff.mpr c31
            subst c31
            have H1 : (some false) = some r := by rw [if_neg (show ¬ (false = true) by decide)] at H; exact H
            clear H
            have H := H1
            clear H1
            obtain rfl := Option.some.inj H
            have hcz35_0 : wr.cell? ⟨gb166, 0, none⟩ = some (.int .i64 a0_0) := (blk_cell BK166.out 0).trans rfl
            have hcz35_1 : wr.cell? ⟨gb166, 1, none⟩ = some (.int .i64 a0_1) := (blk_cell BK166.out 1).trans rfl
            have hcz35_2 : wr.cell? ⟨gb166, 2, none⟩ = some (.int .i64 a0_2) := (blk_cell BK166.out 2).trans rfl
            have hcz35_3 : wr.cell? ⟨gb166, 3, none⟩ = some (.int .i64 a0_3) := (blk_cell BK166.out 3).trans rfl
            have hcz35_4 : wr.cell? ⟨gb166, 4, none⟩ = some (.slice A0_4 l0_4.length c0_4) := (blk_cell BK166.out 4).trans rfl
            have hcz35_5 : wr.cell? ⟨gb166, 5, none⟩ = some (.slice A0_5 l0_5.length c0_5) := (blk_cell BK166.out 5).trans rfl
            have hfz35_0 := blk_frozen BK166.out 0
            have hfz35_1 := blk_frozen BK166.out 1
            have hfz35_2 := blk_frozen BK166.out 2
            have hfz35_3 := blk_frozen BK166.out 3
            have hfz35_4 := blk_frozen BK166.out 4
            have hfz35_5 := blk_frozen BK166.out 5
            try go_wp2
            replace BK166 := Aside0.mk (blk_drew BK166.out)
            replace HB := Aside0.mk (below_drew1 HB.out)
            have p167 : 0 ≤ (x3_3 : Int) := dtr
            have q167 : x3_3 < (l0_4.length : Int) := dtr
            obtain ⟨ad167, A167_3, c167_3, e167, hx167_0, hx167_1, hx167_2, hx167_3, hl167_3, hi167_3⟩ := at_T42 HR0_4.out x3_3 p167 q167
            have hw167_3 := hx167_3
            have hw167_2 := hx167_2
            have hw167_1 := hx167_1
            have hw167_0 := hx167_0
            cases e167
            replace hx167_0 := oc hx167_0
            replace hx167_1 := oc hx167_1
            replace hx167_2 := oc hx167_2
            replace hx167_3 := oc hx167_3
            have HR167_3 := Aside0.mk hi167_3
            have HC167_3 := Aside0.mk hl167_3
            clear hi167_3 hl167_3
            replace p167 := eq_true p167
            replace q167 := eq_true q167
            refine start_ (n := 9) (S := fun w' => w'.cell? ⟨gb166, 0, none⟩ = some (.int .i64 a0_0) ∧ w'.cell? ⟨gb166, 1, none⟩ = some (.int .i64 a0_1) ∧ w'.cell? ⟨gb166, 2, none⟩ = some (.int .i64 a0_2) ∧ w'.cell? ⟨gb166, 3, none⟩ = some (.int .i64 a0_3) ∧ w'.cell? ⟨gb166, 4, none⟩ = some (.slice (some ad167) l0_4.length c0_4) ∧ w'.cell? ⟨gb166, 5, none⟩ = some (.slice A0_5 l0_5.length c0_5) ∧ w'.cell? (ad167.add ((x3_3).toNat * 4)) = some (.int .i64 ((rd_T42 l0_4 x3_3).f0)) ∧ w'.cell? ⟨(ad167.add ((x3_3).toNat * 4)).block, (ad167.add ((x3_3).toNat * 4)).off + 1, none⟩ = some (.bool ((rd_T42 l0_4 x3_3).f1)) ∧ w'.cell? ⟨(ad167.add ((x3_3).toNat * 4)).block, (ad167.add ((x3_3).toNat * 4)).off + 2, none⟩ = some (.string ((rd_T42 l0_4 x3_3).f2)) ∧ w'.cell? ⟨(ad167.add ((x3_3).toNat * 4)).block, (ad167.add ((x3_3).toNat * 4)).off + 3, none⟩ = some (.slice A167_3 ((rd_T42 l0_4 x3_3).f3).length c167_3)) (ds := []) #[false, false, false, false, false, false, false, false, false] (by kernel_rfl) rfl rfl ⟨(blk_cell BK166.out 0).trans rfl, (blk_cell BK166.out 1).trans rfl, (blk_cell BK166.out 2).trans rfl, (blk_cell BK166.out 3).trans rfl, (blk_cell BK166.out 4).trans rfl, (blk_cell BK166.out 5).trans rfl, (oc hw167_0), (oc hw167_1), (oc hw167_2), (oc hw167_3)⟩ (fun hHeld => ?_); refine with_tabW paraphrastref16_Valid.tab8 paraphrastref16_Valid.bits8 (fun HT_ HW_ => ?_)
            generalize wr.drew = w36 at BK166 HB HR167_3 hx167_0 hx167_1 hx167_2 hx167_3 hHeld ⊢
            refine sPu 0 (some 70) ?_
            refine sPu 2 (some 72) ?_
            refine sPu 5 (some 75) ?_
            refine sTk 1 (some 71) ?_
            refine sPu 3 (some 73) ?_
            refine sTk 4 (some 74) ?_
            refine sTk 6 (some 76) ?_
            refine sOn 7 (some 77) (fun K hK => ?_)
            refine goes_ Tryz.func31 (by kernel_rfl) rfl #[.agg #[.int .i64 ((rd_T42 l0_4 x3_3).f0), .bool ((rd_T42 l0_4 x3_3).f1), .string ((rd_T42 l0_4 x3_3).f2), .slice A167_3 ((rd_T42 l0_4 x3_3).f3).length c167_3], .int .i64 a0_2] (by rfl) rfl rfl (by (try simp only [List.map_toArray, List.map_cons, List.map_nil]); first | done | rfl | (simp only [List.length_drop, List.length_take]; rfl)) ?_
            with_reducible refine (paraphrastref12_Literal.calls k3 ((rd_T42 l0_4 x3_3).f0) ((rd_T42 l0_4 x3_3).f1) ((rd_T42 l0_4 x3_3).f2) _ _ ((rd_T42 l0_4 x3_3).f3) a0_2 false _ ?side1 ?side2 A30.out).mono ?_
            (case side1 => exact cS (Kd.C_below HR167_3.out HB.out))
            (case side2 => exact HC167_3.out)
            rintro e w37 ⟨rfl, hb⟩
            refine ⟨_, rfl, ?_⟩
            replace BK166 := blB BK166 hb
            replace HB := Aside0.mk (below_step bel hb)
            (try clear hb)
            (try clear hb2)
            (try clear hk)
            (try clear hi)
            refine hK.out _ _ ⟨(blk_cell BK166.out 0).trans rfl, (blk_cell BK166.out 1).trans rfl, (blk_cell BK166.out 2).trans rfl, (blk_cell BK166.out 3).trans rfl, (blk_cell BK166.out 4).trans rfl, (blk_cell BK166.out 5).trans rfl, (oc hw167_0), (oc hw167_1), (oc hw167_2), (oc hw167_3)⟩ (fun hHeld => ?_)
            clear hK K
            refine norm_ (a' := ?_) ?_ ?_
            rotate_left
            ·show Act.put _ (some 77) _ = _
             simp only [Act.put, List.setIfInBounds_toArray, List.set_cons_zero, List.set_cons_succ, i64_w, i32_w]
             rfl
            refine sPu 8 (some 78) ?_
            refine done_ (done_of HT_.out (by kernel_rfl)) ?_
            try go_wp2
            go_ret
            exact ⟨eN, bel⟩
          ·rw [if_neg c29] at H
           exact absurd H (by simp)
         ·rw [if_neg c28] at H
          have c28b0 : decide (x3_3 < (l0_4.length : Int)) = false := decide_eq_false c28
          clear c28
          have H' := Aside0.mk H
          clear H
          have hcz38_0 : wr.cell? ⟨gb166, 0, none⟩ = some (.int .i64 a0_0) := (blk_cell BK166.out 0).trans rfl
          have hcz38_1 : wr.cell? ⟨gb166, 1, none⟩ = some (.int .i64 a0_1) := (blk_cell BK166.out 1).trans rfl
          have hcz38_2 : wr.cell? ⟨gb166, 2, none⟩ = some (.int .i64 a0_2) := (blk_cell BK166.out 2).trans rfl
          have hcz38_3 : wr.cell? ⟨gb166, 3, none⟩ = some (.int .i64 a0_3) := (blk_cell BK166.out 3).trans rfl
          have hcz38_4 : wr.cell? ⟨gb166, 4, none⟩ = some (.slice A0_4 l0_4.length c0_4) := (blk_cell BK166.out 4).trans rfl
          have hcz38_5 : wr.cell? ⟨gb166, 5, none⟩ = some (.slice A0_5 l0_5.length c0_5) := (blk_cell BK166.out 5).trans rfl
          have hfz38_0 := blk_frozen BK166.out 0
          have hfz38_1 := blk_frozen BK166.out 1
          have hfz38_2 := blk_frozen BK166.out 2
          have hfz38_3 := blk_frozen BK166.out 3
          have hfz38_4 := blk_frozen BK166.out 4
          have hfz38_5 := blk_frozen BK166.out 5
          go_wp2
          go_loopg [4] k3 (fun kq v4 w' => ∃ (x4_4 : Int), v4 = .int .i64 x4_4 ∧ Aside0 (paraphrastref16_Valid.l1 kq x4_4 a0_0 a0_1 a0_2 a0_3 l0_4 l0_5 = some r) ∧ Aside0 (kq ≤ k3) ∧ Aside0 (w'.heap[gb166]? = some (.cells #[.int .i64 a0_0, .int .i64 a0_1, .int .i64 a0_2, .int .i64 a0_3, (.slice A0_4 l0_4.length c0_4), (.slice A0_5 l0_5.length c0_5)] 25 (0, 0))) ∧ Aside0 (Below w.heap.size w w'))
          case atStart => exact ⟨(0), eS, H', ⟨Nat.le_refl _⟩, ⟨bk BK166⟩, ⟨bel⟩⟩
          case round =>
           clear H'
           (try clear c19); (try clear c27); (try clear c28); (try clear c28b0); (try clear hcz38_0); (try clear hcz38_1); (try clear hcz38_2); (try clear hcz38_3); (try clear hcz38_4); (try clear hcz38_5); (try clear hfz38_0); (try clear hfz38_1); (try clear hfz38_2); (try clear hfz38_3); (try clear hfz38_4); (try clear hfz38_5)
           obtain ⟨x4_4, rfl, HA, HK4, BK166, HB⟩ := hrel
           cases gk with
           | zero => exact absurd HA.out (by simp [paraphrastref16_Valid.l1])
           | succ k4 =>
            have H := HA.out
            clear HA
            simp only [paraphrastref16_Valid.l1] at H
            by_cases c39 : x4_4 < (l0_5.length : Int)
            ·rw [if_pos c39] at H
             have c39b0 : decide (x4_4 < (l0_5.length : Int)) = true := decide_eq_true c39
             clear c39
             by_cases c40 : 0 ≤ x4_4
             ·rw [if_pos c40] at H
              have c40b0 : decide (0 ≤ x4_4) = true := decide_eq_true c40
              clear c40
              replace H := Option.bind_eq_some_iff.mp H
              obtain ⟨t171, A410, H⟩ := H
              replace H : (if t171 = true then (paraphrastref16_Valid.l2 k4 x4_4 0 a0_0 a0_1 a0_2 a0_3 l0_4 l0_5) else (some false)) = some r := H
              have A41 := Aside0.mk A410
              clear A410
              by_cases c42 : t171 = true
              ·subst c42
               have H1 : (paraphrastref16_Valid.l2 k4 x4_4 0 a0_0 a0_1 a0_2 a0_3 l0_4 l0_5) = some r := by rw [if_pos rfl] at H; exact H
               clear H
               have H := H1
               clear H1
               have H' := Aside0.mk H
               clear H
               have hcz43_0 : wr.cell? ⟨gb166, 0, none⟩ = some (.int .i64 a0_0) := (blk_cell BK166.out 0).trans rfl
               have hcz43_1 : wr.cell? ⟨gb166, 1, none⟩ = some (.int .i64 a0_1) := (blk_cell BK166.out 1).trans rfl
               have hcz43_2 : wr.cell? ⟨gb166, 2, none⟩ = some (.int .i64 a0_2) := (blk_cell BK166.out 2).trans rfl
               have hcz43_3 : wr.cell? ⟨gb166, 3, none⟩ = some (.int .i64 a0_3) := (blk_cell BK166.out 3).trans rfl
               have hcz43_4 : wr.cell? ⟨gb166, 4, none⟩ = some (.slice A0_4 l0_4.length c0_4) := (blk_cell BK166.out 4).trans rfl
               have hcz43_5 : wr.cell? ⟨gb166, 5, none⟩ = some (.slice A0_5 l0_5.length c0_5) := (blk_cell BK166.out 5).trans rfl
               have hfz43_0 := blk_frozen BK166.out 0
               have hfz43_1 := blk_frozen BK166.out 1
               have hfz43_2 := blk_frozen BK166.out 2
               have hfz43_3 := blk_frozen BK166.out 3
               have hfz43_4 := blk_frozen BK166.out 4
               have hfz43_5 := blk_frozen BK166.out 5
               try go_wp2
               replace BK166 := Aside0.mk (blk_drew BK166.out)
               replace HB := Aside0.mk (below_drew1 HB.out)
               have p170 : 0 ≤ (x4_4 : Int) := dtr
               have q170 : x4_4 < (l0_5.length : Int) := dtr
               obtain ⟨ad170, e170, hx170_0, hx170_1, hx170_2, hx170_3, hx170_4⟩ := at_T69 HR0_5.out x4_4 p170 q170
               have hw170_4 := hx170_4
               have hw170_3 := hx170_3
               have hw170_2 := hx170_2
               have hw170_1 := hx170_1
               have hw170_0 := hx170_0
               cases e170
               replace hx170_0 := oc hx170_0
               replace hx170_1 := oc hx170_1
               replace hx170_2 := oc hx170_2
               replace hx170_3 := oc hx170_3
               replace hx170_4 := oc hx170_4
               replace p170 := eq_true p170
               replace q170 := eq_true q170
               refine start_ (n := 8) (S := fun w' => w'.cell? ⟨gb166, 0, none⟩ = some (.int .i64 a0_0) ∧ w'.cell? ⟨gb166, 1, none⟩ = some (.int .i64 a0_1) ∧ w'.cell? ⟨gb166, 2, none⟩ = some (.int .i64 a0_2) ∧ w'.cell? ⟨gb166, 3, none⟩ = some (.int .i64 a0_3) ∧ w'.cell? ⟨gb166, 4, none⟩ = some (.slice A0_4 l0_4.length c0_4) ∧ w'.cell? ⟨gb166, 5, none⟩ = some (.slice (some ad170) l0_5.length c0_5) ∧ w'.cell? (ad170.add ((x4_4).toNat * 5)) = some (.int .i64 ((rd_T69 l0_5 x4_4).f0)) ∧ w'.cell? ⟨(ad170.add ((x4_4).toNat * 5)).block, (ad170.add ((x4_4).toNat * 5)).off + 1, none⟩ = some (.int .i64 ((rd_T69 l0_5 x4_4).f1)) ∧ w'.cell? ⟨(ad170.add ((x4_4).toNat * 5)).block, (ad170.add ((x4_4).toNat * 5)).off + 2, none⟩ = some (.int .i64 ((rd_T69 l0_5 x4_4).f2)) ∧ w'.cell? ⟨(ad170.add ((x4_4).toNat * 5)).block, (ad170.add ((x4_4).toNat * 5)).off + 3, none⟩ = some (.int .i64 ((rd_T69 l0_5 x4_4).f3)) ∧ w'.cell? ⟨(ad170.add ((x4_4).toNat * 5)).block, (ad170.add ((x4_4).toNat * 5)).off + 4, none⟩ = some (.int .i64 ((rd_T69 l0_5 x4_4).f4))) (ds := []) #[false, false, false, false, false, false, false, false] (by kernel_rfl) rfl rfl ⟨(blk_cell BK166.out 0).trans rfl, (blk_cell BK166.out 1).trans rfl, (blk_cell BK166.out 2).trans rfl, (blk_cell BK166.out 3).trans rfl, (blk_cell BK166.out 4).trans rfl, (blk_cell BK166.out 5).trans rfl, (oc hw170_0), (oc hw170_1), (oc hw170_2), (oc hw170_3), (oc hw170_4)⟩ (fun hHeld => ?_); refine with_tabW paraphrastref16_Valid.tab13 paraphrastref16_Valid.bits13 (fun HT_ HW_ => ?_)
               generalize wr.drew = w44 at BK166 HB hx170_0 hx170_1 hx170_2 hx170_3 hx170_4 hHeld ⊢
               refine sPu 1 (some 87) ?_
               refine sPu 3 (some 89) ?_
               refine sTk 0 (some 86) ?_
               refine sTk 2 (some 88) ?_
               refine sPu 4 (some 90) ?_
               refine sTk 5 (some 91) ?_
               refine sOn 6 (some 92) (fun K hK => ?_)
               refine goes_ Tryz.func32 (by kernel_rfl) rfl #[.agg #[.int .i64 a0_0, .int .i64 a0_1, .int .i64 a0_2, .int .i64 a0_3, .slice A0_4 l0_4.length c0_4, .slice (some ad170) l0_5.length c0_5], .agg #[.int .i64 ((rd_T69 l0_5 x4_4).f0), .int .i64 ((rd_T69 l0_5 x4_4).f1), .int .i64 ((rd_T69 l0_5 x4_4).f2), .int .i64 ((rd_T69 l0_5 x4_4).f3), .int .i64 ((rd_T69 l0_5 x4_4).f4)]] (by rfl) rfl rfl (by (try simp only [List.map_toArray, List.map_cons, List.map_nil]); first | done | rfl | (simp only [List.length_drop, List.length_take]; rfl)) ?_
               with_reducible refine (paraphrastref16_step.calls a0_0 a0_1 a0_2 a0_3 _ _ l0_4 _ _ l0_5 ((rd_T69 l0_5 x4_4).f0) ((rd_T69 l0_5 x4_4).f1) ((rd_T69 l0_5 x4_4).f2) ((rd_T69 l0_5 x4_4).f3) ((rd_T69 l0_5 x4_4).f4) true _ ?side1 ?side2 ?side3 ?side4 A41.out).mono ?_
               (case side1 => exact cS (Kd.C_below HR0_4.out HB.out))
               (case side2 => exact HC0_4.out)
               (case side3 => exact cS (Kd.C_below HR0_5.out HB.out))
               (case side4 => exact HC0_5.out)
               rintro e w45 ⟨rfl, hb⟩
               refine ⟨_, rfl, ?_⟩
               replace BK166 := blB BK166 hb
               replace HB := Aside0.mk (below_step bel hb)
               (try clear hb)
               (try clear hb2)
               (try clear hk)
               (try clear hi)
               refine hK.out _ _ ⟨(blk_cell BK166.out 0).trans rfl, (blk_cell BK166.out 1).trans rfl, (blk_cell BK166.out 2).trans rfl, (blk_cell BK166.out 3).trans rfl, (blk_cell BK166.out 4).trans rfl, (blk_cell BK166.out 5).trans rfl, (oc hw170_0), (oc hw170_1), (oc hw170_2), (oc hw170_3), (oc hw170_4)⟩ (fun hHeld => ?_)
               clear hK K
               refine norm_ (a' := ?_) ?_ ?_
               rotate_left
               ·show Act.put _ (some 92) _ = _
                simp only [Act.put, List.setIfInBounds_toArray, List.set_cons_zero, List.set_cons_succ, i64_w, i32_w]
                rfl
               refine sPu 7 (some 93) ?_
               refine done_ (done_of HT_.out (by kernel_rfl)) ?_
               try go_wp2
               go_loopg [5] k4 (fun kq v5 w' => ∃ (x5_5 : Int), v5 = .int .i64 x5_5 ∧ Aside0 (paraphrastref16_Valid.l2 kq x4_4 x5_5 a0_0 a0_1 a0_2 a0_3 l0_4 l0_5 = some r) ∧ Aside0 (kq ≤ k4) ∧ Aside0 (w'.heap[gb166]? = some (.cells #[.int .i64 a0_0, .int .i64 a0_1, .int .i64 a0_2, .int .i64 a0_3, (.slice A0_4 l0_4.length c0_4), (.slice (some ad170) l0_5.length c0_5)] 25 (0, 0))) ∧ Aside0 (Below w.heap.size w w'))
               case atStart => exact ⟨(0), eS, H', ⟨Nat.le_refl _⟩, ⟨bk BK166⟩, ⟨bel⟩⟩
               case round =>
                clear H'
                (try clear c19); (try clear c27); (try clear c28); (try clear c28b0); (try clear c39); (try clear c39b0); (try clear c40); (try clear c40b0); (try clear c42); (try clear hcz38_0); (try clear hcz38_1); (try clear hcz38_2); (try clear hcz38_3); (try clear hcz38_4); (try clear hcz38_5); (try clear hcz43_0); (try clear hcz43_1); (try clear hcz43_2); (try clear hcz43_3); (try clear hcz43_4); (try clear hcz43_5); (try clear hfz38_0); (try clear hfz38_1); (try clear hfz38_2); (try clear hfz38_3); (try clear hfz38_4); (try clear hfz38_5); (try clear hfz43_0); (try clear hfz43_1); (try clear hfz43_2); (try clear hfz43_3); (try clear hfz43_4); (try clear hfz43_5); (try clear hx170_0); (try clear hx170_1); (try clear hx170_2); (try clear hx170_3); (try clear hx170_4); (try clear p170); (try clear q170)
                obtain ⟨x5_5, rfl, HA, HK5, BK166, HB⟩ := hrel
                cases gk with
                | zero => exact absurd HA.out (by simp [paraphrastref16_Valid.l2])
                | succ k5 =>
                 have H := HA.out
                 clear HA
                 simp only [paraphrastref16_Valid.l2] at H
                 by_cases c46 : x5_5 < x4_4
                 ·rw [if_pos c46] at H
                  have c46b0 : decide (x5_5 < x4_4) = true := decide_eq_true c46
                  clear c46
                  by_cases c47 : 0 ≤ x5_5
                  ·rw [if_pos c47] at H
                   have c47b0 : decide (0 ≤ x5_5) = true := decide_eq_true c47
                   clear c47
                   by_cases c48 : x5_5 < (l0_5.length : Int)
                   ·rw [if_pos c48] at H
                    have c48b0 : decide (x5_5 < (l0_5.length : Int)) = true := decide_eq_true c48
                    clear c48
                    by_cases c49 : 0 ≤ x4_4
                    ·rw [if_pos c49] at H
                     have c49b0 : decide (0 ≤ x4_4) = true := decide_eq_true c49
                     clear c49
                     by_cases c50 : x4_4 < (l0_5.length : Int)
                     ·rw [if_pos c50] at H
                      have c50b0 : decide (x4_4 < (l0_5.length : Int)) = true := decide_eq_true c50
                      clear c50
                      by_cases c51 : (((rd_T69 l0_5 x5_5).f0) == ((rd_T69 l0_5 x4_4).f0) && (((rd_T69 l0_5 x5_5).f1) == ((rd_T69 l0_5 x4_4).f1) && (((rd_T69 l0_5 x5_5).f2) == ((rd_T69 l0_5 x4_4).f2) && (((rd_T69 l0_5 x5_5).f3) == ((rd_T69 l0_5 x4_4).f3) && (((rd_T69 l0_5 x5_5).f4) == ((rd_T69 l0_5 x4_4).f4)))))) = true
                      ·rw [if_pos c51] at H
                       have c51b0 : (((rd_T69 l0_5 x5_5).f0) == ((rd_T69 l0_5 x4_4).f0) && (((rd_T69 l0_5 x5_5).f1) == ((rd_T69 l0_5 x4_4).f1) && (((rd_T69 l0_5 x5_5).f2) == ((rd_T69 l0_5 x4_4).f2) && (((rd_T69 l0_5 x5_5).f3) == ((rd_T69 l0_5 x4_4).f3) && (((rd_T69 l0_5 x5_5).f4) == ((rd_T69 l0_5 x4_4).f4)))))) = true := c51
                       (try (have c51b1 : decide (((rd_T69 l0_5 x5_5).f0) = ((rd_T69 l0_5 x4_4).f0) && (((rd_T69 l0_5 x5_5).f1) == ((rd_T69 l0_5 x4_4).f1) && (((rd_T69 l0_5 x5_5).f2) == ((rd_T69 l0_5 x4_4).f2) && (((rd_T69 l0_5 x5_5).f3) == ((rd_T69 l0_5 x4_4).f3) && (((rd_T69 l0_5 x5_5).f4) == ((rd_T69 l0_5 x4_4).f4)))))) = true := by simpa using c51))
                       (try (have c51b2 : (((rd_T69 l0_5 x5_5).f0) == ((rd_T69 l0_5 x4_4).f0) && (((rd_T69 l0_5 x5_5).f1) == ((rd_T69 l0_5 x4_4).f1) && (((rd_T69 l0_5 x5_5).f2) == ((rd_T69 l0_5 x4_4).f2) && (((rd_T69 l0_5 x5_5).f3) == ((rd_T69 l0_5 x4_4).f3) && (((rd_T69 l0_5 x5_5).f4) == ((rd_T69 l0_5 x4_4).f4)))))) = true := by simpa using c51))
                       clear c51
                       obtain rfl := Option.some.inj H
                       try go_wp2
                       replace BK166 := Aside0.mk (blk_drew BK166.out)
                       replace HB := Aside0.mk (below_drew1 HB.out)
                       have p172 : 0 ≤ (x5_5 : Int) := dtr
                       have q172 : x5_5 < (l0_5.length : Int) := dtr
                       obtain ⟨ad172, e172, hx172_0, hx172_1, hx172_2, hx172_3, hx172_4⟩ := at_T69 HR0_5.out x5_5 p172 q172
                       have hw172_4 := hx172_4
                       have hw172_3 := hx172_3
                       have hw172_2 := hx172_2
                       have hw172_1 := hx172_1
                       have hw172_0 := hx172_0
                       obtain rfl : ad170 = ad172 := (by injection e172)
                       replace hx172_0 := oc hx172_0
                       replace hx172_1 := oc hx172_1
                       replace hx172_2 := oc hx172_2
                       replace hx172_3 := oc hx172_3
                       replace hx172_4 := oc hx172_4
                       replace p172 := eq_true p172
                       replace q172 := eq_true q172
                       have p173 : 0 ≤ (x4_4 : Int) := dtr
                       have q173 : x4_4 < (l0_5.length : Int) := dtr
                       obtain ⟨ad173, e173, hx173_0, hx173_1, hx173_2, hx173_3, hx173_4⟩ := at_T69 HR0_5.out x4_4 p173 q173
                       have hw173_4 := hx173_4
                       have hw173_3 := hx173_3
                       have hw173_2 := hx173_2
                       have hw173_1 := hx173_1
                       have hw173_0 := hx173_0
                       obtain rfl : ad170 = ad173 := (by injection e173)
                       replace hx173_0 := oc hx173_0
                       replace hx173_1 := oc hx173_1
                       replace hx173_2 := oc hx173_2
                       replace hx173_3 := oc hx173_3
                       replace hx173_4 := oc hx173_4
                       replace p173 := eq_true p173
                       replace q173 := eq_true q173
                       refine start_ (n := 11) (S := fun w' => w'.cell? ⟨gb166, 0, none⟩ = some (.int .i64 a0_0) ∧ w'.cell? ⟨gb166, 1, none⟩ = some (.int .i64 a0_1) ∧ w'.cell? ⟨gb166, 2, none⟩ = some (.int .i64 a0_2) ∧ w'.cell? ⟨gb166, 3, none⟩ = some (.int .i64 a0_3) ∧ w'.cell? ⟨gb166, 4, none⟩ = some (.slice A0_4 l0_4.length c0_4) ∧ w'.cell? ⟨gb166, 5, none⟩ = some (.slice (some ad170) l0_5.length c0_5) ∧ w'.cell? (ad170.add ((x5_5).toNat * 5)) = some (.int .i64 ((rd_T69 l0_5 x5_5).f0)) ∧ w'.cell? ⟨(ad170.add ((x5_5).toNat * 5)).block, (ad170.add ((x5_5).toNat * 5)).off + 1, none⟩ = some (.int .i64 ((rd_T69 l0_5 x5_5).f1)) ∧ w'.cell? ⟨(ad170.add ((x5_5).toNat * 5)).block, (ad170.add ((x5_5).toNat * 5)).off + 2, none⟩ = some (.int .i64 ((rd_T69 l0_5 x5_5).f2)) ∧ w'.cell? ⟨(ad170.add ((x5_5).toNat * 5)).block, (ad170.add ((x5_5).toNat * 5)).off + 3, none⟩ = some (.int .i64 ((rd_T69 l0_5 x5_5).f3)) ∧ w'.cell? ⟨(ad170.add ((x5_5).toNat * 5)).block, (ad170.add ((x5_5).toNat * 5)).off + 4, none⟩ = some (.int .i64 ((rd_T69 l0_5 x5_5).f4)) ∧ w'.cell? (ad170.add ((x4_4).toNat * 5)) = some (.int .i64 ((rd_T69 l0_5 x4_4).f0)) ∧ w'.cell? ⟨(ad170.add ((x4_4).toNat * 5)).block, (ad170.add ((x4_4).toNat * 5)).off + 1, none⟩ = some (.int .i64 ((rd_T69 l0_5 x4_4).f1)) ∧ w'.cell? ⟨(ad170.add ((x4_4).toNat * 5)).block, (ad170.add ((x4_4).toNat * 5)).off + 2, none⟩ = some (.int .i64 ((rd_T69 l0_5 x4_4).f2)) ∧ w'.cell? ⟨(ad170.add ((x4_4).toNat * 5)).block, (ad170.add ((x4_4).toNat * 5)).off + 3, none⟩ = some (.int .i64 ((rd_T69 l0_5 x4_4).f3)) ∧ w'.cell? ⟨(ad170.add ((x4_4).toNat * 5)).block, (ad170.add ((x4_4).toNat * 5)).off + 4, none⟩ = some (.int .i64 ((rd_T69 l0_5 x4_4).f4))) (ds := []) #[false, false, false, false, false, false, false, false, false, false, false] (by kernel_rfl) rfl rfl ⟨(blk_cell BK166.out 0).trans rfl, (blk_cell BK166.out 1).trans rfl, (blk_cell BK166.out 2).trans rfl, (blk_cell BK166.out 3).trans rfl, (blk_cell BK166.out 4).trans rfl, (blk_cell BK166.out 5).trans rfl, (oc hw172_0), (oc hw172_1), (oc hw172_2), (oc hw172_3), (oc hw172_4), (oc hw173_0), (oc hw173_1), (oc hw173_2), (oc hw173_3), (oc hw173_4)⟩ (fun hHeld => ?_); refine with_tabW paraphrastref16_Valid.tab18 paraphrastref16_Valid.bits18 (fun HT_ HW_ => ?_)
                       generalize wr.drew = w52 at BK166 HB hx172_0 hx172_1 hx172_2 hx172_3 hx172_4 hx173_0 hx173_1 hx173_2 hx173_3 hx173_4 hHeld ⊢
                       refine sPu 0 (some 99) ?_
                       refine sPu 2 (some 101) ?_
                       refine sPu 5 (some 104) ?_
                       refine sPu 7 (some 106) ?_
                       refine sTk 1 (some 100) ?_
                       refine sPu 3 (some 102) ?_
                       refine sTk 4 (some 103) ?_
                       refine sTk 6 (some 105) ?_
                       refine sPu 8 (some 107) ?_
                       refine sTk 9 (some 108) ?_
                       refine sPu 10 (some 109) ?_
                       refine done_ (done_of HT_.out (by kernel_rfl)) ?_
                       try go_wp2
                       go_ret
                       exact ⟨eN, bel⟩
                      ·rw [if_neg c51] at H
                       have c51b0 : (((rd_T69 l0_5 x5_5).f0) == ((rd_T69 l0_5 x4_4).f0) && (((rd_T69 l0_5 x5_5).f1) == ((rd_T69 l0_5 x4_4).f1) && (((rd_T69 l0_5 x5_5).f2) == ((rd_T69 l0_5 x4_4).f2) && (((rd_T69 l0_5 x5_5).f3) == ((rd_T69 l0_5 x4_4).f3) && (((rd_T69 l0_5 x5_5).f4) == ((rd_T69 l0_5 x4_4).f4)))))) = false := by simpa using c51
                       (try (have c51b1 : decide (((rd_T69 l0_5 x5_5).f0) = ((rd_T69 l0_5 x4_4).f0) && (((rd_T69 l0_5 x5_5).f1) == ((rd_T69 l0_5 x4_4).f1) && (((rd_T69 l0_5 x5_5).f2) == ((rd_T69 l0_5 x4_4).f2) && (((rd_T69 l0_5 x5_5).f3) == ((rd_T69 l0_5 x4_4).f3) && (((rd_T69 l0_5 x5_5).f4) == ((rd_T69 l0_5 x4_4).f4)))))) = false := by simpa using c51))
                       (try (have c51b2 : (((rd_T69 l0_5 x5_5).f0) == ((rd_T69 l0_5 x4_4).f0) && (((rd_T69 l0_5 x5_5).f1) == ((rd_T69 l0_5 x4_4).f1) && (((rd_T69 l0_5 x5_5).f2) == ((rd_T69 l0_5 x4_4).f2) && (((rd_T69 l0_5 x5_5).f3) == ((rd_T69 l0_5 x4_4).f3) && (((rd_T69 l0_5 x5_5).f4) == ((rd_T69 l0_5 x4_4).f4)))))) = false := by simpa using c51))
                       (try (have c51b3 : ¬ (((rd_T69 l0_5 x5_5).f0) = ((rd_T69 l0_5 x4_4).f0) && (((rd_T69 l0_5 x5_5).f1) == ((rd_T69 l0_5 x4_4).f1) && (((rd_T69 l0_5 x5_5).f2) == ((rd_T69 l0_5 x4_4).f2) && (((rd_T69 l0_5 x5_5).f3) == ((rd_T69 l0_5 x4_4).f3) && (((rd_T69 l0_5 x5_5).f4) == ((rd_T69 l0_5 x4_4).f4)))))) := by simpa using c51))
                       clear c51
                       have H' := Aside0.mk H
                       clear H
                       try go_wp2
                       replace BK166 := Aside0.mk (blk_drew BK166.out)
                       replace HB := Aside0.mk (below_drew1 HB.out)
                       have p172 : 0 ≤ (x5_5 : Int) := dtr
                       have q172 : x5_5 < (l0_5.length : Int) := dtr
                       obtain ⟨ad172, e172, hx172_0, hx172_1, hx172_2, hx172_3, hx172_4⟩ := at_T69 HR0_5.out x5_5 p172 q172
                       have hw172_4 := hx172_4
                       have hw172_3 := hx172_3
                       have hw172_2 := hx172_2
                       have hw172_1 := hx172_1
                       have hw172_0 := hx172_0
                       obtain rfl : ad170 = ad172 := (by injection e172)
                       replace hx172_0 := oc hx172_0
                       replace hx172_1 := oc hx172_1
                       replace hx172_2 := oc hx172_2
                       replace hx172_3 := oc hx172_3
                       replace hx172_4 := oc hx172_4
                       replace p172 := eq_true p172
                       replace q172 := eq_true q172
                       have p173 : 0 ≤ (x4_4 : Int) := dtr
                       have q173 : x4_4 < (l0_5.length : Int) := dtr
                       obtain ⟨ad173, e173, hx173_0, hx173_1, hx173_2, hx173_3, hx173_4⟩ := at_T69 HR0_5.out x4_4 p173 q173
                       have hw173_4 := hx173_4
                       have hw173_3 := hx173_3
                       have hw173_2 := hx173_2
                       have hw173_1 := hx173_1
                       have hw173_0 := hx173_0
                       obtain rfl : ad170 = ad173 := (by injection e173)
                       replace hx173_0 := oc hx173_0
                       replace hx173_1 := oc hx173_1
                       replace hx173_2 := oc hx173_2
                       replace hx173_3 := oc hx173_3
                       replace hx173_4 := oc hx173_4
                       replace p173 := eq_true p173
                       replace q173 := eq_true q173
                       refine start_ (n := 11) (S := fun w' => w'.cell? ⟨gb166, 0, none⟩ = some (.int .i64 a0_0) ∧ w'.cell? ⟨gb166, 1, none⟩ = some (.int .i64 a0_1) ∧ w'.cell? ⟨gb166, 2, none⟩ = some (.int .i64 a0_2) ∧ w'.cell? ⟨gb166, 3, none⟩ = some (.int .i64 a0_3) ∧ w'.cell? ⟨gb166, 4, none⟩ = some (.slice A0_4 l0_4.length c0_4) ∧ w'.cell? ⟨gb166, 5, none⟩ = some (.slice (some ad170) l0_5.length c0_5) ∧ w'.cell? (ad170.add ((x5_5).toNat * 5)) = some (.int .i64 ((rd_T69 l0_5 x5_5).f0)) ∧ w'.cell? ⟨(ad170.add ((x5_5).toNat * 5)).block, (ad170.add ((x5_5).toNat * 5)).off + 1, none⟩ = some (.int .i64 ((rd_T69 l0_5 x5_5).f1)) ∧ w'.cell? ⟨(ad170.add ((x5_5).toNat * 5)).block, (ad170.add ((x5_5).toNat * 5)).off + 2, none⟩ = some (.int .i64 ((rd_T69 l0_5 x5_5).f2)) ∧ w'.cell? ⟨(ad170.add ((x5_5).toNat * 5)).block, (ad170.add ((x5_5).toNat * 5)).off + 3, none⟩ = some (.int .i64 ((rd_T69 l0_5 x5_5).f3)) ∧ w'.cell? ⟨(ad170.add ((x5_5).toNat * 5)).block, (ad170.add ((x5_5).toNat * 5)).off + 4, none⟩ = some (.int .i64 ((rd_T69 l0_5 x5_5).f4)) ∧ w'.cell? (ad170.add ((x4_4).toNat * 5)) = some (.int .i64 ((rd_T69 l0_5 x4_4).f0)) ∧ w'.cell? ⟨(ad170.add ((x4_4).toNat * 5)).block, (ad170.add ((x4_4).toNat * 5)).off + 1, none⟩ = some (.int .i64 ((rd_T69 l0_5 x4_4).f1)) ∧ w'.cell? ⟨(ad170.add ((x4_4).toNat * 5)).block, (ad170.add ((x4_4).toNat * 5)).off + 2, none⟩ = some (.int .i64 ((rd_T69 l0_5 x4_4).f2)) ∧ w'.cell? ⟨(ad170.add ((x4_4).toNat * 5)).block, (ad170.add ((x4_4).toNat * 5)).off + 3, none⟩ = some (.int .i64 ((rd_T69 l0_5 x4_4).f3)) ∧ w'.cell? ⟨(ad170.add ((x4_4).toNat * 5)).block, (ad170.add ((x4_4).toNat * 5)).off + 4, none⟩ = some (.int .i64 ((rd_T69 l0_5 x4_4).f4))) (ds := []) #[false, false, false, false, false, false, false, false, false, false, false] (by kernel_rfl) rfl rfl ⟨(blk_cell BK166.out 0).trans rfl, (blk_cell BK166.out 1).trans rfl, (blk_cell BK166.out 2).trans rfl, (blk_cell BK166.out 3).trans rfl, (blk_cell BK166.out 4).trans rfl, (blk_cell BK166.out 5).trans rfl, (oc hw172_0), (oc hw172_1), (oc hw172_2), (oc hw172_3), (oc hw172_4), (oc hw173_0), (oc hw173_1), (oc hw173_2), (oc hw173_3), (oc hw173_4)⟩ (fun hHeld => ?_); refine with_tabW paraphrastref16_Valid.tab18 paraphrastref16_Valid.bits18 (fun HT_ HW_ => ?_)
                       generalize wr.drew = w53 at BK166 HB hx172_0 hx172_1 hx172_2 hx172_3 hx172_4 hx173_0 hx173_1 hx173_2 hx173_3 hx173_4 hHeld ⊢
                       refine sPu 0 (some 99) ?_
                       refine sPu 2 (some 101) ?_
                       refine sPu 5 (some 104) ?_
                       refine sPu 7 (some 106) ?_
                       refine sTk 1 (some 100) ?_
                       refine sPu 3 (some 102) ?_
                       refine sTk 4 (some 103) ?_
                       refine sTk 6 (some 105) ?_
                       refine sPu 8 (some 107) ?_
                       refine sTk 9 (some 108) ?_
                       refine sPu 10 (some 109) ?_
                       refine done_ (done_of HT_.out (by kernel_rfl)) ?_
                       try go_wp2
                       go_roundg k5
                       case measure => have := HJ1.out; have := HJ19.out; have := HK3.out; have := HK4.out; have := HK5.out; omega
                       case rel => exact ⟨(wrap64 (x5_5 + 1)), eS, H', ⟨by have := HJ1.out; have := HJ19.out; have := HK3.out; have := HK4.out; have := HK5.out; omega⟩, ⟨bk BK166⟩, ⟨bel⟩⟩
                     ·rw [if_neg c50] at H
                      exact absurd H (by simp)
                    ·rw [if_neg c49] at H
                     exact absurd H (by simp)
                   ·rw [if_neg c48] at H
                    exact absurd H (by simp)
                  ·rw [if_neg c47] at H
                   exact absurd H (by simp)
                 ·rw [if_neg c46] at H
                  have c46b0 : decide (x5_5 < x4_4) = false := decide_eq_false c46
                  clear c46
                  have H' := Aside0.mk H
                  clear H
                  go_wp2
                  go_roundg k5
                  case measure => have := HJ1.out; have := HJ19.out; have := HK3.out; have := HK4.out; have := HK5.out; omega
                  case rel => exact ⟨(wrap64 (x4_4 + 1)), eS, H', ⟨by have := HJ1.out; have := HJ19.out; have := HK3.out; have := HK4.out; have := HK5.out; omega⟩, ⟨bk BK166⟩, ⟨bel⟩⟩
              ·replace c42 := Bool.eq_false_iff.mpr c42
               subst c42
               have H1 : (some false) = some r := by rw [if_neg (show ¬ (false = true) by decide)] at H; exact H
               clear H
               have H := H1
               clear H1
               obtain rfl := Option.some.inj H
               have hcz54_0 : wr.cell? ⟨gb166, 0, none⟩ = some (.int .i64 a0_0) := (blk_cell BK166.out 0).trans rfl
               have hcz54_1 : wr.cell? ⟨gb166, 1, none⟩ = some (.int .i64 a0_1) := (blk_cell BK166.out 1).trans rfl
               have hcz54_2 : wr.cell? ⟨gb166, 2, none⟩ = some (.int .i64 a0_2) := (blk_cell BK166.out 2).trans rfl
               have hcz54_3 : wr.cell? ⟨gb166, 3, none⟩ = some (.int .i64 a0_3) := (blk_cell BK166.out 3).trans rfl
               have hcz54_4 : wr.cell? ⟨gb166, 4, none⟩ = some (.slice A0_4 l0_4.length c0_4) := (blk_cell BK166.out 4).trans rfl
               have hcz54_5 : wr.cell? ⟨gb166, 5, none⟩ = some (.slice A0_5 l0_5.length c0_5) := (blk_cell BK166.out 5).trans rfl
               have hfz54_0 := blk_frozen BK166.out 0
               have hfz54_1 := blk_frozen BK166.out 1
               have hfz54_2 := blk_frozen BK166.out 2
               have hfz54_3 := blk_frozen BK166.out 3
               have hfz54_4 := blk_frozen BK166.out 4
               have hfz54_5 := blk_frozen BK166.out 5
               try go_wp2
               replace BK166 := Aside0.mk (blk_drew BK166.out)
               replace HB := Aside0.mk (below_drew1 HB.out)
               have p170 : 0 ≤ (x4_4 : Int) := dtr
               have q170 : x4_4 < (l0_5.length : Int) := dtr
               obtain ⟨ad170, e170, hx170_0, hx170_1, hx170_2, hx170_3, hx170_4⟩ := at_T69 HR0_5.out x4_4 p170 q170
               have hw170_4 := hx170_4
               have hw170_3 := hx170_3
               have hw170_2 := hx170_2
               have hw170_1 := hx170_1
               have hw170_0 := hx170_0
               cases e170
               replace hx170_0 := oc hx170_0
               replace hx170_1 := oc hx170_1
               replace hx170_2 := oc hx170_2
               replace hx170_3 := oc hx170_3
               replace hx170_4 := oc hx170_4
               replace p170 := eq_true p170
               replace q170 := eq_true q170
               refine start_ (n := 8) (S := fun w' => w'.cell? ⟨gb166, 0, none⟩ = some (.int .i64 a0_0) ∧ w'.cell? ⟨gb166, 1, none⟩ = some (.int .i64 a0_1) ∧ w'.cell? ⟨gb166, 2, none⟩ = some (.int .i64 a0_2) ∧ w'.cell? ⟨gb166, 3, none⟩ = some (.int .i64 a0_3) ∧ w'.cell? ⟨gb166, 4, none⟩ = some (.slice A0_4 l0_4.length c0_4) ∧ w'.cell? ⟨gb166, 5, none⟩ = some (.slice (some ad170) l0_5.length c0_5) ∧ w'.cell? (ad170.add ((x4_4).toNat * 5)) = some (.int .i64 ((rd_T69 l0_5 x4_4).f0)) ∧ w'.cell? ⟨(ad170.add ((x4_4).toNat * 5)).block, (ad170.add ((x4_4).toNat * 5)).off + 1, none⟩ = some (.int .i64 ((rd_T69 l0_5 x4_4).f1)) ∧ w'.cell? ⟨(ad170.add ((x4_4).toNat * 5)).block, (ad170.add ((x4_4).toNat * 5)).off + 2, none⟩ = some (.int .i64 ((rd_T69 l0_5 x4_4).f2)) ∧ w'.cell? ⟨(ad170.add ((x4_4).toNat * 5)).block, (ad170.add ((x4_4).toNat * 5)).off + 3, none⟩ = some (.int .i64 ((rd_T69 l0_5 x4_4).f3)) ∧ w'.cell? ⟨(ad170.add ((x4_4).toNat * 5)).block, (ad170.add ((x4_4).toNat * 5)).off + 4, none⟩ = some (.int .i64 ((rd_T69 l0_5 x4_4).f4))) (ds := []) #[false, false, false, false, false, false, false, false] (by kernel_rfl) rfl rfl ⟨(blk_cell BK166.out 0).trans rfl, (blk_cell BK166.out 1).trans rfl, (blk_cell BK166.out 2).trans rfl, (blk_cell BK166.out 3).trans rfl, (blk_cell BK166.out 4).trans rfl, (blk_cell BK166.out 5).trans rfl, (oc hw170_0), (oc hw170_1), (oc hw170_2), (oc hw170_3), (oc hw170_4)⟩ (fun hHeld => ?_); refine with_tabW paraphrastref16_Valid.tab13 paraphrastref16_Valid.bits13 (fun HT_ HW_ => ?_)
               generalize wr.drew = w55 at BK166 HB hx170_0 hx170_1 hx170_2 hx170_3 hx170_4 hHeld ⊢
               refine sPu 1 (some 87) ?_
               refine sPu 3 (some 89) ?_
               refine sTk 0 (some 86) ?_
               refine sTk 2 (some 88) ?_
               refine sPu 4 (some 90) ?_
               refine sTk 5 (some 91) ?_
               refine sOn 6 (some 92) (fun K hK => ?_)
               refine goes_ Tryz.func32 (by kernel_rfl) rfl #[.agg #[.int .i64 a0_0, .int .i64 a0_1, .int .i64 a0_2, .int .i64 a0_3, .slice A0_4 l0_4.length c0_4, .slice (some ad170) l0_5.length c0_5], .agg #[.int .i64 ((rd_T69 l0_5 x4_4).f0), .int .i64 ((rd_T69 l0_5 x4_4).f1), .int .i64 ((rd_T69 l0_5 x4_4).f2), .int .i64 ((rd_T69 l0_5 x4_4).f3), .int .i64 ((rd_T69 l0_5 x4_4).f4)]] (by rfl) rfl rfl (by (try simp only [List.map_toArray, List.map_cons, List.map_nil]); first | done | rfl | (simp only [List.length_drop, List.length_take]; rfl)) ?_
               with_reducible refine (paraphrastref16_step.calls a0_0 a0_1 a0_2 a0_3 _ _ l0_4 _ _ l0_5 ((rd_T69 l0_5 x4_4).f0) ((rd_T69 l0_5 x4_4).f1) ((rd_T69 l0_5 x4_4).f2) ((rd_T69 l0_5 x4_4).f3) ((rd_T69 l0_5 x4_4).f4) false _ ?side1 ?side2 ?side3 ?side4 A41.out).mono ?_
               (case side1 => exact cS (Kd.C_below HR0_4.out HB.out))
               (case side2 => exact HC0_4.out)
               (case side3 => exact cS (Kd.C_below HR0_5.out HB.out))
               (case side4 => exact HC0_5.out)
               rintro e w56 ⟨rfl, hb⟩
               refine ⟨_, rfl, ?_⟩
               replace BK166 := blB BK166 hb
               replace HB := Aside0.mk (below_step bel hb)
               (try clear hb)
               (try clear hb2)
               (try clear hk)
               (try clear hi)
               refine hK.out _ _ ⟨(blk_cell BK166.out 0).trans rfl, (blk_cell BK166.out 1).trans rfl, (blk_cell BK166.out 2).trans rfl, (blk_cell BK166.out 3).trans rfl, (blk_cell BK166.out 4).trans rfl, (blk_cell BK166.out 5).trans rfl, (oc hw170_0), (oc hw170_1), (oc hw170_2), (oc hw170_3), (oc hw170_4)⟩ (fun hHeld => ?_)
               clear hK K
               refine norm_ (a' := ?_) ?_ ?_
               rotate_left
               ·show Act.put _ (some 92) _ = _
                simp only [Act.put, List.setIfInBounds_toArray, List.set_cons_zero, List.set_cons_succ, i64_w, i32_w]
                rfl
               refine sPu 7 (some 93) ?_
               refine done_ (done_of HT_.out (by kernel_rfl)) ?_
               try go_wp2
               go_ret
               exact ⟨eN, bel⟩
             ·rw [if_neg c40] at H
              exact absurd H (by simp)
            ·rw [if_neg c39] at H
             have c39b0 : decide (x4_4 < (l0_5.length : Int)) = false := decide_eq_false c39
             clear c39
             replace H := Option.bind_eq_some_iff.mp H
             obtain ⟨t169, A570, H⟩ := H
             replace H : (some t169) = some r := H
             have A57 := Aside0.mk A570
             clear A570
             obtain rfl := Option.some.inj H
             have hcz58_0 : wr.cell? ⟨gb166, 0, none⟩ = some (.int .i64 a0_0) := (blk_cell BK166.out 0).trans rfl
             have hcz58_1 : wr.cell? ⟨gb166, 1, none⟩ = some (.int .i64 a0_1) := (blk_cell BK166.out 1).trans rfl
             have hcz58_2 : wr.cell? ⟨gb166, 2, none⟩ = some (.int .i64 a0_2) := (blk_cell BK166.out 2).trans rfl
             have hcz58_3 : wr.cell? ⟨gb166, 3, none⟩ = some (.int .i64 a0_3) := (blk_cell BK166.out 3).trans rfl
             have hcz58_4 : wr.cell? ⟨gb166, 4, none⟩ = some (.slice A0_4 l0_4.length c0_4) := (blk_cell BK166.out 4).trans rfl
             have hcz58_5 : wr.cell? ⟨gb166, 5, none⟩ = some (.slice A0_5 l0_5.length c0_5) := (blk_cell BK166.out 5).trans rfl
             have hfz58_0 := blk_frozen BK166.out 0
             have hfz58_1 := blk_frozen BK166.out 1
             have hfz58_2 := blk_frozen BK166.out 2
             have hfz58_3 := blk_frozen BK166.out 3
             have hfz58_4 := blk_frozen BK166.out 4
             have hfz58_5 := blk_frozen BK166.out 5
             go_wp2_with (first | ((with_reducible refine gate_callee (f := 33) rfl ?_); refine gL (some 112) Tryz.func33 #[.slice A0_4 l0_4.length c0_4] ?_; (with_reducible refine (paraphrastref12_Agree.calls k4 _ _ l0_4 t169 _ ?side1 ?side2 A57.out).mono ?_); (case side1 => exact cS (Kd.C_below HR0_4.out HB.out)); (case side2 => exact HC0_4.out); rintro e w' ⟨rfl, ⟨nd, rfl⟩⟩; refine ⟨_, rfl, ?_⟩))
             go_ret
             exact ⟨eN, bel⟩
end Go.Proofs.YtailpfcbdopfeaaGreatDoor.F
/- GuessRelations, the plain law: the document's Valid. -/
namespace Go.Proofs.YtailpfcbdopfeaaGreatDoor.F
open Go.RowKit Go.Proofs.YtailpfcbdopfeaaGreatDoorW.PrintWords Go.Proofs.YtailpfcbdopfeaaGreatDoorW.PrintLast Go.Proofs.YtailpfcbdopfeaaGreatDoorW.PrintMore
set_option linter.unusedVariables false
set_option linter.unusedSimpArgs false
def okP (x y : S42) : Prop := x.f0 = 0 → y.f0 = 0 → x.f2 = y.f2 → x.f3.length = y.f3.length
def rdL (l : List S42) (i : Nat) : S42 := rd_T42 l (i : Int)
def rdS (l : List S69) (i : Nat) : S69 := rd_T69 l (i : Int)
theorem w1 {i : Nat} (h : i ≤ 1000000) : wrap64 ((i : Int) + 1) = ((i + 1 : Nat) : Int) := by unfold wrap64; omega
theorem w1' {i : Nat} (h : i ≤ 100000000) : wrap64 ((i : Int) + 1) = ((i + 1 : Nat) : Int) := by unfold wrap64; omega
theorem all_step {P : Nat → Prop} {j i : Nat} (hj : j < i) (h : P j) : (∀ q, j ≤ q → q < i → P q) ↔ (∀ q, j + 1 ≤ q → q < i → P q) :=
  ⟨fun a q h1 h2 => a q (by omega) h2, fun a q h1 h2 => by
    rcases Nat.lt_or_ge j q with h3 | h3
    · exact a q h3 h2
    · obtain rfl : q = j := by omega
      exact h⟩
theorem all_end {P : Nat → Prop} {i : Nat} : (∀ q, i ≤ q → q < i → P q) := fun q h1 h2 => by omega
theorem agree1 (l : List S42) (hl : l.length ≤ 100) (i : Nat) (hi : i < l.length) (K : Nat) (b' : Bool) (hR : ∀ k', K ≤ k' → paraphrastref12_Agree.l0 k' l ((i + 1 : Nat) : Int) = some b') : ∀ (d j k : Nat), j + d = i → d + 1 + K ≤ k →
    ∃ b, paraphrastref12_Agree.l1 k l (i : Int) (j : Int) = some b ∧ (b = true ↔ (∀ q, j ≤ q → q < i → okP (rdL l i) (rdL l q)) ∧ b' = true)
  | _, _, 0, _, hk => by omega
  | 0, j, k + 1, h, hk => by
    obtain rfl : j = i := by omega
    refine ⟨b', ?_, ⟨fun h => ⟨all_end, h⟩, fun h => h.2⟩⟩
    unfold paraphrastref12_Agree.l1
    rw [if_neg (by omega), w1 (by omega), hR k (by omega)]
  | d + 1, j, k + 1, h, hk => by
    obtain ⟨b, hb, hiff⟩ := agree1 l hl i hi K b' hR d (j + 1) k (by omega) (by omega)
    have ok_ : okP (rdL l i) (rdL l j) → (paraphrastref12_Agree.l1 k l (i : Int) (wrap64 ((j : Int) + 1)) = some b ∧ (b = true ↔ (∀ q, j ≤ q → q < i → okP (rdL l i) (rdL l q)) ∧ b' = true)) := fun ho => by
      rw [w1 (by omega)]
      exact ⟨hb, hiff.trans (and_congr (all_step (by omega) ho).symm Iff.rfl)⟩
    unfold paraphrastref12_Agree.l1
    rw [if_pos (by omega), if_pos (by omega), if_pos (by omega)]
    show ∃ b, (if (rdL l i).f0 = 0 then _ else _) = some b ∧ _
    by_cases h1 : (rdL l i).f0 = 0
    · rw [if_pos h1, if_pos (by omega), if_pos (by omega)]
      show ∃ b, (if (rdL l j).f0 = 0 then _ else _) = some b ∧ _
      by_cases h2 : (rdL l j).f0 = 0
      · rw [if_pos h2]
        show ∃ b, (if (rdL l i).f2.toList = (rdL l j).f2.toList then _ else _) = some b ∧ _
        by_cases h3 : (rdL l i).f2.toList = (rdL l j).f2.toList
        · rw [if_pos h3]
          show ∃ b, (if ((rdL l i).f3.length : Int) = ((rdL l j).f3.length : Int) then _ else _) = some b ∧ _
          by_cases h4 : ((rdL l i).f3.length : Int) = ((rdL l j).f3.length : Int)
          · rw [if_pos h4]
            exact ⟨b, ok_ (fun _ _ _ => by omega)⟩
          · rw [if_neg h4]
            exact ⟨false, rfl, ⟨(fun e => by cases e), fun e => absurd (e.1 j (Nat.le_refl _) (by omega) h1 h2 (toList_inj h3)) (by omega)⟩⟩
        · rw [if_neg h3]
          exact ⟨b, ok_ (fun _ _ e => absurd (by rw [e]) h3)⟩
      · rw [if_neg h2]
        exact ⟨b, ok_ (fun _ e _ => absurd e h2)⟩
    · rw [if_neg h1]
      exact ⟨b, ok_ (fun e _ _ => absurd e h1)⟩
theorem agree0 (l : List S42) (hl : l.length ≤ 100) : ∀ (d i : Nat), i + d = l.length → ∃ b, (∀ k, d * 104 + 1 ≤ k → paraphrastref12_Agree.l0 k l (i : Int) = some b) ∧ (b = true ↔ ∀ p, i ≤ p → p < l.length → ∀ q, 0 ≤ q → q < p → okP (rdL l p) (rdL l q))
  | 0, i, h => by
    refine ⟨true, fun k hk => ?_, ⟨fun _ p h1 h2 => by omega, fun _ => rfl⟩⟩
    obtain ⟨k, rfl⟩ : ∃ k', k = k' + 1 := ⟨k - 1, by omega⟩
    unfold paraphrastref12_Agree.l0
    rw [if_neg (by omega)]
  | d + 1, i, h => by
    obtain ⟨b', hb', hiff'⟩ := agree0 l hl d (i + 1) (by omega)
    have hA := fun k hk => agree1 l hl i (by omega) (d * 104 + 1) b' hb' i 0 k (by omega) hk
    obtain ⟨b, _, hiff⟩ := hA (i + 1 + (d * 104 + 1)) (Nat.le_refl _)
    refine ⟨b, fun k hk => ?_, ?_⟩
    · obtain ⟨k, rfl⟩ : ∃ k', k = k' + 1 := ⟨k - 1, by omega⟩
      obtain ⟨b2, hb2, hiff2⟩ := hA k (by omega)
      have : b2 = b := by
        rw [Bool.eq_iff_iff]
        exact hiff2.trans hiff.symm
      unfold paraphrastref12_Agree.l0
      rw [if_pos (by omega), ← this]
      exact hb2
    · rw [hiff, hiff']
      exact (and_comm.trans (⟨fun a p h1 h2 => by
        rcases Nat.lt_or_ge i p with h3 | h3
        · exact a.1 p h3 h2
        · obtain rfl : p = i := by omega
          exact a.2, fun a => ⟨fun p h1 h2 => a p (by omega) h2, a i (Nat.le_refl _) (by omega)⟩⟩))
theorem rdL_get {l : List S42} {i : Nat} (h : i < l.length) : l[i] = rdL l i := Option.some.inj ((List.getElem?_eq_getElem h).symm.trans (rds_lit h))
theorem rdS_get {l : List S69} {i : Nat} (h : i < l.length) : l[i] = rdS l i := Option.some.inj ((List.getElem?_eq_getElem h).symm.trans (rds_step h))
theorem sym_iff (l : List S42) : (∀ p, 0 ≤ p → p < l.length → ∀ q, 0 ≤ q → q < p → okP (rdL l p) (rdL l q)) ↔ SymOk l := by
  constructor
  · intro h x hx y hy hx0 hy0 e
    obtain ⟨p, hp, rfl⟩ := List.mem_iff_getElem.1 hx
    obtain ⟨q, hq, rfl⟩ := List.mem_iff_getElem.1 hy
    rw [rdL_get hp] at hx0 e ⊢
    rw [rdL_get hq] at hy0 e ⊢
    rcases Nat.lt_trichotomy p q with h1 | h1 | h1
    · exact (h q (Nat.zero_le _) hq p (Nat.zero_le _) h1 hy0 hx0 e.symm).symm
    · rw [h1]
    · exact h p (Nat.zero_le _) hp q (Nat.zero_le _) h1 hx0 hy0 e
  · intro h p _ hp q _ hq h1 h2 h3
    exact h _ (by rw [← rdL_get hp]; exact List.getElem_mem _) _ (by rw [← rdL_get (show q < l.length by omega)]; exact List.getElem_mem _) h1 h2 h3
theorem agree_eq (l : List S42) (hl : l.length ≤ 4) (k : Nat) (hk : 1000 ≤ k) : paraphrastref12_Agree.f k l = some (decide (SymOk l)) := by
  obtain ⟨b, hb, hiff⟩ := agree0 l (by omega) l.length 0 (by omega)
  have h := hb k (by omega)
  have : b = decide (SymOk l) := by
    rw [Bool.eq_iff_iff, hiff, decide_eq_true_iff]
    exact sym_iff l
  unfold paraphrastref12_Agree.f
  rw [← this]
  exact h
def eqS (x y : S69) : Bool := (x.f0 == y.f0 && (x.f1 == y.f1 && (x.f2 == y.f2 && (x.f3 == y.f3 && (x.f4 == y.f4)))))
theorem eqS_iff (x y : S69) : eqS x y = true ↔ x = y := by
  obtain ⟨a, b, c, d, e⟩ := x
  obtain ⟨a', b', c', d', e'⟩ := y
  simp [eqS]
theorem valid2 (n0 n1 n2 n3 : Int) (ls : List S42) (ss : List S69) (hs : ss.length ≤ 400) (i : Nat) (hi : i < ss.length) (K : Nat) (b' : Bool) (hR : ∀ k', K ≤ k' → paraphrastref16_Valid.l1 k' ((i + 1 : Nat) : Int) n0 n1 n2 n3 ls ss = some b') : ∀ (d j k : Nat), j + d = i → d + 1 + K ≤ k →
    ∃ b, paraphrastref16_Valid.l2 k (i : Int) (j : Int) n0 n1 n2 n3 ls ss = some b ∧ (b = true ↔ (∀ q, j ≤ q → q < i → rdS ss q ≠ rdS ss i) ∧ b' = true)
  | _, _, 0, _, hk => by omega
  | 0, j, k + 1, h, hk => by
    obtain rfl : j = i := by omega
    refine ⟨b', ?_, ⟨fun h => ⟨all_end, h⟩, fun h => h.2⟩⟩
    unfold paraphrastref16_Valid.l2
    rw [if_neg (by omega), w1 (by omega), hR k (by omega)]
  | d + 1, j, k + 1, h, hk => by
    obtain ⟨b, hb, hiff⟩ := valid2 n0 n1 n2 n3 ls ss hs i hi K b' hR d (j + 1) k (by omega) (by omega)
    unfold paraphrastref16_Valid.l2
    rw [if_pos (by omega), if_pos (by omega), if_pos (by omega), if_pos (by omega), if_pos (by omega)]
    show ∃ b, (if eqS (rdS ss j) (rdS ss i) = true then _ else _) = some b ∧ _
    by_cases h1 : eqS (rdS ss j) (rdS ss i) = true
    · rw [if_pos h1]
      exact ⟨false, rfl, ⟨(fun e => by cases e), fun e => absurd ((eqS_iff _ _).1 h1) (e.1 j (Nat.le_refl _) (by omega))⟩⟩
    · rw [if_neg h1, w1 (by omega)]
      exact ⟨b, hb, hiff.trans (and_congr (all_step (P := fun q => rdS ss q ≠ rdS ss i) (by omega) (fun e => h1 ((eqS_iff _ _).2 e))).symm Iff.rfl)⟩
set_option maxRecDepth 100000 in
theorem valid1 (n0 n1 n2 n3 : Int) (ls : List S42) (ss : List S69) (hl : ls.length ≤ 4) (hs : ss.length ≤ 400) : ∀ (d i : Nat), i + d = ss.length → ∃ b, (∀ k, d * 500 + 1001 ≤ k → paraphrastref16_Valid.l1 k (i : Int) n0 n1 n2 n3 ls ss = some b) ∧ (b = true ↔ (∀ p, i ≤ p → p < ss.length → stepB n0 n1 (rdS ss p) = true ∧ ∀ q, 0 ≤ q → q < p → rdS ss q ≠ rdS ss p) ∧ SymOk ls)
  | 0, i, h => by
    refine ⟨decide (SymOk ls), fun k hk => ?_, ?_⟩
    · obtain ⟨k, rfl⟩ : ∃ k', k = k' + 1 := ⟨k - 1, by omega⟩
      unfold paraphrastref16_Valid.l1
      rw [if_neg (by omega), agree_eq ls hl k (by omega)]
      rfl
    · rw [decide_eq_true_iff]
      exact ⟨fun a => ⟨fun p h1 h2 => by omega, a⟩, fun a => a.2⟩
  | d + 1, i, h => by
    obtain ⟨b', hb', hiff'⟩ := valid1 n0 n1 n2 n3 ls ss hl hs d (i + 1) (by omega)
    have hst : ∀ (R : Option Bool), (paraphrastref16_step.f n0 n1 n2 n3 ls ss (rdS ss i).f0 (rdS ss i).f1 (rdS ss i).f2 (rdS ss i).f3 (rdS ss i).f4).bind (fun t => if t = true then R else some false) = if stepB n0 n1 (rdS ss i) = true then R else some false := fun R => by
      rw [step_eq]
      rfl
    have hu : ∀ k, paraphrastref16_Valid.l1 (k + 1) (i : Int) n0 n1 n2 n3 ls ss = if stepB n0 n1 (rdS ss i) = true then paraphrastref16_Valid.l2 k (i : Int) 0 n0 n1 n2 n3 ls ss else some false := fun k => by
      rw [← hst]
      conv => lhs; unfold paraphrastref16_Valid.l1
      rw [if_pos (by omega), if_pos (by omega)]
      rfl
    by_cases hsb : stepB n0 n1 (rdS ss i) = true
    · have hA := fun k hk => valid2 n0 n1 n2 n3 ls ss hs i (by omega) (d * 500 + 1001) b' hb' i 0 k (by omega) hk
      obtain ⟨b, _, hiff⟩ := hA (i + 1 + (d * 500 + 1001)) (Nat.le_refl _)
      refine ⟨b, fun k hk => ?_, ?_⟩
      · obtain ⟨k, rfl⟩ : ∃ k', k = k' + 1 := ⟨k - 1, by omega⟩
        obtain ⟨b2, hb2, hiff2⟩ := hA k (by omega)
        have : b2 = b := by
          rw [Bool.eq_iff_iff]
          exact hiff2.trans hiff.symm
        rw [hu, if_pos hsb, ← this]
        exact hb2
      · rw [hiff, hiff']
        constructor
        · rintro ⟨h1, h2, h3⟩
          refine ⟨fun p hp1 hp2 => ?_, h3⟩
          rcases Nat.lt_or_ge i p with h4 | h4
          · exact h2 p h4 hp2
          · obtain rfl : p = i := by omega
            exact ⟨hsb, h1⟩
        · rintro ⟨h1, h3⟩
          exact ⟨(h1 i (Nat.le_refl _) (by omega)).2, fun p hp1 hp2 => h1 p (by omega) hp2, h3⟩
    · refine ⟨false, fun k hk => ?_, ⟨(fun e => by cases e), fun e => absurd (e.1 i (Nat.le_refl _) (by omega)).1 hsb⟩⟩
      obtain ⟨k, rfl⟩ : ∃ k', k = k' + 1 := ⟨k - 1, by omega⟩
      rw [hu, if_neg hsb]
theorem valid0 (n0 n1 n2 n3 : Int) (ls : List S42) (ss : List S69) (hl : ls.length ≤ 4) (K : Nat) (b' : Bool) (hR : ∀ k, K ≤ k → paraphrastref16_Valid.l1 k 0 n0 n1 n2 n3 ls ss = some b') : ∀ (d i : Nat), i + d = ls.length → ∃ b, (∀ k, d + 21 + K ≤ k → paraphrastref16_Valid.l0 k (i : Int) n0 n1 n2 n3 ls ss = some b) ∧ (b = true ↔ (∀ p, i ≤ p → p < ls.length → litB n2 (rdL ls p) = true) ∧ b' = true)
  | 0, i, h => by
    refine ⟨b', fun k hk => ?_, ⟨fun a => ⟨fun p h1 h2 => by omega, a⟩, fun a => a.2⟩⟩
    obtain ⟨k, rfl⟩ : ∃ k', k = k' + 1 := ⟨k - 1, by omega⟩
    unfold paraphrastref16_Valid.l0
    rw [if_neg (by omega)]
    exact hR k (by omega)
  | d + 1, i, h => by
    obtain ⟨b, hb, hiff⟩ := valid0 n0 n1 n2 n3 ls ss hl K b' hR d (i + 1) (by omega)
    have hu : ∀ k, 20 ≤ k → paraphrastref16_Valid.l0 (k + 1) (i : Int) n0 n1 n2 n3 ls ss = if litB n2 (rdL ls i) = true then paraphrastref16_Valid.l0 k ((i + 1 : Nat) : Int) n0 n1 n2 n3 ls ss else some false := fun k hk => by
      conv => lhs; unfold paraphrastref16_Valid.l0
      rw [if_pos (by omega), if_pos (by omega), w1 (by omega)]
      show (paraphrastref12_Literal.f k (rdL ls i).f0 (rdL ls i).f1 (rdL ls i).f2 (rdL ls i).f3 n2).bind _ = _
      rw [litR_eq n2 (rdL ls i) k hk]
      rfl
    by_cases hlb : litB n2 (rdL ls i) = true
    · refine ⟨b, fun k hk => ?_, ?_⟩
      · obtain ⟨k, rfl⟩ : ∃ k', k = k' + 1 := ⟨k - 1, by omega⟩
        rw [hu k (by omega), if_pos hlb]
        exact hb k (by omega)
      · rw [hiff]
        constructor
        · rintro ⟨h1, h2⟩
          refine ⟨fun p hp1 hp2 => ?_, h2⟩
          rcases Nat.lt_or_ge i p with h4 | h4
          · exact h1 p h4 hp2
          · obtain rfl : p = i := by omega
            exact hlb
        · rintro ⟨h1, h2⟩
          exact ⟨fun p hp1 hp2 => h1 p (by omega) hp2, h2⟩
    · refine ⟨false, fun k hk => ?_, ⟨(fun e => by cases e), fun e => absurd (e.1 i (Nat.le_refl _) (by omega)) hlb⟩⟩
      obtain ⟨k, rfl⟩ : ∃ k', k = k' + 1 := ⟨k - 1, by omega⟩
      rw [hu k (by omega), if_neg hlb]
theorem nodup_iff (ss : List S69) : (∀ p, 0 ≤ p → p < ss.length → ∀ q, 0 ≤ q → q < p → rdS ss q ≠ rdS ss p) ↔ ss.Nodup := by
  unfold List.Nodup
  rw [List.pairwise_iff_getElem]
  constructor
  · intro h i j hi hj hij
    rw [rdS_get hi, rdS_get hj]
    exact h j (Nat.zero_le _) hj i (Nat.zero_le _) hij
  · intro h p _ hp q _ hq
    have := h q p (by omega) hp hq
    rw [rdS_get (show q < ss.length by omega), rdS_get hp] at this
    exact this
set_option maxRecDepth 100000 in
theorem valR_in (n0 n1 n2 n3 : Int) (ls : List S42) (ss : List S69) (hl : ls.length ≤ 4) (hs : ss.length ≤ 400) : ∃ b, (∀ k, 210000 ≤ k → paraphrastref16_Valid.l0 k 0 n0 n1 n2 n3 ls ss = some b) ∧ (b = true ↔ (∀ l ∈ ls, litB n2 l = true) ∧ (∀ x ∈ ss, stepB n0 n1 x = true) ∧ ss.Nodup ∧ SymOk ls) := by
  obtain ⟨b1, hb1, hi1⟩ := valid1 n0 n1 n2 n3 ls ss hl hs ss.length 0 (by omega)
  obtain ⟨b, hb, hi⟩ := valid0 n0 n1 n2 n3 ls ss hl (ss.length * 500 + 1001) b1 hb1 ls.length 0 (by omega)
  refine ⟨b, fun k hk => hb k (by omega), ?_⟩
  rw [hi, hi1]
  constructor
  · rintro ⟨h1, h2, h3⟩
    refine ⟨fun l h => ?_, fun x h => ?_, (nodup_iff ss).1 (fun p h4 h5 => (h2 p h4 h5).2), h3⟩
    · obtain ⟨p, hp, rfl⟩ := List.mem_iff_getElem.1 h
      rw [rdL_get hp]
      exact h1 p (Nat.zero_le _) hp
    · obtain ⟨p, hp, rfl⟩ := List.mem_iff_getElem.1 h
      rw [rdS_get hp]
      exact (h2 p (Nat.zero_le _) hp).1
  · rintro ⟨h1, h2, h3, h4⟩
    refine ⟨fun p _ hp => ?_, fun p _ hp => ⟨?_, (nodup_iff ss).2 h3 p (Nat.zero_le _) hp⟩, h4⟩
    · rw [← rdL_get hp]
      exact h1 _ (List.getElem_mem _)
    · rw [← rdS_get hp]
      exact h2 _ (List.getElem_mem _)
theorem shl4 {n : Nat} (h : n ≤ 4) : shl .i64 1 (n : Int) = (2 : Int) ^ n := by
  have : n = 0 ∨ n = 1 ∨ n = 2 ∨ n = 3 ∨ n = 4 := by omega
  rcases this with rfl | rfl | rfl | rfl | rfl <;> rfl
/-- THE DOCUMENT's Valid. -/
theorem valR_eq (n0 n1 n2 n3 : Int) (ls : List S42) (ss : List S69) (k : Nat) (hk : 220000 ≤ k) : paraphrastref16_Valid.f k n0 n1 n2 n3 ls ss = some (decide (TapeOk n0 n1 n2 n3 ls ss)) := by
  obtain ⟨k, rfl⟩ : ∃ k', k = k' + 1 + 1 := ⟨k - 2, by omega⟩
  have hbad : ∀ k', paraphrastref16_Valid.j0 (k' + 1) true n0 n1 n2 n3 ls ss = some false := fun k' => by
    unfold paraphrastref16_Valid.j0
    dsimp only
    rw [if_pos rfl]
  have hbad1 : ∀ k', paraphrastref16_Valid.j1 (k' + 1) true n0 n1 n2 n3 ls ss = some false := fun k' => by
    unfold paraphrastref16_Valid.j1
    dsimp only
    rw [if_pos rfl]
  have hno : ¬ TapeOk n0 n1 n2 n3 ls ss → some false = some (decide (TapeOk n0 n1 n2 n3 ls ss)) := fun h => by rw [decide_eq_false h]
  have w_ : ∀ {x a b : Int}, wi x a b = true → a ≤ x ∧ x ≤ b := fun h => by simpa [wi] using h
  unfold paraphrastref16_Valid.f
  by_cases c0 : n0 < 2
  · rw [if_pos c0, hbad]
    exact hno fun h => by have := w_ h.h0; omega
  rw [if_neg c0]
  by_cases c1 : n0 > 400
  · rw [if_pos c1, hbad]
    exact hno fun h => by have := w_ h.h0; omega
  rw [if_neg c1]
  by_cases c2 : n1 < 1
  · rw [if_pos c2, hbad]
    exact hno fun h => by have := w_ h.h1; omega
  rw [if_neg c2]
  by_cases c3 : n1 > 16
  · rw [if_pos c3, hbad]
    exact hno fun h => by have := w_ h.h1; omega
  rw [if_neg c3]
  by_cases c4 : n2 < 1
  · rw [if_pos c4, hbad]
    exact hno fun h => by have := w_ h.h2; omega
  rw [if_neg c4]
  by_cases c5 : n2 > 3
  · rw [if_pos c5, hbad]
    exact hno fun h => by have := w_ h.h2; omega
  rw [if_neg c5]
  by_cases c6 : n3 < 1
  · rw [if_pos c6, hbad]
    exact hno fun h => by have := w_ h.h3; omega
  rw [if_neg c6]
  by_cases c7 : n3 > 3
  · rw [decide_eq_true c7, hbad]
    exact hno fun h => by have := w_ h.h3; omega
  rw [decide_eq_false c7]
  unfold paraphrastref16_Valid.j0
  dsimp only
  rw [if_neg (by simp)]
  by_cases c8 : (ls.length : Int) > 4
  · rw [if_pos c8, hbad1]
    exact hno fun h => by have := h.len4; omega
  rw [if_neg c8, shl4 (by omega)]
  by_cases c9 : (2 : Int) ^ ls.length > n1
  · rw [if_pos c9, hbad1]
    exact hno fun h => by have := h.pow; omega
  rw [if_neg c9]
  by_cases c10 : (ss.length : Int) > 400
  · rw [decide_eq_true c10, hbad1]
    exact hno fun h => by have := h.len5; omega
  rw [decide_eq_false c10]
  obtain ⟨k2, rfl⟩ : ∃ k', k = k' + 1 := ⟨k - 1, by omega⟩
  obtain ⟨b, hb, hi⟩ := valR_in n0 n1 n2 n3 ls ss (by omega) (by omega)
  unfold paraphrastref16_Valid.j1
  dsimp only
  rw [if_neg (by simp), hb _ (by omega)]
  congr 1
  rw [Bool.eq_iff_iff, hi, decide_eq_true_iff]
  have W : ∀ {x a b : Int}, a ≤ x → x ≤ b → wi x a b = true := fun h1 h2 => by simp [wi, h1, h2]
  constructor
  · rintro ⟨h1, h2, h3, h4⟩
    exact ⟨W (by omega) (by omega), W (by omega) (by omega), W (by omega) (by omega), W (by omega) (by omega), by omega, by omega, by omega, h1, h2, h3, h4⟩
  · intro h
    exact ⟨h.lit, h.step, h.nodup, h.sym⟩
end Go.Proofs.YtailpfcbdopfeaaGreatDoor.F
/- guess.namesOf, by hand. -/
namespace Go.Proofs.YtailpfcbdopfeaaGreatDoor.F
open Go.RowKit Go.Proofs.YtailpfcbdopfeaaGreatDoorW.PrintWords Go.Proofs.YtailpfcbdopfeaaGreatDoorW.PrintLast Go.Proofs.YtailpfcbdopfeaaGreatDoorW.PrintMore
set_option linter.unusedVariables false
set_option linter.unusedSimpArgs false
theorem far11 (W : World) (g : Nat) (v0 v1 v2 v3 v4 v5 v6 v7 v8 v9 v10 : Value) (k : Nat) (hk : k ≠ g) : (((((((((((W.setCell ⟨g, 0, none⟩ v0).setCell ⟨g, 1, none⟩ v1).setCell ⟨g, 2, none⟩ v2).setCell ⟨g, 3, none⟩ v3).setCell ⟨g, 4, none⟩ v4).setCell ⟨g, 5, none⟩ v5).setCell ⟨g, 6, none⟩ v6).setCell ⟨g, 7, none⟩ v7).setCell ⟨g, 8, none⟩ v8).setCell ⟨g, 9, none⟩ v9).setCell ⟨g, 10, none⟩ v10).heap[k]? = W.heap[k]? := by
  rw [Below.heap_setCell _ _ _ k hk, Below.heap_setCell _ _ _ k hk, Below.heap_setCell _ _ _ k hk, Below.heap_setCell _ _ _ k hk, Below.heap_setCell _ _ _ k hk, Below.heap_setCell _ _ _ k hk, Below.heap_setCell _ _ _ k hk, Below.heap_setCell _ _ _ k hk, Below.heap_setCell _ _ _ k hk, Below.heap_setCell _ _ _ k hk, Below.heap_setCell _ _ _ k hk]
theorem set11 (a0 a1 a2 a3 a4 a5 a6 a7 a8 a9 a10 b0 b1 b2 b3 b4 b5 b6 b7 b8 b9 b10 : Value) : (((((((((((#[a0, a1, a2, a3, a4, a5, a6, a7, a8, a9, a10]).setIfInBounds 0 b0).setIfInBounds 1 b1).setIfInBounds 2 b2).setIfInBounds 3 b3).setIfInBounds 4 b4).setIfInBounds 5 b5).setIfInBounds 6 b6).setIfInBounds 7 b7).setIfInBounds 8 b8).setIfInBounds 9 b9).setIfInBounds 10 b10 = #[b0, b1, b2, b3, b4, b5, b6, b7, b8, b9, b10] := by simp
set_option maxHeartbeats 4000000 in
set_option maxRecDepth 100000 in
theorem namesOf_calls (n0 n1 n2 n3 : Int) (A4 : Option Addr) (c4 : Nat) (ls : List S42) (A5 : Option Addr) (l5 c5 : Nat) (w : World) (hG : Glob w) (hr4 : Kd.C k42 w A4 ls.length ls) (hc4 : ls.length ≤ c4) (h0 : 1 ≤ n0 ∧ n0 ≤ 400) (h1 : 1 ≤ n1 ∧ n1 ≤ 400) (hs : sizeB ls ≤ 100000000) :
    Calls Tryz.prog 16 #[.agg #[.int .i64 n0, .int .i64 n1, .int .i64 n2, .int .i64 n3, .slice A4 ls.length c4, .slice A5 l5 c5]] w fun e w' => ∃ (Ac : Option Addr) (cc : Nat) (As : Option Addr) (cs : Nat) (m : Nat), m = manyB ls (bitB n1) (bitB n0) ∧ e = .returned (.agg (namesC n0 n1 n2 n3 A4 ls.length c4 A5 l5 c5 Ac (bitB n1) cc (hdB m) As (bitB n0) cs)) ∧
      Kd.C Kd.string w' Ac (bitB n1) (rowB 89 (bitB n1) m) ∧ bitB n1 ≤ cc ∧ Kd.C Kd.string w' As (bitB n0) (rowB 90 (bitB n0) m) ∧ bitB n0 ≤ cs ∧ Below w.heap.size w w' := by
  have HG := Aside0.mk hG
  have H4 := Aside0.mk hr4
  have HB0 := Aside0.mk (bit_eq h0.1 h0.2)
  have HB1 := Aside0.mk (bit_eq h1.1 h1.2)
  clear hG hr4
  go_enter Tryz.func16, Tryz.ntmps16
  obtain ⟨k1_, k2_, hb_⟩ := box2 w (.cells #[.int .i64 n0, .int .i64 n1, .int .i64 n2, .int .i64 n3, .slice A4 ls.length c4, .slice A5 l5 c5] 25) (.cells #[.string ⟨#[]⟩, .string ⟨#[]⟩, .int .i64 0, .int .i64 0, .int .i64 0, .int .i64 0, .slice none 0 0, .slice none 0 0, .slice none 0 0, .string ⟨#[]⟩, .slice none 0 0] 53)
  have K1 := Aside0.mk k1_
  have K2 := Aside0.mk k2_
  have HB := Aside0.mk hb_
  have hsz : ((w.alloc (.cells #[.int .i64 n0, .int .i64 n1, .int .i64 n2, .int .i64 n3, .slice A4 ls.length c4, .slice A5 l5 c5] 25)).alloc (.cells #[.string ⟨#[]⟩, .string ⟨#[]⟩, .int .i64 0, .int .i64 0, .int .i64 0, .int .i64 0, .slice none 0 0, .slice none 0 0, .slice none 0 0, .string ⟨#[]⟩, .slice none 0 0] 53)).heap.size = w.heap.size + 2 := by simp
  clear k1_ k2_ hb_
  go_upto_region 1 with (fail)
  generalize (w.alloc (.cells #[.int .i64 n0, .int .i64 n1, .int .i64 n2, .int .i64 n3, .slice A4 ls.length c4, .slice A5 l5 c5] 25)).alloc (.cells #[.string ⟨#[]⟩, .string ⟨#[]⟩, .int .i64 0, .int .i64 0, .int .i64 0, .int .i64 0, .slice none 0 0, .slice none 0 0, .slice none 0 0, .string ⟨#[]⟩, .slice none 0 0] 53) = W0 at *
  have p0 : W0.cell? ⟨w.heap.size, 0, none⟩ = some (.int .i64 n0) := (blk_cell K1.out 0).trans rfl
  have p1 : W0.cell? ⟨w.heap.size, 1, none⟩ = some (.int .i64 n1) := (blk_cell K1.out 1).trans rfl
  have p2 : W0.cell? ⟨w.heap.size, 2, none⟩ = some (.int .i64 n2) := (blk_cell K1.out 2).trans rfl
  have p3 : W0.cell? ⟨w.heap.size, 3, none⟩ = some (.int .i64 n3) := (blk_cell K1.out 3).trans rfl
  have p4 : W0.cell? ⟨w.heap.size, 4, none⟩ = some (.slice A4 ls.length c4) := (blk_cell K1.out 4).trans rfl
  have p5 : W0.cell? ⟨w.heap.size, 5, none⟩ = some (.slice A5 l5 c5) := (blk_cell K1.out 5).trans rfl
  go_cut [3] (fun v3 wc => ∃ g3 : Nat, v3 = .pointer (some ⟨g3, 0, none⟩) ∧ w.heap.size + 2 ≤ g3 ∧ Aside0 (wc.heap[g3]? = some (.cells (namesC n0 n1 n2 n3 A4 ls.length c4 A5 l5 c5 none 0 0 ⟨#[72]⟩ none 0 0) 53 (0, 0))) ∧ Aside0 (Below (w.heap.size + 2) W0 wc))
  case first =>
    have hcd : W0.drew.cell? ⟨w.heap.size, 0, none⟩ = some (.int .i64 n0) ∧ W0.drew.cell? ⟨w.heap.size, 1, none⟩ = some (.int .i64 n1) ∧ W0.drew.cell? ⟨w.heap.size, 2, none⟩ = some (.int .i64 n2) ∧ W0.drew.cell? ⟨w.heap.size, 3, none⟩ = some (.int .i64 n3) ∧ W0.drew.cell? ⟨w.heap.size, 4, none⟩ = some (.slice A4 ls.length c4) ∧ W0.drew.cell? ⟨w.heap.size, 5, none⟩ = some (.slice A5 l5 c5) := ⟨p0, p1, p2, p3, p4, p5⟩
    have HBd := Aside0.mk (below_drew (Below.refl W0.heap.size W0))
    refine wp_region_noPanic ?_
    refine start_ (n := 5) (S := fun w' => w'.cell? ⟨w.heap.size, 0, none⟩ = some (.int .i64 n0) ∧ w'.cell? ⟨w.heap.size, 1, none⟩ = some (.int .i64 n1) ∧ w'.cell? ⟨w.heap.size, 2, none⟩ = some (.int .i64 n2) ∧ w'.cell? ⟨w.heap.size, 3, none⟩ = some (.int .i64 n3) ∧ w'.cell? ⟨w.heap.size, 4, none⟩ = some (.slice A4 ls.length c4) ∧ w'.cell? ⟨w.heap.size, 5, none⟩ = some (.slice A5 l5 c5)) (ds := [4]) #[false, false, false, false, false] (by kernel_rfl) rfl rfl hcd (fun hHeld => ?_)
    have hsd : W0.drew.heap.size = W0.heap.size := rfl
    have hsz0 := hsz
    rw [← hsd] at hsz
    clear hsd
    generalize W0.drew = wd at *
    clear p0 p1 p2 p3 p4 p5
    refine take_ (i := 1) (N := some 10) (v := ?_) (a' := ?_) #[false, true, false, false, false] rfl rfl (by kernel_rfl) (fun _ _ _ h => h) (Or.inl ⟨by rfl, ?_⟩) hHeld ?_ ?_
    rotate_left
    · intro w' s0
      obtain ⟨t0, t1, t2, t3, t4, t5⟩ := s0
      go_simp
      with_reducible rfl
    rotate_left
    · simp only [Act.put, List.setIfInBounds_toArray, List.set_cons_zero, List.set_cons_succ, i64_w, i32_w]
      rfl
    refine two_ (i := 0) (j := 3) (Ni := some 9) (Nj := some 3) #[true, true, false, false, false] #[false, true, false, true, false] rfl rfl rfl rfl (by kernel_rfl) (by decide) (by decide) (fun K hK => ?_) (fun K hK => ?_)
    · refine call_ 42 #[] (by rfl) rfl (by go_simp) ?_
      refine (usual_calls _).mono ?_
      rintro e w6 ⟨rfl, hb6⟩
      refine ⟨_, rfl, ?_⟩
      obtain ⟨t0, t1, t2, t3, t4, t5⟩ := hHeld
      refine hK.out _ _ ⟨(hb6.cell (World.block_lt_of_cell? _ _ t0)).trans t0, (hb6.cell (World.block_lt_of_cell? _ _ t1)).trans t1, (hb6.cell (World.block_lt_of_cell? _ _ t2)).trans t2, (hb6.cell (World.block_lt_of_cell? _ _ t3)).trans t3, (hb6.cell (World.block_lt_of_cell? _ _ t4)).trans t4, (hb6.cell (World.block_lt_of_cell? _ _ t5)).trans t5⟩ (fun hHeld => ?_)
      replace HBd := Aside0.mk (HBd.out.trans (hb6.mono (by have := HBd.out.size; omega)))
      clear hK K t0 t1 t2 t3 t4 t5
      refine norm_ (a' := ?_) ?_ ?_
      rotate_left
      · show Act.put _ (some 9) _ = _
        simp only [Act.put, List.setIfInBounds_toArray, List.set_cons_zero, List.set_cons_succ, i64_w, i32_w]
        rfl
      refine pure_ (i := 2) (N := some 11) (v := ?_) (a' := ?_) #[true, true, true, false, false] rfl rfl (by kernel_rfl) (fun _ _ _ h => h) (Or.inl ⟨by rfl, ?_⟩) ?_ ?_
      rotate_left
      · intro w'
        go_simp
        with_reducible rfl
      rotate_left
      · simp only [Act.put, List.setIfInBounds_toArray, List.set_cons_zero, List.set_cons_succ, i64_w, i32_w]
        rfl
      refine one_ (i := 3) (N := some 3) #[true, true, true, true, false] rfl rfl (by kernel_rfl) (by decide) (fun K hK => ?_)
      refine value_ (w1 := ?_) (v := ?_) (by rfl) rfl ?_ ?_
      rotate_left 2
      · go_simp
        constructor
        · rfl
        · rfl
      have hba := (box1 w6 (.cells #[.string ⟨#[]⟩, .string ⟨#[]⟩, .int .i64 0, .int .i64 0, .int .i64 0, .int .i64 0, .slice none 0 0, .slice none 0 0, .slice none 0 0, .string ⟨#[]⟩, .slice none 0 0] 53)).2
      have hka := (box1 w6 (.cells #[.string ⟨#[]⟩, .string ⟨#[]⟩, .int .i64 0, .int .i64 0, .int .i64 0, .int .i64 0, .slice none 0 0, .slice none 0 0, .slice none 0 0, .string ⟨#[]⟩, .slice none 0 0] 53)).1
      obtain ⟨t0, t1, t2, t3, t4, t5⟩ := hHeld
      refine hK.out _ _ ⟨(hba.cell (World.block_lt_of_cell? _ _ t0)).trans t0, (hba.cell (World.block_lt_of_cell? _ _ t1)).trans t1, (hba.cell (World.block_lt_of_cell? _ _ t2)).trans t2, (hba.cell (World.block_lt_of_cell? _ _ t3)).trans t3, (hba.cell (World.block_lt_of_cell? _ _ t4)).trans t4, (hba.cell (World.block_lt_of_cell? _ _ t5)).trans t5⟩ (fun hHeld => ?_)
      clear hK K t0 t1 t2 t3 t4 t5
      refine norm_ (a' := ?_) ?_ ?_
      rotate_left
      · show Act.put _ (some 3) _ = _
        simp only [Act.put, List.setIfInBounds_toArray, List.set_cons_zero, List.set_cons_succ, i64_w, i32_w]
        rfl
      refine last_ (i := 4) (N := none) #[true, true, true, true, true] rfl rfl (by kernel_rfl) (by decide) (fun K hK => ?_)
      refine skip_ (w1 := ?_) (by rfl) rfl ?_ ?_
      rotate_left
      · go_simp
        rfl
      refine hK.out _ _ ?_
      clear hK K
      refine done_ (by kernel_rfl) ?_
      refine NoPanic.normal ?_
      have hka := (box1 w6 (.cells #[.string ⟨#[102]⟩, .string ⟨#[108]⟩, .int .i64 n0, .int .i64 n1, .int .i64 n2, .int .i64 n3, .slice A4 ls.length c4, .slice A5 l5 c5, .slice none 0 0, .string ⟨#[72]⟩, .slice none 0 0] 53))
      go_wp2
      go_meet
      exact ⟨w6.heap.size, rfl, by have := HBd.out.size; omega, ⟨hka.1⟩, ⟨(HBd.out.trans (hka.2.mono (by have := HBd.out.size; omega))).mono (by omega)⟩⟩
    · refine value_ (w1 := ?_) (v := ?_) (by rfl) rfl ?_ ?_
      rotate_left 2
      · go_simp
        constructor
        · rfl
        · rfl
      have hba := (box1 wd (.cells #[.string ⟨#[]⟩, .string ⟨#[]⟩, .int .i64 0, .int .i64 0, .int .i64 0, .int .i64 0, .slice none 0 0, .slice none 0 0, .slice none 0 0, .string ⟨#[]⟩, .slice none 0 0] 53)).2
      have hka := (box1 wd (.cells #[.string ⟨#[]⟩, .string ⟨#[]⟩, .int .i64 0, .int .i64 0, .int .i64 0, .int .i64 0, .slice none 0 0, .slice none 0 0, .slice none 0 0, .string ⟨#[]⟩, .slice none 0 0] 53)).1
      obtain ⟨t0, t1, t2, t3, t4, t5⟩ := hHeld
      refine hK.out _ _ ⟨(hba.cell (World.block_lt_of_cell? _ _ t0)).trans t0, (hba.cell (World.block_lt_of_cell? _ _ t1)).trans t1, (hba.cell (World.block_lt_of_cell? _ _ t2)).trans t2, (hba.cell (World.block_lt_of_cell? _ _ t3)).trans t3, (hba.cell (World.block_lt_of_cell? _ _ t4)).trans t4, (hba.cell (World.block_lt_of_cell? _ _ t5)).trans t5⟩ (fun hHeld => ?_)
      rw [hsz] at hka
      have KA := Aside0.mk hka
      replace HBd := Aside0.mk (HBd.out.trans (hba.mono (by have := HBd.out.size; omega)))
      clear hka
      generalize hWA : wd.alloc (.cells #[.string ⟨#[]⟩, .string ⟨#[]⟩, .int .i64 0, .int .i64 0, .int .i64 0, .int .i64 0, .slice none 0 0, .slice none 0 0, .slice none 0 0, .string ⟨#[]⟩, .slice none 0 0] 53) = wa at *
      clear hK K t0 t1 t2 t3 t4 t5
      refine norm_ (a' := ?_) ?_ ?_
      rotate_left
      · show Act.put _ (some 3) _ = _
        simp only [Act.put, List.setIfInBounds_toArray, List.set_cons_zero, List.set_cons_succ, i64_w, i32_w]
        rfl
      refine one_ (i := 0) (N := some 9) #[true, true, false, true, false] rfl rfl (by kernel_rfl) (by decide) (fun K hK => ?_)
      refine call_ 42 #[] (by rfl) rfl (by go_simp) ?_
      refine (usual_calls _).mono ?_
      rintro e w6 ⟨rfl, hb6⟩
      refine ⟨_, rfl, ?_⟩
      obtain ⟨t0, t1, t2, t3, t4, t5⟩ := hHeld
      refine hK.out _ _ ⟨(hb6.cell (World.block_lt_of_cell? _ _ t0)).trans t0, (hb6.cell (World.block_lt_of_cell? _ _ t1)).trans t1, (hb6.cell (World.block_lt_of_cell? _ _ t2)).trans t2, (hb6.cell (World.block_lt_of_cell? _ _ t3)).trans t3, (hb6.cell (World.block_lt_of_cell? _ _ t4)).trans t4, (hb6.cell (World.block_lt_of_cell? _ _ t5)).trans t5⟩ (fun hHeld => ?_)
      have hwa := hb6.size
      replace KA := blkB KA hb6
      replace HBd := Aside0.mk (HBd.out.trans (hb6.mono (by have := HBd.out.size; omega)))
      clear hK K t0 t1 t2 t3 t4 t5
      refine norm_ (a' := ?_) ?_ ?_
      rotate_left
      · show Act.put _ (some 9) _ = _
        simp only [Act.put, List.setIfInBounds_toArray, List.set_cons_zero, List.set_cons_succ, i64_w, i32_w]
        rfl
      refine pure_ (i := 2) (N := some 11) (v := ?_) (a' := ?_) #[true, true, true, true, false] rfl rfl (by kernel_rfl) (fun _ _ _ h => h) (Or.inl ⟨by rfl, ?_⟩) ?_ ?_
      rotate_left
      · intro w'
        go_simp
        with_reducible rfl
      rotate_left
      · simp only [Act.put, List.setIfInBounds_toArray, List.set_cons_zero, List.set_cons_succ, i64_w, i32_w]
        rfl
      have hge : W0.heap.size ≤ w.heap.size + 2 := by omega
      have q0_ := (blk_cell KA.out 0).trans rfl
      have r0_ := blk_frozen KA.out 0
      have q1_ := (blk_cell KA.out 1).trans rfl
      have r1_ := blk_frozen KA.out 1
      have q2_ := (blk_cell KA.out 2).trans rfl
      have r2_ := blk_frozen KA.out 2
      have q3_ := (blk_cell KA.out 3).trans rfl
      have r3_ := blk_frozen KA.out 3
      have q4_ := (blk_cell KA.out 4).trans rfl
      have r4_ := blk_frozen KA.out 4
      have q5_ := (blk_cell KA.out 5).trans rfl
      have r5_ := blk_frozen KA.out 5
      have q6_ := (blk_cell KA.out 6).trans rfl
      have r6_ := blk_frozen KA.out 6
      have q7_ := (blk_cell KA.out 7).trans rfl
      have r7_ := blk_frozen KA.out 7
      have q8_ := (blk_cell KA.out 8).trans rfl
      have r8_ := blk_frozen KA.out 8
      have q9_ := (blk_cell KA.out 9).trans rfl
      have r9_ := blk_frozen KA.out 9
      have q10_ := (blk_cell KA.out 10).trans rfl
      have r10_ := blk_frozen KA.out 10
      refine last_ (i := 4) (N := none) #[true, true, true, true, true] rfl rfl (by kernel_rfl) (by decide) (fun K hK => ?_)
      refine skip_ (w1 := ?_) (by rfl) rfl ?_ ?_
      rotate_left
      · go_simp
        rfl
      refine hK.out _ _ ?_
      clear hK K
      refine done_ (by kernel_rfl) ?_
      refine NoPanic.normal ?_
      have L := (blkP (blkP (blkP (blkP (blkP (blkP (blkP (blkP (blkP (blkP (blkP KA 0 (.string ⟨#[102]⟩)) 1 (.string ⟨#[108]⟩)) 2 (.int .i64 n0)) 3 (.int .i64 n1)) 4 (.int .i64 n2)) 5 (.int .i64 n3)) 6 (.slice A4 ls.length c4)) 7 (.slice A5 l5 c5)) 8 (.slice none 0 0)) 9 (.string ⟨#[72]⟩)) 10 (.slice none 0 0))
      replace L := L.out
      rw [set11] at L
      have LB := (belS (belS (belS (belS (belS (belS (belS (belS (belS (belS (belS HBd hge 0 (.string ⟨#[102]⟩)) hge 1 (.string ⟨#[108]⟩)) hge 2 (.int .i64 n0)) hge 3 (.int .i64 n1)) hge 4 (.int .i64 n2)) hge 5 (.int .i64 n3)) hge 6 (.slice A4 ls.length c4)) hge 7 (.slice A5 l5 c5)) hge 8 (.slice none 0 0)) hge 9 (.string ⟨#[72]⟩)) hge 10 (.slice none 0 0))
      go_wp2
      go_meet
      exact ⟨w.heap.size + 2, by first | rfl | simp, Nat.le_refl _, ⟨L⟩, ⟨LB.out.mono (by omega)⟩⟩
  case rest =>
    obtain ⟨g3, rfl, hg3, K3, HBc⟩ := hcut
    replace K1 := Aside0.mk ((HBc.out.block _ (by omega)).trans K1.out)
    replace K2 := Aside0.mk ((HBc.out.block _ (by omega)).trans K2.out)
    replace HB := Aside0.mk (HB.out.trans (HBc.out.mono (by omega)))
    have hg3w : w.heap.size ≤ g3 := by omega
    have hn1 : w.heap.size ≠ g3 := by omega
    have hn2 : w.heap.size + 1 ≠ g3 := by omega
    clear HBc p0 p1 p2 p3 p4 p5 hsz
    have p1 : wc.cell? ⟨w.heap.size, 1, none⟩ = some (.int .i64 n1) := (blk_cell K1.out 1).trans rfl
    go_wp2_with fail
    refine (logic_Bits.calls 20 n1 _ wc HB1.out.1).mono ?_
    rintro e w2 ⟨rfl, hD⟩
    have hb2 : Below wc.heap.size wc w2 := by
      obtain ⟨q, rfl⟩ := hD.out
      exact pw_below_drewN (Below.refl _ _) q
    replace K1 := blkB K1 hb2
    replace K2 := blkB K2 hb2
    replace K3 := blkB K3 hb2
    replace HB := belB HB hb2
    clear hD hb2 p1
    have hy9 := HB1.out.2
    have hz9 := HB0.out.2
    obtain ⟨y, hy⟩ : ∃ y, bitB n1 = y := ⟨_, rfl⟩
    obtain ⟨z, hz⟩ : ∃ z, bitB n0 = z := ⟨_, rfl⟩
    rw [hy] at hy9 ⊢
    rw [hz] at hz9
    have HY := Aside0.mk hy
    have HZ := Aside0.mk hz
    clear hy hz
    go_wp2
    go_loopw [15] (fun v15 wr => ∃ (i : Nat) (vv : Value), v15 = .int .i64 i ∧ i ≤ y ∧ Aside0 (Kd.string.R 9 wr w.heap.size (fun _ => True) vv (rowB 89 i 0)) ∧ Aside0 (wr.heap[w.heap.size]? = some (.cells #[.int .i64 n0, .int .i64 n1, .int .i64 n2, .int .i64 n3, .slice A4 ls.length c4, .slice A5 l5 c5] 25 (0, 0))) ∧ Aside0 (wr.heap[w.heap.size + 1]? = some (.cells #[.string ⟨#[]⟩, .string ⟨#[]⟩, .int .i64 0, .int .i64 0, .int .i64 0, .int .i64 0, .slice none 0 0, .slice none 0 0, .slice none 0 0, .string ⟨#[]⟩, .slice none 0 0] 53 (0, 0))) ∧ Aside0 (wr.heap[g3]? = some (.cells #[.string ⟨#[102]⟩, .string ⟨#[108]⟩, .int .i64 n0, .int .i64 n1, .int .i64 n2, .int .i64 n3, .slice A4 ls.length c4, .slice A5 l5 c5, vv, .string ⟨#[72]⟩, .slice none 0 0] 53 (0, 0))) ∧ Aside0 (Below w.heap.size w wr)) (fun v15 _ => y - (intOf v15).toNat)
    case atStart => exact ⟨0, _, rfl, Nat.zero_le _, ⟨Kd.R_nil _ _ _ _ _⟩, K1, K2, K3, HB⟩
    case round =>
      clear K1 K2 K3 HB
      obtain ⟨i, vv, rfl, hi, HV, K1, K2, K3, HB⟩ := hrel
      generalize wr = wq at *
      have HXL : Aside0 ((rowB 89 i 0).length ≤ 100) := ⟨by rw [rowB_len]; omega⟩
      by_cases hlt : i < y
      · obtain ⟨xs, hxs⟩ : ∃ xs, rowB 89 i 0 = xs := ⟨_, rfl⟩
        rw [hxs] at HV HXL
        have HXS := Aside0.mk hxs
        clear hxs
        go_upto_region 5 with (fail)
        have hcd : wq.drew.cell? ⟨g3, 8, none⟩ = some vv := (blk_cell K3.out 8).trans rfl
        have hit : strconv_Itoa.f ((i : Int) + 1) = some (mkB (Lib.itoa ((i : Int) + 1))) := by unfold strconv_Itoa.f; rw [if_pos (by omega)]
        have hwi : IntKind.i64.wrap ((i : Int) + 1) = (i : Int) + 1 := by rw [IntKind.wrap_i64]; omega
        have hci : ¬ 9223372036854775807 < 1 + (mkB (Lib.itoa ((i : Int) + 1))).size := by
          rw [mkB_size]
          have := Lib.itoa_length_le ((i : Int) + 1) (by omega) (by omega)
          omega
        refine wp_region_noPanic ?_
        refine start_ (n := 10) (S := fun w' => w'.cell? ⟨g3, 8, none⟩ = some vv) (ds := [9]) #[false, false, false, false, false, false, false, false, false, false] (by kernel_rfl) rfl rfl hcd (fun hHeld => ?_)
        replace K1 := Aside0.mk (blk_drew K1.out)
        replace K2 := Aside0.mk (blk_drew K2.out)
        replace K3 := Aside0.mk (blk_drew K3.out)
        replace HB := Aside0.mk (below_drew HB.out)
        replace HV := Aside0.mk (Kd.R_drew HV.out)
        generalize wq.drew = wd at *
        clear hcd
        refine pure_ (i := 0) (N := some 18) (v := ?_) (a' := ?_) #[true, false, false, false, false, false, false, false, false, false] rfl rfl (by kernel_rfl) (fun _ _ _ h => h) (Or.inl ⟨by rfl, ?_⟩) ?_ ?_
        rotate_left
        · intro w'
          go_simp
          with_reducible rfl
        rotate_left
        · simp only [Act.put, List.setIfInBounds_toArray, List.set_cons_zero, List.set_cons_succ, i64_w, i32_w]
          rfl
        refine pure_ (i := 2) (N := some 20) (v := ?_) (a' := ?_) #[true, false, true, false, false, false, false, false, false, false] rfl rfl (by kernel_rfl) (fun _ _ _ h => h) (Or.inl ⟨by rfl, ?_⟩) ?_ ?_
        rotate_left
        · intro w'
          go_simp
          with_reducible rfl
        rotate_left
        · simp only [Act.put, List.setIfInBounds_toArray, List.set_cons_zero, List.set_cons_succ, i64_w, i32_w]
          rfl
        refine pure_ (i := 3) (N := some 21) (v := ?_) (a' := ?_) #[true, false, true, true, false, false, false, false, false, false] rfl rfl (by kernel_rfl) (fun _ _ _ h => h) (Or.inl ⟨by rfl, ?_⟩) ?_ ?_
        rotate_left
        · intro w'
          go_simp
          with_reducible rfl
        rotate_left
        · simp only [Act.put, List.setIfInBounds_toArray, List.set_cons_zero, List.set_cons_succ, i64_w, i32_w]
          rfl
        refine take_ (i := 1) (N := some 19) (v := ?_) (a' := ?_) #[true, true, true, true, false, false, false, false, false, false] rfl rfl (by kernel_rfl) (fun _ _ _ h => h) (Or.inl ⟨by rfl, ?_⟩) hHeld ?_ ?_
        rotate_left
        · intro w' s0
          go_simp
          with_reducible rfl
        rotate_left
        · simp only [Act.put, List.setIfInBounds_toArray, List.set_cons_zero, List.set_cons_succ, i64_w, i32_w]
          rfl
        refine one_ (i := 4) (N := some 22) #[true, true, true, true, true, false, false, false, false, false] rfl rfl (by kernel_rfl) (by decide) (fun K hK => ?_)
        refine call_ 43 #[.int .i64 ((i : Int) + 1)] (by rfl) rfl (by go_simp) ?_
        refine (strconv_Itoa.calls _ _ _ (HG.out.below HB.out) hit).mono ?_
        rintro e w6 ⟨rfl, hb6⟩
        refine ⟨_, rfl, ?_⟩
        replace K1 := blkB K1 hb6
        replace K2 := blkB K2 hb6
        replace K3 := blkB K3 hb6
        replace HV := rB HV hb6
        replace HB := belB HB hb6
        refine hK.out _ _ ((blk_cell K3.out 8).trans rfl) (fun hHeld => ?_)
        clear hK K hb6
        refine norm_ (a' := ?_) ?_ ?_
        rotate_left
        · show Act.put _ (some 22) _ = _
          simp only [Act.put, List.setIfInBounds_toArray, List.set_cons_zero, List.set_cons_succ, i64_w, i32_w]
          rfl
        refine pure_ (i := 5) (N := some 23) (v := ?_) (a' := ?_) #[true, true, true, true, true, true, false, false, false, false] rfl rfl (by kernel_rfl) (fun _ _ _ h => h) (Or.inl ⟨by rfl, ?_⟩) ?_ ?_
        rotate_left
        · intro w'
          go_simp
          with_reducible rfl
        rotate_left
        · simp only [Act.put, List.setIfInBounds_toArray, List.set_cons_zero, List.set_cons_succ, i64_w, i32_w]
          rfl
        refine one_ (i := 6) (N := some 24) #[true, true, true, true, true, true, true, false, false, false] rfl rfl (by kernel_rfl) (by decide) (fun K hK => ?_)
        refine value_ (w1 := ?_) (v := ?_) (by rfl) rfl ?_ ?_
        rotate_left 2
        · go_simp
          constructor
          · rfl
          · rfl
        refine hK.out _ _ ((blk_cell (blk_alloc K3.out _) 8).trans rfl) (fun hHeld => ?_)
        clear hK K
        refine norm_ (a' := ?_) ?_ ?_
        rotate_left
        · show Act.put _ (some 24) _ = _
          simp only [Act.put, List.setIfInBounds_toArray, List.set_cons_zero, List.set_cons_succ, i64_w, i32_w]
          rfl
        have hwW := HB.out.size
        refine one_ (i := 7) (N := some 25) #[true, true, true, true, true, true, true, true, false, false] rfl rfl (by kernel_rfl) (by decide) (fun K hK => ?_)
        refine Kd.R_append_step Kd.string (w0 := w) w.heap.size (by rfl) (.tmp 19) (.tmp 24) 51 9 (.string ⟨#[]⟩) 16 rfl Tryz.underlying51 infoS rfl (by decide) (by omega) vv xs ((⟨#[89]⟩ : ByteArray) ++ mkB (Lib.itoa ((i : Int) + 1))) [.string ((⟨#[89]⟩ : ByteArray) ++ mkB (Lib.itoa ((i : Int) + 1)))] (fun k => True) (fun _ => False) rfl rfl rfl (fun _ hk => hk.elim) (fun k hk => trivial) HV.out HB.out hwW (by have := HXL.out; omega) ?_
        intro v7 w7 ho hb hg hat
        obtain ⟨ys, hys⟩ : ∃ ys, ys = xs ++ [((⟨#[89]⟩ : ByteArray) ++ mkB (Lib.itoa ((i : Int) + 1)))] := ⟨_, rfl⟩
        rw [← hys] at ho
        have HYS := Aside0.mk hys
        clear hys
        obtain ⟨A7, c7, rfl⟩ := Kd.R_slice ho
        replace K1 := Aside0.mk (blk_grown K1.out hg (Kd.R_ne HV.out K1.out (by decide)))
        replace K2 := Aside0.mk (blk_grown K2.out hg (Kd.R_ne HV.out K2.out (by decide)))
        replace K3 := Aside0.mk (blk_grown K3.out hg (Kd.R_ne HV.out K3.out (by decide)))
        have HVn := Aside0.mk ho
        replace HB := Aside0.mk hb
        clear ho hb hg hat HV
        refine hK.out _ _ ((blk_cell K3.out 8).trans rfl) (fun hHeld => ?_)
        clear hK K
        refine norm_ (a' := ?_) ?_ ?_
        rotate_left
        · show Act.put _ (some 25) _ = _
          simp only [Act.put, List.setIfInBounds_toArray, List.set_cons_zero, List.set_cons_succ, i64_w, i32_w]
          rfl
        refine pure_ (i := 8) (N := some 26) (v := ?_) (a' := ?_) #[true, true, true, true, true, true, true, true, true, false] rfl rfl (by kernel_rfl) (fun _ _ _ h => h) (Or.inl ⟨by rfl, ?_⟩) ?_ ?_
        rotate_left
        · intro w'
          go_simp
          with_reducible rfl
        rotate_left
        · simp only [Act.put, List.setIfInBounds_toArray, List.set_cons_zero, List.set_cons_succ, i64_w, i32_w]
          rfl
        refine last_ (i := 9) (N := none) #[true, true, true, true, true, true, true, true, true, true] rfl rfl (by kernel_rfl) (by decide) (fun K hK => ?_)
        have hs7 : w7.cell? ⟨g3, 8, none⟩ = some vv := (blk_cell K3.out 8).trans rfl
        have hf7 := blk_frozen K3.out 8
        refine skip_ (w1 := ?_) (by rfl) rfl ?_ ?_
        rotate_left
        · go_simp
          rfl
        refine hK.out _ _ ?_
        clear hK K
        refine done_ (by kernel_rfl) ?_
        refine NoPanic.normal ?_
        have L3 := blkP K3 8 (.slice A7 ys.length c7)
        have L1 := blkS K1 hn1 8 (.slice A7 ys.length c7)
        have L2 := blkS K2 hn2 8 (.slice A7 ys.length c7)
        have LB := belS HB hg3w 8 (.slice A7 ys.length c7)
        have LV := Aside0.mk (Kd.R_set HVn.out K3.out (by decide) 8 (.slice A7 ys.length c7))
        have hye : ys = rowB 89 (i + 1) 0 := by rw [HYS.out, ← HXS.out, nm_0, ← rowB_snoc]
        have HYE := Aside0.mk hye
        clear hye
        try go_wp2
        go_roundw
        case rel => exact ⟨i + 1, _, by go_num, by omega, by rw [← HYE.out]; exact LV, L1, L2, L3, LB⟩
        case measure => simp [intOf]; omega
      · obtain rfl : y = i := by omega
        obtain ⟨Ac, cc, rfl⟩ := Kd.R_slice HV.out
        rw [rowB_len] at HV K3
        have p0 : wq.cell? ⟨w.heap.size, 0, none⟩ = some (.int .i64 n0) := (blk_cell K1.out 0).trans rfl
        go_wp2_with fail
        refine (logic_Bits.calls 20 n0 _ wq HB0.out.1).mono ?_
        rintro e w2 ⟨rfl, hD⟩
        have hb2 : Below wq.heap.size wq w2 := by
          obtain ⟨q, rfl⟩ := hD.out
          exact pw_below_drewN (Below.refl _ _) q
        replace K1 := blkB K1 hb2
        replace K2 := blkB K2 hb2
        replace K3 := blkB K3 hb2
        replace HV := rB HV hb2
        replace HB := belB HB hb2
        clear hD hb2 p0 HXL
        rw [HZ.out]
        obtain ⟨b2, hb2e⟩ : ∃ b, w2.heap.size = b := ⟨_, rfl⟩
        have HC := Aside0.mk (Kd.R_mono (ok' := fun k => k < b2) (Kd.R_bound HV.out) (fun k hk => by have := hk.2.2.1; omega))
        have hwb2 : w.heap.size ≤ b2 := by have := HB.out.size; omega
        clear HV
        go_wp2
        go_loopw [31] (fun v31 wr => ∃ (i : Nat) (vv : Value), v31 = .int .i64 i ∧ i ≤ z ∧ b2 ≤ wr.heap.size ∧ Aside0 (Kd.string.R 9 wr w.heap.size (fun k => b2 ≤ k) vv (rowB 90 i 0)) ∧ Aside0 (Kd.string.R 9 wr w.heap.size (fun k => k < b2) (.slice Ac y cc) (rowB 89 y 0)) ∧ Aside0 (wr.heap[w.heap.size]? = some (.cells #[.int .i64 n0, .int .i64 n1, .int .i64 n2, .int .i64 n3, .slice A4 ls.length c4, .slice A5 l5 c5] 25 (0, 0))) ∧ Aside0 (wr.heap[w.heap.size + 1]? = some (.cells #[.string ⟨#[]⟩, .string ⟨#[]⟩, .int .i64 0, .int .i64 0, .int .i64 0, .int .i64 0, .slice none 0 0, .slice none 0 0, .slice none 0 0, .string ⟨#[]⟩, .slice none 0 0] 53 (0, 0))) ∧ Aside0 (wr.heap[g3]? = some (.cells #[.string ⟨#[102]⟩, .string ⟨#[108]⟩, .int .i64 n0, .int .i64 n1, .int .i64 n2, .int .i64 n3, .slice A4 ls.length c4, .slice A5 l5 c5, .slice Ac y cc, .string ⟨#[72]⟩, vv] 53 (0, 0))) ∧ Aside0 (Below w.heap.size w wr)) (fun v31 _ => z - (intOf v31).toNat)
        case atStart => exact ⟨0, _, rfl, Nat.zero_le _, by omega, ⟨Kd.R_nil _ _ _ _ _⟩, HC, K1, K2, K3, HB⟩
        case round =>
          clear K1 K2 K3 HB HC hb2e
          obtain ⟨i, vv, rfl, hi2, hb2q, HV, HC, K1, K2, K3, HB⟩ := hrel
          generalize wr = wq at *
          have HXL : Aside0 ((rowB 90 i 0).length ≤ 100) := ⟨by rw [rowB_len]; omega⟩
          by_cases hlt2 : i < z
          · obtain ⟨xs, hxs⟩ : ∃ xs, rowB 90 i 0 = xs := ⟨_, rfl⟩
            rw [hxs] at HV HXL
            have HXS := Aside0.mk hxs
            clear hxs
            go_upto_region 10 with (fail)
            have hcd : wq.drew.cell? ⟨g3, 10, none⟩ = some vv := (blk_cell K3.out 10).trans rfl
            have hit : strconv_Itoa.f ((i : Int) + 1) = some (mkB (Lib.itoa ((i : Int) + 1))) := by unfold strconv_Itoa.f; rw [if_pos (by omega)]
            have hwi : IntKind.i64.wrap ((i : Int) + 1) = (i : Int) + 1 := by rw [IntKind.wrap_i64]; omega
            have hci : ¬ 9223372036854775807 < 1 + (mkB (Lib.itoa ((i : Int) + 1))).size := by
              rw [mkB_size]
              have := Lib.itoa_length_le ((i : Int) + 1) (by omega) (by omega)
              omega
            refine wp_region_noPanic ?_
            refine start_ (n := 10) (S := fun w' => w'.cell? ⟨g3, 10, none⟩ = some vv) (ds := [9]) #[false, false, false, false, false, false, false, false, false, false] (by kernel_rfl) rfl rfl hcd (fun hHeld => ?_)
            replace K1 := Aside0.mk (blk_drew K1.out)
            replace K2 := Aside0.mk (blk_drew K2.out)
            replace K3 := Aside0.mk (blk_drew K3.out)
            replace HB := Aside0.mk (below_drew HB.out)
            replace HV := Aside0.mk (Kd.R_drew HV.out)
            replace HC := Aside0.mk (Kd.R_drew HC.out)
            have hb2w : b2 ≤ wq.drew.heap.size := hb2q
            generalize wq.drew = wd at *
            clear hcd
            refine pure_ (i := 0) (N := some 34) (v := ?_) (a' := ?_) #[true, false, false, false, false, false, false, false, false, false] rfl rfl (by kernel_rfl) (fun _ _ _ h => h) (Or.inl ⟨by rfl, ?_⟩) ?_ ?_
            rotate_left
            · intro w'
              go_simp
              with_reducible rfl
            rotate_left
            · simp only [Act.put, List.setIfInBounds_toArray, List.set_cons_zero, List.set_cons_succ, i64_w, i32_w]
              rfl
            refine pure_ (i := 2) (N := some 36) (v := ?_) (a' := ?_) #[true, false, true, false, false, false, false, false, false, false] rfl rfl (by kernel_rfl) (fun _ _ _ h => h) (Or.inl ⟨by rfl, ?_⟩) ?_ ?_
            rotate_left
            · intro w'
              go_simp
              with_reducible rfl
            rotate_left
            · simp only [Act.put, List.setIfInBounds_toArray, List.set_cons_zero, List.set_cons_succ, i64_w, i32_w]
              rfl
            refine pure_ (i := 3) (N := some 37) (v := ?_) (a' := ?_) #[true, false, true, true, false, false, false, false, false, false] rfl rfl (by kernel_rfl) (fun _ _ _ h => h) (Or.inl ⟨by rfl, ?_⟩) ?_ ?_
            rotate_left
            · intro w'
              go_simp
              with_reducible rfl
            rotate_left
            · simp only [Act.put, List.setIfInBounds_toArray, List.set_cons_zero, List.set_cons_succ, i64_w, i32_w]
              rfl
            refine take_ (i := 1) (N := some 35) (v := ?_) (a' := ?_) #[true, true, true, true, false, false, false, false, false, false] rfl rfl (by kernel_rfl) (fun _ _ _ h => h) (Or.inl ⟨by rfl, ?_⟩) hHeld ?_ ?_
            rotate_left
            · intro w' s0
              go_simp
              with_reducible rfl
            rotate_left
            · simp only [Act.put, List.setIfInBounds_toArray, List.set_cons_zero, List.set_cons_succ, i64_w, i32_w]
              rfl
            refine one_ (i := 4) (N := some 38) #[true, true, true, true, true, false, false, false, false, false] rfl rfl (by kernel_rfl) (by decide) (fun K hK => ?_)
            refine call_ 43 #[.int .i64 ((i : Int) + 1)] (by rfl) rfl (by go_simp) ?_
            refine (strconv_Itoa.calls _ _ _ (HG.out.below HB.out) hit).mono ?_
            rintro e w6 ⟨rfl, hb6⟩
            refine ⟨_, rfl, ?_⟩
            replace K1 := blkB K1 hb6
            replace K2 := blkB K2 hb6
            replace K3 := blkB K3 hb6
            replace HV := rB HV hb6
            replace HC := rB HC hb6
            have hb2v : b2 ≤ w6.heap.size := Nat.le_trans hb2w hb6.size
            replace HB := belB HB hb6
            refine hK.out _ _ ((blk_cell K3.out 10).trans rfl) (fun hHeld => ?_)
            clear hK K hb6
            refine norm_ (a' := ?_) ?_ ?_
            rotate_left
            · show Act.put _ (some 38) _ = _
              simp only [Act.put, List.setIfInBounds_toArray, List.set_cons_zero, List.set_cons_succ, i64_w, i32_w]
              rfl
            refine pure_ (i := 5) (N := some 39) (v := ?_) (a' := ?_) #[true, true, true, true, true, true, false, false, false, false] rfl rfl (by kernel_rfl) (fun _ _ _ h => h) (Or.inl ⟨by rfl, ?_⟩) ?_ ?_
            rotate_left
            · intro w'
              go_simp
              with_reducible rfl
            rotate_left
            · simp only [Act.put, List.setIfInBounds_toArray, List.set_cons_zero, List.set_cons_succ, i64_w, i32_w]
              rfl
            refine one_ (i := 6) (N := some 40) #[true, true, true, true, true, true, true, false, false, false] rfl rfl (by kernel_rfl) (by decide) (fun K hK => ?_)
            refine value_ (w1 := ?_) (v := ?_) (by rfl) rfl ?_ ?_
            rotate_left 2
            · go_simp
              constructor
              · rfl
              · rfl
            refine hK.out _ _ ((blk_cell (blk_alloc K3.out _) 10).trans rfl) (fun hHeld => ?_)
            clear hK K
            refine norm_ (a' := ?_) ?_ ?_
            rotate_left
            · show Act.put _ (some 40) _ = _
              simp only [Act.put, List.setIfInBounds_toArray, List.set_cons_zero, List.set_cons_succ, i64_w, i32_w]
              rfl
            have hwW := HB.out.size
            refine one_ (i := 7) (N := some 41) #[true, true, true, true, true, true, true, true, false, false] rfl rfl (by kernel_rfl) (by decide) (fun K hK => ?_)
            refine Kd.R_append_step Kd.string (w0 := w) w.heap.size (by rfl) (.tmp 35) (.tmp 40) 51 9 (.string ⟨#[]⟩) 16 rfl Tryz.underlying51 infoS rfl (by decide) (by omega) vv xs ((⟨#[90]⟩ : ByteArray) ++ mkB (Lib.itoa ((i : Int) + 1))) [.string ((⟨#[90]⟩ : ByteArray) ++ mkB (Lib.itoa ((i : Int) + 1)))] (fun k => b2 ≤ k) (fun _ => False) rfl rfl rfl (fun _ hk => hk.elim) (fun k hk => by omega) HV.out HB.out hwW (by have := HXL.out; omega) ?_
            intro v7 w7 ho hb hg hat
            obtain ⟨ys, hys⟩ : ∃ ys, ys = xs ++ [((⟨#[90]⟩ : ByteArray) ++ mkB (Lib.itoa ((i : Int) + 1)))] := ⟨_, rfl⟩
            rw [← hys] at ho
            have HYS := Aside0.mk hys
            clear hys
            obtain ⟨A7, c7, rfl⟩ := Kd.R_slice ho
            replace K1 := Aside0.mk (blk_grown K1.out hg (Kd.R_ne HV.out K1.out (by decide)))
            replace K2 := Aside0.mk (blk_grown K2.out hg (Kd.R_ne HV.out K2.out (by decide)))
            replace K3 := Aside0.mk (blk_grown K3.out hg (Kd.R_ne HV.out K3.out (by decide)))
            replace HC := Aside0.mk (Kd.R_grown HC.out hg (fun k hk e => by have := HV.out.1 k e.symm; omega))
            have hb2u : b2 ≤ w7.heap.size := Nat.le_trans hb2v hg.size
            have HVn := Aside0.mk ho
            replace HB := Aside0.mk hb
            clear ho hb hg hat HV
            refine hK.out _ _ ((blk_cell K3.out 10).trans rfl) (fun hHeld => ?_)
            clear hK K
            refine norm_ (a' := ?_) ?_ ?_
            rotate_left
            · show Act.put _ (some 41) _ = _
              simp only [Act.put, List.setIfInBounds_toArray, List.set_cons_zero, List.set_cons_succ, i64_w, i32_w]
              rfl
            refine pure_ (i := 8) (N := some 42) (v := ?_) (a' := ?_) #[true, true, true, true, true, true, true, true, true, false] rfl rfl (by kernel_rfl) (fun _ _ _ h => h) (Or.inl ⟨by rfl, ?_⟩) ?_ ?_
            rotate_left
            · intro w'
              go_simp
              with_reducible rfl
            rotate_left
            · simp only [Act.put, List.setIfInBounds_toArray, List.set_cons_zero, List.set_cons_succ, i64_w, i32_w]
              rfl
            refine last_ (i := 9) (N := none) #[true, true, true, true, true, true, true, true, true, true] rfl rfl (by kernel_rfl) (by decide) (fun K hK => ?_)
            have hs7 : w7.cell? ⟨g3, 10, none⟩ = some vv := (blk_cell K3.out 10).trans rfl
            have hf7 := blk_frozen K3.out 10
            refine skip_ (w1 := ?_) (by rfl) rfl ?_ ?_
            rotate_left
            · go_simp
              rfl
            refine hK.out _ _ ?_
            clear hK K
            refine done_ (by kernel_rfl) ?_
            refine NoPanic.normal ?_
            have L3 := blkP K3 10 (.slice A7 ys.length c7)
            have L1 := blkS K1 hn1 10 (.slice A7 ys.length c7)
            have L2 := blkS K2 hn2 10 (.slice A7 ys.length c7)
            have LB := belS HB hg3w 10 (.slice A7 ys.length c7)
            have LV := Aside0.mk (Kd.R_set HVn.out K3.out (by decide) 10 (.slice A7 ys.length c7))
            have LC := Aside0.mk (Kd.R_set HC.out K3.out (by decide) 10 (.slice A7 ys.length c7))
            have hye : ys = rowB 90 (i + 1) 0 := by rw [HYS.out, ← HXS.out, nm_0, ← rowB_snoc]
            have HYE := Aside0.mk hye
            clear hye
            have hb2z : b2 ≤ (w7.setCell ⟨g3, 10, none⟩ (.slice A7 ys.length c7)).heap.size := Nat.le_trans hb2u (by simp)
            try go_wp2
            go_roundw
            case rel => exact ⟨i + 1, _, by go_num, by omega, hb2z, by rw [← HYE.out]; exact LV, LC, L1, L2, L3, LB⟩
            case measure => simp [intOf]; omega
          · obtain rfl : z = i := by omega
            obtain ⟨As, cs, rfl⟩ := Kd.R_slice HV.out
            rw [rowB_len] at HV K3
            rw [show (⟨#[72]⟩ : ByteArray) = hdB 0 from rfl] at K3
            clear HXL hlt hlt2
            go_wp2
            go_loopg [] (sizeB ls + 1) (fun k wr => ∃ m : Nat, k + m = sizeB ls + 1 ∧ m ≤ sizeB ls ∧ Aside0 (manyF ls y z (sizeB ls - m) m = manyB ls y z) ∧ b2 ≤ wr.heap.size ∧ Aside0 (Kd.string.R 9 wr w.heap.size (fun k => b2 ≤ k) (.slice As z cs) (rowB 90 z m)) ∧ Aside0 (Kd.string.R 9 wr w.heap.size (fun k => k < b2) (.slice Ac y cc) (rowB 89 y m)) ∧ Aside0 (wr.heap[w.heap.size]? = some (.cells #[.int .i64 n0, .int .i64 n1, .int .i64 n2, .int .i64 n3, .slice A4 ls.length c4, .slice A5 l5 c5] 25 (0, 0))) ∧ Aside0 (wr.heap[w.heap.size + 1]? = some (.cells #[.string ⟨#[]⟩, .string ⟨#[]⟩, .int .i64 0, .int .i64 0, .int .i64 0, .int .i64 0, .slice none 0 0, .slice none 0 0, .slice none 0 0, .string ⟨#[]⟩, .slice none 0 0] 53 (0, 0))) ∧ Aside0 (wr.heap[g3]? = some (.cells #[.string ⟨#[102]⟩, .string ⟨#[108]⟩, .int .i64 n0, .int .i64 n1, .int .i64 n2, .int .i64 n3, .slice A4 ls.length c4, .slice A5 l5 c5, .slice Ac y cc, .string (hdB m), .slice As z cs] 53 (0, 0))) ∧ Aside0 (Below w.heap.size w wr))
            case atStart => exact ⟨0, rfl, Nat.zero_le _, ⟨rfl⟩, hb2q, HV, HC, K1, K2, K3, HB⟩
            case round =>
              clear K1 K2 K3 HB HC HV hb2q
              obtain ⟨m, hkm, hm, HMF, hb2q, HV, HC, K1, K2, K3, HB⟩ := hrel
              have HKM := Aside0.mk (And.intro hkm hm)
              clear hkm hm
              generalize wr = wq at *
              go_upto_region 12 with (fail)
              go_cut [48] (fun v48 wr => v48 = .bool (takenB ls y z m) ∧ b2 ≤ wr.heap.size ∧ Aside0 (Kd.string.R 9 wr w.heap.size (fun k => b2 ≤ k) (.slice As z cs) (rowB 90 z m)) ∧ Aside0 (Kd.string.R 9 wr w.heap.size (fun k => k < b2) (.slice Ac y cc) (rowB 89 y m)) ∧ Aside0 (wr.heap[w.heap.size]? = some (.cells #[.int .i64 n0, .int .i64 n1, .int .i64 n2, .int .i64 n3, .slice A4 ls.length c4, .slice A5 l5 c5] 25 (0, 0))) ∧ Aside0 (wr.heap[w.heap.size + 1]? = some (.cells #[.string ⟨#[]⟩, .string ⟨#[]⟩, .int .i64 0, .int .i64 0, .int .i64 0, .int .i64 0, .slice none 0 0, .slice none 0 0, .slice none 0 0, .string ⟨#[]⟩, .slice none 0 0] 53 (0, 0))) ∧ Aside0 (wr.heap[g3]? = some (.cells #[.string ⟨#[102]⟩, .string ⟨#[108]⟩, .int .i64 n0, .int .i64 n1, .int .i64 n2, .int .i64 n3, .slice A4 ls.length c4, .slice A5 l5 c5, .slice Ac y cc, .string (hdB m), .slice As z cs] 53 (0, 0))) ∧ Aside0 (Below w.heap.size w wr))
              case first =>
                have hcd : wq.drew.cell? ⟨g3, 0, none⟩ = some (.string ⟨#[102]⟩) ∧ wq.drew.cell? ⟨g3, 1, none⟩ = some (.string ⟨#[108]⟩) ∧ wq.drew.cell? ⟨g3, 2, none⟩ = some (.int .i64 n0) ∧ wq.drew.cell? ⟨g3, 3, none⟩ = some (.int .i64 n1) ∧ wq.drew.cell? ⟨g3, 4, none⟩ = some (.int .i64 n2) ∧ wq.drew.cell? ⟨g3, 5, none⟩ = some (.int .i64 n3) ∧ wq.drew.cell? ⟨g3, 6, none⟩ = some (.slice A4 ls.length c4) ∧ wq.drew.cell? ⟨g3, 7, none⟩ = some (.slice A5 l5 c5) ∧ wq.drew.cell? ⟨g3, 8, none⟩ = some (.slice Ac y cc) ∧ wq.drew.cell? ⟨g3, 9, none⟩ = some (.string (hdB m)) ∧ wq.drew.cell? ⟨g3, 10, none⟩ = some (.slice As z cs) := ⟨(blk_cell K3.out 0).trans rfl, (blk_cell K3.out 1).trans rfl, (blk_cell K3.out 2).trans rfl, (blk_cell K3.out 3).trans rfl, (blk_cell K3.out 4).trans rfl, (blk_cell K3.out 5).trans rfl, (blk_cell K3.out 6).trans rfl, (blk_cell K3.out 7).trans rfl, (blk_cell K3.out 8).trans rfl, (blk_cell K3.out 9).trans rfl, (blk_cell K3.out 10).trans rfl⟩
                refine wp_region_noPanic ?_
                refine start_ (n := 5) (S := fun w' => w'.cell? ⟨g3, 0, none⟩ = some (.string ⟨#[102]⟩) ∧ w'.cell? ⟨g3, 1, none⟩ = some (.string ⟨#[108]⟩) ∧ w'.cell? ⟨g3, 2, none⟩ = some (.int .i64 n0) ∧ w'.cell? ⟨g3, 3, none⟩ = some (.int .i64 n1) ∧ w'.cell? ⟨g3, 4, none⟩ = some (.int .i64 n2) ∧ w'.cell? ⟨g3, 5, none⟩ = some (.int .i64 n3) ∧ w'.cell? ⟨g3, 6, none⟩ = some (.slice A4 ls.length c4) ∧ w'.cell? ⟨g3, 7, none⟩ = some (.slice A5 l5 c5) ∧ w'.cell? ⟨g3, 8, none⟩ = some (.slice Ac y cc) ∧ w'.cell? ⟨g3, 9, none⟩ = some (.string (hdB m)) ∧ w'.cell? ⟨g3, 10, none⟩ = some (.slice As z cs)) (ds := []) #[false, false, false, false, false] (by kernel_rfl) rfl rfl hcd (fun hHeld => ?_)
                replace K1 := Aside0.mk (blk_drew K1.out)
                replace K2 := Aside0.mk (blk_drew K2.out)
                replace K3 := Aside0.mk (blk_drew K3.out)
                replace HB := Aside0.mk (below_drew HB.out)
                replace HV := Aside0.mk (Kd.R_drew HV.out)
                replace HC := Aside0.mk (Kd.R_drew HC.out)
                have hb2w : b2 ≤ wq.drew.heap.size := hb2q
                generalize wq.drew = wd at *
                clear hcd
                refine take_ (i := 0) (N := some 44) (v := ?_) (a' := ?_) #[true, false, false, false, false] rfl rfl (by kernel_rfl) (fun _ _ _ h => h) (Or.inl ⟨by rfl, ?_⟩) hHeld ?_ ?_
                rotate_left
                · intro w' s0
                  obtain ⟨t0, t1, t2, t3, t4, t5, t6, t7, t8, t9, t10⟩ := s0
                  go_simp
                  with_reducible rfl
                rotate_left
                · simp only [Act.put, List.setIfInBounds_toArray, List.set_cons_zero, List.set_cons_succ, i64_w, i32_w]
                  rfl
                refine take_ (i := 2) (N := some 46) (v := ?_) (a' := ?_) #[true, false, true, false, false] rfl rfl (by kernel_rfl) (fun _ _ _ h => h) (Or.inl ⟨by rfl, ?_⟩) hHeld ?_ ?_
                rotate_left
                · intro w' s0
                  obtain ⟨t0, t1, t2, t3, t4, t5, t6, t7, t8, t9, t10⟩ := s0
                  go_simp
                  with_reducible rfl
                rotate_left
                · simp only [Act.put, List.setIfInBounds_toArray, List.set_cons_zero, List.set_cons_succ, i64_w, i32_w]
                  rfl
                refine pure_ (i := 3) (N := some 47) (v := ?_) (a' := ?_) #[true, false, true, true, false] rfl rfl (by kernel_rfl) (fun _ _ _ h => h) (Or.inl ⟨by rfl, ?_⟩) ?_ ?_
                rotate_left
                · intro w'
                  go_simp
                  with_reducible rfl
                rotate_left
                · simp only [Act.put, List.setIfInBounds_toArray, List.set_cons_zero, List.set_cons_succ, i64_w, i32_w]
                  rfl
                obtain ⟨_, hyc, hCC⟩ := Kd.R_reads' HC.out
                obtain ⟨_, hzc, hCS⟩ := Kd.R_reads' HV.out
                rw [rowB_len] at hCC hCS
                clear hHeld
                refine one_ (i := 1) (N := some 45) #[true, true, true, true, false] rfl rfl (by kernel_rfl) (by decide) (fun K hK => ?_)
                refine goes_ Tryz.func45 (by kernel_rfl) rfl #[.agg #[.string ⟨#[102]⟩, .string ⟨#[108]⟩, .int .i64 n0, .int .i64 n1, .int .i64 n2, .int .i64 n3, .slice A4 ls.length c4, .slice A5 l5 c5, .slice Ac y cc, .string (hdB m), .slice As z cs]] (by rfl) rfl rfl (by simp only [List.map_toArray, List.map_cons, List.map_nil]; rfl) ?_
                refine (all_callsN n0 n1 n2 n3 A4 ls.length c4 A5 l5 c5 Ac cc As cs y z m wd hCC hyc hCS hzc (by omega)).mono ?_
                rintro e w6 ⟨Aq, cq, rfl, hqc, hqC, hb6⟩
                refine ⟨_, rfl, ?_⟩
                have HQ := Aside0.mk hqC
                have hb2v : b2 ≤ w6.heap.size := Nat.le_trans hb2w hb6.size
                replace K1 := blkB K1 hb6
                replace K2 := blkB K2 hb6
                replace K3 := blkB K3 hb6
                replace HV := rB HV hb6
                replace HC := rB HC hb6
                replace HB := belB HB hb6
                refine hK.out _ _ ⟨(blk_cell K3.out 0).trans rfl, (blk_cell K3.out 1).trans rfl, (blk_cell K3.out 2).trans rfl, (blk_cell K3.out 3).trans rfl, (blk_cell K3.out 4).trans rfl, (blk_cell K3.out 5).trans rfl, (blk_cell K3.out 6).trans rfl, (blk_cell K3.out 7).trans rfl, (blk_cell K3.out 8).trans rfl, (blk_cell K3.out 9).trans rfl, (blk_cell K3.out 10).trans rfl⟩ (fun hHeld => ?_)
                clear hK K hb6 hqC hCC hCS hHeld
                obtain ⟨lq, hlq⟩ : ∃ lq, (rowB 89 y m ++ hdB m :: rowB 90 z m).length = lq := ⟨_, rfl⟩
                refine norm_ (a' := ?_) ?_ ?_
                rotate_left
                · show Act.put _ (some 45) _ = _
                  simp only [Act.put, List.setIfInBounds_toArray, List.set_cons_zero, List.set_cons_succ, i64_w, i32_w]
                  rfl
                refine one_ (i := 4) (N := some 48) #[true, true, true, true, true] rfl rfl (by kernel_rfl) (by decide) (fun K hK => ?_)
                refine goes_ Tryz.func44 (by kernel_rfl) rfl #[.slice Aq (rowB 89 y m ++ hdB m :: rowB 90 z m).length cq, .func (.func 46) #[.agg #[.string ⟨#[102]⟩, .string ⟨#[108]⟩, .int .i64 n0, .int .i64 n1, .int .i64 n2, .int .i64 n3, .slice A4 ls.length c4, .slice A5 l5 c5, .slice Ac y cc, .string (hdB m), .slice As z cs]] #[]] (by rfl) rfl rfl (by simp only [List.map_toArray, List.map_cons, List.map_nil]; rfl) ?_
                refine (any_calls n0 n1 n2 n3 A4 c4 ls A5 l5 c5 Ac cc As cs y z m Aq cq w6 (Kd.C_below H4.out HB.out) hc4 HQ.out hqc).mono ?_
                rintro e w7 ⟨rfl, hb6⟩
                refine ⟨_, rfl, ?_⟩
                have hb2u : b2 ≤ w7.heap.size := Nat.le_trans hb2v hb6.size
                replace K1 := blkB K1 hb6
                replace K2 := blkB K2 hb6
                replace K3 := blkB K3 hb6
                replace HV := rB HV hb6
                replace HC := rB HC hb6
                replace HB := belB HB hb6
                refine hK.out _ _ ⟨(blk_cell K3.out 0).trans rfl, (blk_cell K3.out 1).trans rfl, (blk_cell K3.out 2).trans rfl, (blk_cell K3.out 3).trans rfl, (blk_cell K3.out 4).trans rfl, (blk_cell K3.out 5).trans rfl, (blk_cell K3.out 6).trans rfl, (blk_cell K3.out 7).trans rfl, (blk_cell K3.out 8).trans rfl, (blk_cell K3.out 9).trans rfl, (blk_cell K3.out 10).trans rfl⟩ (fun hHeld => ?_)
                clear hK K hb6 hHeld HQ hlq hqc hyc hzc
                refine norm_ (a' := ?_) ?_ ?_
                rotate_left
                · show Act.put _ (some 48) _ = _
                  simp only [Act.put, List.setIfInBounds_toArray, List.set_cons_zero, List.set_cons_succ, i64_w, i32_w]
                  rfl
                refine done_ (by kernel_rfl) ?_
                refine NoPanic.normal ?_
                go_wp2
                go_meet
                exact ⟨rfl, hb2u, HV, HC, K1, K2, K3, HB⟩
              case rest =>
              clear K1 K2 K3 HB HC HV hb2q
              obtain ⟨rfl, hb2u, HV, HC, K1, K2, K3, HB⟩ := hcut
              generalize wc = w7 at *
              cases htk : takenB ls y z m with
              | false =>
                have t0_ : w7.cell? ⟨g3, 0, none⟩ = some (.string ⟨#[102]⟩) := (blk_cell K3.out 0).trans rfl
                have t1_ : w7.cell? ⟨g3, 1, none⟩ = some (.string ⟨#[108]⟩) := (blk_cell K3.out 1).trans rfl
                have t2_ : w7.cell? ⟨g3, 2, none⟩ = some (.int .i64 n0) := (blk_cell K3.out 2).trans rfl
                have t3_ : w7.cell? ⟨g3, 3, none⟩ = some (.int .i64 n1) := (blk_cell K3.out 3).trans rfl
                have t4_ : w7.cell? ⟨g3, 4, none⟩ = some (.int .i64 n2) := (blk_cell K3.out 4).trans rfl
                have t5_ : w7.cell? ⟨g3, 5, none⟩ = some (.int .i64 n3) := (blk_cell K3.out 5).trans rfl
                have t6_ : w7.cell? ⟨g3, 6, none⟩ = some (.slice A4 ls.length c4) := (blk_cell K3.out 6).trans rfl
                have t7_ : w7.cell? ⟨g3, 7, none⟩ = some (.slice A5 l5 c5) := (blk_cell K3.out 7).trans rfl
                have t8_ : w7.cell? ⟨g3, 8, none⟩ = some (.slice Ac y cc) := (blk_cell K3.out 8).trans rfl
                have t9_ : w7.cell? ⟨g3, 9, none⟩ = some (.string (hdB m)) := (blk_cell K3.out 9).trans rfl
                have t10_ : w7.cell? ⟨g3, 10, none⟩ = some (.slice As z cs) := (blk_cell K3.out 10).trans rfl
                have q0_ := (blk_cell K2.out 0).trans rfl
                have r0_ := blk_frozen K2.out 0
                have q1_ := (blk_cell K2.out 1).trans rfl
                have r1_ := blk_frozen K2.out 1
                have q2_ := (blk_cell K2.out 2).trans rfl
                have r2_ := blk_frozen K2.out 2
                have q3_ := (blk_cell K2.out 3).trans rfl
                have r3_ := blk_frozen K2.out 3
                have q4_ := (blk_cell K2.out 4).trans rfl
                have r4_ := blk_frozen K2.out 4
                have q5_ := (blk_cell K2.out 5).trans rfl
                have r5_ := blk_frozen K2.out 5
                have q6_ := (blk_cell K2.out 6).trans rfl
                have r6_ := blk_frozen K2.out 6
                have q7_ := (blk_cell K2.out 7).trans rfl
                have r7_ := blk_frozen K2.out 7
                have q8_ := (blk_cell K2.out 8).trans rfl
                have r8_ := blk_frozen K2.out 8
                have q9_ := (blk_cell K2.out 9).trans rfl
                have r9_ := blk_frozen K2.out 9
                have q10_ := (blk_cell K2.out 10).trans rfl
                have r10_ := blk_frozen K2.out 10
                have hme : m = manyB ls y z := by
                  have h := HMF.out
                  cases hq : sizeB ls - m with
                  | zero =>
                    rw [hq] at h
                    exact h
                  | succ q =>
                    rw [hq] at h
                    unfold manyF at h
                    rw [htk, if_neg (by simp)] at h
                    exact h
                have HME := Aside0.mk hme
                clear hme
                go_wp2
                have L2 := ((blkP (blkP (blkP (blkP (blkP (blkP (blkP (blkP (blkP (blkP (blkP K2 0 (.string ⟨#[102]⟩)) 1 (.string ⟨#[108]⟩)) 2 (.int .i64 n0)) 3 (.int .i64 n1)) 4 (.int .i64 n2)) 5 (.int .i64 n3)) 6 (.slice A4 ls.length c4)) 7 (.slice A5 l5 c5)) 8 (.slice Ac y cc)) 9 (.string (hdB m))) 10 (.slice As z cs))).out
                rw [set11] at L2
                have LB := (belS (belS (belS (belS (belS (belS (belS (belS (belS (belS (belS HB (Nat.le_succ _) 0 (.string ⟨#[102]⟩)) (Nat.le_succ _) 1 (.string ⟨#[108]⟩)) (Nat.le_succ _) 2 (.int .i64 n0)) (Nat.le_succ _) 3 (.int .i64 n1)) (Nat.le_succ _) 4 (.int .i64 n2)) (Nat.le_succ _) 5 (.int .i64 n3)) (Nat.le_succ _) 6 (.slice A4 ls.length c4)) (Nat.le_succ _) 7 (.slice A5 l5 c5)) (Nat.le_succ _) 8 (.slice Ac y cc)) (Nat.le_succ _) 9 (.string (hdB m))) (Nat.le_succ _) 10 (.slice As z cs))
                have hfar := far11 w7 (w.heap.size + 1) (.string ⟨#[102]⟩) (.string ⟨#[108]⟩) (.int .i64 n0) (.int .i64 n1) (.int .i64 n2) (.int .i64 n3) (.slice A4 ls.length c4) (.slice A5 l5 c5) (.slice Ac y cc) (.string (hdB m)) (.slice As z cs)
                generalize (((((((((((w7.setCell ⟨w.heap.size + 1, 0, none⟩ (.string ⟨#[102]⟩)).setCell ⟨w.heap.size + 1, 1, none⟩ (.string ⟨#[108]⟩)).setCell ⟨w.heap.size + 1, 2, none⟩ (.int .i64 n0)).setCell ⟨w.heap.size + 1, 3, none⟩ (.int .i64 n1)).setCell ⟨w.heap.size + 1, 4, none⟩ (.int .i64 n2)).setCell ⟨w.heap.size + 1, 5, none⟩ (.int .i64 n3)).setCell ⟨w.heap.size + 1, 6, none⟩ (.slice A4 ls.length c4)).setCell ⟨w.heap.size + 1, 7, none⟩ (.slice A5 l5 c5)).setCell ⟨w.heap.size + 1, 8, none⟩ (.slice Ac y cc)).setCell ⟨w.heap.size + 1, 9, none⟩ (.string (hdB m))).setCell ⟨w.heap.size + 1, 10, none⟩ (.slice As z cs)) = w12 at hfar L2 LB ⊢
                have LC := Kd.R_mono (Kd.R_step (w1 := w12) (Kd.R_types HC.out K2.out (by decide)) (fun k ho _ => hfar k ho.2)) (fun _ h => h.1)
                have LS := Kd.R_mono (Kd.R_step (w1 := w12) (Kd.R_types HV.out K2.out (by decide)) (fun k ho _ => hfar k ho.2)) (fun _ h => h.1)
                refine bodyPost_ret (results_single rfl (.cell (w.heap.size + 1) 53 #[.string ⟨#[102]⟩, .string ⟨#[108]⟩, .int .i64 n0, .int .i64 n1, .int .i64 n2, .int .i64 n3, .slice A4 ls.length c4, .slice A5 l5 c5, .slice Ac y cc, .string (hdB m), .slice As z cs] (0, 0) _ rfl L2 Tryz.underlying53 rfl (by kernel_rfl) .nil)) rfl ?_
                obtain ⟨_, hyc, hCC⟩ := Kd.R_reads' LC
                obtain ⟨_, hzc, hCS⟩ := Kd.R_reads' LS
                rw [rowB_len] at hCC hCS
                exact ⟨Ac, cc, As, cs, m, by rw [HY.out, HZ.out]; exact HME.out, by rw [HY.out, HZ.out]; rfl, by rw [HY.out]; exact hCC, by rw [HY.out]; exact hyc, by rw [HZ.out]; exact hCS, by rw [HZ.out]; exact hzc, LB.out⟩
              | true =>
                have q8_ : w7.cell? ⟨g3, 8, none⟩ = some (.slice Ac y cc) := (blk_cell K3.out 8).trans rfl
                have q10_ : w7.cell? ⟨g3, 10, none⟩ = some (.slice As z cs) := (blk_cell K3.out 10).trans rfl
                go_wp2
                obtain ⟨kL, hbL⟩ := box1 w7 (.cells #[.slice Ac y cc, .slice As z cs] 51)
                have KL := Aside0.mk kL
                replace K1 := blkB K1 hbL
                replace K2 := blkB K2 hbL
                replace K3 := blkB K3 hbL
                replace HV := rB HV hbL
                replace HC := rB HC hbL
                replace HB := belB HB hbL
                have hb2q : b2 ≤ (w7.alloc (.cells #[.slice Ac y cc, .slice As z cs] 51)).heap.size := Nat.le_trans hb2u hbL.size
                obtain ⟨gL, hgL⟩ : ∃ g, w7.heap.size = g := ⟨_, rfl⟩
                rw [hgL] at KL
                simp only [hgL]
                clear kL hbL hgL q8_ q10_ hb2u
                have HTK := Aside0.mk htk
                clear htk
                go_loopw [55] (fun v55 wr => ∃ i : Nat, v55 = .int .i64 i ∧ i ≤ 2 ∧ b2 ≤ wr.heap.size ∧ Aside0 (Kd.string.R 9 wr w.heap.size (fun k => b2 ≤ k) (.slice As z cs) (rowB 90 z (if i = 2 then m + 1 else m))) ∧ Aside0 (Kd.string.R 9 wr w.heap.size (fun k => k < b2) (.slice Ac y cc) (rowB 89 y (if i = 0 then m else m + 1))) ∧ Aside0 (wr.heap[gL]? = some (.cells #[.slice Ac y cc, .slice As z cs] 51 (0, 0))) ∧ Aside0 (wr.heap[w.heap.size]? = some (.cells #[.int .i64 n0, .int .i64 n1, .int .i64 n2, .int .i64 n3, .slice A4 ls.length c4, .slice A5 l5 c5] 25 (0, 0))) ∧ Aside0 (wr.heap[w.heap.size + 1]? = some (.cells #[.string ⟨#[]⟩, .string ⟨#[]⟩, .int .i64 0, .int .i64 0, .int .i64 0, .int .i64 0, .slice none 0 0, .slice none 0 0, .slice none 0 0, .string ⟨#[]⟩, .slice none 0 0] 53 (0, 0))) ∧ Aside0 (wr.heap[g3]? = some (.cells #[.string ⟨#[102]⟩, .string ⟨#[108]⟩, .int .i64 n0, .int .i64 n1, .int .i64 n2, .int .i64 n3, .slice A4 ls.length c4, .slice A5 l5 c5, .slice Ac y cc, .string (hdB m), .slice As z cs] 53 (0, 0))) ∧ Aside0 (Below w.heap.size w wr)) (fun v55 _ => 2 - (intOf v55).toNat)
                case atStart => exact ⟨0, rfl, by omega, hb2q, HV, HC, KL, K1, K2, K3, HB⟩
                case round =>
                  clear K1 K2 K3 HB HC HV KL hb2q
                  obtain ⟨i, rfl, hi2x, hb2q, HV, HC, KL, K1, K2, K3, HB⟩ := hrel
                  generalize wr = wq at *
                  by_cases hlt3 : i < 2
                  · rcases (by omega : i = 0 ∨ i = 1) with hy | hy
                    · rw [hy] at HV HC
                      rw [if_neg (by omega)] at HV
                      rw [if_pos rfl] at HC
                      have hcell : wq.cell? ⟨gL, i, none⟩ = some (.slice Ac y cc) := by rw [hy]; exact (blk_cell KL.out 0).trans rfl
                      have HI0 := Aside0.mk hy
                      clear hy
                      go_wp2
                      go_loopw [61] (fun v61 wr => ∃ j : Nat, v61 = .int .i64 j ∧ j ≤ y ∧ b2 ≤ wr.heap.size ∧ Aside0 (Kd.string.R 9 wr w.heap.size (fun k => k < b2) (.slice Ac y cc) ((rowB 89 y (m + 1)).take j ++ (rowB 89 y m).drop j)) ∧ Aside0 (Kd.string.R 9 wr w.heap.size (fun k => b2 ≤ k) (.slice As z cs) (rowB 90 z m)) ∧ Aside0 (wr.heap[gL]? = some (.cells #[.slice Ac y cc, .slice As z cs] 51 (0, 0))) ∧ Aside0 (wr.heap[w.heap.size]? = some (.cells #[.int .i64 n0, .int .i64 n1, .int .i64 n2, .int .i64 n3, .slice A4 ls.length c4, .slice A5 l5 c5] 25 (0, 0))) ∧ Aside0 (wr.heap[w.heap.size + 1]? = some (.cells #[.string ⟨#[]⟩, .string ⟨#[]⟩, .int .i64 0, .int .i64 0, .int .i64 0, .int .i64 0, .slice none 0 0, .slice none 0 0, .slice none 0 0, .string ⟨#[]⟩, .slice none 0 0] 53 (0, 0))) ∧ Aside0 (wr.heap[g3]? = some (.cells #[.string ⟨#[102]⟩, .string ⟨#[108]⟩, .int .i64 n0, .int .i64 n1, .int .i64 n2, .int .i64 n3, .slice A4 ls.length c4, .slice A5 l5 c5, .slice Ac y cc, .string (hdB m), .slice As z cs] 53 (0, 0))) ∧ Aside0 (Below w.heap.size w wr)) (fun v61 _ => y - (intOf v61).toNat)
                      case atStart => exact ⟨0, rfl, Nat.zero_le _, hb2q, ⟨by rw [List.take_zero, List.drop_zero, List.nil_append]; exact HC.out⟩, HV, KL, K1, K2, K3, HB⟩
                      case round =>
                        clear K1 K2 K3 HB HC HV KL hb2q hcell
                        obtain ⟨j, rfl, hj, hb2q, HC, HV, KL, K1, K2, K3, HB⟩ := hrel
                        generalize wr = wt at *
                        by_cases hjl : j < y
                        · have hrl := row_len 89 y m j hj
                          have hra := row_at 89 y m j hjl
                          have hrs := row_step 89 y m j hjl
                          generalize hRW : ((rowB 89 y (m + 1)).take j ++ (rowB 89 y m).drop j) = rw_ at *
                          obtain ⟨gr, cr, er, hgb, hgl, _⟩ := Kd.R_form HC.out (by omega)
                          rw [hrl] at er
                          injection er with er1 _ er3
                          subst er1
                          subst er3
                          obtain ⟨hcz, hfz⟩ := Kd.R_celln ByteArray.empty HC.out (j : Int) (by omega) (by omega)
                          have hrd : rdOf ByteArray.empty rw_ (j : Int) = nmB 89 m j := by
                            have h := rds_str (l := rw_) (k := j) (by omega)
                            rw [hra] at h
                            exact (Option.some.inj h).symm
                          rw [hrd] at hcz
                          simp only [Int.toNat_natCast] at hcz hfz
                          have hns : (nmB 89 m j).size ≤ 200000000 := by
                            unfold nmB
                            rw [mkB_size]
                            have := Lib.itoa_length_le ((j + 1 : Nat) : Int) (by omega) (by omega)
                            have := HKM.out.2
                            simp only [List.length_cons, List.length_append, List.length_replicate]
                            omega
                          have hci : ¬ 9223372036854775807 < (nmB 89 m j).size + 1 := by omega
                          have hny : (gr : Nat) ≠ w.heap.size := fun e => Kd.R_ne HC.out K1.out (by decide) (by rw [← e]; rfl)
                          have hn2y : (gr : Nat) ≠ w.heap.size + 1 := fun e => Kd.R_ne HC.out K2.out (by decide) (by rw [← e]; rfl)
                          have hn3y : (gr : Nat) ≠ g3 := fun e => Kd.R_ne HC.out K3.out (by decide) (by rw [← e]; rfl)
                          have hnLy : (gr : Nat) ≠ gL := fun e => Kd.R_ne HC.out KL.out (by decide) (by rw [← e]; rfl)
                          have hgo : (fun k => k < b2) gr := HC.out.1 gr rfl
                          simp only at hgo
                          have HRS := Aside0.mk hrs
                          have HRWE := Aside0.mk hRW
                          clear hRW hrs hra hrd
                          go_wp2
                          have LR := Aside0.mk (Kd.R_putn HC.out (j : Int) (nmB 89 m j ++ (⟨#[120]⟩ : ByteArray)))
                          rw [Int.toNat_natCast, nm_x, HRS.out] at LR
                          have LO := Aside0.mk (Kd.R_far (p := ⟨gr, j, none⟩) HV.out (fun k hk e => by simp only at e; omega) (.string (nmB 89 (m + 1) j)))
                          have L1 := blkS K1 (Ne.symm hny) j (.string (nmB 89 (m + 1) j))
                          have L2 := blkS K2 (Ne.symm hn2y) j (.string (nmB 89 (m + 1) j))
                          have L3 := blkS K3 (Ne.symm hn3y) j (.string (nmB 89 (m + 1) j))
                          have LL := blkS KL (Ne.symm hnLy) j (.string (nmB 89 (m + 1) j))
                          have LB := belS HB hgb j (.string (nmB 89 (m + 1) j))
                          have hbz : b2 ≤ (wt.setCell ⟨gr, j, none⟩ (.string (nmB 89 (m + 1) j))).heap.size := Nat.le_trans hb2q (by simp)
                          rw [nm_x]
                          go_roundw
                          case rel => exact ⟨j + 1, by go_num, by omega, hbz, LR, LO, LL, L1, L2, L3, LB⟩
                          case measure => simp [intOf]; omega
                        · have hje : j = y := by omega
                          rw [hje] at HC
                          rw [List.take_of_length_le (by rw [rowB_len]; exact Nat.le_refl _), List.drop_eq_nil_of_le (by rw [rowB_len]; exact Nat.le_refl _), List.append_nil] at HC
                          go_wp2
                          go_roundw
                          case rel => exact ⟨i + 1, by go_num, by omega, hb2q, by rw [HI0.out]; exact HV, by rw [HI0.out]; exact HC, KL, K1, K2, K3, HB⟩
                          case measure => simp [intOf]; omega
                    · rw [hy] at HV HC
                      rw [if_neg (by omega)] at HV
                      rw [if_neg (by omega)] at HC
                      have hcell : wq.cell? ⟨gL, i, none⟩ = some (.slice As z cs) := by rw [hy]; exact (blk_cell KL.out 1).trans rfl
                      have HI0 := Aside0.mk hy
                      clear hy
                      go_wp2
                      go_loopw [61] (fun v61 wr => ∃ j : Nat, v61 = .int .i64 j ∧ j ≤ z ∧ b2 ≤ wr.heap.size ∧ Aside0 (Kd.string.R 9 wr w.heap.size (fun k => b2 ≤ k) (.slice As z cs) ((rowB 90 z (m + 1)).take j ++ (rowB 90 z m).drop j)) ∧ Aside0 (Kd.string.R 9 wr w.heap.size (fun k => k < b2) (.slice Ac y cc) (rowB 89 y (m + 1))) ∧ Aside0 (wr.heap[gL]? = some (.cells #[.slice Ac y cc, .slice As z cs] 51 (0, 0))) ∧ Aside0 (wr.heap[w.heap.size]? = some (.cells #[.int .i64 n0, .int .i64 n1, .int .i64 n2, .int .i64 n3, .slice A4 ls.length c4, .slice A5 l5 c5] 25 (0, 0))) ∧ Aside0 (wr.heap[w.heap.size + 1]? = some (.cells #[.string ⟨#[]⟩, .string ⟨#[]⟩, .int .i64 0, .int .i64 0, .int .i64 0, .int .i64 0, .slice none 0 0, .slice none 0 0, .slice none 0 0, .string ⟨#[]⟩, .slice none 0 0] 53 (0, 0))) ∧ Aside0 (wr.heap[g3]? = some (.cells #[.string ⟨#[102]⟩, .string ⟨#[108]⟩, .int .i64 n0, .int .i64 n1, .int .i64 n2, .int .i64 n3, .slice A4 ls.length c4, .slice A5 l5 c5, .slice Ac y cc, .string (hdB m), .slice As z cs] 53 (0, 0))) ∧ Aside0 (Below w.heap.size w wr)) (fun v61 _ => z - (intOf v61).toNat)
                      case atStart => exact ⟨0, rfl, Nat.zero_le _, hb2q, ⟨by rw [List.take_zero, List.drop_zero, List.nil_append]; exact HV.out⟩, HC, KL, K1, K2, K3, HB⟩
                      case round =>
                        clear K1 K2 K3 HB HC HV KL hb2q hcell
                        obtain ⟨j, rfl, hj, hb2q, HV, HC, KL, K1, K2, K3, HB⟩ := hrel
                        generalize wr = wt at *
                        by_cases hjl : j < z
                        · have hrl := row_len 90 z m j hj
                          have hra := row_at 90 z m j hjl
                          have hrs := row_step 90 z m j hjl
                          generalize hRW : ((rowB 90 z (m + 1)).take j ++ (rowB 90 z m).drop j) = rw_ at *
                          obtain ⟨gr, cr, er, hgb, hgl, _⟩ := Kd.R_form HV.out (by omega)
                          rw [hrl] at er
                          injection er with er1 _ er3
                          subst er1
                          subst er3
                          obtain ⟨hcz, hfz⟩ := Kd.R_celln ByteArray.empty HV.out (j : Int) (by omega) (by omega)
                          have hrd : rdOf ByteArray.empty rw_ (j : Int) = nmB 90 m j := by
                            have h := rds_str (l := rw_) (k := j) (by omega)
                            rw [hra] at h
                            exact (Option.some.inj h).symm
                          rw [hrd] at hcz
                          simp only [Int.toNat_natCast] at hcz hfz
                          have hns : (nmB 90 m j).size ≤ 200000000 := by
                            unfold nmB
                            rw [mkB_size]
                            have := Lib.itoa_length_le ((j + 1 : Nat) : Int) (by omega) (by omega)
                            have := HKM.out.2
                            simp only [List.length_cons, List.length_append, List.length_replicate]
                            omega
                          have hci : ¬ 9223372036854775807 < (nmB 90 m j).size + 1 := by omega
                          have hny : (gr : Nat) ≠ w.heap.size := fun e => Kd.R_ne HV.out K1.out (by decide) (by rw [← e]; rfl)
                          have hn2y : (gr : Nat) ≠ w.heap.size + 1 := fun e => Kd.R_ne HV.out K2.out (by decide) (by rw [← e]; rfl)
                          have hn3y : (gr : Nat) ≠ g3 := fun e => Kd.R_ne HV.out K3.out (by decide) (by rw [← e]; rfl)
                          have hnLy : (gr : Nat) ≠ gL := fun e => Kd.R_ne HV.out KL.out (by decide) (by rw [← e]; rfl)
                          have hgo : (fun k => b2 ≤ k) gr := HV.out.1 gr rfl
                          simp only at hgo
                          have HRS := Aside0.mk hrs
                          have HRWE := Aside0.mk hRW
                          clear hRW hrs hra hrd
                          go_wp2
                          have LR := Aside0.mk (Kd.R_putn HV.out (j : Int) (nmB 90 m j ++ (⟨#[120]⟩ : ByteArray)))
                          rw [Int.toNat_natCast, nm_x, HRS.out] at LR
                          have LO := Aside0.mk (Kd.R_far (p := ⟨gr, j, none⟩) HC.out (fun k hk e => by simp only at e; omega) (.string (nmB 90 (m + 1) j)))
                          have L1 := blkS K1 (Ne.symm hny) j (.string (nmB 90 (m + 1) j))
                          have L2 := blkS K2 (Ne.symm hn2y) j (.string (nmB 90 (m + 1) j))
                          have L3 := blkS K3 (Ne.symm hn3y) j (.string (nmB 90 (m + 1) j))
                          have LL := blkS KL (Ne.symm hnLy) j (.string (nmB 90 (m + 1) j))
                          have LB := belS HB hgb j (.string (nmB 90 (m + 1) j))
                          have hbz : b2 ≤ (wt.setCell ⟨gr, j, none⟩ (.string (nmB 90 (m + 1) j))).heap.size := Nat.le_trans hb2q (by simp)
                          rw [nm_x]
                          go_roundw
                          case rel => exact ⟨j + 1, by go_num, by omega, hbz, LR, LO, LL, L1, L2, L3, LB⟩
                          case measure => simp [intOf]; omega
                        · have hje : j = z := by omega
                          rw [hje] at HV
                          rw [List.take_of_length_le (by rw [rowB_len]; exact Nat.le_refl _), List.drop_eq_nil_of_le (by rw [rowB_len]; exact Nat.le_refl _), List.append_nil] at HV
                          go_wp2
                          go_roundw
                          case rel => exact ⟨i + 1, by go_num, by omega, hb2q, by rw [HI0.out]; exact HV, by rw [HI0.out]; exact HC, KL, K1, K2, K3, HB⟩
                          case measure => simp [intOf]; omega
                  · have hy : i = 2 := by omega
                    rw [hy] at HV HC
                    rw [if_pos rfl] at HV
                    rw [if_neg (by omega)] at HC
                    have q9_ : wq.cell? ⟨g3, 9, none⟩ = some (.string (hdB m)) := (blk_cell K3.out 9).trans rfl
                    have r9_ := blk_frozen K3.out 9
                    have hhs : ¬ 9223372036854775807 < (hdB m).size + 1 := by
                      unfold hdB
                      rw [mkB_size]
                      have := HKM.out.2
                      simp only [List.length_cons, List.length_replicate]
                      omega
                    go_wp2
                    rw [hd_x]
                    have hms := taken_size HTK.out
                    have L3 := blkP K3 9 (.string (hdB (m + 1)))
                    have L1 := blkS K1 hn1 9 (.string (hdB (m + 1)))
                    have L2 := blkS K2 hn2 9 (.string (hdB (m + 1)))
                    have LB := belS HB hg3w 9 (.string (hdB (m + 1)))
                    have LV := Aside0.mk (Kd.R_set HV.out K3.out (by decide) 9 (.string (hdB (m + 1))))
                    have LC := Aside0.mk (Kd.R_set HC.out K3.out (by decide) 9 (.string (hdB (m + 1))))
                    have hbz : b2 ≤ (wq.setCell ⟨g3, 9, none⟩ (.string (hdB (m + 1)))).heap.size := Nat.le_trans hb2q (by simp)
                    have hmf : manyF ls y z (sizeB ls - (m + 1)) (m + 1) = manyB ls y z := by
                      rw [← HMF.out, show sizeB ls - m = (sizeB ls - (m + 1)) + 1 by omega]
                      conv => rhs; unfold manyF
                      rw [if_pos HTK.out]
                    have HMN := Aside0.mk hmf
                    have HGK := HKM.out
                    clear hmf
                    go_roundg (gk - 1)
                    case rel => exact ⟨m + 1, by omega, by omega, HMN, hbz, LV, LC, L1, L2, L3, LB⟩
                    all_goals omega
end Go.Proofs.YtailpfcbdopfeaaGreatDoor.F
/- guess.names.relations, by hand. -/
namespace Go.Proofs.YtailpfcbdopfeaaGreatDoor.F
open Go.RowKit Go.Proofs.YtailpfcbdopfeaaGreatDoorW.PrintWords Go.Proofs.YtailpfcbdopfeaaGreatDoorW.PrintLast Go.Proofs.YtailpfcbdopfeaaGreatDoorW.PrintMore
set_option linter.unusedVariables false
set_option linter.unusedSimpArgs false
/-- The symbols of the names. -/
def relL (y : Nat) (a b : Int) (l : List ByteArray) : List S46 := l.mapIdx fun i n => ⟨n, if y < i then b else a⟩
theorem relL_at {y : Nat} {a b : Int} {l : List ByteArray} {i : Nat} {x : ByteArray} (h : l[i]? = some x) : (relL y a b l)[i]? = some ⟨x, if y < i then b else a⟩ := by simp [relL, h]
theorem relL_len (y : Nat) (a b : Int) (l : List ByteArray) : (relL y a b l).length = l.length := by simp [relL]
set_option maxHeartbeats 2000000 in
set_option maxRecDepth 100000 in
theorem relations_calls (n0 n1 n2 n3 : Int) (A4 : Option Addr) (l4 c4 : Nat) (A5 : Option Addr) (l5 c5 : Nat) (Ac : Option Addr) (cc : Nat) (As : Option Addr) (cs : Nat) (y z m : Nat) (w : World) (hC : Kd.C Kd.string w Ac y (rowB 89 y m)) (hcc : y ≤ cc) (hS : Kd.C Kd.string w As z (rowB 90 z m)) (hcs : z ≤ cs) (hl : y + z ≤ 900) (h2 : 0 ≤ n2 ∧ n2 ≤ 100) (h3 : 0 ≤ n3 ∧ n3 ≤ 100) :
    Calls Tryz.prog 17 #[.agg (namesC n0 n1 n2 n3 A4 l4 c4 A5 l5 c5 Ac y cc (hdB m) As z cs)] w fun e w' => ∃ v, e = .returned v ∧ k46.R 46 w' w.heap.size (fun _ => True) v (relL y (n3 + n2) n3 (rowB 89 y m ++ hdB m :: rowB 90 z m)) ∧ Below w.heap.size w w' := by
  unfold namesC
  have HC := Aside0.mk hC
  have HS := Aside0.mk hS
  clear hC hS
  obtain ⟨k0, hb⟩ := box1 w (.cells #[.string ⟨#[102]⟩, .string ⟨#[108]⟩, .int .i64 n0, .int .i64 n1, .int .i64 n2, .int .i64 n3, .slice A4 l4 c4, .slice A5 l5 c5, .slice Ac y cc, .string (hdB m), .slice As z cs] 53)
  have K0 := Aside0.mk k0
  have HB := Aside0.mk hb
  clear k0 hb
  have hsum : IntKind.i64.wrap (n3 + n2) = n3 + n2 := by rw [IntKind.wrap_i64]; omega
  go_enter Tryz.func17, Tryz.ntmps17
  go_wp2_with fail
  refine (all_callsN n0 n1 n2 n3 A4 l4 c4 A5 l5 c5 Ac cc As cs y z m _ (Kd.C_below HC.out HB.out) hcc (Kd.C_below HS.out HB.out) hcs (by omega)).mono ?_
  rintro e w6 ⟨Aq, cq, rfl, hqc, hqC, hb6⟩
  replace K0 := blkB K0 hb6
  replace HB := belB HB hb6
  have HQ := Aside0.mk hqC
  clear hqC
  have hll : (rowB 89 y m ++ hdB m :: rowB 90 z m).length = y + z + 1 := by simp [rowB_len]; omega
  obtain ⟨l, hle⟩ : ∃ l, rowB 89 y m ++ hdB m :: rowB 90 z m = l := ⟨_, rfl⟩
  rw [hle] at HQ hqc hll ⊢
  have HLE := Aside0.mk hle
  clear hle
  have hlb : l.length ≤ 1000 := by omega
  clear hb6
  go_wp2
  go_loopw [3, 10] (fun v3 v10 wr => ∃ i : Nat, v10 = .int .i64 i ∧ i ≤ l.length ∧ Aside0 (k46.R 46 wr w6.heap.size (fun _ => True) v3 ((relL y (n3 + n2) n3 l).take i)) ∧ Aside0 (Below w6.heap.size w6 wr)) (fun _ v10 _ => l.length - (intOf v10).toNat)
  case atStart => exact ⟨0, rfl, Nat.zero_le _, ⟨by rw [List.take_zero]; exact Kd.R_nil _ _ _ _ _⟩, ⟨Below.refl _ _⟩⟩
  case round =>
    obtain ⟨i, rfl, hi, HO, HD⟩ := hrel
    generalize wr = wq at *
    by_cases hlt : i < l.length
    · obtain ⟨ad, hA, hcell⟩ := Kd.at_string (Kd.C_below HQ.out HD.out) (i : Int) (by omega) (by omega)
      subst hA
      simp only [Int.toNat_natCast] at hcell
      have hx := rds_str hlt
      generalize rdOf ByteArray.empty l (i : Int) = x at *
      have HXI := Aside0.mk (relL_at (y := y) (a := n3 + n2) (b := n3) hx)
      clear hx
      have KQ := blkB K0 HD.out
      have p4 : wq.cell? ⟨w.heap.size, 4, none⟩ = some (.int .i64 n2) := (blk_cell KQ.out 4).trans rfl
      have p5 : wq.cell? ⟨w.heap.size, 5, none⟩ = some (.int .i64 n3) := (blk_cell KQ.out 5).trans rfl
      have p8 : wq.cell? ⟨w.heap.size, 8, none⟩ = some (.slice Ac y cc) := (blk_cell KQ.out 8).trans rfl
      obtain ⟨xs, hxs⟩ : ∃ xs, (relL y (n3 + n2) n3 l).take i = xs := ⟨_, rfl⟩
      have hxl : xs.length ≤ 1000 := by rw [← hxs, List.length_take, relL_len]; omega
      rw [hxs] at HO
      have HXS := Aside0.mk hxs
      clear hxs
      by_cases hyi : y < i
      · have hdd : decide ((y : Int) < (i : Int)) = true := decide_eq_true (by omega)
        have hba := (box1 wq (.cells #[.string x, .int .i64 n3] 46)).2
        have HS7 : Aside0 (wq.heap.size + 1 = (wq.alloc (.cells #[.string x, .int .i64 n3] 46)).heap.size) := ⟨by simp⟩
        have KA := blkB KQ hba
        have HOA := rB HO hba
        have HDA := belB HD hba
        have hwW := HDA.out.size
        have a8 : (wq.alloc (.cells #[.string x, .int .i64 (n3 + n2)] 46)).cell? ⟨w.heap.size, 8, none⟩ = some (.slice Ac y cc) := (blk_cell (blkB KQ (box1 wq _).2).out 8).trans rfl
        have a5 : (wq.alloc (.cells #[.string x, .int .i64 (n3 + n2)] 46)).cell? ⟨w.heap.size, 5, none⟩ = some (.int .i64 n3) := (blk_cell (blkB KQ (box1 wq _).2).out 5).trans rfl
        go_wp2_with (first | ((with_reducible refine gate_builtin (b := .append) (xs := #[.tmp 33, .tmp 35]) rfl ?_); at_builtin; refine Kd.R_append k46 (w0 := w6) w6.heap.size rfl (.tmp 33) (.tmp 35) 29 46 (.agg #[.string ⟨#[]⟩, .int .i64 0]) 24 rfl Tryz.underlying29 infoY rfl (by decide) (by omega) _ xs ⟨x, n3⟩ [.string x, .int .i64 n3] (fun _ => True) (fun _ => False) rfl (congrArg (fun n => Value.slice (some ⟨n, 0, none⟩) 1 1) HS7.out) ?aP (fun _ hk => hk.elim) ?aF ?aO ?aB ?aS ?aL ?_; (case aP => exact k46_mkM _ _ _ (⟨x, n3⟩ : S46)); (case aB => exact HDA.out); (case aF => exact (fun _ _ => trivial)); (case aO => exact HOA.out); (case aS => exact hwW); (case aL => omega); intro v' w8 ho hb hg hat; have HOn := Aside0.mk ho; have HDn := Aside0.mk hb; clear ho hb hg hat))
        go_roundw
        case rel => exact ⟨i + 1, by go_num, by omega, ⟨by rw [take_snocG HXI.out, if_pos hyi, HXS.out]; exact HOn.out⟩, HDn⟩
        case measure => simp [intOf]; omega
      · have hdd : decide ((y : Int) < (i : Int)) = false := decide_eq_false (by omega)
        have hba := (box1 wq (.cells #[.string x, .int .i64 (n3 + n2)] 46)).2
        have HS7 : Aside0 (wq.heap.size + 1 = (wq.alloc (.cells #[.string x, .int .i64 (n3 + n2)] 46)).heap.size) := ⟨by simp⟩
        have KA := blkB KQ hba
        have HOA := rB HO hba
        have HDA := belB HD hba
        have hwW := HDA.out.size
        have a8 : (wq.alloc (.cells #[.string x, .int .i64 (n3 + n2)] 46)).cell? ⟨w.heap.size, 8, none⟩ = some (.slice Ac y cc) := (blk_cell KA.out 8).trans rfl
        go_wp2_with (first | ((with_reducible refine gate_builtin (b := .append) (xs := #[.tmp 33, .tmp 35]) rfl ?_); at_builtin; refine Kd.R_append k46 (w0 := w6) w6.heap.size rfl (.tmp 33) (.tmp 35) 29 46 (.agg #[.string ⟨#[]⟩, .int .i64 0]) 24 rfl Tryz.underlying29 infoY rfl (by decide) (by omega) _ xs ⟨x, n3 + n2⟩ [.string x, .int .i64 (n3 + n2)] (fun _ => True) (fun _ => False) rfl (congrArg (fun n => Value.slice (some ⟨n, 0, none⟩) 1 1) HS7.out) ?aP (fun _ hk => hk.elim) ?aF ?aO ?aB ?aS ?aL ?_; (case aP => exact k46_mkM _ _ _ (⟨x, n3 + n2⟩ : S46)); (case aB => exact HDA.out); (case aF => exact (fun _ _ => trivial)); (case aO => exact HOA.out); (case aS => exact hwW); (case aL => omega); intro v' w8 ho hb hg hat; have HOn := Aside0.mk ho; have HDn := Aside0.mk hb; clear ho hb hg hat))
        go_roundw
        case rel => exact ⟨i + 1, by go_num, by omega, ⟨by rw [take_snocG HXI.out, if_neg hyi, HXS.out]; exact HOn.out⟩, HDn⟩
        case measure => simp [intOf]; omega
    · obtain rfl : i = l.length := by omega
      rw [List.take_of_length_le (by rw [relL_len]; exact Nat.le_refl _)] at HO
      have HBs := HB.out.size
      go_wp2
      go_ret
      exact ⟨u3, rfl, by rw [HLE.out]; exact Kd.R_lower HO.out HBs, (belB HB HD.out).out⟩
end Go.Proofs.YtailpfcbdopfeaaGreatDoor.F
/- guess.Relations, by hand. -/
namespace Go.Proofs.YtailpfcbdopfeaaGreatDoor.F
open Go.RowKit Go.Proofs.YtailpfcbdopfeaaGreatDoorW.PrintWords Go.Proofs.YtailpfcbdopfeaaGreatDoorW.PrintLast Go.Proofs.YtailpfcbdopfeaaGreatDoorW.PrintMore
set_option linter.unusedVariables false
set_option linter.unusedSimpArgs false
theorem drawnB {w w' : World} (h : Drawn0 w w') : Below w.heap.size w w' := by
  obtain ⟨q, rfl⟩ := h.out
  exact pw_below_drewN (Below.refl _ _) q
theorem rel1_pred (w : World) : Predsym 19 #[] (fun s => !nameB s.f0) w := fun W x hb => by
  show Calls Tryz.prog 19 #[.agg #[.string x.f0, .int .i64 x.f1]] W fun e w' => e = .returned (.bool (!nameB x.f0)) ∧ Below W.heap.size W w'
  have H := Aside0.mk (name_eq x.f0 20 (Nat.le_refl _))
  have hba := (box1 W (.cells #[.string x.f0, .int .i64 x.f1] 46)).2
  generalize nameB x.f0 = r at H ⊢
  go_enter Tryz.func19, Tryz.ntmps19
  go_wp2_with fail
  refine (shape_Name.calls 20 x.f0 r _ H.out).mono ?_
  rintro e w2 ⟨rfl, hD⟩
  have hb2 := below_step hba (drawnB hD)
  clear hD
  cases r with
  | true =>
    go_wp2
    go_ret
    exact ⟨rfl, hb2⟩
  | false =>
    go_wp2
    go_ret
    exact ⟨rfl, hb2⟩
theorem sizeB_le {ls : List S42} {b : Nat} (h : ∀ x ∈ ls, x.f2.size ≤ b) : sizeB ls ≤ ls.length * b := by
  induction ls with
  | nil => simp [sizeB]
  | cons x ls ih =>
    have h1 := h x (by simp)
    have h2 := ih (fun y hy => h y (by simp [hy]))
    simp only [sizeB, List.map_cons, List.sum_cons, List.length_cons, Nat.succ_mul] at h2 ⊢
    omega
/-- The relations of a valid machine. -/
def relsB (n0 n1 n2 n3 : Int) (ls : List S42) : List S46 :=
  relL (bitB n1) (n3 + n2) n3 (rowB 89 (bitB n1) (manyB ls (bitB n1) (bitB n0)) ++ hdB (manyB ls (bitB n1) (bitB n0)) :: rowB 90 (bitB n0) (manyB ls (bitB n1) (bitB n0)))
def relsE (n0 n1 n2 n3 : Int) (ls : List S42) (ss : List S69) : List S46 × Int :=
  if TapeOk n0 n1 n2 n3 ls ss then (if (relsB n0 n1 n2 n3 ls).any (fun s => !nameB s.f0) = true then ([], 5) else (relsB n0 n1 n2 n3 ls, 0)) else ([], 1)
set_option maxHeartbeats 2000000 in
set_option maxRecDepth 100000 in
theorem rels_calls (n0 n1 n2 n3 : Int) (A4 : Option Addr) (c4 : Nat) (ls : List S42) (A5 : Option Addr) (c5 : Nat) (ss : List S69) (w : World) (hG : Glob w) (hr4 : Kd.C k42 w A4 ls.length ls) (hc4 : ls.length ≤ c4) (hr5 : Kd.C k69 w A5 ss.length ss) (hc5 : ss.length ≤ c5) (hst : ∀ x ∈ ss, stepW x) :
    Calls Tryz.prog 7 #[.agg #[.int .i64 n0, .int .i64 n1, .int .i64 n2, .int .i64 n3, .slice A4 ls.length c4, .slice A5 ss.length c5]] w fun e w' => ∃ v, e = .returned (.tuple #[v, .int .i64 (relsE n0 n1 n2 n3 ls ss).2]) ∧ k46.R 46 w' w.heap.size (fun _ => True) v (relsE n0 n1 n2 n3 ls ss).1 ∧ Below w.heap.size w w' := by
  obtain ⟨re, hre⟩ : ∃ re, relsE n0 n1 n2 n3 ls ss = re := ⟨_, rfl⟩
  rw [hre]
  have HRQ := Aside0.mk hre
  clear hre
  have HG := Aside0.mk hG
  have H4 := Aside0.mk hr4
  have H5 := Aside0.mk hr5
  have HST := Aside0.mk hst
  clear hG hr4 hr5 hst
  obtain ⟨k1, hb⟩ := box1 w (.cells #[.int .i64 n0, .int .i64 n1, .int .i64 n2, .int .i64 n3, .slice A4 ls.length c4, .slice A5 ss.length c5] 25)
  have K1 := Aside0.mk k1
  have HB := Aside0.mk hb
  clear k1 hb
  go_enter Tryz.func7, Tryz.ntmps7
  go_wp2_with fail
  refine (valid_calls n0 n1 n2 n3 A4 c4 ls A5 c5 ss _ (Kd.C_below H4.out HB.out) hc4 (Kd.C_below H5.out HB.out) hc5 HST.out).mono ?_
  rintro e w2 ⟨b, rfl, hbv, hb2⟩
  replace K1 := blkB K1 hb2
  replace HB := belB HB hb2
  have HBV := Aside0.mk hbv
  clear hb2 hbv
  cases b with
  | false =>
    have hno : ¬ TapeOk n0 n1 n2 n3 ls ss := fun h => by cases HBV.out.2 h
    have HRE : Aside0 (re = ([], 1)) := ⟨by rw [← HRQ.out]; unfold relsE; rw [if_neg hno]⟩
    clear hno
    go_wp2
    go_ret2
    exact ⟨.slice none 0 0, by rw [HRE.out]; rfl, by rw [HRE.out]; exact Kd.R_nil _ _ _ _ _, HB.out⟩
  | true =>
    have HOK := Aside0.mk (HBV.out.1 rfl)
    have b0 : 2 ≤ n0 ∧ n0 ≤ 400 := by simpa [wi] using HOK.out.h0
    have b1 : 1 ≤ n1 ∧ n1 ≤ 16 := by simpa [wi] using HOK.out.h1
    have b2 : 1 ≤ n2 ∧ n2 ≤ 3 := by simpa [wi] using HOK.out.h2
    have b3 : 1 ≤ n3 ∧ n3 ≤ 3 := by simpa [wi] using HOK.out.h3
    have hsz : sizeB ls ≤ 100000000 := by
      have h := sizeB_le (fun x hx => (lit_small (HOK.out.lit x hx)).1)
      have := HOK.out.len4
      omega
    have HZ := Aside0.mk (bit_eq (n := n0) (by omega) (by omega)).2
    have HY := Aside0.mk (bit_eq (n := n1) (by omega) (by omega)).2
    have p0 : w2.cell? ⟨w.heap.size, 0, none⟩ = some (.int .i64 n0) := (blk_cell K1.out 0).trans rfl
    have p1 : w2.cell? ⟨w.heap.size, 1, none⟩ = some (.int .i64 n1) := (blk_cell K1.out 1).trans rfl
    have p2 : w2.cell? ⟨w.heap.size, 2, none⟩ = some (.int .i64 n2) := (blk_cell K1.out 2).trans rfl
    have p3 : w2.cell? ⟨w.heap.size, 3, none⟩ = some (.int .i64 n3) := (blk_cell K1.out 3).trans rfl
    have p4 : w2.cell? ⟨w.heap.size, 4, none⟩ = some (.slice A4 ls.length c4) := (blk_cell K1.out 4).trans rfl
    have p5 : w2.cell? ⟨w.heap.size, 5, none⟩ = some (.slice A5 ss.length c5) := (blk_cell K1.out 5).trans rfl
    go_wp2_with fail
    refine (namesOf_calls n0 n1 n2 n3 A4 c4 ls A5 ss.length c5 w2 (HG.out.below HB.out) (Kd.C_below H4.out HB.out) hc4 (by omega) (by omega) hsz).mono ?_
    rintro e w3 ⟨Ac, cc, As, cs, m, hme, rfl, hC, hcc, hS, hcs, hb3⟩
    have HC := Aside0.mk hC
    have HCS := Aside0.mk hS
    have HME := Aside0.mk hme
    replace HB := belB HB hb3
    clear hC hS hme hb3 p0 p1 p2 p3 p4 p5
    have hyz : bitB n1 + bitB n0 ≤ 900 := by have := HY.out; have := HZ.out; omega
    go_wp2_with fail
    refine (relations_calls n0 n1 n2 n3 A4 ls.length c4 A5 ss.length c5 Ac cc As cs (bitB n1) (bitB n0) m w3 HC.out hcc HCS.out hcs hyz (by omega) (by omega)).mono ?_
    rintro e w4 ⟨v, rfl, hR, hb4⟩
    have hws := HB.out.size
    have HR := Aside0.mk (Kd.R_lower hR hws)
    replace HB := belB HB hb4
    have hrl : relL (bitB n1) (n3 + n2) n3 (rowB 89 (bitB n1) m ++ hdB m :: rowB 90 (bitB n0) m) = relsB n0 n1 n2 n3 ls := by rw [HME.out]; rfl
    rw [hrl] at HR
    clear hR hb4 hrl hws
    obtain ⟨Av, cv, rfl⟩ := Kd.R_slice HR.out
    obtain ⟨_, hlc, hRC⟩ := Kd.R_reads' HR.out
    have HRC := Aside0.mk hRC
    clear hRC
    go_wp2_with fail
    refine (contains_sym 19 #[] (fun s => !nameB s.f0) Av cv (relsB n0 n1 n2 n3 ls) w4 (enters_of Tryz.func19 (by kernel_rfl) rfl) HRC.out hlc (rel1_pred w4)).mono ?_
    rintro e w5 ⟨rfl, hb5⟩
    replace HB := belB HB hb5
    replace HR := rB HR hb5
    clear hb5
    cases hany : (relsB n0 n1 n2 n3 ls).any (fun s => !nameB s.f0) with
    | true =>
      have HRE : Aside0 (re = ([], 5)) := ⟨by rw [← HRQ.out]; unfold relsE; rw [if_pos HOK.out, if_pos hany]⟩
      clear hany
      go_wp2
      go_ret2
      exact ⟨.slice none 0 0, by rw [HRE.out]; rfl, by rw [HRE.out]; exact Kd.R_nil _ _ _ _ _, HB.out⟩
    | false =>
      have HRE : Aside0 (re = (relsB n0 n1 n2 n3 ls, 0)) := ⟨by rw [← HRQ.out]; unfold relsE; rw [if_pos HOK.out, if_neg (by rw [hany]; simp)]⟩
      clear hany
      go_wp2
      go_ret2
      exact ⟨.slice Av (relsB n0 n1 n2 n3 ls).length cv, by rw [HRE.out]; rfl, by rw [HRE.out]; exact HR.out, HB.out⟩
/-- For the printer. -/
def guess_Relations.f (k : Nat) (n0 n1 n2 n3 : Int) (ls : List S42) (ss : List S69) : Option (List S46 × Int) :=
  if (∀ x ∈ ss, stepW x) then some (relsE n0 n1 n2 n3 ls ss) else none
theorem guess_Relations.mono : ∀ n0 n1 n2 n3 ls ss k, LeO (guess_Relations.f k n0 n1 n2 n3 ls ss) (guess_Relations.f (k + 1) n0 n1 n2 n3 ls ss) := fun _ _ _ _ _ _ _ => LeO.refl _
theorem guess_Relations.calls (k : Nat) (n0 n1 n2 n3 : Int) (A4 : Option Addr) (c4 : Nat) (ls : List S42) (A5 : Option Addr) (c5 : Nat) (ss : List S69) (r1 : List S46) (r2 : Int) (w : World) (hG : Glob w) (hr4 : Kd.C k42 w A4 ls.length ls) (hc4 : ls.length ≤ c4) (hr5 : Kd.C k69 w A5 ss.length ss) (hc5 : ss.length ≤ c5) (h : guess_Relations.f k n0 n1 n2 n3 ls ss = some (r1, r2)) :
    Calls Tryz.prog 7 #[.agg #[.int .i64 n0, .int .i64 n1, .int .i64 n2, .int .i64 n3, .slice A4 ls.length c4, .slice A5 ss.length c5]] w fun e w' => ∃ v, e = .returned (.tuple #[v, .int .i64 r2]) ∧ k46.R 46 w' w.heap.size (fun _ => True) v r1 ∧ Below w.heap.size w w' := by
  unfold guess_Relations.f at h
  split at h
  · rename_i hp
    injection h with h
    have h1 := rels_calls n0 n1 n2 n3 A4 c4 ls A5 c5 ss w hG hr4 hc4 hr5 hc5 hp
    rw [h] at h1
    exact h1
  · cases h
end Go.Proofs.YtailpfcbdopfeaaGreatDoor.F
namespace Go.Proofs.YtailpfcbdopfeaaGreatDoor.F
open Go.RowKit Go.Proofs.YtailpfcbdopfeaaGreatDoorW.PrintWords Go.Proofs.YtailpfcbdopfeaaGreatDoorW.PrintLast Go.Proofs.YtailpfcbdopfeaaGreatDoorW.PrintMore
attribute [local go_sem] max2_int min2_int max_two min_two max_three min_three max_four min_four
set_option linter.unusedVariables false
set_option linter.unusedSimpArgs false
/-! ### paraphrastref16_Symbols: function 36 -/
def paraphrastref16_Symbols.f (a0_0 : Int) (a0_1 : Int) (a0_2 : Int) (a0_3 : Int) (l0_4 : List (S42)) (l0_5 : List (S69)) : Option ((List (S46))) := (paraphrastref12_SymbolsOf.f l0_4).bind fun t188 => (some t188)
set_option maxHeartbeats 8000000 in
set_option maxRecDepth 100000 in
theorem paraphrastref16_Symbols.calls (a0_0 : Int) (a0_1 : Int) (a0_2 : Int) (a0_3 : Int) (A0_4 : Option Addr) (c0_4 : Nat) (l0_4 : List (S42)) (A0_5 : Option Addr) (c0_5 : Nat) (l0_5 : List (S69)) (r : List (S46)) (w : World) (hr0_4 : Kd.C k42 w A0_4 l0_4.length l0_4) (hc0_4 : l0_4.length ≤ c0_4) (hr0_5 : Kd.C k69 w A0_5 l0_5.length l0_5) (hc0_5 : l0_5.length ≤ c0_5) (h : paraphrastref16_Symbols.f a0_0 a0_1 a0_2 a0_3 l0_4 l0_5 = some r) :
  Calls Tryz.prog 36 #[.agg #[.int .i64 a0_0, .int .i64 a0_1, .int .i64 a0_2, .int .i64 a0_3, .slice A0_4 l0_4.length c0_4, .slice A0_5 l0_5.length c0_5]] w fun e w' => ∃ v0_ : Value, e = .returned (v0_) ∧ Kd.R k46 46 w' w.heap.size (fun _ => True) v0_ r ∧ Below w.heap.size w w' := by
 have hu25 := Tryz.underlying25
 have HR0_4 := Aside0.mk hr0_4
 have HC0_4 := Aside0.mk hc0_4
 clear hr0_4 hc0_4
 have HR0_5 := Aside0.mk hr0_5
 have HC0_5 := Aside0.mk hc0_5
 clear hr0_5 hc0_5
 have HB := Aside0.mk (Below.refl w.heap.size w)
 have H : ((paraphrastref12_SymbolsOf.f l0_4).bind fun t188 => (some t188)) = some r := h
 clear h
 replace H := Option.bind_eq_some_iff.mp H
 obtain ⟨t188, A20, H⟩ := H
 replace H : (some t188) = some r := H
 have A2 := Aside0.mk A20
 clear A20
 obtain rfl := Option.some.inj H
 go_enter Tryz.func36, Tryz.ntmps36
 go_wp2_with (first | ((with_reducible refine gate_dst (N := 1) rfl ?_); refine box_event ?hg (N := 1) ?hd (cs := #[.int .i64 a0_0, .int .i64 a0_1, .int .i64 a0_2, .int .i64 a0_3, .slice A0_4 l0_4.length c0_4, .slice A0_5 l0_5.length c0_5]) (t := 25) ?hr ?_; (case hd => rfl); (case hg => rfl); (case hr => first | (go_simp; done) | (go_simp; rfl)); intro gb187 hg w3 hbox hb; have BK187 := Aside0.mk (hbox); have GW187 := geB w hg; have GE187 := geB w hg; replace HB := Aside0.mk (below_step bel hb); clear hb hbox hg; have hcz4_0 : w3.cell? ⟨gb187, 0, none⟩ = some (.int .i64 a0_0) := (blk_cell BK187.out 0).trans rfl; have hcz4_1 : w3.cell? ⟨gb187, 1, none⟩ = some (.int .i64 a0_1) := (blk_cell BK187.out 1).trans rfl; have hcz4_2 : w3.cell? ⟨gb187, 2, none⟩ = some (.int .i64 a0_2) := (blk_cell BK187.out 2).trans rfl; have hcz4_3 : w3.cell? ⟨gb187, 3, none⟩ = some (.int .i64 a0_3) := (blk_cell BK187.out 3).trans rfl; have hcz4_4 : w3.cell? ⟨gb187, 4, none⟩ = some (.slice A0_4 l0_4.length c0_4) := (blk_cell BK187.out 4).trans rfl; have hcz4_5 : w3.cell? ⟨gb187, 5, none⟩ = some (.slice A0_5 l0_5.length c0_5) := (blk_cell BK187.out 5).trans rfl; have hfz4_0 := blk_frozen BK187.out 0; have hfz4_1 := blk_frozen BK187.out 1; have hfz4_2 := blk_frozen BK187.out 2; have hfz4_3 := blk_frozen BK187.out 3; have hfz4_4 := blk_frozen BK187.out 4; have hfz4_5 := blk_frozen BK187.out 5) | ((with_reducible refine gate_callee (f := 67) rfl ?_); refine gL (some 5) Tryz.func67 #[.slice A0_4 l0_4.length c0_4] ?_; (with_reducible refine (paraphrastref12_SymbolsOf.calls _ _ l0_4 t188 _ ?side1 ?side2 A2.out).mono ?_); (case side1 => exact cS (Kd.C_below HR0_4.out HB.out)); (case side2 => exact HC0_4.out); rintro e w5 ⟨v189, rfl, ho0, hb⟩; refine ⟨_, rfl, ?_⟩; have HO190 := Aside0.mk (Kd.R_lower ho0 (below_size bel)); replace BK187 := blB BK187 hb; replace HB := Aside0.mk (below_step bel hb); (try clear hb); (try clear hb2); (try clear hk); (try clear hi); (try clear ho0)))
 go_ret
 exact ⟨_, eN, by (with_reducible repeat (first | apply Kd.R_alloc | apply Kd.R_drewN | apply Kd.R_drew)); exact HO190.out, bel⟩
end Go.Proofs.YtailpfcbdopfeaaGreatDoor.F
namespace Go.Proofs.YtailpfcbdopfeaaGreatDoor.F
open Go.RowKit Go.Proofs.YtailpfcbdopfeaaGreatDoorW.PrintWords Go.Proofs.YtailpfcbdopfeaaGreatDoorW.PrintLast Go.Proofs.YtailpfcbdopfeaaGreatDoorW.PrintMore
attribute [local go_sem] max2_int min2_int max_two min_two max_three min_three max_four min_four
set_option linter.unusedVariables false
set_option linter.unusedSimpArgs false
/-! ### paraphrastref18_Relations: function 14 -/
mutual
def paraphrastref18_Relations.l0 : Nat → Int → Int → Int → Int → Int → Int → Int → List (S42) → List (S69) → Option ((List (S46)) × Bool)
 | 0, _, _, _, _, _, _, _, _, _ => none
 | k + 1, x4, x5, x6, x192000, x192001, x192002, x192003, x192004, x192005 => (paraphrastref18_names.f k x4 x5 x6).bind fun t194 => ((paraphrastref16_Symbols.f x192000 x192001 x192002 x192003 x192004 x192005).bind fun t197 => ((paraphrastref18_free.f k t194 t197).bind fun t200 => (if t200 = true then ((paraphrastref18_names.f k x4 x5 x6).bind fun t201 => (paraphrastref18_Relations.l1 k x4 t201 ([] : List (S46)) 0 x192000 x192001 x192002 x192003 x192004 x192005)) else (paraphrastref18_Relations.l0 k x4 x5 (wrap64 (x6 + 1)) x192000 x192001 x192002 x192003 x192004 x192005))))
def paraphrastref18_Relations.l1 : Nat → Int → List ByteArray → List (S46) → Int → Int → Int → Int → Int → List (S42) → List (S69) → Option ((List (S46)) × Bool)
 | 0, _, _, _, _, _, _, _, _, _, _ => none
 | k + 1, x4, x7, x8, x9, x192000, x192001, x192002, x192003, x192004, x192005 => if x9 < (x7.length : Int) then (if 0 ≤ x9 then (if ((rdOf ByteArray.empty x7 x9).size : Int) > 12 then (some (([] : List (S46)), false)) else (if x9 ≤ x4 then (if x8.length < 5864062014805 then (paraphrastref18_Relations.l1 k x4 x7 (x8 ++ [(⟨rdOf ByteArray.empty x7 x9, wrap64 (x192003 + x192002)⟩ : S46)]) (wrap64 (x9 + 1)) x192000 x192001 x192002 x192003 x192004 x192005) else (none)) else (if x8.length < 5864062014805 then (paraphrastref18_Relations.l1 k x4 x7 (x8 ++ [(⟨rdOf ByteArray.empty x7 x9, x192003⟩ : S46)]) (wrap64 (x9 + 1)) x192000 x192001 x192002 x192003 x192004 x192005) else (none)))) else (none)) else (some (x8, true))
end
def paraphrastref18_Relations.f (k : Nat) (a0_0 : Int) (a0_1 : Int) (a0_2 : Int) (a0_3 : Int) (l0_4 : List (S42)) (l0_5 : List (S69)) : Option ((List (S46)) × Bool) := (paraphrastref13_Bits.f k a0_1).bind fun t192 => ((paraphrastref13_Bits.f k a0_0).bind fun t193 => (paraphrastref18_Relations.l0 k t192 t193 0 a0_0 a0_1 a0_2 a0_3 l0_4 l0_5))
def paraphrastref18_Relations.T1 : Bool × List (List Nat × List Nat) := (true, [([], []), ([0], [0]), ([1], [1]), ([], []), ([3], [3]), ([4, 2], [4]), ([2, 5, 0, 1, 2], [2]), ([5, 6, 0, 1, 2, 3, 4, 5, 6], [5])])
def paraphrastref18_Relations.B1 : List Nat := [0, 1, 3, 0, 8, 31, 63, 127]
theorem paraphrastref18_Relations.tab1 : rtab .any (opsOf Tryz.f14 1) = paraphrastref18_Relations.T1 := by kernel_rfl
theorem paraphrastref18_Relations.bits1 : waitsOk paraphrastref18_Relations.T1.2 paraphrastref18_Relations.B1 = true := by kernel_rfl
def paraphrastref18_Relations.T3 : Bool × List (List Nat × List Nat) := (true, [([], []), ([], []), ([], []), ([0, 1, 2], [0, 1, 2]), ([], []), ([4, 3], [4]), ([3, 5, 5], [3, 5]), ([6], [6])])
def paraphrastref18_Relations.B3 : List Nat := [0, 0, 0, 7, 0, 31, 63, 127]
theorem paraphrastref18_Relations.tab3 : rtab .any (opsOf Tryz.f14 3) = paraphrastref18_Relations.T3 := by kernel_rfl
theorem paraphrastref18_Relations.bits3 : waitsOk paraphrastref18_Relations.T3.2 paraphrastref18_Relations.B3 = true := by kernel_rfl
set_option maxHeartbeats 8000000 in
set_option maxRecDepth 100000 in
theorem paraphrastref18_Relations.calls (k : Nat) (a0_0 : Int) (a0_1 : Int) (a0_2 : Int) (a0_3 : Int) (A0_4 : Option Addr) (c0_4 : Nat) (l0_4 : List (S42)) (A0_5 : Option Addr) (c0_5 : Nat) (l0_5 : List (S69)) (r1 : List (S46)) (r2 : Bool) (w : World) (hG : Glob w) (hr0_4 : Kd.C k42 w A0_4 l0_4.length l0_4) (hc0_4 : l0_4.length ≤ c0_4) (hr0_5 : Kd.C k69 w A0_5 l0_5.length l0_5) (hc0_5 : l0_5.length ≤ c0_5) (h : paraphrastref18_Relations.f k a0_0 a0_1 a0_2 a0_3 l0_4 l0_5 = some (r1, r2)) :
  Calls Tryz.prog 14 #[.agg #[.int .i64 a0_0, .int .i64 a0_1, .int .i64 a0_2, .int .i64 a0_3, .slice A0_4 l0_4.length c0_4, .slice A0_5 l0_5.length c0_5]] w fun e w' => ∃ v0_ : Value, e = .returned (.tuple #[v0_, .bool r2]) ∧ Kd.R k46 46 w' w.heap.size (fun _ => True) v0_ r1 ∧ Below w.heap.size w w' := by
 have hu25 := Tryz.underlying25
 have hu46 := Tryz.underlying46
 have HR0_4 := Aside0.mk hr0_4
 have HC0_4 := Aside0.mk hc0_4
 clear hr0_4 hc0_4
 have HR0_5 := Aside0.mk hr0_5
 have HC0_5 := Aside0.mk hc0_5
 clear hr0_5 hc0_5
 have HG := Aside0.mk hG
 clear hG
 have HB := Aside0.mk (Below.refl w.heap.size w)
 have H : ((paraphrastref13_Bits.f k a0_1).bind fun t192 => ((paraphrastref13_Bits.f k a0_0).bind fun t193 => (paraphrastref18_Relations.l0 k t192 t193 0 a0_0 a0_1 a0_2 a0_3 l0_4 l0_5))) = some (r1, r2) := h
 clear h
 replace H := Option.bind_eq_some_iff.mp H
 obtain ⟨t192, A20, H⟩ := H
 replace H : ((paraphrastref13_Bits.f k a0_0).bind fun t193 => (paraphrastref18_Relations.l0 k t192 t193 0 a0_0 a0_1 a0_2 a0_3 l0_4 l0_5)) = some (r1, r2) := H
 have A2 := Aside0.mk A20
 clear A20
 replace H := Option.bind_eq_some_iff.mp H
 obtain ⟨t193, A30, H⟩ := H
 replace H : (paraphrastref18_Relations.l0 k t192 t193 0 a0_0 a0_1 a0_2 a0_3 l0_4 l0_5) = some (r1, r2) := H
 have A3 := Aside0.mk A30
 clear A30
 have H' := Aside0.mk H
 clear H
 go_enter Tryz.func14, Tryz.ntmps14
 try go_wp2_with (first | ((with_reducible refine gate_dst (N := 1) rfl ?_); refine box_event ?hg (N := 1) ?hd (cs := #[.int .i64 a0_0, .int .i64 a0_1, .int .i64 a0_2, .int .i64 a0_3, .slice A0_4 l0_4.length c0_4, .slice A0_5 l0_5.length c0_5]) (t := 25) ?hr ?_; (case hd => rfl); (case hg => rfl); (case hr => first | (go_simp; done) | (go_simp; rfl)); intro gb191 hg w4 hbox hb; have BK191 := Aside0.mk (hbox); have GW191 := geB w hg; have GE191 := geB w hg; replace HB := Aside0.mk (below_step bel hb); clear hb hbox hg))
 replace BK191 := Aside0.mk (blk_drew BK191.out)
 replace HB := Aside0.mk (below_drew1 HB.out)
 refine start_ (n := 8) (S := fun w' => w'.cell? ⟨gb191, 0, none⟩ = some (.int .i64 a0_0) ∧ w'.cell? ⟨gb191, 1, none⟩ = some (.int .i64 a0_1) ∧ w'.cell? ⟨gb191, 2, none⟩ = some (.int .i64 a0_2) ∧ w'.cell? ⟨gb191, 3, none⟩ = some (.int .i64 a0_3) ∧ w'.cell? ⟨gb191, 4, none⟩ = some (.slice A0_4 l0_4.length c0_4) ∧ w'.cell? ⟨gb191, 5, none⟩ = some (.slice A0_5 l0_5.length c0_5)) (ds := []) #[false, false, false, false, false, false, false, false] (by kernel_rfl) rfl rfl ⟨(blk_cell BK191.out 0).trans rfl, (blk_cell BK191.out 1).trans rfl, (blk_cell BK191.out 2).trans rfl, (blk_cell BK191.out 3).trans rfl, (blk_cell BK191.out 4).trans rfl, (blk_cell BK191.out 5).trans rfl⟩ (fun hHeld => ?_); refine with_tabW paraphrastref18_Relations.tab1 paraphrastref18_Relations.bits1 (fun HT_ HW_ => ?_)
 generalize w4.drew = w5 at BK191 HB hHeld ⊢
 refine sPu 0 (some 11) ?_
 refine sPu 3 (some 14) ?_
 refine sTk 1 (some 12) ?_
 refine sTk 4 (some 15) ?_
 refine sOn 2 (some 13) (fun K hK => ?_)
 refine goes_ Tryz.func24 (by kernel_rfl) rfl #[.int .i64 a0_1] (by rfl) rfl rfl (by (try simp only [List.map_toArray, List.map_cons, List.map_nil]); first | done | rfl | (simp only [List.length_drop, List.length_take]; rfl)) ?_
 with_reducible refine (paraphrastref13_Bits.calls k a0_1 t192 _ A2.out).mono ?_
 rintro e w' ⟨rfl, ⟨nd, rfl⟩⟩
 refine ⟨_, rfl, ?_⟩
 refine hK.out _ _ ⟨(blk_cell BK191.out 0).trans rfl, (blk_cell BK191.out 1).trans rfl, (blk_cell BK191.out 2).trans rfl, (blk_cell BK191.out 3).trans rfl, (blk_cell BK191.out 4).trans rfl, (blk_cell BK191.out 5).trans rfl⟩ (fun hHeld => ?_)
 clear hK K
 refine norm_ (a' := ?_) ?_ ?_
 rotate_left
 ·show Act.put _ (some 13) _ = _
  simp only [Act.put, List.setIfInBounds_toArray, List.set_cons_zero, List.set_cons_succ, i64_w, i32_w]
  rfl
 refine sOn 5 (some 16) (fun K hK => ?_)
 refine goes_ Tryz.func24 (by kernel_rfl) rfl #[.int .i64 a0_0] (by rfl) rfl rfl (by (try simp only [List.map_toArray, List.map_cons, List.map_nil]); first | done | rfl | (simp only [List.length_drop, List.length_take]; rfl)) ?_
 with_reducible refine (paraphrastref13_Bits.calls k a0_0 t193 _ A3.out).mono ?_
 rintro e w' ⟨rfl, ⟨nd, rfl⟩⟩
 refine ⟨_, rfl, ?_⟩
 refine hK.out _ _ ⟨(blk_cell BK191.out 0).trans rfl, (blk_cell BK191.out 1).trans rfl, (blk_cell BK191.out 2).trans rfl, (blk_cell BK191.out 3).trans rfl, (blk_cell BK191.out 4).trans rfl, (blk_cell BK191.out 5).trans rfl⟩ (fun hHeld => ?_)
 clear hK K
 refine norm_ (a' := ?_) ?_ ?_
 rotate_left
 ·show Act.put _ (some 16) _ = _
  simp only [Act.put, List.setIfInBounds_toArray, List.set_cons_zero, List.set_cons_succ, i64_w, i32_w]
  rfl
 refine sPu 6 (some 4) ?_
 refine sPu 7 (some 5) ?_
 refine done_ (done_of HT_.out (by kernel_rfl)) ?_
 try go_wp2
 go_loopg [6] k (fun kq v6 w' => ∃ (x6_1 : Int), v6 = .int .i64 x6_1 ∧ Aside0 (paraphrastref18_Relations.l0 kq t192 t193 x6_1 a0_0 a0_1 a0_2 a0_3 l0_4 l0_5 = some (r1, r2)) ∧ Aside0 (kq ≤ k) ∧ Aside0 (w'.heap[gb191]? = some (.cells #[.int .i64 a0_0, .int .i64 a0_1, .int .i64 a0_2, .int .i64 a0_3, (.slice A0_4 l0_4.length c0_4), (.slice A0_5 l0_5.length c0_5)] 25 (0, 0))) ∧ Aside0 (Below w.heap.size w w'))
 case atStart => exact ⟨(0), eS, H', ⟨Nat.le_refl _⟩, ⟨bk BK191⟩, ⟨bel⟩⟩
 case round =>
  clear H'
  obtain ⟨x6_1, rfl, HA, HK1, BK191, HB⟩ := hrel
  cases gk with
  | zero => exact absurd HA.out (by simp [paraphrastref18_Relations.l0])
  | succ k1 =>
   have H := HA.out
   clear HA
   simp only [paraphrastref18_Relations.l0] at H
   replace H := Option.bind_eq_some_iff.mp H
   obtain ⟨t194, A60, H⟩ := H
   replace H : ((paraphrastref16_Symbols.f a0_0 a0_1 a0_2 a0_3 l0_4 l0_5).bind fun t197 => ((paraphrastref18_free.f k1 t194 t197).bind fun t200 => (if t200 = true then ((paraphrastref18_names.f k1 t192 t193 x6_1).bind fun t201 => (paraphrastref18_Relations.l1 k1 t192 t201 ([] : List (S46)) 0 a0_0 a0_1 a0_2 a0_3 l0_4 l0_5)) else (paraphrastref18_Relations.l0 k1 t192 t193 (wrap64 (x6_1 + 1)) a0_0 a0_1 a0_2 a0_3 l0_4 l0_5)))) = some (r1, r2) := H
   have A6 := Aside0.mk A60
   clear A60
   replace H := Option.bind_eq_some_iff.mp H
   obtain ⟨t197, A70, H⟩ := H
   replace H : ((paraphrastref18_free.f k1 t194 t197).bind fun t200 => (if t200 = true then ((paraphrastref18_names.f k1 t192 t193 x6_1).bind fun t201 => (paraphrastref18_Relations.l1 k1 t192 t201 ([] : List (S46)) 0 a0_0 a0_1 a0_2 a0_3 l0_4 l0_5)) else (paraphrastref18_Relations.l0 k1 t192 t193 (wrap64 (x6_1 + 1)) a0_0 a0_1 a0_2 a0_3 l0_4 l0_5))) = some (r1, r2) := H
   have A7 := Aside0.mk A70
   clear A70
   replace H := Option.bind_eq_some_iff.mp H
   obtain ⟨t200, A80, H⟩ := H
   replace H : (if t200 = true then ((paraphrastref18_names.f k1 t192 t193 x6_1).bind fun t201 => (paraphrastref18_Relations.l1 k1 t192 t201 ([] : List (S46)) 0 a0_0 a0_1 a0_2 a0_3 l0_4 l0_5)) else (paraphrastref18_Relations.l0 k1 t192 t193 (wrap64 (x6_1 + 1)) a0_0 a0_1 a0_2 a0_3 l0_4 l0_5)) = some (r1, r2) := H
   have A8 := Aside0.mk A80
   clear A80
   by_cases c9 : t200 = true
   ·subst c9
    have H1 : ((paraphrastref18_names.f k1 t192 t193 x6_1).bind fun t201 => (paraphrastref18_Relations.l1 k1 t192 t201 ([] : List (S46)) 0 a0_0 a0_1 a0_2 a0_3 l0_4 l0_5)) = some (r1, r2) := by rw [if_pos rfl] at H; exact H
    clear H
    have H := H1
    clear H1
    replace H := Option.bind_eq_some_iff.mp H
    obtain ⟨t201, A100, H⟩ := H
    replace H : (paraphrastref18_Relations.l1 k1 t192 t201 ([] : List (S46)) 0 a0_0 a0_1 a0_2 a0_3 l0_4 l0_5) = some (r1, r2) := H
    have A10 := Aside0.mk A100
    clear A100
    have H' := Aside0.mk H
    clear H
    try go_wp2
    replace BK191 := Aside0.mk (blk_drew BK191.out)
    replace HB := Aside0.mk (below_drew1 HB.out)
    refine start_ (n := 8) (S := fun w' => w'.cell? ⟨gb191, 0, none⟩ = some (.int .i64 a0_0) ∧ w'.cell? ⟨gb191, 1, none⟩ = some (.int .i64 a0_1) ∧ w'.cell? ⟨gb191, 2, none⟩ = some (.int .i64 a0_2) ∧ w'.cell? ⟨gb191, 3, none⟩ = some (.int .i64 a0_3) ∧ w'.cell? ⟨gb191, 4, none⟩ = some (.slice A0_4 l0_4.length c0_4) ∧ w'.cell? ⟨gb191, 5, none⟩ = some (.slice A0_5 l0_5.length c0_5)) (ds := []) #[false, false, false, false, false, false, false, false] (by kernel_rfl) rfl rfl ⟨(blk_cell BK191.out 0).trans rfl, (blk_cell BK191.out 1).trans rfl, (blk_cell BK191.out 2).trans rfl, (blk_cell BK191.out 3).trans rfl, (blk_cell BK191.out 4).trans rfl, (blk_cell BK191.out 5).trans rfl⟩ (fun hHeld => ?_); refine with_tabW paraphrastref18_Relations.tab3 paraphrastref18_Relations.bits3 (fun HT_ HW_ => ?_)
    generalize wr.drew = w11 at BK191 HB hHeld ⊢
    refine sPu 0 (some 17) ?_
    refine sPu 1 (some 18) ?_
    refine sPu 2 (some 19) ?_
    refine sTk 4 (some 21) ?_
    refine sOn 3 (some 20) (fun K hK => ?_)
    refine goes_ Tryz.func35 (by kernel_rfl) rfl #[.int .i64 t192, .int .i64 t193, .int .i64 x6_1] (by rfl) rfl rfl (by (try simp only [List.map_toArray, List.map_cons, List.map_nil]); first | done | rfl | (simp only [List.length_drop, List.length_take]; rfl)) ?_
    with_reducible refine (paraphrastref18_names.calls k1 t192 t193 x6_1 t194 _ ?side1 A6.out).mono ?_
    (case side1 => first | exact HG.out | exact Glob.below HG.out bel)
    rintro e w12 ⟨v195, rfl, ho0, hb⟩
    refine ⟨_, rfl, ?_⟩
    have HO196 := Aside0.mk (Kd.R_lower ho0 (below_size bel))
    replace BK191 := blB BK191 hb
    replace HB := Aside0.mk (below_step bel hb)
    (try clear hb)
    (try clear hb2)
    (try clear hk)
    (try clear hi)
    (try clear ho0)
    refine hK.out _ _ ⟨(blk_cell BK191.out 0).trans rfl, (blk_cell BK191.out 1).trans rfl, (blk_cell BK191.out 2).trans rfl, (blk_cell BK191.out 3).trans rfl, (blk_cell BK191.out 4).trans rfl, (blk_cell BK191.out 5).trans rfl⟩ (fun hHeld => ?_)
    clear hK K
    refine norm_ (a' := ?_) ?_ ?_
    rotate_left
    ·show Act.put _ (some 20) _ = _
     simp only [Act.put, List.setIfInBounds_toArray, List.set_cons_zero, List.set_cons_succ, i64_w, i32_w]
     rfl
    refine sOn 5 (some 22) (fun K hK => ?_)
    refine goes_ Tryz.func36 (by kernel_rfl) rfl #[.agg #[.int .i64 a0_0, .int .i64 a0_1, .int .i64 a0_2, .int .i64 a0_3, .slice A0_4 l0_4.length c0_4, .slice A0_5 l0_5.length c0_5]] (by rfl) rfl rfl (by (try simp only [List.map_toArray, List.map_cons, List.map_nil]); first | done | rfl | (simp only [List.length_drop, List.length_take]; rfl)) ?_
    with_reducible refine (paraphrastref16_Symbols.calls a0_0 a0_1 a0_2 a0_3 _ _ l0_4 _ _ l0_5 t197 _ ?side1 ?side2 ?side3 ?side4 A7.out).mono ?_
    (case side1 => exact cS (Kd.C_below HR0_4.out HB.out))
    (case side2 => exact HC0_4.out)
    (case side3 => exact cS (Kd.C_below HR0_5.out HB.out))
    (case side4 => exact HC0_5.out)
    rintro e w13 ⟨v198, rfl, ho0, hb⟩
    refine ⟨_, rfl, ?_⟩
    have HO199 := Aside0.mk (Kd.R_lower ho0 (below_size bel))
    replace HO196 := rD HO196 hb
    replace BK191 := blB BK191 hb
    replace HB := Aside0.mk (below_step bel hb)
    (try clear hb)
    (try clear hb2)
    (try clear hk)
    (try clear hi)
    (try clear ho0)
    obtain ⟨Ao14, co14, eo14⟩ := Kd.R_slice HO196.out
    (first | subst eo14 | (injection eo14 with f1_ f2_ f3_; have f4_ := f1_.symm; have f5_ := f3_.symm; clear f1_ f2_ f3_; subst f4_; subst f5_))
    obtain ⟨Ao15, co15, eo15⟩ := Kd.R_slice HO199.out
    (first | subst eo15 | (injection eo15 with f1_ f2_ f3_; have f4_ := f1_.symm; have f5_ := f3_.symm; clear f1_ f2_ f3_; subst f4_; subst f5_))
    refine hK.out _ _ ⟨(blk_cell BK191.out 0).trans rfl, (blk_cell BK191.out 1).trans rfl, (blk_cell BK191.out 2).trans rfl, (blk_cell BK191.out 3).trans rfl, (blk_cell BK191.out 4).trans rfl, (blk_cell BK191.out 5).trans rfl⟩ (fun hHeld => ?_)
    clear hK K
    refine norm_ (a' := ?_) ?_ ?_
    rotate_left
    ·show Act.put _ (some 22) _ = _
     simp only [Act.put, List.setIfInBounds_toArray, List.set_cons_zero, List.set_cons_succ, i64_w, i32_w]
     rfl
    refine sOn 6 (some 23) (fun K hK => ?_)
    refine goes_ Tryz.func34 (by kernel_rfl) rfl #[.slice Ao14 t194.length co14, .slice Ao15 t197.length co15] (by rfl) rfl rfl (by (try simp only [List.map_toArray, List.map_cons, List.map_nil]); first | done | rfl | (simp only [List.length_drop, List.length_take]; rfl)) ?_
    with_reducible refine (paraphrastref18_free.calls k1 _ _ t194 _ _ t197 true _ ?side1 ?side2 ?side3 ?side4 A8.out).mono ?_
    (case side1 => exact cS (Kd.R_reads' HO196.out).2.2)
    (case side2 => exact (Kd.R_reads' HO196.out).2.1)
    (case side3 => exact cS (Kd.R_reads' HO199.out).2.2)
    (case side4 => exact (Kd.R_reads' HO199.out).2.1)
    rintro e w' ⟨rfl, ⟨nd, rfl⟩⟩
    refine ⟨_, rfl, ?_⟩
    refine hK.out _ _ ⟨(blk_cell BK191.out 0).trans rfl, (blk_cell BK191.out 1).trans rfl, (blk_cell BK191.out 2).trans rfl, (blk_cell BK191.out 3).trans rfl, (blk_cell BK191.out 4).trans rfl, (blk_cell BK191.out 5).trans rfl⟩ (fun hHeld => ?_)
    clear hK K
    refine norm_ (a' := ?_) ?_ ?_
    rotate_left
    ·show Act.put _ (some 23) _ = _
     simp only [Act.put, List.setIfInBounds_toArray, List.set_cons_zero, List.set_cons_succ, i64_w, i32_w]
     rfl
    refine sPu 7 (some 24) ?_
    refine done_ (done_of HT_.out (by kernel_rfl)) ?_
    try go_wp2_with (first | ((with_reducible refine gate_callee (f := 35) rfl ?_); refine gL (some 30) Tryz.func35 #[.int .i64 t192, .int .i64 t193, .int .i64 x6_1] ?_; (with_reducible refine (paraphrastref18_names.calls k1 t192 t193 x6_1 t201 _ ?side1 A10.out).mono ?_); (case side1 => first | exact HG.out | exact Glob.below HG.out bel); rintro e w16 ⟨v202, rfl, ho0, hb⟩; refine ⟨_, rfl, ?_⟩; have HO203 := Aside0.mk (Kd.R_lower (Kd.R_new' ho0 (Kd.R_lt (tw HO196.out))) (below_size bel)); replace HO196 := rE HO196 (Kd.R_base ho0) hb; replace HO199 := rD HO199 hb; replace BK191 := blB BK191 hb; replace HB := Aside0.mk (below_step bel hb); (try clear hb); (try clear hb2); (try clear hk); (try clear hi); (try clear ho0)))
    go_loopg [8, 9] k1 (fun kq v8 v9 w' => ∃ (x8_2 : List (S46)) (x9_2 : Int), v9 = .int .i64 x9_2 ∧ Aside0 (paraphrastref18_Relations.l1 kq t192 t201 x8_2 x9_2 a0_0 a0_1 a0_2 a0_3 l0_4 l0_5 = some (r1, r2)) ∧ Aside0 (kq ≤ k1) ∧ Aside0 (Kd.R Kd.string 9 w' w.heap.size (fun _ => True) v202 t201) ∧ Aside0 (Kd.R k46 46 w' w.heap.size (fun _ => True) v8 x8_2) ∧ Aside0 (w'.heap[gb191]? = some (.cells #[.int .i64 a0_0, .int .i64 a0_1, .int .i64 a0_2, .int .i64 a0_3, (.slice A0_4 l0_4.length c0_4), (.slice A0_5 l0_5.length c0_5)] 25 (0, 0))) ∧ Aside0 (Below w.heap.size w w'))
    case atStart => exact ⟨(([] : List (S46))), (0), eS, H', ⟨Nat.le_refl _⟩, ⟨by (with_reducible repeat (first | apply Kd.R_alloc | apply Kd.R_drewN | apply Kd.R_drew)); exact Kd.R_mono HO203.out (fun _ hk => trivial)⟩, ⟨by first | exact Kd.R_nil _ _ _ _ _ | exact Kd.N_nil _ _ _ _ _ | exact Kd.V_nil _ _ _ _ _ | exact Kd.Q_nil _ _ _ _ _ | exact Kd.S_nil _ _ _ _ _⟩, ⟨bk BK191⟩, ⟨bel⟩⟩
    case round =>
     clear H'
     (try clear c9)
     obtain ⟨x8_2, x9_2, rfl, HA, HK2, HO_7, HO_8, BK191, HB⟩ := hrel
     cases gk with
     | zero => exact absurd HA.out (by simp [paraphrastref18_Relations.l1])
     | succ k2 =>
      have H := HA.out
      clear HA
      simp only [paraphrastref18_Relations.l1] at H
      by_cases c17 : x9_2 < (t201.length : Int)
      ·rw [if_pos c17] at H
       have c17b0 : decide (x9_2 < (t201.length : Int)) = true := decide_eq_true c17
       clear c17
       by_cases c18 : 0 ≤ x9_2
       ·rw [if_pos c18] at H
        have c18b0 : decide (0 ≤ x9_2) = true := decide_eq_true c18
        clear c18
        by_cases c19 : ((rdOf ByteArray.empty t201 x9_2).size : Int) > 12
        ·rw [if_pos c19] at H
         have c19b0 : decide (12 < ((rdOf ByteArray.empty t201 x9_2).size : Int)) = true := decide_eq_true c19
         have c19b1 : decide (12 < (rdOf ByteArray.empty t201 x9_2).size) = true := decide_eq_true (by omega)
         clear c19
         simp only [Option.some.injEq, Prod.mk.injEq] at H
         obtain ⟨rfl, rfl⟩ := H
         obtain ⟨Ao20, co20, eo20⟩ := Kd.R_slice HO_7.out
         subst eo20
         have p204 : 0 ≤ (x9_2 : Int) := dtr
         have q204 : x9_2 < (t201.length : Int) := dtr
         obtain ⟨ad204, e204, hx204_0⟩ := Kd.at_string (Kd.R_reads' HO_7.out).2.2 x9_2 p204 q204
         cases e204
         replace p204 := eq_true p204
         replace q204 := eq_true q204
         go_wp2
         go_ret2
         exact ⟨_, eN, by first | exact Kd.R_nil _ _ _ _ _ | exact Kd.N_nil _ _ _ _ _ | exact Kd.V_nil _ _ _ _ _ | exact Kd.Q_nil _ _ _ _ _ | exact Kd.S_nil _ _ _ _ _, bel⟩
        ·rw [if_neg c19] at H
         have c19b0 : decide (12 < ((rdOf ByteArray.empty t201 x9_2).size : Int)) = false := decide_eq_false c19
         have c19b1 : decide (12 < (rdOf ByteArray.empty t201 x9_2).size) = false := decide_eq_false (by omega)
         clear c19
         by_cases c21 : x9_2 ≤ t192
         ·rw [if_pos c21] at H
          have c21b0 : decide (x9_2 ≤ t192) = true := decide_eq_true c21
          clear c21
          by_cases c22 : x8_2.length < 5864062014805
          ·rw [if_pos c22] at H
           have LMc22 := Aside0.mk c22
           clear c22
           obtain ⟨y206, hy206⟩ : ∃ y_ : List (S46), y_ = (x8_2 ++ [(⟨rdOf ByteArray.empty t201 x9_2, wrap64 (a0_3 + a0_2)⟩ : S46)]) := ⟨_, rfl⟩
           replace H : (paraphrastref18_Relations.l1 k2 t192 t201 y206 (wrap64 (x9_2 + 1)) a0_0 a0_1 a0_2 a0_3 l0_4 l0_5) = some (r1, r2) := by first | (rw [hy206]; with_reducible exact H) | (have H2_ := (Option.bind_some _ _).symm.trans H; rw [hy206]; with_reducible exact H2_) | (have H2_ := (Option.bind_some _ _).symm.trans H; with_reducible exact H2_) | with_reducible exact H | (rw [hy206]; exact H) | exact H
           have Ny206 := Aside0.mk hy206
           clear hy206
           have H' := Aside0.mk H
           clear H
           obtain ⟨Ao23, co23, eo23⟩ := Kd.R_slice HO_7.out
           subst eo23
           have p204 : 0 ≤ (x9_2 : Int) := dtr
           have q204 : x9_2 < (t201.length : Int) := dtr
           obtain ⟨ad204, e204, hx204_0⟩ := Kd.at_string (Kd.R_reads' HO_7.out).2.2 x9_2 p204 q204
           cases e204
           replace p204 := eq_true p204
           replace q204 := eq_true q204
           have hcz24_0 : wr.cell? ⟨gb191, 0, none⟩ = some (.int .i64 a0_0) := (blk_cell BK191.out 0).trans rfl
           have hcz24_1 : wr.cell? ⟨gb191, 1, none⟩ = some (.int .i64 a0_1) := (blk_cell BK191.out 1).trans rfl
           have hcz24_2 : wr.cell? ⟨gb191, 2, none⟩ = some (.int .i64 a0_2) := (blk_cell BK191.out 2).trans rfl
           have hcz24_3 : wr.cell? ⟨gb191, 3, none⟩ = some (.int .i64 a0_3) := (blk_cell BK191.out 3).trans rfl
           have hcz24_4 : wr.cell? ⟨gb191, 4, none⟩ = some (.slice A0_4 l0_4.length c0_4) := (blk_cell BK191.out 4).trans rfl
           have hcz24_5 : wr.cell? ⟨gb191, 5, none⟩ = some (.slice A0_5 l0_5.length c0_5) := (blk_cell BK191.out 5).trans rfl
           have hfz24_0 := blk_frozen BK191.out 0
           have hfz24_1 := blk_frozen BK191.out 1
           have hfz24_2 := blk_frozen BK191.out 2
           have hfz24_3 := blk_frozen BK191.out 3
           have hfz24_4 := blk_frozen BK191.out 4
           have hfz24_5 := blk_frozen BK191.out 5
           have p205 : 0 ≤ (x9_2 : Int) := dtr
           have q205 : x9_2 < (t201.length : Int) := dtr
           obtain ⟨ad205, e205, hx205_0⟩ := Kd.at_string (Kd.R_reads' HO_7.out).2.2 x9_2 p205 q205
           obtain rfl : ad204 = ad205 := (by injection e205)
           replace p205 := eq_true p205
           replace q205 := eq_true q205
           go_wp2_with (first | ((with_reducible refine gate_builtin (b := .append) (xs := #[.tmp 53, .tmp 60]) rfl ?_); at_builtin; refine Kd.R_append k46 (w0 := w) w.heap.size rfl (.tmp 53) (.tmp 60) 29 46 (.agg #[(.string ⟨#[]⟩), (.int .i64 0)]) 24 rfl Tryz.underlying29 info46 rfl (by decide) (by omega) u8 x8_2 (⟨rdOf ByteArray.empty t201 x9_2, wrap64 (a0_3 + a0_2)⟩ : S46) [.string (rdOf ByteArray.empty t201 x9_2), .int .i64 (wrap64 (a0_3 + a0_2))] (fun _ => True) (fun _ => False) rfl rfl ?aP (fun _ hk => hk.elim) ?aF ?aO ?aB ?aS ?aL ?_; (case aP => exact k46_mkM _ _ _ (⟨rdOf ByteArray.empty t201 x9_2, wrap64 (a0_3 + a0_2)⟩ : S46)); (case aB => exact bel); (case aF => exact (fun _ _ => trivial)); (case aO => exact (tw HO_8.out)); (case aS => exact (below_size bel)); (case aL => have := LMc22.out; omega); intro v207 w25 ho hb hg hat; rw [← Ny206.out] at ho; have HO208 := Aside0.mk (ho); replace HO_7 := Aside0.mk (Kd.R_over' (tw HO_7.out) (Kd.R_typed (tw HO_8.out)) (by decide) hg); replace BK191 := Aside0.mk (blk_grown (g := gb191) (o := .cells #[.int .i64 a0_0, .int .i64 a0_1, .int .i64 a0_2, .int .i64 a0_3, .slice A0_4 l0_4.length c0_4, .slice A0_5 l0_5.length c0_5] 25 (0, 0)) (bk BK191) hg (Kd.R_ne HO_8.out BK191.out (by decide))); replace HB := Aside0.mk (hb); clear HO_8; clear ho hb hg hat))
           go_roundg k2
           case measure => have := HK1.out; have := HK2.out; omega
           case rel => exact ⟨(y206), (wrap64 (x9_2 + 1)), eS, H', ⟨by have := HK1.out; have := HK2.out; omega⟩, ⟨by (with_reducible repeat (first | apply Kd.R_alloc | apply Kd.R_drewN | apply Kd.R_drew)); exact HO_7.out⟩, ⟨by (with_reducible repeat (first | apply Kd.R_alloc | apply Kd.R_drewN | apply Kd.R_drew)); exact HO208.out⟩, ⟨bk BK191⟩, ⟨bel⟩⟩
          ·rw [if_neg c22] at H
           exact absurd H (by simp)
         ·rw [if_neg c21] at H
          have c21b0 : decide (x9_2 ≤ t192) = false := decide_eq_false c21
          clear c21
          by_cases c26 : x8_2.length < 5864062014805
          ·rw [if_pos c26] at H
           have LMc26 := Aside0.mk c26
           clear c26
           obtain ⟨y210, hy210⟩ : ∃ y_ : List (S46), y_ = (x8_2 ++ [(⟨rdOf ByteArray.empty t201 x9_2, a0_3⟩ : S46)]) := ⟨_, rfl⟩
           replace H : (paraphrastref18_Relations.l1 k2 t192 t201 y210 (wrap64 (x9_2 + 1)) a0_0 a0_1 a0_2 a0_3 l0_4 l0_5) = some (r1, r2) := by first | (rw [hy210]; with_reducible exact H) | (have H2_ := (Option.bind_some _ _).symm.trans H; rw [hy210]; with_reducible exact H2_) | (have H2_ := (Option.bind_some _ _).symm.trans H; with_reducible exact H2_) | with_reducible exact H | (rw [hy210]; exact H) | exact H
           have Ny210 := Aside0.mk hy210
           clear hy210
           have H' := Aside0.mk H
           clear H
           obtain ⟨Ao27, co27, eo27⟩ := Kd.R_slice HO_7.out
           subst eo27
           have p204 : 0 ≤ (x9_2 : Int) := dtr
           have q204 : x9_2 < (t201.length : Int) := dtr
           obtain ⟨ad204, e204, hx204_0⟩ := Kd.at_string (Kd.R_reads' HO_7.out).2.2 x9_2 p204 q204
           cases e204
           replace p204 := eq_true p204
           replace q204 := eq_true q204
           have hcz28_0 : wr.cell? ⟨gb191, 0, none⟩ = some (.int .i64 a0_0) := (blk_cell BK191.out 0).trans rfl
           have hcz28_1 : wr.cell? ⟨gb191, 1, none⟩ = some (.int .i64 a0_1) := (blk_cell BK191.out 1).trans rfl
           have hcz28_2 : wr.cell? ⟨gb191, 2, none⟩ = some (.int .i64 a0_2) := (blk_cell BK191.out 2).trans rfl
           have hcz28_3 : wr.cell? ⟨gb191, 3, none⟩ = some (.int .i64 a0_3) := (blk_cell BK191.out 3).trans rfl
           have hcz28_4 : wr.cell? ⟨gb191, 4, none⟩ = some (.slice A0_4 l0_4.length c0_4) := (blk_cell BK191.out 4).trans rfl
           have hcz28_5 : wr.cell? ⟨gb191, 5, none⟩ = some (.slice A0_5 l0_5.length c0_5) := (blk_cell BK191.out 5).trans rfl
           have hfz28_0 := blk_frozen BK191.out 0
           have hfz28_1 := blk_frozen BK191.out 1
           have hfz28_2 := blk_frozen BK191.out 2
           have hfz28_3 := blk_frozen BK191.out 3
           have hfz28_4 := blk_frozen BK191.out 4
           have hfz28_5 := blk_frozen BK191.out 5
           have p209 : 0 ≤ (x9_2 : Int) := dtr
           have q209 : x9_2 < (t201.length : Int) := dtr
           obtain ⟨ad209, e209, hx209_0⟩ := Kd.at_string (Kd.R_reads' HO_7.out).2.2 x9_2 p209 q209
           obtain rfl : ad204 = ad209 := (by injection e209)
           replace p209 := eq_true p209
           replace q209 := eq_true q209
           go_wp2_with (first | ((with_reducible refine gate_builtin (b := .append) (xs := #[.tmp 53, .tmp 60]) rfl ?_); at_builtin; refine Kd.R_append k46 (w0 := w) w.heap.size rfl (.tmp 53) (.tmp 60) 29 46 (.agg #[(.string ⟨#[]⟩), (.int .i64 0)]) 24 rfl Tryz.underlying29 info46 rfl (by decide) (by omega) u8 x8_2 (⟨rdOf ByteArray.empty t201 x9_2, a0_3⟩ : S46) [.string (rdOf ByteArray.empty t201 x9_2), .int .i64 a0_3] (fun _ => True) (fun _ => False) rfl rfl ?aP (fun _ hk => hk.elim) ?aF ?aO ?aB ?aS ?aL ?_; (case aP => exact k46_mkM _ _ _ (⟨rdOf ByteArray.empty t201 x9_2, a0_3⟩ : S46)); (case aB => exact bel); (case aF => exact (fun _ _ => trivial)); (case aO => exact (tw HO_8.out)); (case aS => exact (below_size bel)); (case aL => have := LMc26.out; omega); intro v211 w29 ho hb hg hat; rw [← Ny210.out] at ho; have HO212 := Aside0.mk (ho); replace HO_7 := Aside0.mk (Kd.R_over' (tw HO_7.out) (Kd.R_typed (tw HO_8.out)) (by decide) hg); replace BK191 := Aside0.mk (blk_grown (g := gb191) (o := .cells #[.int .i64 a0_0, .int .i64 a0_1, .int .i64 a0_2, .int .i64 a0_3, .slice A0_4 l0_4.length c0_4, .slice A0_5 l0_5.length c0_5] 25 (0, 0)) (bk BK191) hg (Kd.R_ne HO_8.out BK191.out (by decide))); replace HB := Aside0.mk (hb); clear HO_8; clear ho hb hg hat))
           go_roundg k2
           case measure => have := HK1.out; have := HK2.out; omega
           case rel => exact ⟨(y210), (wrap64 (x9_2 + 1)), eS, H', ⟨by have := HK1.out; have := HK2.out; omega⟩, ⟨by (with_reducible repeat (first | apply Kd.R_alloc | apply Kd.R_drewN | apply Kd.R_drew)); exact HO_7.out⟩, ⟨by (with_reducible repeat (first | apply Kd.R_alloc | apply Kd.R_drewN | apply Kd.R_drew)); exact HO212.out⟩, ⟨bk BK191⟩, ⟨bel⟩⟩
          ·rw [if_neg c26] at H
           exact absurd H (by simp)
       ·rw [if_neg c18] at H
        exact absurd H (by simp)
      ·rw [if_neg c17] at H
       have c17b0 : decide (x9_2 < (t201.length : Int)) = false := decide_eq_false c17
       clear c17
       simp only [Option.some.injEq, Prod.mk.injEq] at H
       obtain ⟨rfl, rfl⟩ := H
       obtain ⟨Ao30, co30, eo30⟩ := Kd.R_slice HO_7.out
       subst eo30
       go_wp2
       go_ret2
       exact ⟨_, eN, by (with_reducible repeat (first | apply Kd.R_alloc | apply Kd.R_drewN | apply Kd.R_drew)); exact HO_8.out, bel⟩
   ·replace c9 := Bool.eq_false_iff.mpr c9
    subst c9
    have H1 : (paraphrastref18_Relations.l0 k1 t192 t193 (wrap64 (x6_1 + 1)) a0_0 a0_1 a0_2 a0_3 l0_4 l0_5) = some (r1, r2) := by rw [if_neg (show ¬ (false = true) by decide)] at H; exact H
    clear H
    have H := H1
    clear H1
    have H' := Aside0.mk H
    clear H
    try go_wp2
    replace BK191 := Aside0.mk (blk_drew BK191.out)
    replace HB := Aside0.mk (below_drew1 HB.out)
    refine start_ (n := 8) (S := fun w' => w'.cell? ⟨gb191, 0, none⟩ = some (.int .i64 a0_0) ∧ w'.cell? ⟨gb191, 1, none⟩ = some (.int .i64 a0_1) ∧ w'.cell? ⟨gb191, 2, none⟩ = some (.int .i64 a0_2) ∧ w'.cell? ⟨gb191, 3, none⟩ = some (.int .i64 a0_3) ∧ w'.cell? ⟨gb191, 4, none⟩ = some (.slice A0_4 l0_4.length c0_4) ∧ w'.cell? ⟨gb191, 5, none⟩ = some (.slice A0_5 l0_5.length c0_5)) (ds := []) #[false, false, false, false, false, false, false, false] (by kernel_rfl) rfl rfl ⟨(blk_cell BK191.out 0).trans rfl, (blk_cell BK191.out 1).trans rfl, (blk_cell BK191.out 2).trans rfl, (blk_cell BK191.out 3).trans rfl, (blk_cell BK191.out 4).trans rfl, (blk_cell BK191.out 5).trans rfl⟩ (fun hHeld => ?_); refine with_tabW paraphrastref18_Relations.tab3 paraphrastref18_Relations.bits3 (fun HT_ HW_ => ?_)
    generalize wr.drew = w31 at BK191 HB hHeld ⊢
    refine sPu 0 (some 17) ?_
    refine sPu 1 (some 18) ?_
    refine sPu 2 (some 19) ?_
    refine sTk 4 (some 21) ?_
    refine sOn 3 (some 20) (fun K hK => ?_)
    refine goes_ Tryz.func35 (by kernel_rfl) rfl #[.int .i64 t192, .int .i64 t193, .int .i64 x6_1] (by rfl) rfl rfl (by (try simp only [List.map_toArray, List.map_cons, List.map_nil]); first | done | rfl | (simp only [List.length_drop, List.length_take]; rfl)) ?_
    with_reducible refine (paraphrastref18_names.calls k1 t192 t193 x6_1 t194 _ ?side1 A6.out).mono ?_
    (case side1 => first | exact HG.out | exact Glob.below HG.out bel)
    rintro e w32 ⟨v195, rfl, ho0, hb⟩
    refine ⟨_, rfl, ?_⟩
    have HO196 := Aside0.mk (Kd.R_lower ho0 (below_size bel))
    replace BK191 := blB BK191 hb
    replace HB := Aside0.mk (below_step bel hb)
    (try clear hb)
    (try clear hb2)
    (try clear hk)
    (try clear hi)
    (try clear ho0)
    refine hK.out _ _ ⟨(blk_cell BK191.out 0).trans rfl, (blk_cell BK191.out 1).trans rfl, (blk_cell BK191.out 2).trans rfl, (blk_cell BK191.out 3).trans rfl, (blk_cell BK191.out 4).trans rfl, (blk_cell BK191.out 5).trans rfl⟩ (fun hHeld => ?_)
    clear hK K
    refine norm_ (a' := ?_) ?_ ?_
    rotate_left
    ·show Act.put _ (some 20) _ = _
     simp only [Act.put, List.setIfInBounds_toArray, List.set_cons_zero, List.set_cons_succ, i64_w, i32_w]
     rfl
    refine sOn 5 (some 22) (fun K hK => ?_)
    refine goes_ Tryz.func36 (by kernel_rfl) rfl #[.agg #[.int .i64 a0_0, .int .i64 a0_1, .int .i64 a0_2, .int .i64 a0_3, .slice A0_4 l0_4.length c0_4, .slice A0_5 l0_5.length c0_5]] (by rfl) rfl rfl (by (try simp only [List.map_toArray, List.map_cons, List.map_nil]); first | done | rfl | (simp only [List.length_drop, List.length_take]; rfl)) ?_
    with_reducible refine (paraphrastref16_Symbols.calls a0_0 a0_1 a0_2 a0_3 _ _ l0_4 _ _ l0_5 t197 _ ?side1 ?side2 ?side3 ?side4 A7.out).mono ?_
    (case side1 => exact cS (Kd.C_below HR0_4.out HB.out))
    (case side2 => exact HC0_4.out)
    (case side3 => exact cS (Kd.C_below HR0_5.out HB.out))
    (case side4 => exact HC0_5.out)
    rintro e w33 ⟨v198, rfl, ho0, hb⟩
    refine ⟨_, rfl, ?_⟩
    have HO199 := Aside0.mk (Kd.R_lower ho0 (below_size bel))
    replace HO196 := rD HO196 hb
    replace BK191 := blB BK191 hb
    replace HB := Aside0.mk (below_step bel hb)
    (try clear hb)
    (try clear hb2)
    (try clear hk)
    (try clear hi)
    (try clear ho0)
    obtain ⟨Ao34, co34, eo34⟩ := Kd.R_slice HO196.out
    (first | subst eo34 | (injection eo34 with f1_ f2_ f3_; have f4_ := f1_.symm; have f5_ := f3_.symm; clear f1_ f2_ f3_; subst f4_; subst f5_))
    obtain ⟨Ao35, co35, eo35⟩ := Kd.R_slice HO199.out
    (first | subst eo35 | (injection eo35 with f1_ f2_ f3_; have f4_ := f1_.symm; have f5_ := f3_.symm; clear f1_ f2_ f3_; subst f4_; subst f5_))
    refine hK.out _ _ ⟨(blk_cell BK191.out 0).trans rfl, (blk_cell BK191.out 1).trans rfl, (blk_cell BK191.out 2).trans rfl, (blk_cell BK191.out 3).trans rfl, (blk_cell BK191.out 4).trans rfl, (blk_cell BK191.out 5).trans rfl⟩ (fun hHeld => ?_)
    clear hK K
    refine norm_ (a' := ?_) ?_ ?_
    rotate_left
    ·show Act.put _ (some 22) _ = _
     simp only [Act.put, List.setIfInBounds_toArray, List.set_cons_zero, List.set_cons_succ, i64_w, i32_w]
     rfl
    refine sOn 6 (some 23) (fun K hK => ?_)
    refine goes_ Tryz.func34 (by kernel_rfl) rfl #[.slice Ao34 t194.length co34, .slice Ao35 t197.length co35] (by rfl) rfl rfl (by (try simp only [List.map_toArray, List.map_cons, List.map_nil]); first | done | rfl | (simp only [List.length_drop, List.length_take]; rfl)) ?_
    with_reducible refine (paraphrastref18_free.calls k1 _ _ t194 _ _ t197 false _ ?side1 ?side2 ?side3 ?side4 A8.out).mono ?_
    (case side1 => exact cS (Kd.R_reads' HO196.out).2.2)
    (case side2 => exact (Kd.R_reads' HO196.out).2.1)
    (case side3 => exact cS (Kd.R_reads' HO199.out).2.2)
    (case side4 => exact (Kd.R_reads' HO199.out).2.1)
    rintro e w' ⟨rfl, ⟨nd, rfl⟩⟩
    refine ⟨_, rfl, ?_⟩
    refine hK.out _ _ ⟨(blk_cell BK191.out 0).trans rfl, (blk_cell BK191.out 1).trans rfl, (blk_cell BK191.out 2).trans rfl, (blk_cell BK191.out 3).trans rfl, (blk_cell BK191.out 4).trans rfl, (blk_cell BK191.out 5).trans rfl⟩ (fun hHeld => ?_)
    clear hK K
    refine norm_ (a' := ?_) ?_ ?_
    rotate_left
    ·show Act.put _ (some 23) _ = _
     simp only [Act.put, List.setIfInBounds_toArray, List.set_cons_zero, List.set_cons_succ, i64_w, i32_w]
     rfl
    refine sPu 7 (some 24) ?_
    refine done_ (done_of HT_.out (by kernel_rfl)) ?_
    try go_wp2
    go_roundg k1
    case measure => have := HK1.out; omega
    case rel => exact ⟨(wrap64 (x6_1 + 1)), eS, H', ⟨by have := HK1.out; omega⟩, ⟨bk BK191⟩, ⟨bel⟩⟩
end Go.Proofs.YtailpfcbdopfeaaGreatDoor.F
namespace Go.Proofs.YtailpfcbdopfeaaGreatDoor.F
open Go.RowKit Go.Proofs.YtailpfcbdopfeaaGreatDoorW.PrintWords Go.Proofs.YtailpfcbdopfeaaGreatDoorW.PrintLast Go.Proofs.YtailpfcbdopfeaaGreatDoorW.PrintMore
attribute [local go_sem] max2_int min2_int max_two min_two max_three min_three max_four min_four
set_option linter.unusedVariables false
set_option linter.unusedSimpArgs false
/-! ### paraphrastlaw18_code: function 6 -/
def paraphrastlaw18_code.f (k : Nat) (a0_0 : Int) (a0_1 : Int) (a0_2 : Int) (a0_3 : Int) (l0_4 : List (S42)) (l0_5 : List (S69)) : Option (Int × (List (S46))) := (paraphrastref16_Valid.f k a0_0 a0_1 a0_2 a0_3 l0_4 l0_5).bind fun t214 => (if t214 = true then ((paraphrastref18_Relations.f k a0_0 a0_1 a0_2 a0_3 l0_4 l0_5).bind fun bt215 => (if bt215.2 = true then (some (0, bt215.1)) else (some (5, ([] : List (S46)))))) else (some (1, ([] : List (S46)))))
set_option maxHeartbeats 8000000 in
set_option maxRecDepth 100000 in
theorem paraphrastlaw18_code.calls (k : Nat) (a0_0 : Int) (a0_1 : Int) (a0_2 : Int) (a0_3 : Int) (A0_4 : Option Addr) (c0_4 : Nat) (l0_4 : List (S42)) (A0_5 : Option Addr) (c0_5 : Nat) (l0_5 : List (S69)) (r1 : Int) (r2 : List (S46)) (w : World) (hG : Glob w) (hr0_4 : Kd.C k42 w A0_4 l0_4.length l0_4) (hc0_4 : l0_4.length ≤ c0_4) (hr0_5 : Kd.C k69 w A0_5 l0_5.length l0_5) (hc0_5 : l0_5.length ≤ c0_5) (h : paraphrastlaw18_code.f k a0_0 a0_1 a0_2 a0_3 l0_4 l0_5 = some (r1, r2)) :
  Calls Tryz.prog 6 #[.agg #[.int .i64 a0_0, .int .i64 a0_1, .int .i64 a0_2, .int .i64 a0_3, .slice A0_4 l0_4.length c0_4, .slice A0_5 l0_5.length c0_5]] w fun e w' => ∃ v1_ : Value, e = .returned (.tuple #[.int .i64 r1, v1_]) ∧ Kd.R k46 46 w' w.heap.size (fun _ => True) v1_ r2 ∧ Below w.heap.size w w' := by
 have hu25 := Tryz.underlying25
 have HR0_4 := Aside0.mk hr0_4
 have HC0_4 := Aside0.mk hc0_4
 clear hr0_4 hc0_4
 have HR0_5 := Aside0.mk hr0_5
 have HC0_5 := Aside0.mk hc0_5
 clear hr0_5 hc0_5
 have HG := Aside0.mk hG
 clear hG
 have HB := Aside0.mk (Below.refl w.heap.size w)
 have H : ((paraphrastref16_Valid.f k a0_0 a0_1 a0_2 a0_3 l0_4 l0_5).bind fun t214 => (if t214 = true then ((paraphrastref18_Relations.f k a0_0 a0_1 a0_2 a0_3 l0_4 l0_5).bind fun bt215 => (if bt215.2 = true then (some (0, bt215.1)) else (some (5, ([] : List (S46)))))) else (some (1, ([] : List (S46)))))) = some (r1, r2) := h
 clear h
 replace H := Option.bind_eq_some_iff.mp H
 obtain ⟨t214, A20, H⟩ := H
 replace H : (if t214 = true then ((paraphrastref18_Relations.f k a0_0 a0_1 a0_2 a0_3 l0_4 l0_5).bind fun bt215 => (if bt215.2 = true then (some (0, bt215.1)) else (some (5, ([] : List (S46)))))) else (some (1, ([] : List (S46))))) = some (r1, r2) := H
 have A2 := Aside0.mk A20
 clear A20
 by_cases c3 : t214 = true
 ·subst c3
  have H1 : ((paraphrastref18_Relations.f k a0_0 a0_1 a0_2 a0_3 l0_4 l0_5).bind fun bt215 => (if bt215.2 = true then (some (0, bt215.1)) else (some (5, ([] : List (S46)))))) = some (r1, r2) := by rw [if_pos rfl] at H; exact H
  clear H
  have H := H1
  clear H1
  replace H := Option.bind_eq_some_iff.mp H
  obtain ⟨⟨t215, t218⟩, A40, H⟩ := H
  replace H : (if t218 = true then (some (0, t215)) else (some (5, ([] : List (S46))))) = some (r1, r2) := H
  have A4 := Aside0.mk A40
  clear A40
  by_cases c5 : t218 = true
  ·subst c5
   have H1 : (some (0, t215)) = some (r1, r2) := by rw [if_pos rfl] at H; exact H
   clear H
   have H := H1
   clear H1
   simp only [Option.some.injEq, Prod.mk.injEq] at H
   obtain ⟨rfl, rfl⟩ := H
   go_enter Tryz.func6, Tryz.ntmps6
   go_wp2_with (first | ((with_reducible refine gate_dst (N := 1) rfl ?_); refine box_event ?hg (N := 1) ?hd (cs := #[.int .i64 a0_0, .int .i64 a0_1, .int .i64 a0_2, .int .i64 a0_3, .slice A0_4 l0_4.length c0_4, .slice A0_5 l0_5.length c0_5]) (t := 25) ?hr ?_; (case hd => rfl); (case hg => rfl); (case hr => first | (go_simp; done) | (go_simp; rfl)); intro gb213 hg w6 hbox hb; have BK213 := Aside0.mk (hbox); have GW213 := geB w hg; have GE213 := geB w hg; replace HB := Aside0.mk (below_step bel hb); clear hb hbox hg; have hcz7_0 : w6.cell? ⟨gb213, 0, none⟩ = some (.int .i64 a0_0) := (blk_cell BK213.out 0).trans rfl; have hcz7_1 : w6.cell? ⟨gb213, 1, none⟩ = some (.int .i64 a0_1) := (blk_cell BK213.out 1).trans rfl; have hcz7_2 : w6.cell? ⟨gb213, 2, none⟩ = some (.int .i64 a0_2) := (blk_cell BK213.out 2).trans rfl; have hcz7_3 : w6.cell? ⟨gb213, 3, none⟩ = some (.int .i64 a0_3) := (blk_cell BK213.out 3).trans rfl; have hcz7_4 : w6.cell? ⟨gb213, 4, none⟩ = some (.slice A0_4 l0_4.length c0_4) := (blk_cell BK213.out 4).trans rfl; have hcz7_5 : w6.cell? ⟨gb213, 5, none⟩ = some (.slice A0_5 l0_5.length c0_5) := (blk_cell BK213.out 5).trans rfl; have hfz7_0 := blk_frozen BK213.out 0; have hfz7_1 := blk_frozen BK213.out 1; have hfz7_2 := blk_frozen BK213.out 2; have hfz7_3 := blk_frozen BK213.out 3; have hfz7_4 := blk_frozen BK213.out 4; have hfz7_5 := blk_frozen BK213.out 5) | ((with_reducible refine gate_callee (f := 13) rfl ?_); refine gL (some 7) Tryz.func13 #[.agg #[.int .i64 a0_0, .int .i64 a0_1, .int .i64 a0_2, .int .i64 a0_3, .slice A0_4 l0_4.length c0_4, .slice A0_5 l0_5.length c0_5]] ?_; (with_reducible refine (paraphrastref16_Valid.calls k a0_0 a0_1 a0_2 a0_3 _ _ l0_4 _ _ l0_5 true _ ?side1 ?side2 ?side3 ?side4 A2.out).mono ?_); (case side1 => exact cS (Kd.C_below HR0_4.out HB.out)); (case side2 => exact HC0_4.out); (case side3 => exact cS (Kd.C_below HR0_5.out HB.out)); (case side4 => exact HC0_5.out); rintro e w8 ⟨rfl, hb⟩; refine ⟨_, rfl, ?_⟩; replace BK213 := blB BK213 hb; replace HB := Aside0.mk (below_step bel hb); (try clear hb); (try clear hb2); (try clear hk); (try clear hi); have hcz9_0 : w8.cell? ⟨gb213, 0, none⟩ = some (.int .i64 a0_0) := (blk_cell BK213.out 0).trans rfl; have hcz9_1 : w8.cell? ⟨gb213, 1, none⟩ = some (.int .i64 a0_1) := (blk_cell BK213.out 1).trans rfl; have hcz9_2 : w8.cell? ⟨gb213, 2, none⟩ = some (.int .i64 a0_2) := (blk_cell BK213.out 2).trans rfl; have hcz9_3 : w8.cell? ⟨gb213, 3, none⟩ = some (.int .i64 a0_3) := (blk_cell BK213.out 3).trans rfl; have hcz9_4 : w8.cell? ⟨gb213, 4, none⟩ = some (.slice A0_4 l0_4.length c0_4) := (blk_cell BK213.out 4).trans rfl; have hcz9_5 : w8.cell? ⟨gb213, 5, none⟩ = some (.slice A0_5 l0_5.length c0_5) := (blk_cell BK213.out 5).trans rfl; have hfz9_0 := blk_frozen BK213.out 0; have hfz9_1 := blk_frozen BK213.out 1; have hfz9_2 := blk_frozen BK213.out 2; have hfz9_3 := blk_frozen BK213.out 3; have hfz9_4 := blk_frozen BK213.out 4; have hfz9_5 := blk_frozen BK213.out 5) | ((with_reducible refine gate_callee (f := 14) rfl ?_); refine gL (some 11) Tryz.func14 #[.agg #[.int .i64 a0_0, .int .i64 a0_1, .int .i64 a0_2, .int .i64 a0_3, .slice A0_4 l0_4.length c0_4, .slice A0_5 l0_5.length c0_5]] ?_; (with_reducible refine (paraphrastref18_Relations.calls k a0_0 a0_1 a0_2 a0_3 _ _ l0_4 _ _ l0_5 t215 true _ ?side1 ?side2 ?side3 ?side4 ?side5 A4.out).mono ?_); (case side1 => first | exact HG.out | exact Glob.below HG.out bel); (case side2 => exact cS (Kd.C_below HR0_4.out HB.out)); (case side3 => exact HC0_4.out); (case side4 => exact cS (Kd.C_below HR0_5.out HB.out)); (case side5 => exact HC0_5.out); rintro e w10 ⟨v216, rfl, ho0, hb⟩; refine ⟨_, rfl, ?_⟩; have HO217 := Aside0.mk (Kd.R_lower ho0 (below_size bel)); replace BK213 := blB BK213 hb; replace HB := Aside0.mk (below_step bel hb); (try clear hb); (try clear hb2); (try clear hk); (try clear hi); (try clear ho0)))
   go_ret2
   exact ⟨_, eN, by (with_reducible repeat (first | apply Kd.R_alloc | apply Kd.R_drewN | apply Kd.R_drew)); exact HO217.out, bel⟩
  ·replace c5 := Bool.eq_false_iff.mpr c5
   subst c5
   have H1 : (some (5, ([] : List (S46)))) = some (r1, r2) := by rw [if_neg (show ¬ (false = true) by decide)] at H; exact H
   clear H
   have H := H1
   clear H1
   simp only [Option.some.injEq, Prod.mk.injEq] at H
   obtain ⟨rfl, rfl⟩ := H
   go_enter Tryz.func6, Tryz.ntmps6
   go_wp2_with (first | ((with_reducible refine gate_dst (N := 1) rfl ?_); refine box_event ?hg (N := 1) ?hd (cs := #[.int .i64 a0_0, .int .i64 a0_1, .int .i64 a0_2, .int .i64 a0_3, .slice A0_4 l0_4.length c0_4, .slice A0_5 l0_5.length c0_5]) (t := 25) ?hr ?_; (case hd => rfl); (case hg => rfl); (case hr => first | (go_simp; done) | (go_simp; rfl)); intro gb213 hg w11 hbox hb; have BK213 := Aside0.mk (hbox); have GW213 := geB w hg; have GE213 := geB w hg; replace HB := Aside0.mk (below_step bel hb); clear hb hbox hg; have hcz12_0 : w11.cell? ⟨gb213, 0, none⟩ = some (.int .i64 a0_0) := (blk_cell BK213.out 0).trans rfl; have hcz12_1 : w11.cell? ⟨gb213, 1, none⟩ = some (.int .i64 a0_1) := (blk_cell BK213.out 1).trans rfl; have hcz12_2 : w11.cell? ⟨gb213, 2, none⟩ = some (.int .i64 a0_2) := (blk_cell BK213.out 2).trans rfl; have hcz12_3 : w11.cell? ⟨gb213, 3, none⟩ = some (.int .i64 a0_3) := (blk_cell BK213.out 3).trans rfl; have hcz12_4 : w11.cell? ⟨gb213, 4, none⟩ = some (.slice A0_4 l0_4.length c0_4) := (blk_cell BK213.out 4).trans rfl; have hcz12_5 : w11.cell? ⟨gb213, 5, none⟩ = some (.slice A0_5 l0_5.length c0_5) := (blk_cell BK213.out 5).trans rfl; have hfz12_0 := blk_frozen BK213.out 0; have hfz12_1 := blk_frozen BK213.out 1; have hfz12_2 := blk_frozen BK213.out 2; have hfz12_3 := blk_frozen BK213.out 3; have hfz12_4 := blk_frozen BK213.out 4; have hfz12_5 := blk_frozen BK213.out 5) | ((with_reducible refine gate_callee (f := 13) rfl ?_); refine gL (some 7) Tryz.func13 #[.agg #[.int .i64 a0_0, .int .i64 a0_1, .int .i64 a0_2, .int .i64 a0_3, .slice A0_4 l0_4.length c0_4, .slice A0_5 l0_5.length c0_5]] ?_; (with_reducible refine (paraphrastref16_Valid.calls k a0_0 a0_1 a0_2 a0_3 _ _ l0_4 _ _ l0_5 true _ ?side1 ?side2 ?side3 ?side4 A2.out).mono ?_); (case side1 => exact cS (Kd.C_below HR0_4.out HB.out)); (case side2 => exact HC0_4.out); (case side3 => exact cS (Kd.C_below HR0_5.out HB.out)); (case side4 => exact HC0_5.out); rintro e w13 ⟨rfl, hb⟩; refine ⟨_, rfl, ?_⟩; replace BK213 := blB BK213 hb; replace HB := Aside0.mk (below_step bel hb); (try clear hb); (try clear hb2); (try clear hk); (try clear hi); have hcz14_0 : w13.cell? ⟨gb213, 0, none⟩ = some (.int .i64 a0_0) := (blk_cell BK213.out 0).trans rfl; have hcz14_1 : w13.cell? ⟨gb213, 1, none⟩ = some (.int .i64 a0_1) := (blk_cell BK213.out 1).trans rfl; have hcz14_2 : w13.cell? ⟨gb213, 2, none⟩ = some (.int .i64 a0_2) := (blk_cell BK213.out 2).trans rfl; have hcz14_3 : w13.cell? ⟨gb213, 3, none⟩ = some (.int .i64 a0_3) := (blk_cell BK213.out 3).trans rfl; have hcz14_4 : w13.cell? ⟨gb213, 4, none⟩ = some (.slice A0_4 l0_4.length c0_4) := (blk_cell BK213.out 4).trans rfl; have hcz14_5 : w13.cell? ⟨gb213, 5, none⟩ = some (.slice A0_5 l0_5.length c0_5) := (blk_cell BK213.out 5).trans rfl; have hfz14_0 := blk_frozen BK213.out 0; have hfz14_1 := blk_frozen BK213.out 1; have hfz14_2 := blk_frozen BK213.out 2; have hfz14_3 := blk_frozen BK213.out 3; have hfz14_4 := blk_frozen BK213.out 4; have hfz14_5 := blk_frozen BK213.out 5) | ((with_reducible refine gate_callee (f := 14) rfl ?_); refine gL (some 11) Tryz.func14 #[.agg #[.int .i64 a0_0, .int .i64 a0_1, .int .i64 a0_2, .int .i64 a0_3, .slice A0_4 l0_4.length c0_4, .slice A0_5 l0_5.length c0_5]] ?_; (with_reducible refine (paraphrastref18_Relations.calls k a0_0 a0_1 a0_2 a0_3 _ _ l0_4 _ _ l0_5 t215 false _ ?side1 ?side2 ?side3 ?side4 ?side5 A4.out).mono ?_); (case side1 => first | exact HG.out | exact Glob.below HG.out bel); (case side2 => exact cS (Kd.C_below HR0_4.out HB.out)); (case side3 => exact HC0_4.out); (case side4 => exact cS (Kd.C_below HR0_5.out HB.out)); (case side5 => exact HC0_5.out); rintro e w15 ⟨v216, rfl, ho0, hb⟩; refine ⟨_, rfl, ?_⟩; have HO217 := Aside0.mk (Kd.R_lower ho0 (below_size bel)); replace BK213 := blB BK213 hb; replace HB := Aside0.mk (below_step bel hb); (try clear hb); (try clear hb2); (try clear hk); (try clear hi); (try clear ho0)))
   go_ret2
   exact ⟨_, eN, by first | exact Kd.R_nil _ _ _ _ _ | exact Kd.N_nil _ _ _ _ _ | exact Kd.V_nil _ _ _ _ _ | exact Kd.Q_nil _ _ _ _ _ | exact Kd.S_nil _ _ _ _ _, bel⟩
 ·replace c3 := Bool.eq_false_iff.mpr c3
  subst c3
  have H1 : (some (1, ([] : List (S46)))) = some (r1, r2) := by rw [if_neg (show ¬ (false = true) by decide)] at H; exact H
  clear H
  have H := H1
  clear H1
  simp only [Option.some.injEq, Prod.mk.injEq] at H
  obtain ⟨rfl, rfl⟩ := H
  go_enter Tryz.func6, Tryz.ntmps6
  go_wp2_with (first | ((with_reducible refine gate_dst (N := 1) rfl ?_); refine box_event ?hg (N := 1) ?hd (cs := #[.int .i64 a0_0, .int .i64 a0_1, .int .i64 a0_2, .int .i64 a0_3, .slice A0_4 l0_4.length c0_4, .slice A0_5 l0_5.length c0_5]) (t := 25) ?hr ?_; (case hd => rfl); (case hg => rfl); (case hr => first | (go_simp; done) | (go_simp; rfl)); intro gb213 hg w16 hbox hb; have BK213 := Aside0.mk (hbox); have GW213 := geB w hg; have GE213 := geB w hg; replace HB := Aside0.mk (below_step bel hb); clear hb hbox hg; have hcz17_0 : w16.cell? ⟨gb213, 0, none⟩ = some (.int .i64 a0_0) := (blk_cell BK213.out 0).trans rfl; have hcz17_1 : w16.cell? ⟨gb213, 1, none⟩ = some (.int .i64 a0_1) := (blk_cell BK213.out 1).trans rfl; have hcz17_2 : w16.cell? ⟨gb213, 2, none⟩ = some (.int .i64 a0_2) := (blk_cell BK213.out 2).trans rfl; have hcz17_3 : w16.cell? ⟨gb213, 3, none⟩ = some (.int .i64 a0_3) := (blk_cell BK213.out 3).trans rfl; have hcz17_4 : w16.cell? ⟨gb213, 4, none⟩ = some (.slice A0_4 l0_4.length c0_4) := (blk_cell BK213.out 4).trans rfl; have hcz17_5 : w16.cell? ⟨gb213, 5, none⟩ = some (.slice A0_5 l0_5.length c0_5) := (blk_cell BK213.out 5).trans rfl; have hfz17_0 := blk_frozen BK213.out 0; have hfz17_1 := blk_frozen BK213.out 1; have hfz17_2 := blk_frozen BK213.out 2; have hfz17_3 := blk_frozen BK213.out 3; have hfz17_4 := blk_frozen BK213.out 4; have hfz17_5 := blk_frozen BK213.out 5) | ((with_reducible refine gate_callee (f := 13) rfl ?_); refine gL (some 7) Tryz.func13 #[.agg #[.int .i64 a0_0, .int .i64 a0_1, .int .i64 a0_2, .int .i64 a0_3, .slice A0_4 l0_4.length c0_4, .slice A0_5 l0_5.length c0_5]] ?_; (with_reducible refine (paraphrastref16_Valid.calls k a0_0 a0_1 a0_2 a0_3 _ _ l0_4 _ _ l0_5 false _ ?side1 ?side2 ?side3 ?side4 A2.out).mono ?_); (case side1 => exact cS (Kd.C_below HR0_4.out HB.out)); (case side2 => exact HC0_4.out); (case side3 => exact cS (Kd.C_below HR0_5.out HB.out)); (case side4 => exact HC0_5.out); rintro e w18 ⟨rfl, hb⟩; refine ⟨_, rfl, ?_⟩; replace BK213 := blB BK213 hb; replace HB := Aside0.mk (below_step bel hb); (try clear hb); (try clear hb2); (try clear hk); (try clear hi)))
  go_ret2
  exact ⟨_, eN, by first | exact Kd.R_nil _ _ _ _ _ | exact Kd.N_nil _ _ _ _ _ | exact Kd.V_nil _ _ _ _ _ | exact Kd.Q_nil _ _ _ _ _ | exact Kd.S_nil _ _ _ _ _, bel⟩
end Go.Proofs.YtailpfcbdopfeaaGreatDoor.F
namespace Go.Proofs.YtailpfcbdopfeaaGreatDoor.F
open Go.RowKit Go.Proofs.YtailpfcbdopfeaaGreatDoorW.PrintWords Go.Proofs.YtailpfcbdopfeaaGreatDoorW.PrintLast Go.Proofs.YtailpfcbdopfeaaGreatDoorW.PrintMore
attribute [local go_sem] max2_int min2_int max_two min_two max_three min_three max_four min_four
set_option linter.unusedVariables false
set_option linter.unusedSimpArgs false
attribute [local go_sem high] eqA46
/-! ### paraphrastref12_SameSymbols: function 9 -/
def paraphrastref12_SameSymbols.l0 : Nat → List (S46) → List (S46) → Int → Option (Bool)
 | 0, _, _, _ => none
 | k + 1, x0, x1, x5 => if x5 < (x0.length : Int) then (if 0 ≤ x5 then (if x5 < (x1.length : Int) then (if (!((((rd_T46 x0 x5).f0).toList) == (((rd_T46 x1 x5).f0).toList)) || (!(((rd_T46 x0 x5).f1) == ((rd_T46 x1 x5).f1)))) = true then (some false) else (paraphrastref12_SameSymbols.l0 k x0 x1 (wrap64 (x5 + 1)))) else (none)) else (none)) else (some true)
def paraphrastref12_SameSymbols.f (k : Nat) (l0 : List (S46)) (l1 : List (S46)) : Option (Bool) := if (l0.length : Int) = (l1.length : Int) then (paraphrastref12_SameSymbols.l0 k l0 l1 0) else (some false)
theorem paraphrastref12_SameSymbols.mono_l : ∀ k, (∀ y0 y1 y2, LeO (paraphrastref12_SameSymbols.l0 k y0 y1 y2) (paraphrastref12_SameSymbols.l0 (k + 1) y0 y1 y2))
 | 0 => fun _ _ _ r h => by simp [paraphrastref12_SameSymbols.l0] at h
 | k + 1 => by
  have ih0 := paraphrastref12_SameSymbols.mono_l k
  ·intro y0 y1 y2
   unfold paraphrastref12_SameSymbols.l0
   repeat' first
   | (with_reducible exact ih0 _ _ _)
   | (with_reducible exact LeO.refl _)
   | (with_reducible exact LeO.none _)
   | (with_reducible refine LeO.ite ?_ ?_)
   | (with_reducible refine LeO.bind ?_ (fun _ => ?_))
   | exact ih0 _ _ _
   | exact LeO.none _
   | refine LeO.ite ?_ ?_
   | refine LeO.bind ?_ (fun _ => ?_)
theorem paraphrastref12_SameSymbols.mono : ∀ a0 a1 k, LeO (paraphrastref12_SameSymbols.f k a0 a1) (paraphrastref12_SameSymbols.f (k + 1) a0 a1) := by
 intro a0 a1 k
 have ih0 := paraphrastref12_SameSymbols.mono_l k
 unfold paraphrastref12_SameSymbols.f
 repeat' first
   | (with_reducible exact ih0 _ _ _)
   | (with_reducible exact LeO.refl _)
   | (with_reducible exact LeO.none _)
   | (with_reducible refine LeO.ite ?_ ?_)
   | (with_reducible refine LeO.bind ?_ (fun _ => ?_))
   | exact ih0 _ _ _
   | exact LeO.none _
   | refine LeO.ite ?_ ?_
   | refine LeO.bind ?_ (fun _ => ?_)
set_option maxHeartbeats 8000000 in
set_option maxRecDepth 100000 in
theorem paraphrastref12_SameSymbols.calls (k : Nat) (A0 : Option Addr) (c0 : Nat) (l0 : List (S46)) (A1 : Option Addr) (c1 : Nat) (l1 : List (S46)) (r : Bool) (w : World) (hr0 : Kd.C k46 w A0 l0.length l0) (hc0 : l0.length ≤ c0) (hr1 : Kd.C k46 w A1 l1.length l1) (hc1 : l1.length ≤ c1) (h : paraphrastref12_SameSymbols.f k l0 l1 = some r) :
  Calls Tryz.prog 9 #[.slice A0 l0.length c0, .slice A1 l1.length c1] w fun e w' => e = .returned (.bool r) ∧ Drawn0 w w' := by
 have hu46 := Tryz.underlying46
 have HR0 := Aside0.mk hr0
 have HC0 := Aside0.mk hc0
 clear hr0 hc0
 have HR1 := Aside0.mk hr1
 have HC1 := Aside0.mk hc1
 clear hr1 hc1
 have H : (if (l0.length : Int) = (l1.length : Int) then (paraphrastref12_SameSymbols.l0 k l0 l1 0) else (some false)) = some r := h
 clear h
 by_cases c3 : (l0.length : Int) = (l1.length : Int)
 ·rw [if_pos c3] at H
  have c3b0 : ((l0.length : Int) == (l1.length : Int)) = true := beq_iff_eq.mpr c3
  have c3b1 : ((l0.length : Int) != (l1.length : Int)) = false := bne_eq_false_iff_eq.mpr c3
  have c3b2 : (l0.length == l1.length) = true := by first | simpa using c3 | (simp at c3 ⊢; omega)
  clear c3
  have H' := Aside0.mk H
  clear H
  go_enter Tryz.func9, Tryz.ntmps9
  go_wp2
  repeat (go_quiet (fail); try go_wp2)
  go_loopg [5] k (fun kq v5 w' => ∃ (x5_1 : Int), v5 = .int .i64 x5_1 ∧ Aside0 (paraphrastref12_SameSymbols.l0 kq l0 l1 x5_1 = some r) ∧ Aside0 (kq ≤ k) ∧ Drawn0 w w')
  case atStart => exact ⟨(0), eS, H', ⟨Nat.le_refl _⟩, dr0⟩
  case round =>
   clear H'
   (try clear c1); (try clear c3); (try clear c3b0); (try clear c3b1); (try clear c3b2)
   obtain ⟨x5_1, rfl, HA, HK1, ⟨m1, rfl⟩⟩ := hrel
   cases gk with
   | zero => exact absurd HA.out (by simp [paraphrastref12_SameSymbols.l0])
   | succ k1 =>
    have H := HA.out
    clear HA
    simp only [paraphrastref12_SameSymbols.l0] at H
    by_cases c4 : x5_1 < (l0.length : Int)
    ·rw [if_pos c4] at H
     have c4b0 : decide (x5_1 < (l0.length : Int)) = true := decide_eq_true c4
     clear c4
     by_cases c5 : 0 ≤ x5_1
     ·rw [if_pos c5] at H
      have c5b0 : decide (0 ≤ x5_1) = true := decide_eq_true c5
      clear c5
      by_cases c6 : x5_1 < (l1.length : Int)
      ·rw [if_pos c6] at H
       have c6b0 : decide (x5_1 < (l1.length : Int)) = true := decide_eq_true c6
       clear c6
       by_cases c7 : (!((((rd_T46 l0 x5_1).f0).toList) == (((rd_T46 l1 x5_1).f0).toList)) || (!(((rd_T46 l0 x5_1).f1) == ((rd_T46 l1 x5_1).f1)))) = true
       ·rw [if_pos c7] at H
        have c7b0 : (!((((rd_T46 l0 x5_1).f0).toList) == (((rd_T46 l1 x5_1).f0).toList)) || (!(((rd_T46 l0 x5_1).f1) == ((rd_T46 l1 x5_1).f1)))) = true := c7
        clear c7
        obtain rfl := Option.some.inj H
        have p122 : 0 ≤ (x5_1 : Int) := dtr
        have q122 : x5_1 < (l0.length : Int) := dtr
        obtain ⟨ad122, e122, hx122_0, hx122_1⟩ := at_T46 HR0.out x5_1 p122 q122
        cases e122
        replace p122 := eq_true p122
        replace q122 := eq_true q122
        have p123 : 0 ≤ (x5_1 : Int) := dtr
        have q123 : x5_1 < (l1.length : Int) := dtr
        obtain ⟨ad123, e123, hx123_0, hx123_1⟩ := at_T46 HR1.out x5_1 p123 q123
        cases e123
        replace p123 := eq_true p123
        replace q123 := eq_true q123
        go_wp2
        repeat (go_quiet (fail); try go_wp2)
        go_ret
        exact ⟨eS, dr0⟩
       ·rw [if_neg c7] at H
        have c7b0 : (!((((rd_T46 l0 x5_1).f0).toList) == (((rd_T46 l1 x5_1).f0).toList)) || (!(((rd_T46 l0 x5_1).f1) == ((rd_T46 l1 x5_1).f1)))) = false := by simpa using c7
        clear c7
        have H' := Aside0.mk H
        clear H
        have p122 : 0 ≤ (x5_1 : Int) := dtr
        have q122 : x5_1 < (l0.length : Int) := dtr
        obtain ⟨ad122, e122, hx122_0, hx122_1⟩ := at_T46 HR0.out x5_1 p122 q122
        cases e122
        replace p122 := eq_true p122
        replace q122 := eq_true q122
        have p123 : 0 ≤ (x5_1 : Int) := dtr
        have q123 : x5_1 < (l1.length : Int) := dtr
        obtain ⟨ad123, e123, hx123_0, hx123_1⟩ := at_T46 HR1.out x5_1 p123 q123
        cases e123
        replace p123 := eq_true p123
        replace q123 := eq_true q123
        go_wp2
        repeat (go_quiet (fail); try go_wp2)
        go_roundg k1
        case measure => have := HK1.out; omega
        case rel => exact ⟨(wrap64 (x5_1 + 1)), eS, H', ⟨by have := HK1.out; omega⟩, dr0⟩
      ·rw [if_neg c6] at H
       exact absurd H (by simp)
     ·rw [if_neg c5] at H
      exact absurd H (by simp)
    ·rw [if_neg c4] at H
     have c4b0 : decide (x5_1 < (l0.length : Int)) = false := decide_eq_false c4
     clear c4
     obtain rfl := Option.some.inj H
     go_wp2
     repeat (go_quiet (fail); try go_wp2)
     go_ret
     exact ⟨eS, dr0⟩
 ·rw [if_neg c3] at H
  have c3b0 : ((l0.length : Int) == (l1.length : Int)) = false := beq_eq_false_iff_ne.mpr c3
  have c3b1 : ((l0.length : Int) != (l1.length : Int)) = true := bne_iff_ne.mpr c3
  have c3b2 : (l0.length == l1.length) = false := by first | simpa using c3 | (simp at c3 ⊢; omega)
  obtain rfl := Option.some.inj H
  go_enter Tryz.func9, Tryz.ntmps9
  go_wp2
  repeat (go_quiet (fail); try go_wp2)
  go_ret
  exact ⟨eS, dr0⟩
end Go.Proofs.YtailpfcbdopfeaaGreatDoor.F
/- GuessRelations, the plain law: the document's Relations. -/
namespace Go.Proofs.YtailpfcbdopfeaaGreatDoor.F
open Go.RowKit Go.Proofs.YtailpfcbdopfeaaGreatDoorW.PrintWords Go.Proofs.YtailpfcbdopfeaaGreatDoorW.PrintLast Go.Proofs.YtailpfcbdopfeaaGreatDoorW.PrintMore
set_option linter.unusedVariables false
set_option linter.unusedSimpArgs false
def nmsB (y z m : Nat) : List ByteArray := rowB 89 y m ++ hdB m :: rowB 90 z m
def longB (l : List ByteArray) : Bool := l.any fun n => decide (12 < n.size)
theorem nmsB_len (y z m : Nat) : (nmsB y z m).length = y + z + 1 := by
  unfold nmsB
  rw [List.length_append, List.length_cons, rowB_len, rowB_len]
  omega
theorem rel1 (n0 n1 n2 n3 : Int) (ls : List S42) (ss : List S69) (y : Nat) (l : List ByteArray) (hl : l.length ≤ 1000) (h2 : 0 ≤ n2 ∧ n2 ≤ 100) (h3 : 0 ≤ n3 ∧ n3 ≤ 100) : ∀ (d i k : Nat), i + d = l.length → d + 1 ≤ k →
    paraphrastref18_Relations.l1 k (y : Int) l ((relL y (n3 + n2) n3 l).take i) (i : Int) n0 n1 n2 n3 ls ss = some (if longB (l.drop i) = true then ([], false) else (relL y (n3 + n2) n3 l, true))
  | 0, i, k + 1, h, hk => by
    have hd : l.drop i = [] := by rw [List.drop_eq_nil_iff]; omega
    have ht : (relL y (n3 + n2) n3 l).take i = relL y (n3 + n2) n3 l := List.take_of_length_le (by rw [relL_len]; omega)
    unfold paraphrastref18_Relations.l1
    rw [if_neg (by omega), hd, ht]
    rfl
  | d + 1, i, k + 1, h, hk => by
    have hi : i < l.length := by omega
    have ih := rel1 n0 n1 n2 n3 ls ss y l hl h2 h3 d (i + 1) k (by omega) (by omega)
    have hr := rds_str hi
    have hd : l.drop i = rdOf ByteArray.empty l (i : Int) :: l.drop (i + 1) := by
      rw [List.drop_eq_getElem_cons hi]
      have := (List.getElem?_eq_getElem hi).symm.trans hr
      rw [Option.some.inj this]
    have hlt : ((relL y (n3 + n2) n3 l).take i).length < 5864062014805 := by
      rw [List.length_take, relL_len]
      omega
    have hat := relL_at (y := y) (a := n3 + n2) (b := n3) hr
    rw [take_snocG hat] at ih
    unfold paraphrastref18_Relations.l1
    rw [if_pos (by omega), if_pos (by omega), hd]
    by_cases hs : ((rdOf ByteArray.empty l (i : Int)).size : Int) > 12
    · rw [if_pos hs]
      have : longB (rdOf ByteArray.empty l (i : Int) :: l.drop (i + 1)) = true := by
        unfold longB
        rw [List.any_cons, decide_eq_true (by omega), Bool.true_or]
      rw [if_pos this]
    · rw [if_neg hs]
      have hlg : longB (rdOf ByteArray.empty l (i : Int) :: l.drop (i + 1)) = longB (l.drop (i + 1)) := by
        unfold longB
        rw [List.any_cons, decide_eq_false (by omega), Bool.false_or]
      rw [hlg, w1 (by omega)]
      by_cases hy : (i : Int) ≤ (y : Int)
      · rw [if_pos hy, if_pos hlt, ← ih, if_neg (show ¬ y < i by omega), show wrap64 (n3 + n2) = n3 + n2 by unfold wrap64; omega]
      · rw [if_neg hy, if_pos hlt, ← ih, if_pos (show y < i by omega)]
theorem symR_eq (n0 n1 n2 n3 : Int) (ls : List S42) (ss : List S69) (hl : ls.length ≤ 4) (hlit : ∀ l ∈ ls, litB n2 l = true) : paraphrastref16_Symbols.f n0 n1 n2 n3 ls ss = some (symsL ls) := by
  unfold paraphrastref16_Symbols.f paraphrastref12_SymbolsOf.f
  rw [if_pos ⟨by omega, fun x hx => (lit_small (hlit x hx)).2⟩]
  rfl
/-- What the document's Relations answers, m letters behind the names. -/
def valV (n2 n3 : Int) (y z m : Nat) : List S46 × Bool := if longB (nmsB y z m) = true then ([], false) else (relL y (n3 + n2) n3 (nmsB y z m), true)
theorem rel0 (n0 n1 n2 n3 : Int) (ls : List S42) (ss : List S69) (y z : Nat) (hy : y ≤ 9) (hz : z ≤ 9) (h2 : 0 ≤ n2 ∧ n2 ≤ 100) (h3 : 0 ≤ n3 ∧ n3 ≤ 100) (hl : ls.length ≤ 4) (hlit : ∀ l ∈ ls, litB n2 l = true) : ∀ (d m k : Nat), sizeB ls ≤ m + d → m + d ≤ 5000000 → d + 6000000 ≤ k →
    paraphrastref18_Relations.l0 k (y : Int) (z : Int) (m : Int) n0 n1 n2 n3 ls ss = some (valV n2 n3 y z (manyF ls y z d m))
  | d, m, 0, _, _, hk => by omega
  | d, m, k + 1, h, hm, hk => by
    have hn := names_eq y z m k (by omega) (by omega) (by omega) (by omega)
    have hlen := nmsB_len y z m
    have hsy := symsL_len ls
    have hmul : (nmsB y z m).length * ((symsL ls).length + 2) ≤ 19 * 6 := Nat.mul_le_mul (by omega) (by omega)
    have hf := free_eq (nmsB y z m) (symsL ls) (by omega) (by omega) k (by omega)
    have htk : (nmsB y z m).any (hitB (symsL ls)) = takenB ls y z m := taken_eq ls y z m
    rw [htk] at hf
    have h1 := rel1 n0 n1 n2 n3 ls ss y (nmsB y z m) (by omega) h2 h3 (nmsB y z m).length 0 k (by omega) (by omega)
    rw [List.take_zero, List.drop_zero] at h1
    unfold paraphrastref18_Relations.l0
    rw [hn, Option.bind_some, symR_eq n0 n1 n2 n3 ls ss hl hlit, Option.bind_some]
    show (paraphrastref18_free.f k (nmsB y z m) (symsL ls)).bind _ = _
    rw [hf, Option.bind_some]
    cases ht : takenB ls y z m with
    | false =>
      have hmF : manyF ls y z d m = m := by
        cases d with
        | zero => rfl
        | succ d => unfold manyF; rw [ht, if_neg (by simp)]
      rw [if_pos (by rfl), Option.bind_some, hmF]
      exact h1
    | true =>
      have hms := taken_size ht
      obtain ⟨d, rfl⟩ : ∃ d', d = d' + 1 := ⟨d - 1, by omega⟩
      have hmF : manyF ls y z (d + 1) m = manyF ls y z d (m + 1) := by
        conv => lhs; unfold manyF
        rw [ht, if_pos rfl]
      rw [if_neg (by simp), hmF, w1' (by omega)]
      exact rel0 n0 n1 n2 n3 ls ss y z hy hz h2 h3 hl hlit d (m + 1) k (by omega) (by omega) (by omega)
theorem relR_eq (n0 n1 n2 n3 : Int) (ls : List S42) (ss : List S69) (hok : TapeOk n0 n1 n2 n3 ls ss) (k : Nat) (hk : 12000000 ≤ k) : paraphrastref18_Relations.f k n0 n1 n2 n3 ls ss = some (valV n2 n3 (bitB n1) (bitB n0) (manyB ls (bitB n1) (bitB n0))) := by
  have b0 : 2 ≤ n0 ∧ n0 ≤ 400 := by simpa [wi] using hok.h0
  have b1 : 1 ≤ n1 ∧ n1 ≤ 16 := by simpa [wi] using hok.h1
  have b2 : 1 ≤ n2 ∧ n2 ≤ 3 := by simpa [wi] using hok.h2
  have b3 : 1 ≤ n3 ∧ n3 ≤ 3 := by simpa [wi] using hok.h3
  have hsz : sizeB ls ≤ 4000000 := by
    have h := sizeB_le (fun x hx => (lit_small (hok.lit x hx)).1)
    have := hok.len4
    omega
  unfold paraphrastref18_Relations.f
  rw [up_ (fun k => paraphrastref13_Bits.f k n1) (paraphrastref13_Bits.mono n1) (show 20 ≤ k by omega) (bitr_eq (by omega) (by omega)), Option.bind_some, up_ (fun k => paraphrastref13_Bits.f k n0) (paraphrastref13_Bits.mono n0) (show 20 ≤ k by omega) (bitr_eq (by omega) (by omega)), Option.bind_some]
  exact rel0 n0 n1 n2 n3 ls ss (bitB n1) (bitB n0) (bit_eq (by omega) (by omega)).2 (bit_eq (by omega) (by omega)).2 (by omega) (by omega) hok.len4 hok.lit (sizeB ls) 0 k (by omega) (by omega) (by omega)
/-! ### a name that is short enough is a name -/
theorem nm_fin : ((List.range 10).all fun i => (List.range 13).all fun m => (nameB (nmB 89 m i) == decide ((nmB 89 m i).size ≤ 12)) && (nameB (nmB 90 m i) == decide ((nmB 90 m i).size ≤ 12)) && (nameB (hdB m) == decide ((hdB m).size ≤ 12))) = true := by kernel_rfl
theorem name_big {s : ByteArray} (h : 12 < s.size) : nameB s = decide (s.size ≤ 12) := by
  unfold nameB
  rw [decide_eq_false (show ¬ s.size ≤ 12 by omega), Bool.and_false, Bool.false_and, Bool.false_and, Bool.false_and]
theorem nm_some {m i : Nat} (hi : i < 10) : nameB (nmB 89 m i) = decide ((nmB 89 m i).size ≤ 12) ∧ nameB (nmB 90 m i) = decide ((nmB 90 m i).size ≤ 12) ∧ nameB (hdB m) = decide ((hdB m).size ≤ 12) := by
  by_cases hm : m ≤ 12
  · have h := List.all_eq_true.1 (List.all_eq_true.1 nm_fin i (by rw [List.mem_range]; omega)) m (by rw [List.mem_range]; omega)
    simp only [Bool.and_eq_true, beq_iff_eq] at h
    exact ⟨h.1.1, h.1.2, h.2⟩
  · have hn : ∀ c, 12 < (nmB c m i).size := fun c => by
      unfold nmB
      rw [mkB_size]
      simp
      omega
    have hh : 12 < (hdB m).size := by
      unfold hdB
      rw [mkB_size]
      simp
      omega
    exact ⟨name_big (hn 89), name_big (hn 90), name_big hh⟩
theorem nms_name {y z m : Nat} (hy : y ≤ 9) (hz : z ≤ 9) {n : ByteArray} (h : n ∈ nmsB y z m) : nameB n = decide (n.size ≤ 12) := by
  unfold nmsB at h
  rw [List.mem_append, List.mem_cons] at h
  rcases h with h | rfl | h
  · obtain ⟨i, hi, rfl⟩ := List.mem_map.1 h
    rw [List.mem_range] at hi
    exact (nm_some (by omega)).1
  · exact (nm_some (i := 0) (by omega)).2.2
  · obtain ⟨i, hi, rfl⟩ := List.mem_map.1 h
    rw [List.mem_range] at hi
    exact (nm_some (by omega)).2.1
theorem relL_map (y : Nat) (a b : Int) (l : List ByteArray) : (relL y a b l).map (·.f0) = l := by
  apply List.ext_getElem?
  intro i
  rw [List.getElem?_map]
  cases h : l[i]? with
  | none =>
    rw [List.getElem?_eq_none_iff] at h
    rw [List.getElem?_eq_none (by rw [relL_len]; exact h)]
    rfl
  | some x => rw [relL_at h]; rfl
theorem any_long {y z m : Nat} (hy : y ≤ 9) (hz : z ≤ 9) (a b : Int) : (relL y a b (nmsB y z m)).any (fun s => !nameB s.f0) = longB (nmsB y z m) := by
  have h : (relL y a b (nmsB y z m)).any (fun s => !nameB s.f0) = ((relL y a b (nmsB y z m)).map (·.f0)).any (fun n => !nameB n) := by rw [List.any_map]; rfl
  rw [h, relL_map]
  unfold longB
  rw [Bool.eq_iff_iff, List.any_eq_true, List.any_eq_true]
  refine exists_congr fun n => and_congr_right fun hn => ?_
  rw [nms_name hy hz hn]
  simp
/-- THE DOCUMENT's answer is the walk's. -/
theorem code_eq (n0 n1 n2 n3 : Int) (ls : List S42) (ss : List S69) (k : Nat) (hk : 12000000 ≤ k) : paraphrastlaw18_code.f k n0 n1 n2 n3 ls ss = some ((relsE n0 n1 n2 n3 ls ss).2, (relsE n0 n1 n2 n3 ls ss).1) := by
  unfold paraphrastlaw18_code.f relsE
  rw [valR_eq n0 n1 n2 n3 ls ss k (by omega), Option.bind_some]
  by_cases hok : TapeOk n0 n1 n2 n3 ls ss
  · have b0 : 2 ≤ n0 ∧ n0 ≤ 400 := by simpa [wi] using hok.h0
    have b1 : 1 ≤ n1 ∧ n1 ≤ 16 := by simpa [wi] using hok.h1
    have hB : (relsB n0 n1 n2 n3 ls).any (fun s => !nameB s.f0) = longB (nmsB (bitB n1) (bitB n0) (manyB ls (bitB n1) (bitB n0))) := any_long (bit_eq (by omega) (by omega)).2 (bit_eq (by omega) (by omega)).2 _ _
    rw [decide_eq_true hok, if_pos rfl, if_pos hok, relR_eq n0 n1 n2 n3 ls ss hok k hk, Option.bind_some, hB]
    unfold valV
    cases longB (nmsB (bitB n1) (bitB n0) (manyB ls (bitB n1) (bitB n0))) with
    | true => rfl
    | false => rfl
  · rw [decide_eq_false hok, if_neg (by simp), if_neg hok]
theorem sym_refl (l : List S46) (hl : l.length ≤ 1000) : ∀ (d i k : Nat), i + d = l.length → d + 1 ≤ k → paraphrastref12_SameSymbols.l0 k l l (i : Int) = some true
  | 0, i, k + 1, h, hk => by
    unfold paraphrastref12_SameSymbols.l0
    rw [if_neg (by omega)]
  | d + 1, i, k + 1, h, hk => by
    have ih := sym_refl l hl d (i + 1) k (by omega) (by omega)
    unfold paraphrastref12_SameSymbols.l0
    rw [if_pos (by omega), if_pos (by omega), if_pos (by omega), if_neg (by simp), w1 (by omega)]
    exact ih
theorem sym_same (l : List S46) (hl : l.length ≤ 1000) (k : Nat) (hk : 1001 ≤ k) : paraphrastref12_SameSymbols.f k l l = some true := by
  unfold paraphrastref12_SameSymbols.f
  rw [if_pos rfl]
  exact sym_refl l hl l.length 0 k (by omega) (by omega)
theorem relsE_len (n0 n1 n2 n3 : Int) (ls : List S42) (ss : List S69) : (relsE n0 n1 n2 n3 ls ss).1.length ≤ 1000 := by
  unfold relsE
  by_cases hok : TapeOk n0 n1 n2 n3 ls ss
  · have b0 : 2 ≤ n0 ∧ n0 ≤ 400 := by simpa [wi] using hok.h0
    have b1 : 1 ≤ n1 ∧ n1 ≤ 16 := by simpa [wi] using hok.h1
    have h0 := (bit_eq (n := n0) (by omega) (by omega)).2
    have h1 := (bit_eq (n := n1) (by omega) (by omega)).2
    rw [if_pos hok]
    split
    · simp
    · show (relL (bitB n1) (n3 + n2) n3 (nmsB (bitB n1) (bitB n0) (manyB ls (bitB n1) (bitB n0)))).length ≤ 1000
      rw [relL_len, nmsB_len]
      omega
  · rw [if_neg hok]
    simp
end Go.Proofs.YtailpfcbdopfeaaGreatDoor.F
namespace Go.Proofs.YtailpfcbdopfeaaGreatDoor.F
open Go.RowKit Go.Proofs.YtailpfcbdopfeaaGreatDoorW.PrintWords Go.Proofs.YtailpfcbdopfeaaGreatDoorW.PrintLast Go.Proofs.YtailpfcbdopfeaaGreatDoorW.PrintMore
attribute [local go_sem] max2_int min2_int max_two min_two max_three min_three max_four min_four
set_option linter.unusedVariables false
set_option linter.unusedSimpArgs false
/-! ### shape_power: function 101 -/
def shape_power.l0 : Nat → Int → Int → Int → Int → Int → Option (Int)
 | 0, _, _, _, _, _ => none
 | k + 1, x0, x2, x7, x8, x9 => if x9 < x8 then (if (wrap64 (x7 * x0)) > x2 then (some (-1)) else (shape_power.l0 k x0 x2 (wrap64 (x7 * x0)) x8 (wrap64 (x9 + 1)))) else (some x7)
def shape_power.f (k : Nat) (a0 : Int) (a1 : Int) (a2 : Int) : Option (Int) := shape_power.l0 k a0 a2 1 a1 0
theorem shape_power.mono_l : ∀ k, (∀ y0 y1 y2 y3 y4, LeO (shape_power.l0 k y0 y1 y2 y3 y4) (shape_power.l0 (k + 1) y0 y1 y2 y3 y4))
 | 0 => fun _ _ _ _ _ r h => by simp [shape_power.l0] at h
 | k + 1 => by
  have ih0 := shape_power.mono_l k
  ·intro y0 y1 y2 y3 y4
   unfold shape_power.l0
   repeat' first
   | (with_reducible exact ih0 _ _ _ _ _)
   | (with_reducible exact LeO.refl _)
   | (with_reducible exact LeO.none _)
   | (with_reducible refine LeO.ite ?_ ?_)
   | (with_reducible refine LeO.bind ?_ (fun _ => ?_))
   | exact ih0 _ _ _ _ _
   | exact LeO.none _
   | refine LeO.ite ?_ ?_
   | refine LeO.bind ?_ (fun _ => ?_)
theorem shape_power.mono : ∀ a0 a1 a2 k, LeO (shape_power.f k a0 a1 a2) (shape_power.f (k + 1) a0 a1 a2) := by
 intro a0 a1 a2 k
 have ih0 := shape_power.mono_l k
 unfold shape_power.f
 repeat' first
   | (with_reducible exact ih0 _ _ _ _ _)
   | (with_reducible exact LeO.refl _)
   | (with_reducible exact LeO.none _)
   | (with_reducible refine LeO.ite ?_ ?_)
   | (with_reducible refine LeO.bind ?_ (fun _ => ?_))
   | exact ih0 _ _ _ _ _
   | exact LeO.none _
   | refine LeO.ite ?_ ?_
   | refine LeO.bind ?_ (fun _ => ?_)
set_option maxHeartbeats 8000000 in
set_option maxRecDepth 100000 in
theorem shape_power.calls (k : Nat) (a0 : Int) (a1 : Int) (a2 : Int) (r : Int) (w : World) (h : shape_power.f k a0 a1 a2 = some r) :
  Calls Tryz.prog 101 #[.int .i64 a0, .int .i64 a1, .int .i64 a2] w fun e w' => e = .returned (.int .i64 r) ∧ Drawn0 w w' := by
 have H : (shape_power.l0 k a0 a2 1 a1 0) = some r := h
 clear h
 have H' := Aside0.mk H
 clear H
 go_enter Tryz.func101, Tryz.ntmps101
 go_wp2
 go_loopg [7, 9] k (fun kq v7 v9 w' => ∃ (x7_1 : Int) (x9_1 : Int), v7 = .int .i64 x7_1 ∧ v9 = .int .i64 x9_1 ∧ Aside0 (shape_power.l0 kq a0 a2 x7_1 a1 x9_1 = some r) ∧ Aside0 (kq ≤ k) ∧ Drawn0 w w')
 case atStart => exact ⟨(1), (0), eS, eS, H', ⟨Nat.le_refl _⟩, dr0⟩
 case round =>
  clear H'
  obtain ⟨x7_1, x9_1, rfl, rfl, HA, HK1, ⟨m1, rfl⟩⟩ := hrel
  cases gk with
  | zero => exact absurd HA.out (by simp [shape_power.l0])
  | succ k1 =>
   have H := HA.out
   clear HA
   simp only [shape_power.l0] at H
   by_cases c4 : x9_1 < a1
   ·rw [if_pos c4] at H
    have c4b0 : decide (x9_1 < a1) = true := decide_eq_true c4
    clear c4
    by_cases c5 : (wrap64 (x7_1 * a0)) > a2
    ·rw [if_pos c5] at H
     have c5b0 : decide (a2 < (wrap64 (x7_1 * a0))) = true := decide_eq_true c5
     clear c5
     obtain rfl := Option.some.inj H
     go_wp2
     go_ret
     exact ⟨eS, dr0⟩
    ·rw [if_neg c5] at H
     have c5b0 : decide (a2 < (wrap64 (x7_1 * a0))) = false := decide_eq_false c5
     clear c5
     have H' := Aside0.mk H
     clear H
     go_wp2
     go_roundg k1
     case measure => have := HK1.out; omega
     case rel => exact ⟨(wrap64 (x7_1 * a0)), (wrap64 (x9_1 + 1)), eS, eS, H', ⟨by have := HK1.out; omega⟩, dr0⟩
   ·rw [if_neg c4] at H
    have c4b0 : decide (x9_1 < a1) = false := decide_eq_false c4
    clear c4
    obtain rfl := Option.some.inj H
    go_wp2
    go_ret
    exact ⟨eS, dr0⟩
end Go.Proofs.YtailpfcbdopfeaaGreatDoor.F
