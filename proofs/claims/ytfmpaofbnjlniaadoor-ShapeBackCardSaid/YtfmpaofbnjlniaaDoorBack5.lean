/- Part 5 of the proof: ShapeBack: for every structure and every string, Parse inverts Text, and a string that Parse accepts is the text of the structure parsed; no condition. -/
import Derived.Test.YtfmpaofbnjlniaaDoorBack4
namespace Go.Proofs.YtfmpaofbnjlniaaDoor.F
open Go.RowKit Go.Proofs.YtfmpaofbnjlniaaDoorW.PrintWords Go.Proofs.YtfmpaofbnjlniaaDoorW.PrintLast Go.Proofs.YtfmpaofbnjlniaaDoorW.PrintMore
attribute [local go_sem] max2_int min2_int max_two min_two max_three min_three max_four min_four
set_option linter.unusedVariables false
set_option linter.unusedSimpArgs false
theorem far_ne28 {W : World} {p : Addr} {v : Value} {g : Nat} (h : W.cell? p = some v) (hg : W.heap.size ≤ g) : p.block ≠ g := Nat.ne_of_lt (Nat.lt_of_lt_of_le (World.block_lt_of_cell? _ _ h) hg)
/-! ### paraphrastref01_Same: function 28 -/
mutual
def paraphrastref01_Same.j0 : Nat → Bool → Int → List (S54) → Int → List (S54) → Option (Bool)
  | 0, _, _, _, _, _ => none
  | k + 1, x21, x310000, x310001, x311000, x311001 => if x21 = true then (some false) else (paraphrastref01_Same.l0 k 0 x310000 x310001 x311000 x311001)
def paraphrastref01_Same.l0 : Nat → Int → Int → List (S54) → Int → List (S54) → Option (Bool)
  | 0, _, _, _, _, _ => none
  | k + 1, x5, x310000, x310001, x311000, x311001 => if x5 < (x310001.length : Int) then (if 0 ≤ x5 then (if x5 < (x311001.length : Int) then (if ((rd_T54 x310001 x5).f0).toList = ((rd_T54 x311001 x5).f0).toList then (if ((rd_T54 x310001 x5).f1) = ((rd_T54 x311001 x5).f1) then ((paraphrastref01_SameTuples.f k ((rd_T54 x310001 x5).f2) ((rd_T54 x311001 x5).f2)).bind fun t315 => (if t315 = true then (paraphrastref01_Same.l0 k (wrap64 (x5 + 1)) x310000 x310001 x311000 x311001) else (some false))) else (some false)) else (some false)) else (none)) else (none)) else (some true)
end
def paraphrastref01_Same.f (k : Nat) (a0_0 : Int) (l0_1 : List (S54)) (a1_0 : Int) (l1_1 : List (S54)) : Option (Bool) := if a0_0 = a1_0 then (paraphrastref01_Same.j0 k ((l0_1.length : Int) != (l1_1.length : Int)) a0_0 l0_1 a1_0 l1_1) else (paraphrastref01_Same.j0 k true a0_0 l0_1 a1_0 l1_1)
def paraphrastref01_Same.T6 : Bool × List (List Nat × List Nat) := (true, [([], []), ([0], [0]), ([], []), ([1, 2], [1, 2]), ([3], [3]), ([], []), ([5], [5]), ([], []), ([6, 7], [6, 7]), ([8], [8]), ([], []), ([], []), ([10, 4, 0, 1, 2, 3, 4, 10, 11], [4, 10]), ([11, 9, 12, 0, 1, 2, 3, 4, 5, 6, 7, 8, 9, 10, 11, 12], [9, 11])])
def paraphrastref01_Same.B6 : List Nat := [0, 1, 0, 7, 15, 0, 32, 0, 224, 480, 0, 0, 3103, 8191]
theorem paraphrastref01_Same.tab6 : rtab .any (opsOf Tryd.f28 6) = paraphrastref01_Same.T6 := by kernel_rfl
theorem paraphrastref01_Same.bits6 : waitsOk paraphrastref01_Same.T6.2 paraphrastref01_Same.B6 = true := by kernel_rfl
set_option maxHeartbeats 8000000 in
set_option maxRecDepth 100000 in
theorem paraphrastref01_Same.calls (k : Nat) (a0_0 : Int) (A0_1 : Option Addr) (c0_1 : Nat) (l0_1 : List (S54)) (a1_0 : Int) (A1_1 : Option Addr) (c1_1 : Nat) (l1_1 : List (S54)) (r : Bool) (w : World) (hr0_1 : Kd.C k54 w A0_1 l0_1.length l0_1) (hc0_1 : l0_1.length ≤ c0_1) (hr1_1 : Kd.C k54 w A1_1 l1_1.length l1_1) (hc1_1 : l1_1.length ≤ c1_1) (h : paraphrastref01_Same.f k a0_0 l0_1 a1_0 l1_1 = some r) :
    Calls Tryd.prog 28 #[.agg #[.int .i64 a0_0, .slice A0_1 l0_1.length c0_1], .agg #[.int .i64 a1_0, .slice A1_1 l1_1.length c1_1]] w fun e w' => e = .returned (.bool r) ∧ Below w.heap.size w w' := by
  have hu38 := Tryd.underlying38
  have hu54 := Tryd.underlying54
  have HR0_1 := Aside0.mk hr0_1
  have HC0_1 := Aside0.mk hc0_1
  clear hr0_1 hc0_1
  have HR1_1 := Aside0.mk hr1_1
  have HC1_1 := Aside0.mk hc1_1
  clear hr1_1 hc1_1
  have HB := Aside0.mk (Below.refl w.heap.size w)
  have H : (if a0_0 = a1_0 then (paraphrastref01_Same.j0 k ((l0_1.length : Int) != (l1_1.length : Int)) a0_0 l0_1 a1_0 l1_1) else (paraphrastref01_Same.j0 k true a0_0 l0_1 a1_0 l1_1)) = some r := h
  clear h
  have HC3 := Aside0.mk H
  clear H
  go_enter Tryd.func28, Tryd.ntmps28
  go_upto_region 1 with (first | ((with_reducible refine gate_dst (N := 2) rfl ?_); (try (refine gate_guard (by rfl) ?_; dsimp only)); refine box_event ?hg (N := 2) ?hd (cs := #[.int .i64 a0_0, .slice A0_1 l0_1.length c0_1]) (t := 38) ?hr ?_; (case hd => rfl); (case hg => rfl); (case hr => first | (go_simp; done) | (go_simp; rfl)); intro gb309 hg w4 hbox hb; have n0_ := Aside0.mk (below_step (by repeat (first | (with_reducible first | exact HB.out | apply below_alloc | apply pw_below_drewN | apply below_drew1) | exact HB.out)) hb); have n1_ := Aside0.mk (hbox); have n2_ := Aside0.mk ((by rw [hg]; exact (below_size (by repeat (first | (with_reducible first | exact HB.out | apply below_alloc | apply pw_below_drewN | apply below_drew1) | exact HB.out))) : w.heap.size ≤ gb309)); have n3_ := Aside0.mk ((by rw [hg]; exact (below_size (by repeat (first | (with_reducible first | exact HB.out | apply below_alloc | apply pw_below_drewN | apply below_drew1) | exact HB.out))) : w.heap.size ≤ gb309)); clear HB; have HB := n0_; have BK309 := n1_; have GW309 := n2_; have GE309 := n3_; clear n0_ n1_ n2_ n3_; clear hb hbox hg) | ((with_reducible refine gate_dst (N := 3) rfl ?_); (try (refine gate_guard (by rfl) ?_; dsimp only)); refine box_event ?hg (N := 3) ?hd (cs := #[.int .i64 a1_0, .slice A1_1 l1_1.length c1_1]) (t := 38) ?hr ?_; (case hd => rfl); (case hg => rfl); (case hr => first | (go_simp; done) | (go_simp; rfl)); intro gb310 hg w5 hbox hb; have n0_ := Aside0.mk (blk_below (g := gb309) (o := .cells #[.int .i64 a0_0, .slice A0_1 l0_1.length c0_1] 38 (0, 0)) (by (with_reducible repeat (first | refine blk_drewN ?_ _ | refine blk_drew ?_ | refine blk_alloc ?_ _)); exact BK309.out) hb); have n1_ := Aside0.mk (below_step (by repeat (first | (with_reducible first | exact HB.out | apply below_alloc | apply pw_below_drewN | apply below_drew1 | refine below_set ?_ GE309.out) | exact HB.out)) hb); have n2_ := Aside0.mk (hbox); have n3_ := Aside0.mk ((by rw [hg]; exact (below_size (by repeat (first | (with_reducible first | exact HB.out | apply below_alloc | apply pw_below_drewN | apply below_drew1 | refine below_set ?_ GE309.out) | exact HB.out))) : w.heap.size ≤ gb310)); have n4_ := Aside0.mk ((by rw [hg]; exact (below_size (by repeat (first | (with_reducible first | exact HB.out | apply below_alloc | apply pw_below_drewN | apply below_drew1 | refine below_set ?_ GE309.out) | exact HB.out))) : w.heap.size ≤ gb310)); have n5_ := Aside0.mk ((by rw [hg]; exact Nat.ne_of_lt (blk_lt (g := gb309) (o := .cells #[.int .i64 a0_0, .slice A0_1 l0_1.length c0_1] 38 (0, 0)) (by (with_reducible repeat (first | refine blk_drewN ?_ _ | refine blk_drew ?_ | refine blk_alloc ?_ _)); exact BK309.out)) : gb309 ≠ gb310)); have n6_ := Aside0.mk ((by rw [hg]; exact Nat.ne_of_gt (blk_lt (g := gb309) (o := .cells #[.int .i64 a0_0, .slice A0_1 l0_1.length c0_1] 38 (0, 0)) (by (with_reducible repeat (first | refine blk_drewN ?_ _ | refine blk_drew ?_ | refine blk_alloc ?_ _)); exact BK309.out)) : gb310 ≠ gb309)); clear BK309; clear HB; have BK309 := n0_; have HB := n1_; have BK310 := n2_; have GW310 := n3_; have GE310 := n4_; have NB309_310 := n5_; have NB310_309 := n6_; clear n0_ n1_ n2_ n3_ n4_ n5_ n6_; clear hb hbox hg))
  (try simp only [Act.put, List.setIfInBounds_toArray, List.set_cons_zero, List.set_cons_succ])
  go_cut [21] (fun v21 wc => ∃ (kq : Nat) (x21_2 : Bool), v21 = .bool x21_2 ∧ Aside0 (paraphrastref01_Same.j0 kq x21_2 a0_0 l0_1 a1_0 l1_1 = some r) ∧ Aside0 (kq ≤ k) ∧ Aside0 (wc.heap[gb309]? = some (.cells #[.int .i64 a0_0, (.slice A0_1 l0_1.length c0_1)] 38 (0, 0))) ∧ Aside0 (wc.heap[gb310]? = some (.cells #[.int .i64 a1_0, (.slice A1_1 l1_1.length c1_1)] 38 (0, 0))) ∧ Aside0 (Below w.heap.size w wc))
  case first =>
    have H := HC3.out
    clear HC3
    by_cases c6 : a0_0 = a1_0
    · rw [if_pos c6] at H
      have c6b0 : (a0_0 == a1_0) = true := beq_iff_eq.mpr c6
      have c6b1 : (a0_0 != a1_0) = false := bne_eq_false_iff_eq.mpr c6
      clear c6
      (first | rw [c6b0] | (simp only [i64_w, i32_w]; rw [c6b0]) | skip)
      have H' := Aside0.mk H
      clear H
      have hnb7 := NB309_310.out
      have hnc7 := NB310_309.out
      have hcz8_0 : w5.cell? ⟨gb309, 0, none⟩ = some (.int .i64 a0_0) := (blk_cell BK309.out 0).trans rfl
      have hcz8_1 : w5.cell? ⟨gb309, 1, none⟩ = some (.slice A0_1 l0_1.length c0_1) := (blk_cell BK309.out 1).trans rfl
      have hfz8_0 := blk_frozen BK309.out 0
      have hfz8_1 := blk_frozen BK309.out 1
      have hcz9_0 : w5.cell? ⟨gb310, 0, none⟩ = some (.int .i64 a1_0) := (blk_cell BK310.out 0).trans rfl
      have hcz9_1 : w5.cell? ⟨gb310, 1, none⟩ = some (.slice A1_1 l1_1.length c1_1) := (blk_cell BK310.out 1).trans rfl
      have hfz9_0 := blk_frozen BK310.out 0
      have hfz9_1 := blk_frozen BK310.out 1
      go_wp2
      go_meet
      case rel => exact ⟨_, (((l0_1.length : Int) != (l1_1.length : Int))), (by first | rfl | (simp; done) | (simp [*]; done)), H', ⟨by first | omega | exact Nat.le_refl _⟩, ⟨by (with_reducible repeat (first | refine blk_drewN ?_ _ | refine blk_drew ?_ | refine blk_alloc ?_ _)); exact BK309.out⟩, ⟨by (with_reducible repeat (first | refine blk_drewN ?_ _ | refine blk_drew ?_ | refine blk_alloc ?_ _)); exact BK310.out⟩, ⟨by repeat (first | (with_reducible first | exact HB.out | apply below_alloc | apply pw_below_drewN | apply below_drew1 | refine below_set ?_ GE309.out | refine below_set ?_ GE310.out) | exact HB.out)⟩⟩
    · rw [if_neg c6] at H
      have c6b0 : (a0_0 == a1_0) = false := beq_eq_false_iff_ne.mpr c6
      have c6b1 : (a0_0 != a1_0) = true := bne_iff_ne.mpr c6
      (first | rw [c6b0] | (simp only [i64_w, i32_w]; rw [c6b0]) | skip)
      have H' := Aside0.mk H
      clear H
      have hnb10 := NB309_310.out
      have hnc10 := NB310_309.out
      have hcz11_0 : w5.cell? ⟨gb309, 0, none⟩ = some (.int .i64 a0_0) := (blk_cell BK309.out 0).trans rfl
      have hcz11_1 : w5.cell? ⟨gb309, 1, none⟩ = some (.slice A0_1 l0_1.length c0_1) := (blk_cell BK309.out 1).trans rfl
      have hfz11_0 := blk_frozen BK309.out 0
      have hfz11_1 := blk_frozen BK309.out 1
      have hcz12_0 : w5.cell? ⟨gb310, 0, none⟩ = some (.int .i64 a1_0) := (blk_cell BK310.out 0).trans rfl
      have hcz12_1 : w5.cell? ⟨gb310, 1, none⟩ = some (.slice A1_1 l1_1.length c1_1) := (blk_cell BK310.out 1).trans rfl
      have hfz12_0 := blk_frozen BK310.out 0
      have hfz12_1 := blk_frozen BK310.out 1
      go_wp2
      go_meet
      case rel => exact ⟨_, (true), (by first | rfl | (simp; done) | (simp [*]; done)), H', ⟨by first | omega | exact Nat.le_refl _⟩, ⟨by (with_reducible repeat (first | refine blk_drewN ?_ _ | refine blk_drew ?_ | refine blk_alloc ?_ _)); exact BK309.out⟩, ⟨by (with_reducible repeat (first | refine blk_drewN ?_ _ | refine blk_drew ?_ | refine blk_alloc ?_ _)); exact BK310.out⟩, ⟨by repeat (first | (with_reducible first | exact HB.out | apply below_alloc | apply pw_below_drewN | apply below_drew1 | refine below_set ?_ GE309.out | refine below_set ?_ GE310.out) | exact HB.out)⟩⟩
  case rest =>
    clear HC3
    try clear c1
    try clear c2
    try clear p2
    try clear c6
    try clear c6b0
    try clear c6b1
    try clear c7
    try clear c10
    try clear hcz11_0
    try clear hcz11_1
    try clear hcz12_0
    try clear hcz12_1
    try clear hcz8_0
    try clear hcz8_1
    try clear hcz9_0
    try clear hcz9_1
    try clear hfz11_0
    try clear hfz11_1
    try clear hfz12_0
    try clear hfz12_1
    try clear hfz8_0
    try clear hfz8_1
    try clear hfz9_0
    try clear hfz9_1
    obtain ⟨kq, x21_2, rfl, HA, HJ2, BK309, BK310, HB⟩ := hcut
    cases kq with
    | zero => exact absurd HA.out (by simp [paraphrastref01_Same.j0])
    | succ kj2 =>
      have H := HA.out
      clear HA
      simp only [paraphrastref01_Same.j0] at H
      by_cases c13 : x21_2 = true
      · subst c13
        have H1 : (some false) = some r := by rw [if_pos rfl] at H; exact H
        clear H
        have H := H1
        clear H1
        obtain rfl := Option.some.inj H
        go_wp2
        go_ret
        exact ⟨by first | rfl | (simp [errW_none, errW_some] <;> rfl) | (simp [*, errW_none, errW_some] <;> rfl), by repeat (first | (with_reducible first | exact HB.out | apply below_alloc | apply pw_below_drewN | apply below_drew1 | refine below_set ?_ GE309.out | refine below_set ?_ GE310.out) | exact HB.out)⟩
      · replace c13 := Bool.eq_false_iff.mpr c13
        subst c13
        have H1 : (paraphrastref01_Same.l0 kj2 0 a0_0 l0_1 a1_0 l1_1) = some r := by rw [if_neg (show ¬ (false = true) by decide)] at H; exact H
        clear H
        have H := H1
        clear H1
        have H' := Aside0.mk H
        clear H
        go_wp2
        go_loopg [5] kj2 (fun kq v5 w' => ∃ (x5_2 : Int), v5 = .int .i64 x5_2 ∧ Aside0 (paraphrastref01_Same.l0 kq x5_2 a0_0 l0_1 a1_0 l1_1 = some r) ∧ Aside0 (kq ≤ kj2) ∧ Aside0 (w'.heap[gb309]? = some (.cells #[.int .i64 a0_0, (.slice A0_1 l0_1.length c0_1)] 38 (0, 0))) ∧ Aside0 (w'.heap[gb310]? = some (.cells #[.int .i64 a1_0, (.slice A1_1 l1_1.length c1_1)] 38 (0, 0))) ∧ Aside0 (Below w.heap.size w w'))
        case atStart => exact ⟨(0), (by first | rfl | (simp; done) | (simp [*]; done)), H', ⟨Nat.le_refl _⟩, ⟨by (with_reducible repeat (first | refine blk_drewN ?_ _ | refine blk_drew ?_ | refine blk_alloc ?_ _)); exact BK309.out⟩, ⟨by (with_reducible repeat (first | refine blk_drewN ?_ _ | refine blk_drew ?_ | refine blk_alloc ?_ _)); exact BK310.out⟩, ⟨by repeat (first | (with_reducible first | exact HB.out | apply below_alloc | apply pw_below_drewN | apply below_drew1 | refine below_set ?_ GE309.out | refine below_set ?_ GE310.out) | exact HB.out)⟩⟩
        case round =>
          clear H'
          try clear c1
          try clear c2
          try clear p2
          try clear c6
          try clear c6b0
          try clear c6b1
          try clear c7
          try clear c10
          try clear c13
          try clear hcz11_0
          try clear hcz11_1
          try clear hcz12_0
          try clear hcz12_1
          try clear hcz8_0
          try clear hcz8_1
          try clear hcz9_0
          try clear hcz9_1
          try clear hfz11_0
          try clear hfz11_1
          try clear hfz12_0
          try clear hfz12_1
          try clear hfz8_0
          try clear hfz8_1
          try clear hfz9_0
          try clear hfz9_1
          try clear p2
          obtain ⟨x5_2, rfl, HA, HK2, BK309, BK310, HB⟩ := hrel
          cases gk with
          | zero => exact absurd HA.out (by simp [paraphrastref01_Same.l0])
          | succ k2 =>
            have H := HA.out
            clear HA
            simp only [paraphrastref01_Same.l0] at H
            by_cases c14 : x5_2 < (l0_1.length : Int)
            · rw [if_pos c14] at H
              have c14b0 : decide (x5_2 < (l0_1.length : Int)) = true := decide_eq_true c14
              clear c14
              by_cases c15 : 0 ≤ x5_2
              · rw [if_pos c15] at H
                have c15b0 : decide (0 ≤ x5_2) = true := decide_eq_true c15
                clear c15
                by_cases c16 : x5_2 < (l1_1.length : Int)
                · rw [if_pos c16] at H
                  have c16b0 : decide (x5_2 < (l1_1.length : Int)) = true := decide_eq_true c16
                  clear c16
                  by_cases c17 : ((rd_T54 l0_1 x5_2).f0).toList = ((rd_T54 l1_1 x5_2).f0).toList
                  · rw [if_pos c17] at H
                    have c17b0 : (((rd_T54 l0_1 x5_2).f0).toList == ((rd_T54 l1_1 x5_2).f0).toList) = true := beq_iff_eq.mpr c17
                    have c17b1 : (((rd_T54 l0_1 x5_2).f0).toList != ((rd_T54 l1_1 x5_2).f0).toList) = false := bne_eq_false_iff_eq.mpr c17
                    clear c17
                    by_cases c18 : ((rd_T54 l0_1 x5_2).f1) = ((rd_T54 l1_1 x5_2).f1)
                    · rw [if_pos c18] at H
                      have c18b0 : (((rd_T54 l0_1 x5_2).f1) == ((rd_T54 l1_1 x5_2).f1)) = true := beq_iff_eq.mpr c18
                      have c18b1 : (((rd_T54 l0_1 x5_2).f1) != ((rd_T54 l1_1 x5_2).f1)) = false := bne_eq_false_iff_eq.mpr c18
                      clear c18
                      replace H := Option.bind_eq_some_iff.mp H
                      obtain ⟨t315, A190, H⟩ := H
                      replace H : (if t315 = true then (paraphrastref01_Same.l0 k2 (wrap64 (x5_2 + 1)) a0_0 l0_1 a1_0 l1_1) else (some false)) = some r := H
                      have A19 := Aside0.mk A190
                      clear A190
                      by_cases c20 : t315 = true
                      · subst c20
                        have H1 : (paraphrastref01_Same.l0 k2 (wrap64 (x5_2 + 1)) a0_0 l0_1 a1_0 l1_1) = some r := by rw [if_pos rfl] at H; exact H
                        clear H
                        have H := H1
                        clear H1
                        have H' := Aside0.mk H
                        clear H
                        have hnb21 := NB309_310.out
                        have hnc21 := NB310_309.out
                        have hcz22_0 : wr.cell? ⟨gb309, 0, none⟩ = some (.int .i64 a0_0) := (blk_cell BK309.out 0).trans rfl
                        have hcz22_1 : wr.cell? ⟨gb309, 1, none⟩ = some (.slice A0_1 l0_1.length c0_1) := (blk_cell BK309.out 1).trans rfl
                        have hfz22_0 := blk_frozen BK309.out 0
                        have hfz22_1 := blk_frozen BK309.out 1
                        try go_wp2
                        have n0_ := Aside0.mk (blk_drew BK309.out)
                        have n1_ := Aside0.mk (blk_drew BK310.out)
                        have n2_ := Aside0.mk (below_drew1 HB.out)
                        clear BK309
                        clear BK310
                        clear HB
                        have BK309 := n0_
                        have BK310 := n1_
                        have HB := n2_
                        clear n0_ n1_ n2_
                        have p311 : 0 ≤ (x5_2 : Int) := of_decide_eq_true (by first | (with_reducible assumption) | assumption)
                        have q311 : x5_2 < (l0_1.length : Int) := of_decide_eq_true (by first | (with_reducible assumption) | assumption)
                        obtain ⟨ad311, A311_2, c311_2, e311, hx311_0, hx311_1, hx311_2, hl311_2, hi311_2⟩ := at_T54 HR0_1.out x5_2 p311 q311
                        have hw311_2 := hx311_2
                        have hw311_1 := hx311_1
                        have hw311_0 := hx311_0
                        cases e311
                        replace hx311_0 := (HB.out.cell (World.block_lt_of_cell? w _ hx311_0)).trans hx311_0
                        replace hx311_1 := (HB.out.cell (World.block_lt_of_cell? w _ hx311_1)).trans hx311_1
                        replace hx311_2 := (HB.out.cell (World.block_lt_of_cell? w _ hx311_2)).trans hx311_2
                        have HR311_2 := Aside0.mk hi311_2
                        have HC311_2 := Aside0.mk hl311_2
                        clear hi311_2 hl311_2
                        replace p311 := eq_true p311
                        replace q311 := eq_true q311
                        have p312 : 0 ≤ (x5_2 : Int) := of_decide_eq_true (by first | (with_reducible assumption) | assumption)
                        have q312 : x5_2 < (l1_1.length : Int) := of_decide_eq_true (by first | (with_reducible assumption) | assumption)
                        obtain ⟨ad312, A312_2, c312_2, e312, hx312_0, hx312_1, hx312_2, hl312_2, hi312_2⟩ := at_T54 HR1_1.out x5_2 p312 q312
                        have hw312_2 := hx312_2
                        have hw312_1 := hx312_1
                        have hw312_0 := hx312_0
                        cases e312
                        replace hx312_0 := (HB.out.cell (World.block_lt_of_cell? w _ hx312_0)).trans hx312_0
                        replace hx312_1 := (HB.out.cell (World.block_lt_of_cell? w _ hx312_1)).trans hx312_1
                        replace hx312_2 := (HB.out.cell (World.block_lt_of_cell? w _ hx312_2)).trans hx312_2
                        have HR312_2 := Aside0.mk hi312_2
                        have HC312_2 := Aside0.mk hl312_2
                        clear hi312_2 hl312_2
                        replace p312 := eq_true p312
                        replace q312 := eq_true q312
                        refine start_ (n := 14) (S := fun w' => w'.cell? ⟨gb309, 0, none⟩ = some (.int .i64 a0_0) ∧ w'.cell? ⟨gb309, 1, none⟩ = some (.slice (some ad311) l0_1.length c0_1) ∧ w'.cell? ⟨gb310, 0, none⟩ = some (.int .i64 a1_0) ∧ w'.cell? ⟨gb310, 1, none⟩ = some (.slice (some ad312) l1_1.length c1_1) ∧ w'.cell? (ad311.add ((x5_2).toNat * 3)) = some (.string ((rd_T54 l0_1 x5_2).f0)) ∧ w'.cell? ⟨(ad311.add ((x5_2).toNat * 3)).block, (ad311.add ((x5_2).toNat * 3)).off + 1, none⟩ = some (.int .i64 ((rd_T54 l0_1 x5_2).f1)) ∧ w'.cell? ⟨(ad311.add ((x5_2).toNat * 3)).block, (ad311.add ((x5_2).toNat * 3)).off + 2, none⟩ = some (.slice A311_2 ((rd_T54 l0_1 x5_2).f2).length c311_2) ∧ w'.cell? (ad312.add ((x5_2).toNat * 3)) = some (.string ((rd_T54 l1_1 x5_2).f0)) ∧ w'.cell? ⟨(ad312.add ((x5_2).toNat * 3)).block, (ad312.add ((x5_2).toNat * 3)).off + 1, none⟩ = some (.int .i64 ((rd_T54 l1_1 x5_2).f1)) ∧ w'.cell? ⟨(ad312.add ((x5_2).toNat * 3)).block, (ad312.add ((x5_2).toNat * 3)).off + 2, none⟩ = some (.slice A312_2 ((rd_T54 l1_1 x5_2).f2).length c312_2)) (ds := []) #[false, false, false, false, false, false, false, false, false, false, false, false, false, false] (by kernel_rfl) rfl rfl ⟨(blk_cell BK309.out 0).trans rfl, (blk_cell BK309.out 1).trans rfl, (blk_cell BK310.out 0).trans rfl, (blk_cell BK310.out 1).trans rfl, ((HB.out.cell (World.block_lt_of_cell? w _ hw311_0)).trans hw311_0), ((HB.out.cell (World.block_lt_of_cell? w _ hw311_1)).trans hw311_1), ((HB.out.cell (World.block_lt_of_cell? w _ hw311_2)).trans hw311_2), ((HB.out.cell (World.block_lt_of_cell? w _ hw312_0)).trans hw312_0), ((HB.out.cell (World.block_lt_of_cell? w _ hw312_1)).trans hw312_1), ((HB.out.cell (World.block_lt_of_cell? w _ hw312_2)).trans hw312_2)⟩ (fun hHeld => ?_); refine with_tabW paraphrastref01_Same.tab6 paraphrastref01_Same.bits6 (fun HT_ HW_ => ?_)
                        generalize wr.drew = w23 at BK309 BK310 HB HR311_2 HR312_2 hx311_0 hx311_1 hx311_2 hx312_0 hx312_1 hx312_2 hHeld ⊢
                        refine pure_ (i := 0) (N := some 29) (v := ?_) (a' := ?_) #[true, false, false, false, false, false, false, false, false, false, false, false, false, false] rfl rfl (any_of HT_.out (by kernel_rfl)) (fun _ _ _ h => h) (Or.inl ⟨by rfl, ?_⟩) ?_ ?_
                        rotate_left
                        · intro w'
                          go_simp
                          with_reducible rfl
                        rotate_left
                        · simp only [Act.put, List.setIfInBounds_toArray, List.set_cons_zero, List.set_cons_succ, i64_w, i32_w]
                          rfl
                        refine pure_ (i := 2) (N := some 31) (v := ?_) (a' := ?_) #[true, false, true, false, false, false, false, false, false, false, false, false, false, false] rfl rfl (any_of HT_.out (by kernel_rfl)) (fun _ _ _ h => h) (Or.inl ⟨by rfl, ?_⟩) ?_ ?_
                        rotate_left
                        · intro w'
                          go_simp
                          with_reducible rfl
                        rotate_left
                        · simp only [Act.put, List.setIfInBounds_toArray, List.set_cons_zero, List.set_cons_succ, i64_w, i32_w]
                          rfl
                        refine pure_ (i := 5) (N := some 34) (v := ?_) (a' := ?_) #[true, false, true, false, false, true, false, false, false, false, false, false, false, false] rfl rfl (any_of HT_.out (by kernel_rfl)) (fun _ _ _ h => h) (Or.inl ⟨by rfl, ?_⟩) ?_ ?_
                        rotate_left
                        · intro w'
                          go_simp
                          with_reducible rfl
                        rotate_left
                        · simp only [Act.put, List.setIfInBounds_toArray, List.set_cons_zero, List.set_cons_succ, i64_w, i32_w]
                          rfl
                        refine pure_ (i := 7) (N := some 36) (v := ?_) (a' := ?_) #[true, false, true, false, false, true, false, true, false, false, false, false, false, false] rfl rfl (any_of HT_.out (by kernel_rfl)) (fun _ _ _ h => h) (Or.inl ⟨by rfl, ?_⟩) ?_ ?_
                        rotate_left
                        · intro w'
                          go_simp
                          with_reducible rfl
                        rotate_left
                        · simp only [Act.put, List.setIfInBounds_toArray, List.set_cons_zero, List.set_cons_succ, i64_w, i32_w]
                          rfl
                        refine take_ (i := 1) (N := some 30) (v := ?_) (a' := ?_) #[true, true, true, false, false, true, false, true, false, false, false, false, false, false] rfl rfl (take_ofW HT_.out HW_.out (by kernel_rfl)) (fun _ _ _ h => h) (Or.inl ⟨by rfl, ?_⟩) hHeld ?_ ?_
                        rotate_left
                        · rintro w' ⟨s0, s1, s2, s3, s4, s5, s6, s7, s8, s9⟩
                          go_simp
                          with_reducible rfl
                        rotate_left
                        · simp only [Act.put, List.setIfInBounds_toArray, List.set_cons_zero, List.set_cons_succ, i64_w, i32_w]
                          rfl
                        refine pure_ (i := 3) (N := some 32) (v := ?_) (a' := ?_) #[true, true, true, true, false, true, false, true, false, false, false, false, false, false] rfl rfl (any_of HT_.out (by kernel_rfl)) (fun _ _ _ h => h) (Or.inl ⟨by rfl, ?_⟩) ?_ ?_
                        rotate_left
                        · intro w'
                          go_simp
                          with_reducible rfl
                        rotate_left
                        · simp only [Act.put, List.setIfInBounds_toArray, List.set_cons_zero, List.set_cons_succ, i64_w, i32_w]
                          rfl
                        refine take_ (i := 4) (N := some 33) (v := ?_) (a' := ?_) #[true, true, true, true, true, true, false, true, false, false, false, false, false, false] rfl rfl (take_ofW HT_.out HW_.out (by kernel_rfl)) (fun _ _ _ h => h) (Or.inl ⟨by rfl, ?_⟩) hHeld ?_ ?_
                        rotate_left
                        · rintro w' ⟨s0, s1, s2, s3, s4, s5, s6, s7, s8, s9⟩
                          go_simp
                          with_reducible rfl
                        rotate_left
                        · simp only [Act.put, List.setIfInBounds_toArray, List.set_cons_zero, List.set_cons_succ, i64_w, i32_w]
                          rfl
                        refine take_ (i := 6) (N := some 35) (v := ?_) (a' := ?_) #[true, true, true, true, true, true, true, true, false, false, false, false, false, false] rfl rfl (take_ofW HT_.out HW_.out (by kernel_rfl)) (fun _ _ _ h => h) (Or.inl ⟨by rfl, ?_⟩) hHeld ?_ ?_
                        rotate_left
                        · rintro w' ⟨s0, s1, s2, s3, s4, s5, s6, s7, s8, s9⟩
                          go_simp
                          with_reducible rfl
                        rotate_left
                        · simp only [Act.put, List.setIfInBounds_toArray, List.set_cons_zero, List.set_cons_succ, i64_w, i32_w]
                          rfl
                        refine pure_ (i := 8) (N := some 37) (v := ?_) (a' := ?_) #[true, true, true, true, true, true, true, true, true, false, false, false, false, false] rfl rfl (any_of HT_.out (by kernel_rfl)) (fun _ _ _ h => h) (Or.inl ⟨by rfl, ?_⟩) ?_ ?_
                        rotate_left
                        · intro w'
                          go_simp
                          with_reducible rfl
                        rotate_left
                        · simp only [Act.put, List.setIfInBounds_toArray, List.set_cons_zero, List.set_cons_succ, i64_w, i32_w]
                          rfl
                        refine take_ (i := 9) (N := some 38) (v := ?_) (a' := ?_) #[true, true, true, true, true, true, true, true, true, true, false, false, false, false] rfl rfl (take_ofW HT_.out HW_.out (by kernel_rfl)) (fun _ _ _ h => h) (Or.inl ⟨by rfl, ?_⟩) hHeld ?_ ?_
                        rotate_left
                        · rintro w' ⟨s0, s1, s2, s3, s4, s5, s6, s7, s8, s9⟩
                          go_simp
                          with_reducible rfl
                        rotate_left
                        · simp only [Act.put, List.setIfInBounds_toArray, List.set_cons_zero, List.set_cons_succ, i64_w, i32_w]
                          rfl
                        refine join_ (σ := Nat × Nat) 2 #[true, true, true, true, true, true, true, true, true, true, true, true, false, false] (fun s_ => [(6, .pointer (some ⟨s_.1, 0, none⟩)), (7, .pointer (some ⟨s_.2, 0, none⟩))]) (fun s_ w' => (w'.cell? ⟨gb309, 0, none⟩ = some (.int .i64 a0_0) ∧ w'.cell? ⟨gb309, 1, none⟩ = some (.slice (some ad311) l0_1.length c0_1) ∧ w'.cell? ⟨gb310, 0, none⟩ = some (.int .i64 a1_0) ∧ w'.cell? ⟨gb310, 1, none⟩ = some (.slice (some ad312) l1_1.length c1_1) ∧ w'.cell? (ad311.add ((x5_2).toNat * 3)) = some (.string ((rd_T54 l0_1 x5_2).f0)) ∧ w'.cell? ⟨(ad311.add ((x5_2).toNat * 3)).block, (ad311.add ((x5_2).toNat * 3)).off + 1, none⟩ = some (.int .i64 ((rd_T54 l0_1 x5_2).f1)) ∧ w'.cell? ⟨(ad311.add ((x5_2).toNat * 3)).block, (ad311.add ((x5_2).toNat * 3)).off + 2, none⟩ = some (.slice A311_2 ((rd_T54 l0_1 x5_2).f2).length c311_2) ∧ w'.cell? (ad312.add ((x5_2).toNat * 3)) = some (.string ((rd_T54 l1_1 x5_2).f0)) ∧ w'.cell? ⟨(ad312.add ((x5_2).toNat * 3)).block, (ad312.add ((x5_2).toNat * 3)).off + 1, none⟩ = some (.int .i64 ((rd_T54 l1_1 x5_2).f1)) ∧ w'.cell? ⟨(ad312.add ((x5_2).toNat * 3)).block, (ad312.add ((x5_2).toNat * 3)).off + 2, none⟩ = some (.slice A312_2 ((rd_T54 l1_1 x5_2).f2).length c312_2)) ∧ (w'.heap[gb309]? = some (.cells #[.int .i64 a0_0, .slice (some ad311) l0_1.length c0_1] 38 (0, 0))) ∧ (w'.heap[gb310]? = some (.cells #[.int .i64 a1_0, .slice (some ad312) l1_1.length c1_1] 38 (0, 0))) ∧ (w'.heap[s_.1]? = some (.cells #[.string (⟨#[]⟩ : ByteArray), .int .i64 0, .slice none 0 0] 54 (0, 0))) ∧ (w'.heap[s_.2]? = some (.cells #[.string (⟨#[]⟩ : ByteArray), .int .i64 0, .slice none 0 0] 54 (0, 0))) ∧ (w.heap.size ≤ s_.1) ∧ (w.heap.size ≤ s_.1) ∧ (gb309 ≠ s_.1) ∧ (s_.1 ≠ gb309) ∧ (gb310 ≠ s_.1) ∧ (s_.1 ≠ gb310) ∧ (s_.2 ≠ s_.1) ∧ (s_.1 ≠ s_.2) ∧ (w.heap.size ≤ s_.2) ∧ (w.heap.size ≤ s_.2) ∧ (gb309 ≠ s_.2) ∧ (s_.2 ≠ gb309) ∧ (gb310 ≠ s_.2) ∧ (s_.2 ≠ gb310) ∧ (Below w.heap.size w w')) ?_ ?_
                        rotate_left
                        · intro hCont
                          refine two_ (i := 10) (j := 11) (Ni := some 6) (Nj := some 7) #[true, true, true, true, true, true, true, true, true, true, true, false, false, false] #[true, true, true, true, true, true, true, true, true, true, false, true, false, false] rfl rfl rfl rfl (two_of HT_.out (by kernel_rfl)) (by decide) (by decide) (fun K hK => ?_) (fun K hK => ?_)
                          · skip
                            refine box_step ?hg (N := 6) ?hd (cs := #[.string (⟨#[]⟩ : ByteArray), .int .i64 0, .slice none 0 0]) (t := 54) ?hr ?_; (case hd => rfl); (case hg => rfl); (case hr => first | (go_simp; done) | (go_simp; rfl))
                            intro gb313 hg w24 hbox hb
                            have n0_ := Aside0.mk (blk_below (g := gb309) (o := .cells #[.int .i64 a0_0, .slice (some ad311) l0_1.length c0_1] 38 (0, 0)) (by (with_reducible repeat (first | refine blk_drewN ?_ _ | refine blk_drew ?_ | refine blk_alloc ?_ _)); exact BK309.out) hb)
                            have n1_ := Aside0.mk (blk_below (g := gb310) (o := .cells #[.int .i64 a1_0, .slice (some ad312) l1_1.length c1_1] 38 (0, 0)) (by (with_reducible repeat (first | refine blk_drewN ?_ _ | refine blk_drew ?_ | refine blk_alloc ?_ _)); exact BK310.out) hb)
                            have n2_ := Aside0.mk (below_step (by repeat (first | (with_reducible first | exact HB.out | apply below_alloc | apply pw_below_drewN | apply below_drew1 | refine below_set ?_ GE309.out | refine below_set ?_ GE310.out) | exact HB.out)) hb)
                            have n3_ := Aside0.mk (hbox)
                            have n4_ := Aside0.mk ((by rw [hg]; exact (below_size (by repeat (first | (with_reducible first | exact HB.out | apply below_alloc | apply pw_below_drewN | apply below_drew1 | refine below_set ?_ GE309.out | refine below_set ?_ GE310.out) | exact HB.out))) : w.heap.size ≤ gb313))
                            have n5_ := Aside0.mk ((by rw [hg]; exact (below_size (by repeat (first | (with_reducible first | exact HB.out | apply below_alloc | apply pw_below_drewN | apply below_drew1 | refine below_set ?_ GE309.out | refine below_set ?_ GE310.out) | exact HB.out))) : w.heap.size ≤ gb313))
                            have n6_ := Aside0.mk ((by rw [hg]; exact Nat.ne_of_lt (blk_lt (g := gb309) (o := .cells #[.int .i64 a0_0, .slice (some ad311) l0_1.length c0_1] 38 (0, 0)) (by (with_reducible repeat (first | refine blk_drewN ?_ _ | refine blk_drew ?_ | refine blk_alloc ?_ _)); exact BK309.out)) : gb309 ≠ gb313))
                            have n7_ := Aside0.mk ((by rw [hg]; exact Nat.ne_of_gt (blk_lt (g := gb309) (o := .cells #[.int .i64 a0_0, .slice (some ad311) l0_1.length c0_1] 38 (0, 0)) (by (with_reducible repeat (first | refine blk_drewN ?_ _ | refine blk_drew ?_ | refine blk_alloc ?_ _)); exact BK309.out)) : gb313 ≠ gb309))
                            have n8_ := Aside0.mk ((by rw [hg]; exact Nat.ne_of_lt (blk_lt (g := gb310) (o := .cells #[.int .i64 a1_0, .slice (some ad312) l1_1.length c1_1] 38 (0, 0)) (by (with_reducible repeat (first | refine blk_drewN ?_ _ | refine blk_drew ?_ | refine blk_alloc ?_ _)); exact BK310.out)) : gb310 ≠ gb313))
                            have n9_ := Aside0.mk ((by rw [hg]; exact Nat.ne_of_gt (blk_lt (g := gb310) (o := .cells #[.int .i64 a1_0, .slice (some ad312) l1_1.length c1_1] 38 (0, 0)) (by (with_reducible repeat (first | refine blk_drewN ?_ _ | refine blk_drew ?_ | refine blk_alloc ?_ _)); exact BK310.out)) : gb313 ≠ gb310))
                            clear BK309
                            clear BK310
                            clear HB
                            have BK309 := n0_
                            have BK310 := n1_
                            have HB := n2_
                            have BK313 := n3_
                            have GW313 := n4_
                            have GE313 := n5_
                            have NB309_313 := n6_
                            have NB313_309 := n7_
                            have NB310_313 := n8_
                            have NB313_310 := n9_
                            clear n0_ n1_ n2_ n3_ n4_ n5_ n6_ n7_ n8_ n9_
                            clear hb hbox hg
                            refine hK.out _ _ ⟨(blk_cell BK309.out 0).trans rfl, (blk_cell BK309.out 1).trans rfl, (blk_cell BK310.out 0).trans rfl, (blk_cell BK310.out 1).trans rfl, ((HB.out.cell (World.block_lt_of_cell? w _ hw311_0)).trans hw311_0), ((HB.out.cell (World.block_lt_of_cell? w _ hw311_1)).trans hw311_1), ((HB.out.cell (World.block_lt_of_cell? w _ hw311_2)).trans hw311_2), ((HB.out.cell (World.block_lt_of_cell? w _ hw312_0)).trans hw312_0), ((HB.out.cell (World.block_lt_of_cell? w _ hw312_1)).trans hw312_1), ((HB.out.cell (World.block_lt_of_cell? w _ hw312_2)).trans hw312_2)⟩ (fun hHeld => ?_)
                            clear hK K
                            refine norm_ (a' := ?_) ?_ ?_
                            rotate_left
                            · show Act.put _ (some 6) _ = _
                              simp only [Act.put, List.setIfInBounds_toArray, List.set_cons_zero, List.set_cons_succ, i64_w, i32_w]
                              rfl
                            refine one_ (i := 11) (N := some 7) #[true, true, true, true, true, true, true, true, true, true, true, true, false, false] rfl rfl (one_of HT_.out (by kernel_rfl)) (by decide) (fun K hK => ?_)
                            refine box_step ?hg (N := 7) ?hd (cs := #[.string (⟨#[]⟩ : ByteArray), .int .i64 0, .slice none 0 0]) (t := 54) ?hr ?_; (case hd => rfl); (case hg => rfl); (case hr => first | (go_simp; done) | (go_simp; rfl))
                            intro gb314 hg w25 hbox hb
                            have n0_ := Aside0.mk (blk_below (g := gb309) (o := .cells #[.int .i64 a0_0, .slice (some ad311) l0_1.length c0_1] 38 (0, 0)) (by (with_reducible repeat (first | refine blk_drewN ?_ _ | refine blk_drew ?_ | refine blk_alloc ?_ _)); exact BK309.out) hb)
                            have n1_ := Aside0.mk (blk_below (g := gb310) (o := .cells #[.int .i64 a1_0, .slice (some ad312) l1_1.length c1_1] 38 (0, 0)) (by (with_reducible repeat (first | refine blk_drewN ?_ _ | refine blk_drew ?_ | refine blk_alloc ?_ _)); exact BK310.out) hb)
                            have n2_ := Aside0.mk (blk_below (g := gb313) (o := .cells #[.string (⟨#[]⟩ : ByteArray), .int .i64 0, .slice none 0 0] 54 (0, 0)) (by (with_reducible repeat (first | refine blk_drewN ?_ _ | refine blk_drew ?_ | refine blk_alloc ?_ _)); exact BK313.out) hb)
                            have n3_ := Aside0.mk (below_step (by repeat (first | (with_reducible first | exact HB.out | apply below_alloc | apply pw_below_drewN | apply below_drew1 | refine below_set ?_ GE309.out | refine below_set ?_ GE310.out | refine below_set ?_ GE313.out) | exact HB.out)) hb)
                            have n4_ := Aside0.mk (hbox)
                            have n5_ := Aside0.mk ((by rw [hg]; exact (below_size (by repeat (first | (with_reducible first | exact HB.out | apply below_alloc | apply pw_below_drewN | apply below_drew1 | refine below_set ?_ GE309.out | refine below_set ?_ GE310.out | refine below_set ?_ GE313.out) | exact HB.out))) : w.heap.size ≤ gb314))
                            have n6_ := Aside0.mk ((by rw [hg]; exact (below_size (by repeat (first | (with_reducible first | exact HB.out | apply below_alloc | apply pw_below_drewN | apply below_drew1 | refine below_set ?_ GE309.out | refine below_set ?_ GE310.out | refine below_set ?_ GE313.out) | exact HB.out))) : w.heap.size ≤ gb314))
                            have n7_ := Aside0.mk ((by rw [hg]; exact Nat.ne_of_lt (blk_lt (g := gb309) (o := .cells #[.int .i64 a0_0, .slice (some ad311) l0_1.length c0_1] 38 (0, 0)) (by (with_reducible repeat (first | refine blk_drewN ?_ _ | refine blk_drew ?_ | refine blk_alloc ?_ _)); exact BK309.out)) : gb309 ≠ gb314))
                            have n8_ := Aside0.mk ((by rw [hg]; exact Nat.ne_of_gt (blk_lt (g := gb309) (o := .cells #[.int .i64 a0_0, .slice (some ad311) l0_1.length c0_1] 38 (0, 0)) (by (with_reducible repeat (first | refine blk_drewN ?_ _ | refine blk_drew ?_ | refine blk_alloc ?_ _)); exact BK309.out)) : gb314 ≠ gb309))
                            have n9_ := Aside0.mk ((by rw [hg]; exact Nat.ne_of_lt (blk_lt (g := gb310) (o := .cells #[.int .i64 a1_0, .slice (some ad312) l1_1.length c1_1] 38 (0, 0)) (by (with_reducible repeat (first | refine blk_drewN ?_ _ | refine blk_drew ?_ | refine blk_alloc ?_ _)); exact BK310.out)) : gb310 ≠ gb314))
                            have n10_ := Aside0.mk ((by rw [hg]; exact Nat.ne_of_gt (blk_lt (g := gb310) (o := .cells #[.int .i64 a1_0, .slice (some ad312) l1_1.length c1_1] 38 (0, 0)) (by (with_reducible repeat (first | refine blk_drewN ?_ _ | refine blk_drew ?_ | refine blk_alloc ?_ _)); exact BK310.out)) : gb314 ≠ gb310))
                            have n11_ := Aside0.mk ((by rw [hg]; exact Nat.ne_of_lt (blk_lt (g := gb313) (o := .cells #[.string (⟨#[]⟩ : ByteArray), .int .i64 0, .slice none 0 0] 54 (0, 0)) (by (with_reducible repeat (first | refine blk_drewN ?_ _ | refine blk_drew ?_ | refine blk_alloc ?_ _)); exact BK313.out)) : gb313 ≠ gb314))
                            have n12_ := Aside0.mk ((by rw [hg]; exact Nat.ne_of_gt (blk_lt (g := gb313) (o := .cells #[.string (⟨#[]⟩ : ByteArray), .int .i64 0, .slice none 0 0] 54 (0, 0)) (by (with_reducible repeat (first | refine blk_drewN ?_ _ | refine blk_drew ?_ | refine blk_alloc ?_ _)); exact BK313.out)) : gb314 ≠ gb313))
                            clear BK309
                            clear BK310
                            clear BK313
                            clear HB
                            have BK309 := n0_
                            have BK310 := n1_
                            have BK313 := n2_
                            have HB := n3_
                            have BK314 := n4_
                            have GW314 := n5_
                            have GE314 := n6_
                            have NB309_314 := n7_
                            have NB314_309 := n8_
                            have NB310_314 := n9_
                            have NB314_310 := n10_
                            have NB313_314 := n11_
                            have NB314_313 := n12_
                            clear n0_ n1_ n2_ n3_ n4_ n5_ n6_ n7_ n8_ n9_ n10_ n11_ n12_
                            clear hb hbox hg
                            refine hK.out _ _ ⟨(blk_cell BK309.out 0).trans rfl, (blk_cell BK309.out 1).trans rfl, (blk_cell BK310.out 0).trans rfl, (blk_cell BK310.out 1).trans rfl, ((HB.out.cell (World.block_lt_of_cell? w _ hw311_0)).trans hw311_0), ((HB.out.cell (World.block_lt_of_cell? w _ hw311_1)).trans hw311_1), ((HB.out.cell (World.block_lt_of_cell? w _ hw311_2)).trans hw311_2), ((HB.out.cell (World.block_lt_of_cell? w _ hw312_0)).trans hw312_0), ((HB.out.cell (World.block_lt_of_cell? w _ hw312_1)).trans hw312_1), ((HB.out.cell (World.block_lt_of_cell? w _ hw312_2)).trans hw312_2)⟩ (fun hHeld => ?_)
                            clear hK K
                            refine norm_ (a' := ?_) ?_ ?_
                            rotate_left
                            · show Act.put _ (some 7) _ = _
                              simp only [Act.put, List.setIfInBounds_toArray, List.set_cons_zero, List.set_cons_succ, i64_w, i32_w]
                              rfl
                            exact norm_ (by simp only [putAll, Act.put, List.setIfInBounds_toArray, List.set_cons_zero, List.set_cons_succ]) (hCont (gb313, gb314) _ ⟨hHeld, (by (with_reducible repeat (first | refine blk_drewN ?_ _ | refine blk_drew ?_ | refine blk_alloc ?_ _)); exact BK309.out), (by (with_reducible repeat (first | refine blk_drewN ?_ _ | refine blk_drew ?_ | refine blk_alloc ?_ _)); exact BK310.out), (by (with_reducible repeat (first | refine blk_drewN ?_ _ | refine blk_drew ?_ | refine blk_alloc ?_ _)); exact BK313.out), (by (with_reducible repeat (first | refine blk_drewN ?_ _ | refine blk_drew ?_ | refine blk_alloc ?_ _)); exact BK314.out), GW313.out, GE313.out, NB309_313.out, NB313_309.out, NB310_313.out, NB313_310.out, NB314_313.out, NB313_314.out, GW314.out, GE314.out, NB309_314.out, NB314_309.out, NB310_314.out, NB314_310.out, (by repeat (first | (with_reducible first | exact HB.out | apply below_alloc | apply pw_below_drewN | apply below_drew1 | refine below_set ?_ GE309.out | refine below_set ?_ GE310.out | refine below_set ?_ GE313.out | refine below_set ?_ GE314.out) | exact HB.out))⟩)
                          · skip
                            refine box_step ?hg (N := 7) ?hd (cs := #[.string (⟨#[]⟩ : ByteArray), .int .i64 0, .slice none 0 0]) (t := 54) ?hr ?_; (case hd => rfl); (case hg => rfl); (case hr => first | (go_simp; done) | (go_simp; rfl))
                            intro gb314 hg w24 hbox hb
                            have n0_ := Aside0.mk (blk_below (g := gb309) (o := .cells #[.int .i64 a0_0, .slice (some ad311) l0_1.length c0_1] 38 (0, 0)) (by (with_reducible repeat (first | refine blk_drewN ?_ _ | refine blk_drew ?_ | refine blk_alloc ?_ _)); exact BK309.out) hb)
                            have n1_ := Aside0.mk (blk_below (g := gb310) (o := .cells #[.int .i64 a1_0, .slice (some ad312) l1_1.length c1_1] 38 (0, 0)) (by (with_reducible repeat (first | refine blk_drewN ?_ _ | refine blk_drew ?_ | refine blk_alloc ?_ _)); exact BK310.out) hb)
                            have n2_ := Aside0.mk (below_step (by repeat (first | (with_reducible first | exact HB.out | apply below_alloc | apply pw_below_drewN | apply below_drew1 | refine below_set ?_ GE309.out | refine below_set ?_ GE310.out) | exact HB.out)) hb)
                            have n3_ := Aside0.mk (hbox)
                            have n4_ := Aside0.mk ((by rw [hg]; exact (below_size (by repeat (first | (with_reducible first | exact HB.out | apply below_alloc | apply pw_below_drewN | apply below_drew1 | refine below_set ?_ GE309.out | refine below_set ?_ GE310.out) | exact HB.out))) : w.heap.size ≤ gb314))
                            have n5_ := Aside0.mk ((by rw [hg]; exact (below_size (by repeat (first | (with_reducible first | exact HB.out | apply below_alloc | apply pw_below_drewN | apply below_drew1 | refine below_set ?_ GE309.out | refine below_set ?_ GE310.out) | exact HB.out))) : w.heap.size ≤ gb314))
                            have n6_ := Aside0.mk ((by rw [hg]; exact Nat.ne_of_lt (blk_lt (g := gb309) (o := .cells #[.int .i64 a0_0, .slice (some ad311) l0_1.length c0_1] 38 (0, 0)) (by (with_reducible repeat (first | refine blk_drewN ?_ _ | refine blk_drew ?_ | refine blk_alloc ?_ _)); exact BK309.out)) : gb309 ≠ gb314))
                            have n7_ := Aside0.mk ((by rw [hg]; exact Nat.ne_of_gt (blk_lt (g := gb309) (o := .cells #[.int .i64 a0_0, .slice (some ad311) l0_1.length c0_1] 38 (0, 0)) (by (with_reducible repeat (first | refine blk_drewN ?_ _ | refine blk_drew ?_ | refine blk_alloc ?_ _)); exact BK309.out)) : gb314 ≠ gb309))
                            have n8_ := Aside0.mk ((by rw [hg]; exact Nat.ne_of_lt (blk_lt (g := gb310) (o := .cells #[.int .i64 a1_0, .slice (some ad312) l1_1.length c1_1] 38 (0, 0)) (by (with_reducible repeat (first | refine blk_drewN ?_ _ | refine blk_drew ?_ | refine blk_alloc ?_ _)); exact BK310.out)) : gb310 ≠ gb314))
                            have n9_ := Aside0.mk ((by rw [hg]; exact Nat.ne_of_gt (blk_lt (g := gb310) (o := .cells #[.int .i64 a1_0, .slice (some ad312) l1_1.length c1_1] 38 (0, 0)) (by (with_reducible repeat (first | refine blk_drewN ?_ _ | refine blk_drew ?_ | refine blk_alloc ?_ _)); exact BK310.out)) : gb314 ≠ gb310))
                            clear BK309
                            clear BK310
                            clear HB
                            have BK309 := n0_
                            have BK310 := n1_
                            have HB := n2_
                            have BK314 := n3_
                            have GW314 := n4_
                            have GE314 := n5_
                            have NB309_314 := n6_
                            have NB314_309 := n7_
                            have NB310_314 := n8_
                            have NB314_310 := n9_
                            clear n0_ n1_ n2_ n3_ n4_ n5_ n6_ n7_ n8_ n9_
                            clear hb hbox hg
                            refine hK.out _ _ ⟨(blk_cell BK309.out 0).trans rfl, (blk_cell BK309.out 1).trans rfl, (blk_cell BK310.out 0).trans rfl, (blk_cell BK310.out 1).trans rfl, ((HB.out.cell (World.block_lt_of_cell? w _ hw311_0)).trans hw311_0), ((HB.out.cell (World.block_lt_of_cell? w _ hw311_1)).trans hw311_1), ((HB.out.cell (World.block_lt_of_cell? w _ hw311_2)).trans hw311_2), ((HB.out.cell (World.block_lt_of_cell? w _ hw312_0)).trans hw312_0), ((HB.out.cell (World.block_lt_of_cell? w _ hw312_1)).trans hw312_1), ((HB.out.cell (World.block_lt_of_cell? w _ hw312_2)).trans hw312_2)⟩ (fun hHeld => ?_)
                            clear hK K
                            refine norm_ (a' := ?_) ?_ ?_
                            rotate_left
                            · show Act.put _ (some 7) _ = _
                              simp only [Act.put, List.setIfInBounds_toArray, List.set_cons_zero, List.set_cons_succ, i64_w, i32_w]
                              rfl
                            refine one_ (i := 10) (N := some 6) #[true, true, true, true, true, true, true, true, true, true, true, true, false, false] rfl rfl (one_of HT_.out (by kernel_rfl)) (by decide) (fun K hK => ?_)
                            refine box_step ?hg (N := 6) ?hd (cs := #[.string (⟨#[]⟩ : ByteArray), .int .i64 0, .slice none 0 0]) (t := 54) ?hr ?_; (case hd => rfl); (case hg => rfl); (case hr => first | (go_simp; done) | (go_simp; rfl))
                            intro gb313 hg w25 hbox hb
                            have n0_ := Aside0.mk (blk_below (g := gb309) (o := .cells #[.int .i64 a0_0, .slice (some ad311) l0_1.length c0_1] 38 (0, 0)) (by (with_reducible repeat (first | refine blk_drewN ?_ _ | refine blk_drew ?_ | refine blk_alloc ?_ _)); exact BK309.out) hb)
                            have n1_ := Aside0.mk (blk_below (g := gb310) (o := .cells #[.int .i64 a1_0, .slice (some ad312) l1_1.length c1_1] 38 (0, 0)) (by (with_reducible repeat (first | refine blk_drewN ?_ _ | refine blk_drew ?_ | refine blk_alloc ?_ _)); exact BK310.out) hb)
                            have n2_ := Aside0.mk (blk_below (g := gb314) (o := .cells #[.string (⟨#[]⟩ : ByteArray), .int .i64 0, .slice none 0 0] 54 (0, 0)) (by (with_reducible repeat (first | refine blk_drewN ?_ _ | refine blk_drew ?_ | refine blk_alloc ?_ _)); exact BK314.out) hb)
                            have n3_ := Aside0.mk (below_step (by repeat (first | (with_reducible first | exact HB.out | apply below_alloc | apply pw_below_drewN | apply below_drew1 | refine below_set ?_ GE309.out | refine below_set ?_ GE310.out | refine below_set ?_ GE314.out) | exact HB.out)) hb)
                            have n4_ := Aside0.mk (hbox)
                            have n5_ := Aside0.mk ((by rw [hg]; exact (below_size (by repeat (first | (with_reducible first | exact HB.out | apply below_alloc | apply pw_below_drewN | apply below_drew1 | refine below_set ?_ GE309.out | refine below_set ?_ GE310.out | refine below_set ?_ GE314.out) | exact HB.out))) : w.heap.size ≤ gb313))
                            have n6_ := Aside0.mk ((by rw [hg]; exact (below_size (by repeat (first | (with_reducible first | exact HB.out | apply below_alloc | apply pw_below_drewN | apply below_drew1 | refine below_set ?_ GE309.out | refine below_set ?_ GE310.out | refine below_set ?_ GE314.out) | exact HB.out))) : w.heap.size ≤ gb313))
                            have n7_ := Aside0.mk ((by rw [hg]; exact Nat.ne_of_lt (blk_lt (g := gb309) (o := .cells #[.int .i64 a0_0, .slice (some ad311) l0_1.length c0_1] 38 (0, 0)) (by (with_reducible repeat (first | refine blk_drewN ?_ _ | refine blk_drew ?_ | refine blk_alloc ?_ _)); exact BK309.out)) : gb309 ≠ gb313))
                            have n8_ := Aside0.mk ((by rw [hg]; exact Nat.ne_of_gt (blk_lt (g := gb309) (o := .cells #[.int .i64 a0_0, .slice (some ad311) l0_1.length c0_1] 38 (0, 0)) (by (with_reducible repeat (first | refine blk_drewN ?_ _ | refine blk_drew ?_ | refine blk_alloc ?_ _)); exact BK309.out)) : gb313 ≠ gb309))
                            have n9_ := Aside0.mk ((by rw [hg]; exact Nat.ne_of_lt (blk_lt (g := gb310) (o := .cells #[.int .i64 a1_0, .slice (some ad312) l1_1.length c1_1] 38 (0, 0)) (by (with_reducible repeat (first | refine blk_drewN ?_ _ | refine blk_drew ?_ | refine blk_alloc ?_ _)); exact BK310.out)) : gb310 ≠ gb313))
                            have n10_ := Aside0.mk ((by rw [hg]; exact Nat.ne_of_gt (blk_lt (g := gb310) (o := .cells #[.int .i64 a1_0, .slice (some ad312) l1_1.length c1_1] 38 (0, 0)) (by (with_reducible repeat (first | refine blk_drewN ?_ _ | refine blk_drew ?_ | refine blk_alloc ?_ _)); exact BK310.out)) : gb313 ≠ gb310))
                            have n11_ := Aside0.mk ((by rw [hg]; exact Nat.ne_of_lt (blk_lt (g := gb314) (o := .cells #[.string (⟨#[]⟩ : ByteArray), .int .i64 0, .slice none 0 0] 54 (0, 0)) (by (with_reducible repeat (first | refine blk_drewN ?_ _ | refine blk_drew ?_ | refine blk_alloc ?_ _)); exact BK314.out)) : gb314 ≠ gb313))
                            have n12_ := Aside0.mk ((by rw [hg]; exact Nat.ne_of_gt (blk_lt (g := gb314) (o := .cells #[.string (⟨#[]⟩ : ByteArray), .int .i64 0, .slice none 0 0] 54 (0, 0)) (by (with_reducible repeat (first | refine blk_drewN ?_ _ | refine blk_drew ?_ | refine blk_alloc ?_ _)); exact BK314.out)) : gb313 ≠ gb314))
                            clear BK309
                            clear BK310
                            clear BK314
                            clear HB
                            have BK309 := n0_
                            have BK310 := n1_
                            have BK314 := n2_
                            have HB := n3_
                            have BK313 := n4_
                            have GW313 := n5_
                            have GE313 := n6_
                            have NB309_313 := n7_
                            have NB313_309 := n8_
                            have NB310_313 := n9_
                            have NB313_310 := n10_
                            have NB314_313 := n11_
                            have NB313_314 := n12_
                            clear n0_ n1_ n2_ n3_ n4_ n5_ n6_ n7_ n8_ n9_ n10_ n11_ n12_
                            clear hb hbox hg
                            refine hK.out _ _ ⟨(blk_cell BK309.out 0).trans rfl, (blk_cell BK309.out 1).trans rfl, (blk_cell BK310.out 0).trans rfl, (blk_cell BK310.out 1).trans rfl, ((HB.out.cell (World.block_lt_of_cell? w _ hw311_0)).trans hw311_0), ((HB.out.cell (World.block_lt_of_cell? w _ hw311_1)).trans hw311_1), ((HB.out.cell (World.block_lt_of_cell? w _ hw311_2)).trans hw311_2), ((HB.out.cell (World.block_lt_of_cell? w _ hw312_0)).trans hw312_0), ((HB.out.cell (World.block_lt_of_cell? w _ hw312_1)).trans hw312_1), ((HB.out.cell (World.block_lt_of_cell? w _ hw312_2)).trans hw312_2)⟩ (fun hHeld => ?_)
                            clear hK K
                            refine norm_ (a' := ?_) ?_ ?_
                            rotate_left
                            · show Act.put _ (some 6) _ = _
                              simp only [Act.put, List.setIfInBounds_toArray, List.set_cons_zero, List.set_cons_succ, i64_w, i32_w]
                              rfl
                            exact norm_ (by simp only [putAll, Act.put, List.setIfInBounds_toArray, List.set_cons_zero, List.set_cons_succ]) (hCont (gb313, gb314) _ ⟨hHeld, (by (with_reducible repeat (first | refine blk_drewN ?_ _ | refine blk_drew ?_ | refine blk_alloc ?_ _)); exact BK309.out), (by (with_reducible repeat (first | refine blk_drewN ?_ _ | refine blk_drew ?_ | refine blk_alloc ?_ _)); exact BK310.out), (by (with_reducible repeat (first | refine blk_drewN ?_ _ | refine blk_drew ?_ | refine blk_alloc ?_ _)); exact BK313.out), (by (with_reducible repeat (first | refine blk_drewN ?_ _ | refine blk_drew ?_ | refine blk_alloc ?_ _)); exact BK314.out), GW313.out, GE313.out, NB309_313.out, NB313_309.out, NB310_313.out, NB313_310.out, NB314_313.out, NB313_314.out, GW314.out, GE314.out, NB309_314.out, NB314_309.out, NB310_314.out, NB314_310.out, (by repeat (first | (with_reducible first | exact HB.out | apply below_alloc | apply pw_below_drewN | apply below_drew1 | refine below_set ?_ GE309.out | refine below_set ?_ GE310.out | refine below_set ?_ GE314.out | refine below_set ?_ GE313.out) | exact HB.out))⟩)
                        rintro ⟨gb313, gb314⟩ w26 ⟨hS_, h0_, h1_, h2_, h3_, h4_, h5_, h6_, h7_, h8_, h9_, h10_, h11_, h12_, h13_, h14_, h15_, h16_, h17_, h18_⟩
                        have n0_ : Aside0 (w26.heap[gb309]? = some (.cells #[.int .i64 a0_0, .slice (some ad311) l0_1.length c0_1] 38 (0, 0))) := ⟨h0_⟩
                        have n1_ : Aside0 (w26.heap[gb310]? = some (.cells #[.int .i64 a1_0, .slice (some ad312) l1_1.length c1_1] 38 (0, 0))) := ⟨h1_⟩
                        have n2_ : Aside0 (w26.heap[gb313]? = some (.cells #[.string (⟨#[]⟩ : ByteArray), .int .i64 0, .slice none 0 0] 54 (0, 0))) := ⟨h2_⟩
                        have n3_ : Aside0 (w26.heap[gb314]? = some (.cells #[.string (⟨#[]⟩ : ByteArray), .int .i64 0, .slice none 0 0] 54 (0, 0))) := ⟨h3_⟩
                        have n4_ : Aside0 (w.heap.size ≤ gb313) := ⟨h4_⟩
                        have n5_ : Aside0 (w.heap.size ≤ gb313) := ⟨h5_⟩
                        have n6_ : Aside0 (gb309 ≠ gb313) := ⟨h6_⟩
                        have n7_ : Aside0 (gb313 ≠ gb309) := ⟨h7_⟩
                        have n8_ : Aside0 (gb310 ≠ gb313) := ⟨h8_⟩
                        have n9_ : Aside0 (gb313 ≠ gb310) := ⟨h9_⟩
                        have n10_ : Aside0 (gb314 ≠ gb313) := ⟨h10_⟩
                        have n11_ : Aside0 (gb313 ≠ gb314) := ⟨h11_⟩
                        have n12_ : Aside0 (w.heap.size ≤ gb314) := ⟨h12_⟩
                        have n13_ : Aside0 (w.heap.size ≤ gb314) := ⟨h13_⟩
                        have n14_ : Aside0 (gb309 ≠ gb314) := ⟨h14_⟩
                        have n15_ : Aside0 (gb314 ≠ gb309) := ⟨h15_⟩
                        have n16_ : Aside0 (gb310 ≠ gb314) := ⟨h16_⟩
                        have n17_ : Aside0 (gb314 ≠ gb310) := ⟨h17_⟩
                        have n18_ : Aside0 (Below w.heap.size w w26) := ⟨h18_⟩
                        clear BK309
                        clear BK310
                        clear HB
                        clear h0_ h1_ h2_ h3_ h4_ h5_ h6_ h7_ h8_ h9_ h10_ h11_ h12_ h13_ h14_ h15_ h16_ h17_ h18_
                        have BK309 := n0_
                        have BK310 := n1_
                        have BK313 := n2_
                        have BK314 := n3_
                        have GW313 := n4_
                        have GE313 := n5_
                        have NB309_313 := n6_
                        have NB313_309 := n7_
                        have NB310_313 := n8_
                        have NB313_310 := n9_
                        have NB314_313 := n10_
                        have NB313_314 := n11_
                        have GW314 := n12_
                        have GE314 := n13_
                        have NB309_314 := n14_
                        have NB314_309 := n15_
                        have NB310_314 := n16_
                        have NB314_310 := n17_
                        have HB := n18_
                        clear n0_ n1_ n2_ n3_ n4_ n5_ n6_ n7_ n8_ n9_ n10_ n11_ n12_ n13_ n14_ n15_ n16_ n17_ n18_
                        have hHeld : w26.cell? ⟨gb309, 0, none⟩ = some (.int .i64 a0_0) ∧ w26.cell? ⟨gb309, 1, none⟩ = some (.slice (some ad311) l0_1.length c0_1) ∧ w26.cell? ⟨gb310, 0, none⟩ = some (.int .i64 a1_0) ∧ w26.cell? ⟨gb310, 1, none⟩ = some (.slice (some ad312) l1_1.length c1_1) ∧ w26.cell? (ad311.add ((x5_2).toNat * 3)) = some (.string ((rd_T54 l0_1 x5_2).f0)) ∧ w26.cell? ⟨(ad311.add ((x5_2).toNat * 3)).block, (ad311.add ((x5_2).toNat * 3)).off + 1, none⟩ = some (.int .i64 ((rd_T54 l0_1 x5_2).f1)) ∧ w26.cell? ⟨(ad311.add ((x5_2).toNat * 3)).block, (ad311.add ((x5_2).toNat * 3)).off + 2, none⟩ = some (.slice A311_2 ((rd_T54 l0_1 x5_2).f2).length c311_2) ∧ w26.cell? (ad312.add ((x5_2).toNat * 3)) = some (.string ((rd_T54 l1_1 x5_2).f0)) ∧ w26.cell? ⟨(ad312.add ((x5_2).toNat * 3)).block, (ad312.add ((x5_2).toNat * 3)).off + 1, none⟩ = some (.int .i64 ((rd_T54 l1_1 x5_2).f1)) ∧ w26.cell? ⟨(ad312.add ((x5_2).toNat * 3)).block, (ad312.add ((x5_2).toNat * 3)).off + 2, none⟩ = some (.slice A312_2 ((rd_T54 l1_1 x5_2).f2).length c312_2) := hS_
                        refine norm_ (a' := ?_) ?_ ?_
                        rotate_left
                        · simp only [putAll, Act.put, List.setIfInBounds_toArray, List.set_cons_zero, List.set_cons_succ]
                          rfl
                        refine one_ (i := 12) (N := none) #[true, true, true, true, true, true, true, true, true, true, true, true, true, false] rfl rfl (one_of HT_.out (by kernel_rfl)) (by decide) (fun K hK => ?_)
                        have hs27 : w26.cell? ⟨gb313, 0, none⟩ = some (.string (⟨#[]⟩ : ByteArray)) := (blk_cell BK313.out 0).trans rfl
                        have hfs27 := blk_frozen BK313.out 0
                        have hns27_0 := NB309_313.out
                        have hns27_1 := NB310_313.out
                        have hns27_3 := NB314_313.out
                        have hms27_0 := NB313_309.out
                        have hms27_1 := NB313_310.out
                        have hms27_3 := NB313_314.out
                        have hs28 : w26.cell? ⟨gb313, 1, none⟩ = some (.int .i64 0) := (blk_cell BK313.out 1).trans rfl
                        have hfs28 := blk_frozen BK313.out 1
                        have hns28_0 := NB309_313.out
                        have hns28_1 := NB310_313.out
                        have hns28_3 := NB314_313.out
                        have hms28_0 := NB313_309.out
                        have hms28_1 := NB313_310.out
                        have hms28_3 := NB313_314.out
                        have hs29 : w26.cell? ⟨gb313, 2, none⟩ = some (.slice none 0 0) := (blk_cell BK313.out 2).trans rfl
                        have hfs29 := blk_frozen BK313.out 2
                        have hns29_0 := NB309_313.out
                        have hns29_1 := NB310_313.out
                        have hns29_3 := NB314_313.out
                        have hms29_0 := NB313_309.out
                        have hms29_1 := NB313_310.out
                        have hms29_3 := NB313_314.out
                        refine skip_ (w1 := ?_) (by rfl) rfl ?_ ?_
                        rotate_left
                        · go_simp
                          rfl
                        refine hK.out _ _ ⟨((cell_far (p := ⟨gb313, _, none⟩) NB309_313.out _).trans (((cell_far (p := ⟨gb313, _, none⟩) NB309_313.out _).trans (((cell_far (p := ⟨gb313, _, none⟩) NB309_313.out _).trans (hHeld.1)))))), ((cell_far (p := ⟨gb313, _, none⟩) NB309_313.out _).trans (((cell_far (p := ⟨gb313, _, none⟩) NB309_313.out _).trans (((cell_far (p := ⟨gb313, _, none⟩) NB309_313.out _).trans (hHeld.2.1)))))), ((cell_far (p := ⟨gb313, _, none⟩) NB310_313.out _).trans (((cell_far (p := ⟨gb313, _, none⟩) NB310_313.out _).trans (((cell_far (p := ⟨gb313, _, none⟩) NB310_313.out _).trans (hHeld.2.2.1)))))), ((cell_far (p := ⟨gb313, _, none⟩) NB310_313.out _).trans (((cell_far (p := ⟨gb313, _, none⟩) NB310_313.out _).trans (((cell_far (p := ⟨gb313, _, none⟩) NB310_313.out _).trans (hHeld.2.2.2.1)))))), ((cell_far (p := ⟨gb313, _, none⟩) (far_ne28 hw311_0 GW313.out) _).trans (((cell_far (p := ⟨gb313, _, none⟩) (far_ne28 hw311_0 GW313.out) _).trans (((cell_far (p := ⟨gb313, _, none⟩) (far_ne28 hw311_0 GW313.out) _).trans (hHeld.2.2.2.2.1)))))), ((cell_far (p := ⟨gb313, _, none⟩) (far_ne28 hw311_1 GW313.out) _).trans (((cell_far (p := ⟨gb313, _, none⟩) (far_ne28 hw311_1 GW313.out) _).trans (((cell_far (p := ⟨gb313, _, none⟩) (far_ne28 hw311_1 GW313.out) _).trans (hHeld.2.2.2.2.2.1)))))), ((cell_far (p := ⟨gb313, _, none⟩) (far_ne28 hw311_2 GW313.out) _).trans (((cell_far (p := ⟨gb313, _, none⟩) (far_ne28 hw311_2 GW313.out) _).trans (((cell_far (p := ⟨gb313, _, none⟩) (far_ne28 hw311_2 GW313.out) _).trans (hHeld.2.2.2.2.2.2.1)))))), ((cell_far (p := ⟨gb313, _, none⟩) (far_ne28 hw312_0 GW313.out) _).trans (((cell_far (p := ⟨gb313, _, none⟩) (far_ne28 hw312_0 GW313.out) _).trans (((cell_far (p := ⟨gb313, _, none⟩) (far_ne28 hw312_0 GW313.out) _).trans (hHeld.2.2.2.2.2.2.2.1)))))), ((cell_far (p := ⟨gb313, _, none⟩) (far_ne28 hw312_1 GW313.out) _).trans (((cell_far (p := ⟨gb313, _, none⟩) (far_ne28 hw312_1 GW313.out) _).trans (((cell_far (p := ⟨gb313, _, none⟩) (far_ne28 hw312_1 GW313.out) _).trans (hHeld.2.2.2.2.2.2.2.2.1)))))), ((cell_far (p := ⟨gb313, _, none⟩) (far_ne28 hw312_2 GW313.out) _).trans (((cell_far (p := ⟨gb313, _, none⟩) (far_ne28 hw312_2 GW313.out) _).trans (((cell_far (p := ⟨gb313, _, none⟩) (far_ne28 hw312_2 GW313.out) _).trans (hHeld.2.2.2.2.2.2.2.2.2))))))⟩ (fun hHeld => ?_)
                        clear hK K
                        refine one_ (i := 13) (N := none) #[true, true, true, true, true, true, true, true, true, true, true, true, true, true] rfl rfl (one_of HT_.out (by kernel_rfl)) (by decide) (fun K hK => ?_)
                        have hs30 : w26.cell? ⟨gb314, 0, none⟩ = some (.string (⟨#[]⟩ : ByteArray)) := (blk_cell BK314.out 0).trans rfl
                        have hfs30 := blk_frozen BK314.out 0
                        have hns30_0 := NB309_314.out
                        have hns30_1 := NB310_314.out
                        have hns30_2 := NB313_314.out
                        have hms30_0 := NB314_309.out
                        have hms30_1 := NB314_310.out
                        have hms30_2 := NB314_313.out
                        have hs31 : w26.cell? ⟨gb314, 1, none⟩ = some (.int .i64 0) := (blk_cell BK314.out 1).trans rfl
                        have hfs31 := blk_frozen BK314.out 1
                        have hns31_0 := NB309_314.out
                        have hns31_1 := NB310_314.out
                        have hns31_2 := NB313_314.out
                        have hms31_0 := NB314_309.out
                        have hms31_1 := NB314_310.out
                        have hms31_2 := NB314_313.out
                        have hs32 : w26.cell? ⟨gb314, 2, none⟩ = some (.slice none 0 0) := (blk_cell BK314.out 2).trans rfl
                        have hfs32 := blk_frozen BK314.out 2
                        have hns32_0 := NB309_314.out
                        have hns32_1 := NB310_314.out
                        have hns32_2 := NB313_314.out
                        have hms32_0 := NB314_309.out
                        have hms32_1 := NB314_310.out
                        have hms32_2 := NB314_313.out
                        refine skip_ (w1 := ?_) (by rfl) rfl ?_ ?_
                        rotate_left
                        · go_simp
                          rfl
                        refine hK.out _ _ ⟨((cell_far (p := ⟨gb314, _, none⟩) NB309_314.out _).trans (((cell_far (p := ⟨gb314, _, none⟩) NB309_314.out _).trans (((cell_far (p := ⟨gb314, _, none⟩) NB309_314.out _).trans (hHeld.1)))))), ((cell_far (p := ⟨gb314, _, none⟩) NB309_314.out _).trans (((cell_far (p := ⟨gb314, _, none⟩) NB309_314.out _).trans (((cell_far (p := ⟨gb314, _, none⟩) NB309_314.out _).trans (hHeld.2.1)))))), ((cell_far (p := ⟨gb314, _, none⟩) NB310_314.out _).trans (((cell_far (p := ⟨gb314, _, none⟩) NB310_314.out _).trans (((cell_far (p := ⟨gb314, _, none⟩) NB310_314.out _).trans (hHeld.2.2.1)))))), ((cell_far (p := ⟨gb314, _, none⟩) NB310_314.out _).trans (((cell_far (p := ⟨gb314, _, none⟩) NB310_314.out _).trans (((cell_far (p := ⟨gb314, _, none⟩) NB310_314.out _).trans (hHeld.2.2.2.1)))))), ((cell_far (p := ⟨gb314, _, none⟩) (far_ne28 hw311_0 GW314.out) _).trans (((cell_far (p := ⟨gb314, _, none⟩) (far_ne28 hw311_0 GW314.out) _).trans (((cell_far (p := ⟨gb314, _, none⟩) (far_ne28 hw311_0 GW314.out) _).trans (hHeld.2.2.2.2.1)))))), ((cell_far (p := ⟨gb314, _, none⟩) (far_ne28 hw311_1 GW314.out) _).trans (((cell_far (p := ⟨gb314, _, none⟩) (far_ne28 hw311_1 GW314.out) _).trans (((cell_far (p := ⟨gb314, _, none⟩) (far_ne28 hw311_1 GW314.out) _).trans (hHeld.2.2.2.2.2.1)))))), ((cell_far (p := ⟨gb314, _, none⟩) (far_ne28 hw311_2 GW314.out) _).trans (((cell_far (p := ⟨gb314, _, none⟩) (far_ne28 hw311_2 GW314.out) _).trans (((cell_far (p := ⟨gb314, _, none⟩) (far_ne28 hw311_2 GW314.out) _).trans (hHeld.2.2.2.2.2.2.1)))))), ((cell_far (p := ⟨gb314, _, none⟩) (far_ne28 hw312_0 GW314.out) _).trans (((cell_far (p := ⟨gb314, _, none⟩) (far_ne28 hw312_0 GW314.out) _).trans (((cell_far (p := ⟨gb314, _, none⟩) (far_ne28 hw312_0 GW314.out) _).trans (hHeld.2.2.2.2.2.2.2.1)))))), ((cell_far (p := ⟨gb314, _, none⟩) (far_ne28 hw312_1 GW314.out) _).trans (((cell_far (p := ⟨gb314, _, none⟩) (far_ne28 hw312_1 GW314.out) _).trans (((cell_far (p := ⟨gb314, _, none⟩) (far_ne28 hw312_1 GW314.out) _).trans (hHeld.2.2.2.2.2.2.2.2.1)))))), ((cell_far (p := ⟨gb314, _, none⟩) (far_ne28 hw312_2 GW314.out) _).trans (((cell_far (p := ⟨gb314, _, none⟩) (far_ne28 hw312_2 GW314.out) _).trans (((cell_far (p := ⟨gb314, _, none⟩) (far_ne28 hw312_2 GW314.out) _).trans (hHeld.2.2.2.2.2.2.2.2.2))))))⟩ (fun hHeld => ?_)
                        clear hK K
                        refine done_ (done_of HT_.out (by kernel_rfl)) ?_
                        have hnb33 := NB313_309.out
                        have hnc33 := NB309_313.out
                        have hnb34 := NB313_310.out
                        have hnc34 := NB310_313.out
                        have hnb35 := NB313_314.out
                        have hnc35 := NB314_313.out
                        have hcz36_0 : w26.cell? ⟨gb313, 0, none⟩ = some (.string (⟨#[]⟩ : ByteArray)) := (blk_cell BK313.out 0).trans rfl
                        have hcz36_1 : w26.cell? ⟨gb313, 1, none⟩ = some (.int .i64 0) := (blk_cell BK313.out 1).trans rfl
                        have hcz36_2 : w26.cell? ⟨gb313, 2, none⟩ = some (.slice none 0 0) := (blk_cell BK313.out 2).trans rfl
                        have hfz36_0 := blk_frozen BK313.out 0
                        have hfz36_1 := blk_frozen BK313.out 1
                        have hfz36_2 := blk_frozen BK313.out 2
                        have hnb37 := NB314_309.out
                        have hnc37 := NB309_314.out
                        have hnb38 := NB314_310.out
                        have hnc38 := NB310_314.out
                        have hcz39_0 : w26.cell? ⟨gb314, 0, none⟩ = some (.string (⟨#[]⟩ : ByteArray)) := (blk_cell BK314.out 0).trans rfl
                        have hcz39_1 : w26.cell? ⟨gb314, 1, none⟩ = some (.int .i64 0) := (blk_cell BK314.out 1).trans rfl
                        have hcz39_2 : w26.cell? ⟨gb314, 2, none⟩ = some (.slice none 0 0) := (blk_cell BK314.out 2).trans rfl
                        have hfz39_0 := blk_frozen BK314.out 0
                        have hfz39_1 := blk_frozen BK314.out 1
                        have hfz39_2 := blk_frozen BK314.out 2
                        try go_wp2_with (first | (go_at_call 50; (with_reducible refine (paraphrastref01_SameTuples.calls k2 _ _ ((rd_T54 l0_1 x5_2).f2) _ _ ((rd_T54 l1_1 x5_2).f2) true _ ?side1 ?side2 ?side3 ?side4 A19.out).mono ?_); (case side1 => exact Kd.C_below HR311_2.out (by repeat (first | (with_reducible first | exact HB.out | apply below_alloc | apply pw_below_drewN | apply below_drew1 | refine below_set ?_ GE309.out | refine below_set ?_ GE310.out | refine below_set ?_ GE313.out | refine below_set ?_ GE314.out) | exact HB.out))); (case side2 => exact HC311_2.out); (case side3 => exact Kd.C_below HR312_2.out (by repeat (first | (with_reducible first | exact HB.out | apply below_alloc | apply pw_below_drewN | apply below_drew1 | refine below_set ?_ GE309.out | refine below_set ?_ GE310.out | refine below_set ?_ GE313.out | refine below_set ?_ GE314.out) | exact HB.out))); (case side4 => exact HC312_2.out); rintro e w' ⟨rfl, ⟨nd, rfl⟩⟩))
                        go_roundg k2
                        case measure => have := HJ2.out; have := HK2.out; omega
                        case rel => exact ⟨(wrap64 (x5_2 + 1)), (by first | rfl | (simp; done) | (simp [*]; done)), H', ⟨by have := HJ2.out; have := HK2.out; omega⟩, ⟨by (with_reducible repeat (first | refine blk_drewN ?_ _ | refine blk_drew ?_ | refine blk_alloc ?_ _)); refine blk_far ?_ NB309_314.out _; (with_reducible repeat (first | refine blk_drewN ?_ _ | refine blk_drew ?_ | refine blk_alloc ?_ _)); refine blk_far ?_ NB309_314.out _; (with_reducible repeat (first | refine blk_drewN ?_ _ | refine blk_drew ?_ | refine blk_alloc ?_ _)); refine blk_far ?_ NB309_314.out _; (with_reducible repeat (first | refine blk_drewN ?_ _ | refine blk_drew ?_ | refine blk_alloc ?_ _)); refine blk_far ?_ NB309_313.out _; (with_reducible repeat (first | refine blk_drewN ?_ _ | refine blk_drew ?_ | refine blk_alloc ?_ _)); refine blk_far ?_ NB309_313.out _; (with_reducible repeat (first | refine blk_drewN ?_ _ | refine blk_drew ?_ | refine blk_alloc ?_ _)); refine blk_far ?_ NB309_313.out _; (with_reducible repeat (first | refine blk_drewN ?_ _ | refine blk_drew ?_ | refine blk_alloc ?_ _)); exact BK309.out⟩, ⟨by (with_reducible repeat (first | refine blk_drewN ?_ _ | refine blk_drew ?_ | refine blk_alloc ?_ _)); refine blk_far ?_ NB310_314.out _; (with_reducible repeat (first | refine blk_drewN ?_ _ | refine blk_drew ?_ | refine blk_alloc ?_ _)); refine blk_far ?_ NB310_314.out _; (with_reducible repeat (first | refine blk_drewN ?_ _ | refine blk_drew ?_ | refine blk_alloc ?_ _)); refine blk_far ?_ NB310_314.out _; (with_reducible repeat (first | refine blk_drewN ?_ _ | refine blk_drew ?_ | refine blk_alloc ?_ _)); refine blk_far ?_ NB310_313.out _; (with_reducible repeat (first | refine blk_drewN ?_ _ | refine blk_drew ?_ | refine blk_alloc ?_ _)); refine blk_far ?_ NB310_313.out _; (with_reducible repeat (first | refine blk_drewN ?_ _ | refine blk_drew ?_ | refine blk_alloc ?_ _)); refine blk_far ?_ NB310_313.out _; (with_reducible repeat (first | refine blk_drewN ?_ _ | refine blk_drew ?_ | refine blk_alloc ?_ _)); exact BK310.out⟩, ⟨by repeat (first | (with_reducible first | exact HB.out | apply below_alloc | apply pw_below_drewN | apply below_drew1 | refine below_set ?_ GE309.out | refine below_set ?_ GE310.out | refine below_set ?_ GE313.out | refine below_set ?_ GE314.out) | exact HB.out)⟩⟩
                      · replace c20 := Bool.eq_false_iff.mpr c20
                        subst c20
                        have H1 : (some false) = some r := by rw [if_neg (show ¬ (false = true) by decide)] at H; exact H
                        clear H
                        have H := H1
                        clear H1
                        obtain rfl := Option.some.inj H
                        have hnb40 := NB309_310.out
                        have hnc40 := NB310_309.out
                        have hcz41_0 : wr.cell? ⟨gb309, 0, none⟩ = some (.int .i64 a0_0) := (blk_cell BK309.out 0).trans rfl
                        have hcz41_1 : wr.cell? ⟨gb309, 1, none⟩ = some (.slice A0_1 l0_1.length c0_1) := (blk_cell BK309.out 1).trans rfl
                        have hfz41_0 := blk_frozen BK309.out 0
                        have hfz41_1 := blk_frozen BK309.out 1
                        try go_wp2
                        have n0_ := Aside0.mk (blk_drew BK309.out)
                        have n1_ := Aside0.mk (blk_drew BK310.out)
                        have n2_ := Aside0.mk (below_drew1 HB.out)
                        clear BK309
                        clear BK310
                        clear HB
                        have BK309 := n0_
                        have BK310 := n1_
                        have HB := n2_
                        clear n0_ n1_ n2_
                        have p311 : 0 ≤ (x5_2 : Int) := of_decide_eq_true (by first | (with_reducible assumption) | assumption)
                        have q311 : x5_2 < (l0_1.length : Int) := of_decide_eq_true (by first | (with_reducible assumption) | assumption)
                        obtain ⟨ad311, A311_2, c311_2, e311, hx311_0, hx311_1, hx311_2, hl311_2, hi311_2⟩ := at_T54 HR0_1.out x5_2 p311 q311
                        have hw311_2 := hx311_2
                        have hw311_1 := hx311_1
                        have hw311_0 := hx311_0
                        cases e311
                        replace hx311_0 := (HB.out.cell (World.block_lt_of_cell? w _ hx311_0)).trans hx311_0
                        replace hx311_1 := (HB.out.cell (World.block_lt_of_cell? w _ hx311_1)).trans hx311_1
                        replace hx311_2 := (HB.out.cell (World.block_lt_of_cell? w _ hx311_2)).trans hx311_2
                        have HR311_2 := Aside0.mk hi311_2
                        have HC311_2 := Aside0.mk hl311_2
                        clear hi311_2 hl311_2
                        replace p311 := eq_true p311
                        replace q311 := eq_true q311
                        have p312 : 0 ≤ (x5_2 : Int) := of_decide_eq_true (by first | (with_reducible assumption) | assumption)
                        have q312 : x5_2 < (l1_1.length : Int) := of_decide_eq_true (by first | (with_reducible assumption) | assumption)
                        obtain ⟨ad312, A312_2, c312_2, e312, hx312_0, hx312_1, hx312_2, hl312_2, hi312_2⟩ := at_T54 HR1_1.out x5_2 p312 q312
                        have hw312_2 := hx312_2
                        have hw312_1 := hx312_1
                        have hw312_0 := hx312_0
                        cases e312
                        replace hx312_0 := (HB.out.cell (World.block_lt_of_cell? w _ hx312_0)).trans hx312_0
                        replace hx312_1 := (HB.out.cell (World.block_lt_of_cell? w _ hx312_1)).trans hx312_1
                        replace hx312_2 := (HB.out.cell (World.block_lt_of_cell? w _ hx312_2)).trans hx312_2
                        have HR312_2 := Aside0.mk hi312_2
                        have HC312_2 := Aside0.mk hl312_2
                        clear hi312_2 hl312_2
                        replace p312 := eq_true p312
                        replace q312 := eq_true q312
                        refine start_ (n := 14) (S := fun w' => w'.cell? ⟨gb309, 0, none⟩ = some (.int .i64 a0_0) ∧ w'.cell? ⟨gb309, 1, none⟩ = some (.slice (some ad311) l0_1.length c0_1) ∧ w'.cell? ⟨gb310, 0, none⟩ = some (.int .i64 a1_0) ∧ w'.cell? ⟨gb310, 1, none⟩ = some (.slice (some ad312) l1_1.length c1_1) ∧ w'.cell? (ad311.add ((x5_2).toNat * 3)) = some (.string ((rd_T54 l0_1 x5_2).f0)) ∧ w'.cell? ⟨(ad311.add ((x5_2).toNat * 3)).block, (ad311.add ((x5_2).toNat * 3)).off + 1, none⟩ = some (.int .i64 ((rd_T54 l0_1 x5_2).f1)) ∧ w'.cell? ⟨(ad311.add ((x5_2).toNat * 3)).block, (ad311.add ((x5_2).toNat * 3)).off + 2, none⟩ = some (.slice A311_2 ((rd_T54 l0_1 x5_2).f2).length c311_2) ∧ w'.cell? (ad312.add ((x5_2).toNat * 3)) = some (.string ((rd_T54 l1_1 x5_2).f0)) ∧ w'.cell? ⟨(ad312.add ((x5_2).toNat * 3)).block, (ad312.add ((x5_2).toNat * 3)).off + 1, none⟩ = some (.int .i64 ((rd_T54 l1_1 x5_2).f1)) ∧ w'.cell? ⟨(ad312.add ((x5_2).toNat * 3)).block, (ad312.add ((x5_2).toNat * 3)).off + 2, none⟩ = some (.slice A312_2 ((rd_T54 l1_1 x5_2).f2).length c312_2)) (ds := []) #[false, false, false, false, false, false, false, false, false, false, false, false, false, false] (by kernel_rfl) rfl rfl ⟨(blk_cell BK309.out 0).trans rfl, (blk_cell BK309.out 1).trans rfl, (blk_cell BK310.out 0).trans rfl, (blk_cell BK310.out 1).trans rfl, ((HB.out.cell (World.block_lt_of_cell? w _ hw311_0)).trans hw311_0), ((HB.out.cell (World.block_lt_of_cell? w _ hw311_1)).trans hw311_1), ((HB.out.cell (World.block_lt_of_cell? w _ hw311_2)).trans hw311_2), ((HB.out.cell (World.block_lt_of_cell? w _ hw312_0)).trans hw312_0), ((HB.out.cell (World.block_lt_of_cell? w _ hw312_1)).trans hw312_1), ((HB.out.cell (World.block_lt_of_cell? w _ hw312_2)).trans hw312_2)⟩ (fun hHeld => ?_); refine with_tabW paraphrastref01_Same.tab6 paraphrastref01_Same.bits6 (fun HT_ HW_ => ?_)
                        generalize wr.drew = w42 at BK309 BK310 HB HR311_2 HR312_2 hx311_0 hx311_1 hx311_2 hx312_0 hx312_1 hx312_2 hHeld ⊢
                        refine pure_ (i := 0) (N := some 29) (v := ?_) (a' := ?_) #[true, false, false, false, false, false, false, false, false, false, false, false, false, false] rfl rfl (any_of HT_.out (by kernel_rfl)) (fun _ _ _ h => h) (Or.inl ⟨by rfl, ?_⟩) ?_ ?_
                        rotate_left
                        · intro w'
                          go_simp
                          with_reducible rfl
                        rotate_left
                        · simp only [Act.put, List.setIfInBounds_toArray, List.set_cons_zero, List.set_cons_succ, i64_w, i32_w]
                          rfl
                        refine pure_ (i := 2) (N := some 31) (v := ?_) (a' := ?_) #[true, false, true, false, false, false, false, false, false, false, false, false, false, false] rfl rfl (any_of HT_.out (by kernel_rfl)) (fun _ _ _ h => h) (Or.inl ⟨by rfl, ?_⟩) ?_ ?_
                        rotate_left
                        · intro w'
                          go_simp
                          with_reducible rfl
                        rotate_left
                        · simp only [Act.put, List.setIfInBounds_toArray, List.set_cons_zero, List.set_cons_succ, i64_w, i32_w]
                          rfl
                        refine pure_ (i := 5) (N := some 34) (v := ?_) (a' := ?_) #[true, false, true, false, false, true, false, false, false, false, false, false, false, false] rfl rfl (any_of HT_.out (by kernel_rfl)) (fun _ _ _ h => h) (Or.inl ⟨by rfl, ?_⟩) ?_ ?_
                        rotate_left
                        · intro w'
                          go_simp
                          with_reducible rfl
                        rotate_left
                        · simp only [Act.put, List.setIfInBounds_toArray, List.set_cons_zero, List.set_cons_succ, i64_w, i32_w]
                          rfl
                        refine pure_ (i := 7) (N := some 36) (v := ?_) (a' := ?_) #[true, false, true, false, false, true, false, true, false, false, false, false, false, false] rfl rfl (any_of HT_.out (by kernel_rfl)) (fun _ _ _ h => h) (Or.inl ⟨by rfl, ?_⟩) ?_ ?_
                        rotate_left
                        · intro w'
                          go_simp
                          with_reducible rfl
                        rotate_left
                        · simp only [Act.put, List.setIfInBounds_toArray, List.set_cons_zero, List.set_cons_succ, i64_w, i32_w]
                          rfl
                        refine take_ (i := 1) (N := some 30) (v := ?_) (a' := ?_) #[true, true, true, false, false, true, false, true, false, false, false, false, false, false] rfl rfl (take_ofW HT_.out HW_.out (by kernel_rfl)) (fun _ _ _ h => h) (Or.inl ⟨by rfl, ?_⟩) hHeld ?_ ?_
                        rotate_left
                        · rintro w' ⟨s0, s1, s2, s3, s4, s5, s6, s7, s8, s9⟩
                          go_simp
                          with_reducible rfl
                        rotate_left
                        · simp only [Act.put, List.setIfInBounds_toArray, List.set_cons_zero, List.set_cons_succ, i64_w, i32_w]
                          rfl
                        refine pure_ (i := 3) (N := some 32) (v := ?_) (a' := ?_) #[true, true, true, true, false, true, false, true, false, false, false, false, false, false] rfl rfl (any_of HT_.out (by kernel_rfl)) (fun _ _ _ h => h) (Or.inl ⟨by rfl, ?_⟩) ?_ ?_
                        rotate_left
                        · intro w'
                          go_simp
                          with_reducible rfl
                        rotate_left
                        · simp only [Act.put, List.setIfInBounds_toArray, List.set_cons_zero, List.set_cons_succ, i64_w, i32_w]
                          rfl
                        refine take_ (i := 4) (N := some 33) (v := ?_) (a' := ?_) #[true, true, true, true, true, true, false, true, false, false, false, false, false, false] rfl rfl (take_ofW HT_.out HW_.out (by kernel_rfl)) (fun _ _ _ h => h) (Or.inl ⟨by rfl, ?_⟩) hHeld ?_ ?_
                        rotate_left
                        · rintro w' ⟨s0, s1, s2, s3, s4, s5, s6, s7, s8, s9⟩
                          go_simp
                          with_reducible rfl
                        rotate_left
                        · simp only [Act.put, List.setIfInBounds_toArray, List.set_cons_zero, List.set_cons_succ, i64_w, i32_w]
                          rfl
                        refine take_ (i := 6) (N := some 35) (v := ?_) (a' := ?_) #[true, true, true, true, true, true, true, true, false, false, false, false, false, false] rfl rfl (take_ofW HT_.out HW_.out (by kernel_rfl)) (fun _ _ _ h => h) (Or.inl ⟨by rfl, ?_⟩) hHeld ?_ ?_
                        rotate_left
                        · rintro w' ⟨s0, s1, s2, s3, s4, s5, s6, s7, s8, s9⟩
                          go_simp
                          with_reducible rfl
                        rotate_left
                        · simp only [Act.put, List.setIfInBounds_toArray, List.set_cons_zero, List.set_cons_succ, i64_w, i32_w]
                          rfl
                        refine pure_ (i := 8) (N := some 37) (v := ?_) (a' := ?_) #[true, true, true, true, true, true, true, true, true, false, false, false, false, false] rfl rfl (any_of HT_.out (by kernel_rfl)) (fun _ _ _ h => h) (Or.inl ⟨by rfl, ?_⟩) ?_ ?_
                        rotate_left
                        · intro w'
                          go_simp
                          with_reducible rfl
                        rotate_left
                        · simp only [Act.put, List.setIfInBounds_toArray, List.set_cons_zero, List.set_cons_succ, i64_w, i32_w]
                          rfl
                        refine take_ (i := 9) (N := some 38) (v := ?_) (a' := ?_) #[true, true, true, true, true, true, true, true, true, true, false, false, false, false] rfl rfl (take_ofW HT_.out HW_.out (by kernel_rfl)) (fun _ _ _ h => h) (Or.inl ⟨by rfl, ?_⟩) hHeld ?_ ?_
                        rotate_left
                        · rintro w' ⟨s0, s1, s2, s3, s4, s5, s6, s7, s8, s9⟩
                          go_simp
                          with_reducible rfl
                        rotate_left
                        · simp only [Act.put, List.setIfInBounds_toArray, List.set_cons_zero, List.set_cons_succ, i64_w, i32_w]
                          rfl
                        refine join_ (σ := Nat × Nat) 2 #[true, true, true, true, true, true, true, true, true, true, true, true, false, false] (fun s_ => [(6, .pointer (some ⟨s_.1, 0, none⟩)), (7, .pointer (some ⟨s_.2, 0, none⟩))]) (fun s_ w' => (w'.cell? ⟨gb309, 0, none⟩ = some (.int .i64 a0_0) ∧ w'.cell? ⟨gb309, 1, none⟩ = some (.slice (some ad311) l0_1.length c0_1) ∧ w'.cell? ⟨gb310, 0, none⟩ = some (.int .i64 a1_0) ∧ w'.cell? ⟨gb310, 1, none⟩ = some (.slice (some ad312) l1_1.length c1_1) ∧ w'.cell? (ad311.add ((x5_2).toNat * 3)) = some (.string ((rd_T54 l0_1 x5_2).f0)) ∧ w'.cell? ⟨(ad311.add ((x5_2).toNat * 3)).block, (ad311.add ((x5_2).toNat * 3)).off + 1, none⟩ = some (.int .i64 ((rd_T54 l0_1 x5_2).f1)) ∧ w'.cell? ⟨(ad311.add ((x5_2).toNat * 3)).block, (ad311.add ((x5_2).toNat * 3)).off + 2, none⟩ = some (.slice A311_2 ((rd_T54 l0_1 x5_2).f2).length c311_2) ∧ w'.cell? (ad312.add ((x5_2).toNat * 3)) = some (.string ((rd_T54 l1_1 x5_2).f0)) ∧ w'.cell? ⟨(ad312.add ((x5_2).toNat * 3)).block, (ad312.add ((x5_2).toNat * 3)).off + 1, none⟩ = some (.int .i64 ((rd_T54 l1_1 x5_2).f1)) ∧ w'.cell? ⟨(ad312.add ((x5_2).toNat * 3)).block, (ad312.add ((x5_2).toNat * 3)).off + 2, none⟩ = some (.slice A312_2 ((rd_T54 l1_1 x5_2).f2).length c312_2)) ∧ (w'.heap[gb309]? = some (.cells #[.int .i64 a0_0, .slice (some ad311) l0_1.length c0_1] 38 (0, 0))) ∧ (w'.heap[gb310]? = some (.cells #[.int .i64 a1_0, .slice (some ad312) l1_1.length c1_1] 38 (0, 0))) ∧ (w'.heap[s_.1]? = some (.cells #[.string (⟨#[]⟩ : ByteArray), .int .i64 0, .slice none 0 0] 54 (0, 0))) ∧ (w'.heap[s_.2]? = some (.cells #[.string (⟨#[]⟩ : ByteArray), .int .i64 0, .slice none 0 0] 54 (0, 0))) ∧ (w.heap.size ≤ s_.1) ∧ (w.heap.size ≤ s_.1) ∧ (gb309 ≠ s_.1) ∧ (s_.1 ≠ gb309) ∧ (gb310 ≠ s_.1) ∧ (s_.1 ≠ gb310) ∧ (s_.2 ≠ s_.1) ∧ (s_.1 ≠ s_.2) ∧ (w.heap.size ≤ s_.2) ∧ (w.heap.size ≤ s_.2) ∧ (gb309 ≠ s_.2) ∧ (s_.2 ≠ gb309) ∧ (gb310 ≠ s_.2) ∧ (s_.2 ≠ gb310) ∧ (Below w.heap.size w w')) ?_ ?_
                        rotate_left
                        · intro hCont
                          refine two_ (i := 10) (j := 11) (Ni := some 6) (Nj := some 7) #[true, true, true, true, true, true, true, true, true, true, true, false, false, false] #[true, true, true, true, true, true, true, true, true, true, false, true, false, false] rfl rfl rfl rfl (two_of HT_.out (by kernel_rfl)) (by decide) (by decide) (fun K hK => ?_) (fun K hK => ?_)
                          · skip
                            refine box_step ?hg (N := 6) ?hd (cs := #[.string (⟨#[]⟩ : ByteArray), .int .i64 0, .slice none 0 0]) (t := 54) ?hr ?_; (case hd => rfl); (case hg => rfl); (case hr => first | (go_simp; done) | (go_simp; rfl))
                            intro gb313 hg w43 hbox hb
                            have n0_ := Aside0.mk (blk_below (g := gb309) (o := .cells #[.int .i64 a0_0, .slice (some ad311) l0_1.length c0_1] 38 (0, 0)) (by (with_reducible repeat (first | refine blk_drewN ?_ _ | refine blk_drew ?_ | refine blk_alloc ?_ _)); exact BK309.out) hb)
                            have n1_ := Aside0.mk (blk_below (g := gb310) (o := .cells #[.int .i64 a1_0, .slice (some ad312) l1_1.length c1_1] 38 (0, 0)) (by (with_reducible repeat (first | refine blk_drewN ?_ _ | refine blk_drew ?_ | refine blk_alloc ?_ _)); exact BK310.out) hb)
                            have n2_ := Aside0.mk (below_step (by repeat (first | (with_reducible first | exact HB.out | apply below_alloc | apply pw_below_drewN | apply below_drew1 | refine below_set ?_ GE309.out | refine below_set ?_ GE310.out) | exact HB.out)) hb)
                            have n3_ := Aside0.mk (hbox)
                            have n4_ := Aside0.mk ((by rw [hg]; exact (below_size (by repeat (first | (with_reducible first | exact HB.out | apply below_alloc | apply pw_below_drewN | apply below_drew1 | refine below_set ?_ GE309.out | refine below_set ?_ GE310.out) | exact HB.out))) : w.heap.size ≤ gb313))
                            have n5_ := Aside0.mk ((by rw [hg]; exact (below_size (by repeat (first | (with_reducible first | exact HB.out | apply below_alloc | apply pw_below_drewN | apply below_drew1 | refine below_set ?_ GE309.out | refine below_set ?_ GE310.out) | exact HB.out))) : w.heap.size ≤ gb313))
                            have n6_ := Aside0.mk ((by rw [hg]; exact Nat.ne_of_lt (blk_lt (g := gb309) (o := .cells #[.int .i64 a0_0, .slice (some ad311) l0_1.length c0_1] 38 (0, 0)) (by (with_reducible repeat (first | refine blk_drewN ?_ _ | refine blk_drew ?_ | refine blk_alloc ?_ _)); exact BK309.out)) : gb309 ≠ gb313))
                            have n7_ := Aside0.mk ((by rw [hg]; exact Nat.ne_of_gt (blk_lt (g := gb309) (o := .cells #[.int .i64 a0_0, .slice (some ad311) l0_1.length c0_1] 38 (0, 0)) (by (with_reducible repeat (first | refine blk_drewN ?_ _ | refine blk_drew ?_ | refine blk_alloc ?_ _)); exact BK309.out)) : gb313 ≠ gb309))
                            have n8_ := Aside0.mk ((by rw [hg]; exact Nat.ne_of_lt (blk_lt (g := gb310) (o := .cells #[.int .i64 a1_0, .slice (some ad312) l1_1.length c1_1] 38 (0, 0)) (by (with_reducible repeat (first | refine blk_drewN ?_ _ | refine blk_drew ?_ | refine blk_alloc ?_ _)); exact BK310.out)) : gb310 ≠ gb313))
                            have n9_ := Aside0.mk ((by rw [hg]; exact Nat.ne_of_gt (blk_lt (g := gb310) (o := .cells #[.int .i64 a1_0, .slice (some ad312) l1_1.length c1_1] 38 (0, 0)) (by (with_reducible repeat (first | refine blk_drewN ?_ _ | refine blk_drew ?_ | refine blk_alloc ?_ _)); exact BK310.out)) : gb313 ≠ gb310))
                            clear BK309
                            clear BK310
                            clear HB
                            have BK309 := n0_
                            have BK310 := n1_
                            have HB := n2_
                            have BK313 := n3_
                            have GW313 := n4_
                            have GE313 := n5_
                            have NB309_313 := n6_
                            have NB313_309 := n7_
                            have NB310_313 := n8_
                            have NB313_310 := n9_
                            clear n0_ n1_ n2_ n3_ n4_ n5_ n6_ n7_ n8_ n9_
                            clear hb hbox hg
                            refine hK.out _ _ ⟨(blk_cell BK309.out 0).trans rfl, (blk_cell BK309.out 1).trans rfl, (blk_cell BK310.out 0).trans rfl, (blk_cell BK310.out 1).trans rfl, ((HB.out.cell (World.block_lt_of_cell? w _ hw311_0)).trans hw311_0), ((HB.out.cell (World.block_lt_of_cell? w _ hw311_1)).trans hw311_1), ((HB.out.cell (World.block_lt_of_cell? w _ hw311_2)).trans hw311_2), ((HB.out.cell (World.block_lt_of_cell? w _ hw312_0)).trans hw312_0), ((HB.out.cell (World.block_lt_of_cell? w _ hw312_1)).trans hw312_1), ((HB.out.cell (World.block_lt_of_cell? w _ hw312_2)).trans hw312_2)⟩ (fun hHeld => ?_)
                            clear hK K
                            refine norm_ (a' := ?_) ?_ ?_
                            rotate_left
                            · show Act.put _ (some 6) _ = _
                              simp only [Act.put, List.setIfInBounds_toArray, List.set_cons_zero, List.set_cons_succ, i64_w, i32_w]
                              rfl
                            refine one_ (i := 11) (N := some 7) #[true, true, true, true, true, true, true, true, true, true, true, true, false, false] rfl rfl (one_of HT_.out (by kernel_rfl)) (by decide) (fun K hK => ?_)
                            refine box_step ?hg (N := 7) ?hd (cs := #[.string (⟨#[]⟩ : ByteArray), .int .i64 0, .slice none 0 0]) (t := 54) ?hr ?_; (case hd => rfl); (case hg => rfl); (case hr => first | (go_simp; done) | (go_simp; rfl))
                            intro gb314 hg w44 hbox hb
                            have n0_ := Aside0.mk (blk_below (g := gb309) (o := .cells #[.int .i64 a0_0, .slice (some ad311) l0_1.length c0_1] 38 (0, 0)) (by (with_reducible repeat (first | refine blk_drewN ?_ _ | refine blk_drew ?_ | refine blk_alloc ?_ _)); exact BK309.out) hb)
                            have n1_ := Aside0.mk (blk_below (g := gb310) (o := .cells #[.int .i64 a1_0, .slice (some ad312) l1_1.length c1_1] 38 (0, 0)) (by (with_reducible repeat (first | refine blk_drewN ?_ _ | refine blk_drew ?_ | refine blk_alloc ?_ _)); exact BK310.out) hb)
                            have n2_ := Aside0.mk (blk_below (g := gb313) (o := .cells #[.string (⟨#[]⟩ : ByteArray), .int .i64 0, .slice none 0 0] 54 (0, 0)) (by (with_reducible repeat (first | refine blk_drewN ?_ _ | refine blk_drew ?_ | refine blk_alloc ?_ _)); exact BK313.out) hb)
                            have n3_ := Aside0.mk (below_step (by repeat (first | (with_reducible first | exact HB.out | apply below_alloc | apply pw_below_drewN | apply below_drew1 | refine below_set ?_ GE309.out | refine below_set ?_ GE310.out | refine below_set ?_ GE313.out) | exact HB.out)) hb)
                            have n4_ := Aside0.mk (hbox)
                            have n5_ := Aside0.mk ((by rw [hg]; exact (below_size (by repeat (first | (with_reducible first | exact HB.out | apply below_alloc | apply pw_below_drewN | apply below_drew1 | refine below_set ?_ GE309.out | refine below_set ?_ GE310.out | refine below_set ?_ GE313.out) | exact HB.out))) : w.heap.size ≤ gb314))
                            have n6_ := Aside0.mk ((by rw [hg]; exact (below_size (by repeat (first | (with_reducible first | exact HB.out | apply below_alloc | apply pw_below_drewN | apply below_drew1 | refine below_set ?_ GE309.out | refine below_set ?_ GE310.out | refine below_set ?_ GE313.out) | exact HB.out))) : w.heap.size ≤ gb314))
                            have n7_ := Aside0.mk ((by rw [hg]; exact Nat.ne_of_lt (blk_lt (g := gb309) (o := .cells #[.int .i64 a0_0, .slice (some ad311) l0_1.length c0_1] 38 (0, 0)) (by (with_reducible repeat (first | refine blk_drewN ?_ _ | refine blk_drew ?_ | refine blk_alloc ?_ _)); exact BK309.out)) : gb309 ≠ gb314))
                            have n8_ := Aside0.mk ((by rw [hg]; exact Nat.ne_of_gt (blk_lt (g := gb309) (o := .cells #[.int .i64 a0_0, .slice (some ad311) l0_1.length c0_1] 38 (0, 0)) (by (with_reducible repeat (first | refine blk_drewN ?_ _ | refine blk_drew ?_ | refine blk_alloc ?_ _)); exact BK309.out)) : gb314 ≠ gb309))
                            have n9_ := Aside0.mk ((by rw [hg]; exact Nat.ne_of_lt (blk_lt (g := gb310) (o := .cells #[.int .i64 a1_0, .slice (some ad312) l1_1.length c1_1] 38 (0, 0)) (by (with_reducible repeat (first | refine blk_drewN ?_ _ | refine blk_drew ?_ | refine blk_alloc ?_ _)); exact BK310.out)) : gb310 ≠ gb314))
                            have n10_ := Aside0.mk ((by rw [hg]; exact Nat.ne_of_gt (blk_lt (g := gb310) (o := .cells #[.int .i64 a1_0, .slice (some ad312) l1_1.length c1_1] 38 (0, 0)) (by (with_reducible repeat (first | refine blk_drewN ?_ _ | refine blk_drew ?_ | refine blk_alloc ?_ _)); exact BK310.out)) : gb314 ≠ gb310))
                            have n11_ := Aside0.mk ((by rw [hg]; exact Nat.ne_of_lt (blk_lt (g := gb313) (o := .cells #[.string (⟨#[]⟩ : ByteArray), .int .i64 0, .slice none 0 0] 54 (0, 0)) (by (with_reducible repeat (first | refine blk_drewN ?_ _ | refine blk_drew ?_ | refine blk_alloc ?_ _)); exact BK313.out)) : gb313 ≠ gb314))
                            have n12_ := Aside0.mk ((by rw [hg]; exact Nat.ne_of_gt (blk_lt (g := gb313) (o := .cells #[.string (⟨#[]⟩ : ByteArray), .int .i64 0, .slice none 0 0] 54 (0, 0)) (by (with_reducible repeat (first | refine blk_drewN ?_ _ | refine blk_drew ?_ | refine blk_alloc ?_ _)); exact BK313.out)) : gb314 ≠ gb313))
                            clear BK309
                            clear BK310
                            clear BK313
                            clear HB
                            have BK309 := n0_
                            have BK310 := n1_
                            have BK313 := n2_
                            have HB := n3_
                            have BK314 := n4_
                            have GW314 := n5_
                            have GE314 := n6_
                            have NB309_314 := n7_
                            have NB314_309 := n8_
                            have NB310_314 := n9_
                            have NB314_310 := n10_
                            have NB313_314 := n11_
                            have NB314_313 := n12_
                            clear n0_ n1_ n2_ n3_ n4_ n5_ n6_ n7_ n8_ n9_ n10_ n11_ n12_
                            clear hb hbox hg
                            refine hK.out _ _ ⟨(blk_cell BK309.out 0).trans rfl, (blk_cell BK309.out 1).trans rfl, (blk_cell BK310.out 0).trans rfl, (blk_cell BK310.out 1).trans rfl, ((HB.out.cell (World.block_lt_of_cell? w _ hw311_0)).trans hw311_0), ((HB.out.cell (World.block_lt_of_cell? w _ hw311_1)).trans hw311_1), ((HB.out.cell (World.block_lt_of_cell? w _ hw311_2)).trans hw311_2), ((HB.out.cell (World.block_lt_of_cell? w _ hw312_0)).trans hw312_0), ((HB.out.cell (World.block_lt_of_cell? w _ hw312_1)).trans hw312_1), ((HB.out.cell (World.block_lt_of_cell? w _ hw312_2)).trans hw312_2)⟩ (fun hHeld => ?_)
                            clear hK K
                            refine norm_ (a' := ?_) ?_ ?_
                            rotate_left
                            · show Act.put _ (some 7) _ = _
                              simp only [Act.put, List.setIfInBounds_toArray, List.set_cons_zero, List.set_cons_succ, i64_w, i32_w]
                              rfl
                            exact norm_ (by simp only [putAll, Act.put, List.setIfInBounds_toArray, List.set_cons_zero, List.set_cons_succ]) (hCont (gb313, gb314) _ ⟨hHeld, (by (with_reducible repeat (first | refine blk_drewN ?_ _ | refine blk_drew ?_ | refine blk_alloc ?_ _)); exact BK309.out), (by (with_reducible repeat (first | refine blk_drewN ?_ _ | refine blk_drew ?_ | refine blk_alloc ?_ _)); exact BK310.out), (by (with_reducible repeat (first | refine blk_drewN ?_ _ | refine blk_drew ?_ | refine blk_alloc ?_ _)); exact BK313.out), (by (with_reducible repeat (first | refine blk_drewN ?_ _ | refine blk_drew ?_ | refine blk_alloc ?_ _)); exact BK314.out), GW313.out, GE313.out, NB309_313.out, NB313_309.out, NB310_313.out, NB313_310.out, NB314_313.out, NB313_314.out, GW314.out, GE314.out, NB309_314.out, NB314_309.out, NB310_314.out, NB314_310.out, (by repeat (first | (with_reducible first | exact HB.out | apply below_alloc | apply pw_below_drewN | apply below_drew1 | refine below_set ?_ GE309.out | refine below_set ?_ GE310.out | refine below_set ?_ GE313.out | refine below_set ?_ GE314.out) | exact HB.out))⟩)
                          · skip
                            refine box_step ?hg (N := 7) ?hd (cs := #[.string (⟨#[]⟩ : ByteArray), .int .i64 0, .slice none 0 0]) (t := 54) ?hr ?_; (case hd => rfl); (case hg => rfl); (case hr => first | (go_simp; done) | (go_simp; rfl))
                            intro gb314 hg w43 hbox hb
                            have n0_ := Aside0.mk (blk_below (g := gb309) (o := .cells #[.int .i64 a0_0, .slice (some ad311) l0_1.length c0_1] 38 (0, 0)) (by (with_reducible repeat (first | refine blk_drewN ?_ _ | refine blk_drew ?_ | refine blk_alloc ?_ _)); exact BK309.out) hb)
                            have n1_ := Aside0.mk (blk_below (g := gb310) (o := .cells #[.int .i64 a1_0, .slice (some ad312) l1_1.length c1_1] 38 (0, 0)) (by (with_reducible repeat (first | refine blk_drewN ?_ _ | refine blk_drew ?_ | refine blk_alloc ?_ _)); exact BK310.out) hb)
                            have n2_ := Aside0.mk (below_step (by repeat (first | (with_reducible first | exact HB.out | apply below_alloc | apply pw_below_drewN | apply below_drew1 | refine below_set ?_ GE309.out | refine below_set ?_ GE310.out) | exact HB.out)) hb)
                            have n3_ := Aside0.mk (hbox)
                            have n4_ := Aside0.mk ((by rw [hg]; exact (below_size (by repeat (first | (with_reducible first | exact HB.out | apply below_alloc | apply pw_below_drewN | apply below_drew1 | refine below_set ?_ GE309.out | refine below_set ?_ GE310.out) | exact HB.out))) : w.heap.size ≤ gb314))
                            have n5_ := Aside0.mk ((by rw [hg]; exact (below_size (by repeat (first | (with_reducible first | exact HB.out | apply below_alloc | apply pw_below_drewN | apply below_drew1 | refine below_set ?_ GE309.out | refine below_set ?_ GE310.out) | exact HB.out))) : w.heap.size ≤ gb314))
                            have n6_ := Aside0.mk ((by rw [hg]; exact Nat.ne_of_lt (blk_lt (g := gb309) (o := .cells #[.int .i64 a0_0, .slice (some ad311) l0_1.length c0_1] 38 (0, 0)) (by (with_reducible repeat (first | refine blk_drewN ?_ _ | refine blk_drew ?_ | refine blk_alloc ?_ _)); exact BK309.out)) : gb309 ≠ gb314))
                            have n7_ := Aside0.mk ((by rw [hg]; exact Nat.ne_of_gt (blk_lt (g := gb309) (o := .cells #[.int .i64 a0_0, .slice (some ad311) l0_1.length c0_1] 38 (0, 0)) (by (with_reducible repeat (first | refine blk_drewN ?_ _ | refine blk_drew ?_ | refine blk_alloc ?_ _)); exact BK309.out)) : gb314 ≠ gb309))
                            have n8_ := Aside0.mk ((by rw [hg]; exact Nat.ne_of_lt (blk_lt (g := gb310) (o := .cells #[.int .i64 a1_0, .slice (some ad312) l1_1.length c1_1] 38 (0, 0)) (by (with_reducible repeat (first | refine blk_drewN ?_ _ | refine blk_drew ?_ | refine blk_alloc ?_ _)); exact BK310.out)) : gb310 ≠ gb314))
                            have n9_ := Aside0.mk ((by rw [hg]; exact Nat.ne_of_gt (blk_lt (g := gb310) (o := .cells #[.int .i64 a1_0, .slice (some ad312) l1_1.length c1_1] 38 (0, 0)) (by (with_reducible repeat (first | refine blk_drewN ?_ _ | refine blk_drew ?_ | refine blk_alloc ?_ _)); exact BK310.out)) : gb314 ≠ gb310))
                            clear BK309
                            clear BK310
                            clear HB
                            have BK309 := n0_
                            have BK310 := n1_
                            have HB := n2_
                            have BK314 := n3_
                            have GW314 := n4_
                            have GE314 := n5_
                            have NB309_314 := n6_
                            have NB314_309 := n7_
                            have NB310_314 := n8_
                            have NB314_310 := n9_
                            clear n0_ n1_ n2_ n3_ n4_ n5_ n6_ n7_ n8_ n9_
                            clear hb hbox hg
                            refine hK.out _ _ ⟨(blk_cell BK309.out 0).trans rfl, (blk_cell BK309.out 1).trans rfl, (blk_cell BK310.out 0).trans rfl, (blk_cell BK310.out 1).trans rfl, ((HB.out.cell (World.block_lt_of_cell? w _ hw311_0)).trans hw311_0), ((HB.out.cell (World.block_lt_of_cell? w _ hw311_1)).trans hw311_1), ((HB.out.cell (World.block_lt_of_cell? w _ hw311_2)).trans hw311_2), ((HB.out.cell (World.block_lt_of_cell? w _ hw312_0)).trans hw312_0), ((HB.out.cell (World.block_lt_of_cell? w _ hw312_1)).trans hw312_1), ((HB.out.cell (World.block_lt_of_cell? w _ hw312_2)).trans hw312_2)⟩ (fun hHeld => ?_)
                            clear hK K
                            refine norm_ (a' := ?_) ?_ ?_
                            rotate_left
                            · show Act.put _ (some 7) _ = _
                              simp only [Act.put, List.setIfInBounds_toArray, List.set_cons_zero, List.set_cons_succ, i64_w, i32_w]
                              rfl
                            refine one_ (i := 10) (N := some 6) #[true, true, true, true, true, true, true, true, true, true, true, true, false, false] rfl rfl (one_of HT_.out (by kernel_rfl)) (by decide) (fun K hK => ?_)
                            refine box_step ?hg (N := 6) ?hd (cs := #[.string (⟨#[]⟩ : ByteArray), .int .i64 0, .slice none 0 0]) (t := 54) ?hr ?_; (case hd => rfl); (case hg => rfl); (case hr => first | (go_simp; done) | (go_simp; rfl))
                            intro gb313 hg w44 hbox hb
                            have n0_ := Aside0.mk (blk_below (g := gb309) (o := .cells #[.int .i64 a0_0, .slice (some ad311) l0_1.length c0_1] 38 (0, 0)) (by (with_reducible repeat (first | refine blk_drewN ?_ _ | refine blk_drew ?_ | refine blk_alloc ?_ _)); exact BK309.out) hb)
                            have n1_ := Aside0.mk (blk_below (g := gb310) (o := .cells #[.int .i64 a1_0, .slice (some ad312) l1_1.length c1_1] 38 (0, 0)) (by (with_reducible repeat (first | refine blk_drewN ?_ _ | refine blk_drew ?_ | refine blk_alloc ?_ _)); exact BK310.out) hb)
                            have n2_ := Aside0.mk (blk_below (g := gb314) (o := .cells #[.string (⟨#[]⟩ : ByteArray), .int .i64 0, .slice none 0 0] 54 (0, 0)) (by (with_reducible repeat (first | refine blk_drewN ?_ _ | refine blk_drew ?_ | refine blk_alloc ?_ _)); exact BK314.out) hb)
                            have n3_ := Aside0.mk (below_step (by repeat (first | (with_reducible first | exact HB.out | apply below_alloc | apply pw_below_drewN | apply below_drew1 | refine below_set ?_ GE309.out | refine below_set ?_ GE310.out | refine below_set ?_ GE314.out) | exact HB.out)) hb)
                            have n4_ := Aside0.mk (hbox)
                            have n5_ := Aside0.mk ((by rw [hg]; exact (below_size (by repeat (first | (with_reducible first | exact HB.out | apply below_alloc | apply pw_below_drewN | apply below_drew1 | refine below_set ?_ GE309.out | refine below_set ?_ GE310.out | refine below_set ?_ GE314.out) | exact HB.out))) : w.heap.size ≤ gb313))
                            have n6_ := Aside0.mk ((by rw [hg]; exact (below_size (by repeat (first | (with_reducible first | exact HB.out | apply below_alloc | apply pw_below_drewN | apply below_drew1 | refine below_set ?_ GE309.out | refine below_set ?_ GE310.out | refine below_set ?_ GE314.out) | exact HB.out))) : w.heap.size ≤ gb313))
                            have n7_ := Aside0.mk ((by rw [hg]; exact Nat.ne_of_lt (blk_lt (g := gb309) (o := .cells #[.int .i64 a0_0, .slice (some ad311) l0_1.length c0_1] 38 (0, 0)) (by (with_reducible repeat (first | refine blk_drewN ?_ _ | refine blk_drew ?_ | refine blk_alloc ?_ _)); exact BK309.out)) : gb309 ≠ gb313))
                            have n8_ := Aside0.mk ((by rw [hg]; exact Nat.ne_of_gt (blk_lt (g := gb309) (o := .cells #[.int .i64 a0_0, .slice (some ad311) l0_1.length c0_1] 38 (0, 0)) (by (with_reducible repeat (first | refine blk_drewN ?_ _ | refine blk_drew ?_ | refine blk_alloc ?_ _)); exact BK309.out)) : gb313 ≠ gb309))
                            have n9_ := Aside0.mk ((by rw [hg]; exact Nat.ne_of_lt (blk_lt (g := gb310) (o := .cells #[.int .i64 a1_0, .slice (some ad312) l1_1.length c1_1] 38 (0, 0)) (by (with_reducible repeat (first | refine blk_drewN ?_ _ | refine blk_drew ?_ | refine blk_alloc ?_ _)); exact BK310.out)) : gb310 ≠ gb313))
                            have n10_ := Aside0.mk ((by rw [hg]; exact Nat.ne_of_gt (blk_lt (g := gb310) (o := .cells #[.int .i64 a1_0, .slice (some ad312) l1_1.length c1_1] 38 (0, 0)) (by (with_reducible repeat (first | refine blk_drewN ?_ _ | refine blk_drew ?_ | refine blk_alloc ?_ _)); exact BK310.out)) : gb313 ≠ gb310))
                            have n11_ := Aside0.mk ((by rw [hg]; exact Nat.ne_of_lt (blk_lt (g := gb314) (o := .cells #[.string (⟨#[]⟩ : ByteArray), .int .i64 0, .slice none 0 0] 54 (0, 0)) (by (with_reducible repeat (first | refine blk_drewN ?_ _ | refine blk_drew ?_ | refine blk_alloc ?_ _)); exact BK314.out)) : gb314 ≠ gb313))
                            have n12_ := Aside0.mk ((by rw [hg]; exact Nat.ne_of_gt (blk_lt (g := gb314) (o := .cells #[.string (⟨#[]⟩ : ByteArray), .int .i64 0, .slice none 0 0] 54 (0, 0)) (by (with_reducible repeat (first | refine blk_drewN ?_ _ | refine blk_drew ?_ | refine blk_alloc ?_ _)); exact BK314.out)) : gb313 ≠ gb314))
                            clear BK309
                            clear BK310
                            clear BK314
                            clear HB
                            have BK309 := n0_
                            have BK310 := n1_
                            have BK314 := n2_
                            have HB := n3_
                            have BK313 := n4_
                            have GW313 := n5_
                            have GE313 := n6_
                            have NB309_313 := n7_
                            have NB313_309 := n8_
                            have NB310_313 := n9_
                            have NB313_310 := n10_
                            have NB314_313 := n11_
                            have NB313_314 := n12_
                            clear n0_ n1_ n2_ n3_ n4_ n5_ n6_ n7_ n8_ n9_ n10_ n11_ n12_
                            clear hb hbox hg
                            refine hK.out _ _ ⟨(blk_cell BK309.out 0).trans rfl, (blk_cell BK309.out 1).trans rfl, (blk_cell BK310.out 0).trans rfl, (blk_cell BK310.out 1).trans rfl, ((HB.out.cell (World.block_lt_of_cell? w _ hw311_0)).trans hw311_0), ((HB.out.cell (World.block_lt_of_cell? w _ hw311_1)).trans hw311_1), ((HB.out.cell (World.block_lt_of_cell? w _ hw311_2)).trans hw311_2), ((HB.out.cell (World.block_lt_of_cell? w _ hw312_0)).trans hw312_0), ((HB.out.cell (World.block_lt_of_cell? w _ hw312_1)).trans hw312_1), ((HB.out.cell (World.block_lt_of_cell? w _ hw312_2)).trans hw312_2)⟩ (fun hHeld => ?_)
                            clear hK K
                            refine norm_ (a' := ?_) ?_ ?_
                            rotate_left
                            · show Act.put _ (some 6) _ = _
                              simp only [Act.put, List.setIfInBounds_toArray, List.set_cons_zero, List.set_cons_succ, i64_w, i32_w]
                              rfl
                            exact norm_ (by simp only [putAll, Act.put, List.setIfInBounds_toArray, List.set_cons_zero, List.set_cons_succ]) (hCont (gb313, gb314) _ ⟨hHeld, (by (with_reducible repeat (first | refine blk_drewN ?_ _ | refine blk_drew ?_ | refine blk_alloc ?_ _)); exact BK309.out), (by (with_reducible repeat (first | refine blk_drewN ?_ _ | refine blk_drew ?_ | refine blk_alloc ?_ _)); exact BK310.out), (by (with_reducible repeat (first | refine blk_drewN ?_ _ | refine blk_drew ?_ | refine blk_alloc ?_ _)); exact BK313.out), (by (with_reducible repeat (first | refine blk_drewN ?_ _ | refine blk_drew ?_ | refine blk_alloc ?_ _)); exact BK314.out), GW313.out, GE313.out, NB309_313.out, NB313_309.out, NB310_313.out, NB313_310.out, NB314_313.out, NB313_314.out, GW314.out, GE314.out, NB309_314.out, NB314_309.out, NB310_314.out, NB314_310.out, (by repeat (first | (with_reducible first | exact HB.out | apply below_alloc | apply pw_below_drewN | apply below_drew1 | refine below_set ?_ GE309.out | refine below_set ?_ GE310.out | refine below_set ?_ GE314.out | refine below_set ?_ GE313.out) | exact HB.out))⟩)
                        rintro ⟨gb313, gb314⟩ w45 ⟨hS_, h0_, h1_, h2_, h3_, h4_, h5_, h6_, h7_, h8_, h9_, h10_, h11_, h12_, h13_, h14_, h15_, h16_, h17_, h18_⟩
                        have n0_ : Aside0 (w45.heap[gb309]? = some (.cells #[.int .i64 a0_0, .slice (some ad311) l0_1.length c0_1] 38 (0, 0))) := ⟨h0_⟩
                        have n1_ : Aside0 (w45.heap[gb310]? = some (.cells #[.int .i64 a1_0, .slice (some ad312) l1_1.length c1_1] 38 (0, 0))) := ⟨h1_⟩
                        have n2_ : Aside0 (w45.heap[gb313]? = some (.cells #[.string (⟨#[]⟩ : ByteArray), .int .i64 0, .slice none 0 0] 54 (0, 0))) := ⟨h2_⟩
                        have n3_ : Aside0 (w45.heap[gb314]? = some (.cells #[.string (⟨#[]⟩ : ByteArray), .int .i64 0, .slice none 0 0] 54 (0, 0))) := ⟨h3_⟩
                        have n4_ : Aside0 (w.heap.size ≤ gb313) := ⟨h4_⟩
                        have n5_ : Aside0 (w.heap.size ≤ gb313) := ⟨h5_⟩
                        have n6_ : Aside0 (gb309 ≠ gb313) := ⟨h6_⟩
                        have n7_ : Aside0 (gb313 ≠ gb309) := ⟨h7_⟩
                        have n8_ : Aside0 (gb310 ≠ gb313) := ⟨h8_⟩
                        have n9_ : Aside0 (gb313 ≠ gb310) := ⟨h9_⟩
                        have n10_ : Aside0 (gb314 ≠ gb313) := ⟨h10_⟩
                        have n11_ : Aside0 (gb313 ≠ gb314) := ⟨h11_⟩
                        have n12_ : Aside0 (w.heap.size ≤ gb314) := ⟨h12_⟩
                        have n13_ : Aside0 (w.heap.size ≤ gb314) := ⟨h13_⟩
                        have n14_ : Aside0 (gb309 ≠ gb314) := ⟨h14_⟩
                        have n15_ : Aside0 (gb314 ≠ gb309) := ⟨h15_⟩
                        have n16_ : Aside0 (gb310 ≠ gb314) := ⟨h16_⟩
                        have n17_ : Aside0 (gb314 ≠ gb310) := ⟨h17_⟩
                        have n18_ : Aside0 (Below w.heap.size w w45) := ⟨h18_⟩
                        clear BK309
                        clear BK310
                        clear HB
                        clear h0_ h1_ h2_ h3_ h4_ h5_ h6_ h7_ h8_ h9_ h10_ h11_ h12_ h13_ h14_ h15_ h16_ h17_ h18_
                        have BK309 := n0_
                        have BK310 := n1_
                        have BK313 := n2_
                        have BK314 := n3_
                        have GW313 := n4_
                        have GE313 := n5_
                        have NB309_313 := n6_
                        have NB313_309 := n7_
                        have NB310_313 := n8_
                        have NB313_310 := n9_
                        have NB314_313 := n10_
                        have NB313_314 := n11_
                        have GW314 := n12_
                        have GE314 := n13_
                        have NB309_314 := n14_
                        have NB314_309 := n15_
                        have NB310_314 := n16_
                        have NB314_310 := n17_
                        have HB := n18_
                        clear n0_ n1_ n2_ n3_ n4_ n5_ n6_ n7_ n8_ n9_ n10_ n11_ n12_ n13_ n14_ n15_ n16_ n17_ n18_
                        have hHeld : w45.cell? ⟨gb309, 0, none⟩ = some (.int .i64 a0_0) ∧ w45.cell? ⟨gb309, 1, none⟩ = some (.slice (some ad311) l0_1.length c0_1) ∧ w45.cell? ⟨gb310, 0, none⟩ = some (.int .i64 a1_0) ∧ w45.cell? ⟨gb310, 1, none⟩ = some (.slice (some ad312) l1_1.length c1_1) ∧ w45.cell? (ad311.add ((x5_2).toNat * 3)) = some (.string ((rd_T54 l0_1 x5_2).f0)) ∧ w45.cell? ⟨(ad311.add ((x5_2).toNat * 3)).block, (ad311.add ((x5_2).toNat * 3)).off + 1, none⟩ = some (.int .i64 ((rd_T54 l0_1 x5_2).f1)) ∧ w45.cell? ⟨(ad311.add ((x5_2).toNat * 3)).block, (ad311.add ((x5_2).toNat * 3)).off + 2, none⟩ = some (.slice A311_2 ((rd_T54 l0_1 x5_2).f2).length c311_2) ∧ w45.cell? (ad312.add ((x5_2).toNat * 3)) = some (.string ((rd_T54 l1_1 x5_2).f0)) ∧ w45.cell? ⟨(ad312.add ((x5_2).toNat * 3)).block, (ad312.add ((x5_2).toNat * 3)).off + 1, none⟩ = some (.int .i64 ((rd_T54 l1_1 x5_2).f1)) ∧ w45.cell? ⟨(ad312.add ((x5_2).toNat * 3)).block, (ad312.add ((x5_2).toNat * 3)).off + 2, none⟩ = some (.slice A312_2 ((rd_T54 l1_1 x5_2).f2).length c312_2) := hS_
                        refine norm_ (a' := ?_) ?_ ?_
                        rotate_left
                        · simp only [putAll, Act.put, List.setIfInBounds_toArray, List.set_cons_zero, List.set_cons_succ]
                          rfl
                        refine one_ (i := 12) (N := none) #[true, true, true, true, true, true, true, true, true, true, true, true, true, false] rfl rfl (one_of HT_.out (by kernel_rfl)) (by decide) (fun K hK => ?_)
                        have hs46 : w45.cell? ⟨gb313, 0, none⟩ = some (.string (⟨#[]⟩ : ByteArray)) := (blk_cell BK313.out 0).trans rfl
                        have hfs46 := blk_frozen BK313.out 0
                        have hns46_0 := NB309_313.out
                        have hns46_1 := NB310_313.out
                        have hns46_3 := NB314_313.out
                        have hms46_0 := NB313_309.out
                        have hms46_1 := NB313_310.out
                        have hms46_3 := NB313_314.out
                        have hs47 : w45.cell? ⟨gb313, 1, none⟩ = some (.int .i64 0) := (blk_cell BK313.out 1).trans rfl
                        have hfs47 := blk_frozen BK313.out 1
                        have hns47_0 := NB309_313.out
                        have hns47_1 := NB310_313.out
                        have hns47_3 := NB314_313.out
                        have hms47_0 := NB313_309.out
                        have hms47_1 := NB313_310.out
                        have hms47_3 := NB313_314.out
                        have hs48 : w45.cell? ⟨gb313, 2, none⟩ = some (.slice none 0 0) := (blk_cell BK313.out 2).trans rfl
                        have hfs48 := blk_frozen BK313.out 2
                        have hns48_0 := NB309_313.out
                        have hns48_1 := NB310_313.out
                        have hns48_3 := NB314_313.out
                        have hms48_0 := NB313_309.out
                        have hms48_1 := NB313_310.out
                        have hms48_3 := NB313_314.out
                        refine skip_ (w1 := ?_) (by rfl) rfl ?_ ?_
                        rotate_left
                        · go_simp
                          rfl
                        refine hK.out _ _ ⟨((cell_far (p := ⟨gb313, _, none⟩) NB309_313.out _).trans (((cell_far (p := ⟨gb313, _, none⟩) NB309_313.out _).trans (((cell_far (p := ⟨gb313, _, none⟩) NB309_313.out _).trans (hHeld.1)))))), ((cell_far (p := ⟨gb313, _, none⟩) NB309_313.out _).trans (((cell_far (p := ⟨gb313, _, none⟩) NB309_313.out _).trans (((cell_far (p := ⟨gb313, _, none⟩) NB309_313.out _).trans (hHeld.2.1)))))), ((cell_far (p := ⟨gb313, _, none⟩) NB310_313.out _).trans (((cell_far (p := ⟨gb313, _, none⟩) NB310_313.out _).trans (((cell_far (p := ⟨gb313, _, none⟩) NB310_313.out _).trans (hHeld.2.2.1)))))), ((cell_far (p := ⟨gb313, _, none⟩) NB310_313.out _).trans (((cell_far (p := ⟨gb313, _, none⟩) NB310_313.out _).trans (((cell_far (p := ⟨gb313, _, none⟩) NB310_313.out _).trans (hHeld.2.2.2.1)))))), ((cell_far (p := ⟨gb313, _, none⟩) (far_ne28 hw311_0 GW313.out) _).trans (((cell_far (p := ⟨gb313, _, none⟩) (far_ne28 hw311_0 GW313.out) _).trans (((cell_far (p := ⟨gb313, _, none⟩) (far_ne28 hw311_0 GW313.out) _).trans (hHeld.2.2.2.2.1)))))), ((cell_far (p := ⟨gb313, _, none⟩) (far_ne28 hw311_1 GW313.out) _).trans (((cell_far (p := ⟨gb313, _, none⟩) (far_ne28 hw311_1 GW313.out) _).trans (((cell_far (p := ⟨gb313, _, none⟩) (far_ne28 hw311_1 GW313.out) _).trans (hHeld.2.2.2.2.2.1)))))), ((cell_far (p := ⟨gb313, _, none⟩) (far_ne28 hw311_2 GW313.out) _).trans (((cell_far (p := ⟨gb313, _, none⟩) (far_ne28 hw311_2 GW313.out) _).trans (((cell_far (p := ⟨gb313, _, none⟩) (far_ne28 hw311_2 GW313.out) _).trans (hHeld.2.2.2.2.2.2.1)))))), ((cell_far (p := ⟨gb313, _, none⟩) (far_ne28 hw312_0 GW313.out) _).trans (((cell_far (p := ⟨gb313, _, none⟩) (far_ne28 hw312_0 GW313.out) _).trans (((cell_far (p := ⟨gb313, _, none⟩) (far_ne28 hw312_0 GW313.out) _).trans (hHeld.2.2.2.2.2.2.2.1)))))), ((cell_far (p := ⟨gb313, _, none⟩) (far_ne28 hw312_1 GW313.out) _).trans (((cell_far (p := ⟨gb313, _, none⟩) (far_ne28 hw312_1 GW313.out) _).trans (((cell_far (p := ⟨gb313, _, none⟩) (far_ne28 hw312_1 GW313.out) _).trans (hHeld.2.2.2.2.2.2.2.2.1)))))), ((cell_far (p := ⟨gb313, _, none⟩) (far_ne28 hw312_2 GW313.out) _).trans (((cell_far (p := ⟨gb313, _, none⟩) (far_ne28 hw312_2 GW313.out) _).trans (((cell_far (p := ⟨gb313, _, none⟩) (far_ne28 hw312_2 GW313.out) _).trans (hHeld.2.2.2.2.2.2.2.2.2))))))⟩ (fun hHeld => ?_)
                        clear hK K
                        refine one_ (i := 13) (N := none) #[true, true, true, true, true, true, true, true, true, true, true, true, true, true] rfl rfl (one_of HT_.out (by kernel_rfl)) (by decide) (fun K hK => ?_)
                        have hs49 : w45.cell? ⟨gb314, 0, none⟩ = some (.string (⟨#[]⟩ : ByteArray)) := (blk_cell BK314.out 0).trans rfl
                        have hfs49 := blk_frozen BK314.out 0
                        have hns49_0 := NB309_314.out
                        have hns49_1 := NB310_314.out
                        have hns49_2 := NB313_314.out
                        have hms49_0 := NB314_309.out
                        have hms49_1 := NB314_310.out
                        have hms49_2 := NB314_313.out
                        have hs50 : w45.cell? ⟨gb314, 1, none⟩ = some (.int .i64 0) := (blk_cell BK314.out 1).trans rfl
                        have hfs50 := blk_frozen BK314.out 1
                        have hns50_0 := NB309_314.out
                        have hns50_1 := NB310_314.out
                        have hns50_2 := NB313_314.out
                        have hms50_0 := NB314_309.out
                        have hms50_1 := NB314_310.out
                        have hms50_2 := NB314_313.out
                        have hs51 : w45.cell? ⟨gb314, 2, none⟩ = some (.slice none 0 0) := (blk_cell BK314.out 2).trans rfl
                        have hfs51 := blk_frozen BK314.out 2
                        have hns51_0 := NB309_314.out
                        have hns51_1 := NB310_314.out
                        have hns51_2 := NB313_314.out
                        have hms51_0 := NB314_309.out
                        have hms51_1 := NB314_310.out
                        have hms51_2 := NB314_313.out
                        refine skip_ (w1 := ?_) (by rfl) rfl ?_ ?_
                        rotate_left
                        · go_simp
                          rfl
                        refine hK.out _ _ ⟨((cell_far (p := ⟨gb314, _, none⟩) NB309_314.out _).trans (((cell_far (p := ⟨gb314, _, none⟩) NB309_314.out _).trans (((cell_far (p := ⟨gb314, _, none⟩) NB309_314.out _).trans (hHeld.1)))))), ((cell_far (p := ⟨gb314, _, none⟩) NB309_314.out _).trans (((cell_far (p := ⟨gb314, _, none⟩) NB309_314.out _).trans (((cell_far (p := ⟨gb314, _, none⟩) NB309_314.out _).trans (hHeld.2.1)))))), ((cell_far (p := ⟨gb314, _, none⟩) NB310_314.out _).trans (((cell_far (p := ⟨gb314, _, none⟩) NB310_314.out _).trans (((cell_far (p := ⟨gb314, _, none⟩) NB310_314.out _).trans (hHeld.2.2.1)))))), ((cell_far (p := ⟨gb314, _, none⟩) NB310_314.out _).trans (((cell_far (p := ⟨gb314, _, none⟩) NB310_314.out _).trans (((cell_far (p := ⟨gb314, _, none⟩) NB310_314.out _).trans (hHeld.2.2.2.1)))))), ((cell_far (p := ⟨gb314, _, none⟩) (far_ne28 hw311_0 GW314.out) _).trans (((cell_far (p := ⟨gb314, _, none⟩) (far_ne28 hw311_0 GW314.out) _).trans (((cell_far (p := ⟨gb314, _, none⟩) (far_ne28 hw311_0 GW314.out) _).trans (hHeld.2.2.2.2.1)))))), ((cell_far (p := ⟨gb314, _, none⟩) (far_ne28 hw311_1 GW314.out) _).trans (((cell_far (p := ⟨gb314, _, none⟩) (far_ne28 hw311_1 GW314.out) _).trans (((cell_far (p := ⟨gb314, _, none⟩) (far_ne28 hw311_1 GW314.out) _).trans (hHeld.2.2.2.2.2.1)))))), ((cell_far (p := ⟨gb314, _, none⟩) (far_ne28 hw311_2 GW314.out) _).trans (((cell_far (p := ⟨gb314, _, none⟩) (far_ne28 hw311_2 GW314.out) _).trans (((cell_far (p := ⟨gb314, _, none⟩) (far_ne28 hw311_2 GW314.out) _).trans (hHeld.2.2.2.2.2.2.1)))))), ((cell_far (p := ⟨gb314, _, none⟩) (far_ne28 hw312_0 GW314.out) _).trans (((cell_far (p := ⟨gb314, _, none⟩) (far_ne28 hw312_0 GW314.out) _).trans (((cell_far (p := ⟨gb314, _, none⟩) (far_ne28 hw312_0 GW314.out) _).trans (hHeld.2.2.2.2.2.2.2.1)))))), ((cell_far (p := ⟨gb314, _, none⟩) (far_ne28 hw312_1 GW314.out) _).trans (((cell_far (p := ⟨gb314, _, none⟩) (far_ne28 hw312_1 GW314.out) _).trans (((cell_far (p := ⟨gb314, _, none⟩) (far_ne28 hw312_1 GW314.out) _).trans (hHeld.2.2.2.2.2.2.2.2.1)))))), ((cell_far (p := ⟨gb314, _, none⟩) (far_ne28 hw312_2 GW314.out) _).trans (((cell_far (p := ⟨gb314, _, none⟩) (far_ne28 hw312_2 GW314.out) _).trans (((cell_far (p := ⟨gb314, _, none⟩) (far_ne28 hw312_2 GW314.out) _).trans (hHeld.2.2.2.2.2.2.2.2.2))))))⟩ (fun hHeld => ?_)
                        clear hK K
                        refine done_ (done_of HT_.out (by kernel_rfl)) ?_
                        have hnb52 := NB313_309.out
                        have hnc52 := NB309_313.out
                        have hnb53 := NB313_310.out
                        have hnc53 := NB310_313.out
                        have hnb54 := NB313_314.out
                        have hnc54 := NB314_313.out
                        have hcz55_0 : w45.cell? ⟨gb313, 0, none⟩ = some (.string (⟨#[]⟩ : ByteArray)) := (blk_cell BK313.out 0).trans rfl
                        have hcz55_1 : w45.cell? ⟨gb313, 1, none⟩ = some (.int .i64 0) := (blk_cell BK313.out 1).trans rfl
                        have hcz55_2 : w45.cell? ⟨gb313, 2, none⟩ = some (.slice none 0 0) := (blk_cell BK313.out 2).trans rfl
                        have hfz55_0 := blk_frozen BK313.out 0
                        have hfz55_1 := blk_frozen BK313.out 1
                        have hfz55_2 := blk_frozen BK313.out 2
                        have hnb56 := NB314_309.out
                        have hnc56 := NB309_314.out
                        have hnb57 := NB314_310.out
                        have hnc57 := NB310_314.out
                        have hcz58_0 : w45.cell? ⟨gb314, 0, none⟩ = some (.string (⟨#[]⟩ : ByteArray)) := (blk_cell BK314.out 0).trans rfl
                        have hcz58_1 : w45.cell? ⟨gb314, 1, none⟩ = some (.int .i64 0) := (blk_cell BK314.out 1).trans rfl
                        have hcz58_2 : w45.cell? ⟨gb314, 2, none⟩ = some (.slice none 0 0) := (blk_cell BK314.out 2).trans rfl
                        have hfz58_0 := blk_frozen BK314.out 0
                        have hfz58_1 := blk_frozen BK314.out 1
                        have hfz58_2 := blk_frozen BK314.out 2
                        try go_wp2_with (first | (go_at_call 50; (with_reducible refine (paraphrastref01_SameTuples.calls k2 _ _ ((rd_T54 l0_1 x5_2).f2) _ _ ((rd_T54 l1_1 x5_2).f2) false _ ?side1 ?side2 ?side3 ?side4 A19.out).mono ?_); (case side1 => exact Kd.C_below HR311_2.out (by repeat (first | (with_reducible first | exact HB.out | apply below_alloc | apply pw_below_drewN | apply below_drew1 | refine below_set ?_ GE309.out | refine below_set ?_ GE310.out | refine below_set ?_ GE313.out | refine below_set ?_ GE314.out) | exact HB.out))); (case side2 => exact HC311_2.out); (case side3 => exact Kd.C_below HR312_2.out (by repeat (first | (with_reducible first | exact HB.out | apply below_alloc | apply pw_below_drewN | apply below_drew1 | refine below_set ?_ GE309.out | refine below_set ?_ GE310.out | refine below_set ?_ GE313.out | refine below_set ?_ GE314.out) | exact HB.out))); (case side4 => exact HC312_2.out); rintro e w' ⟨rfl, ⟨nd, rfl⟩⟩))
                        go_ret
                        exact ⟨by first | rfl | (simp [errW_none, errW_some] <;> rfl) | (simp [*, errW_none, errW_some] <;> rfl), by repeat (first | (with_reducible first | exact HB.out | apply below_alloc | apply pw_below_drewN | apply below_drew1 | refine below_set ?_ GE309.out | refine below_set ?_ GE310.out | refine below_set ?_ GE313.out | refine below_set ?_ GE314.out) | exact HB.out)⟩
                    · rw [if_neg c18] at H
                      have c18b0 : (((rd_T54 l0_1 x5_2).f1) == ((rd_T54 l1_1 x5_2).f1)) = false := beq_eq_false_iff_ne.mpr c18
                      have c18b1 : (((rd_T54 l0_1 x5_2).f1) != ((rd_T54 l1_1 x5_2).f1)) = true := bne_iff_ne.mpr c18
                      obtain rfl := Option.some.inj H
                      have hnb59 := NB309_310.out
                      have hnc59 := NB310_309.out
                      have hcz60_0 : wr.cell? ⟨gb309, 0, none⟩ = some (.int .i64 a0_0) := (blk_cell BK309.out 0).trans rfl
                      have hcz60_1 : wr.cell? ⟨gb309, 1, none⟩ = some (.slice A0_1 l0_1.length c0_1) := (blk_cell BK309.out 1).trans rfl
                      have hfz60_0 := blk_frozen BK309.out 0
                      have hfz60_1 := blk_frozen BK309.out 1
                      try go_wp2
                      have n0_ := Aside0.mk (blk_drew BK309.out)
                      have n1_ := Aside0.mk (blk_drew BK310.out)
                      have n2_ := Aside0.mk (below_drew1 HB.out)
                      clear BK309
                      clear BK310
                      clear HB
                      have BK309 := n0_
                      have BK310 := n1_
                      have HB := n2_
                      clear n0_ n1_ n2_
                      have p311 : 0 ≤ (x5_2 : Int) := of_decide_eq_true (by first | (with_reducible assumption) | assumption)
                      have q311 : x5_2 < (l0_1.length : Int) := of_decide_eq_true (by first | (with_reducible assumption) | assumption)
                      obtain ⟨ad311, A311_2, c311_2, e311, hx311_0, hx311_1, hx311_2, hl311_2, hi311_2⟩ := at_T54 HR0_1.out x5_2 p311 q311
                      have hw311_2 := hx311_2
                      have hw311_1 := hx311_1
                      have hw311_0 := hx311_0
                      cases e311
                      replace hx311_0 := (HB.out.cell (World.block_lt_of_cell? w _ hx311_0)).trans hx311_0
                      replace hx311_1 := (HB.out.cell (World.block_lt_of_cell? w _ hx311_1)).trans hx311_1
                      replace hx311_2 := (HB.out.cell (World.block_lt_of_cell? w _ hx311_2)).trans hx311_2
                      have HR311_2 := Aside0.mk hi311_2
                      have HC311_2 := Aside0.mk hl311_2
                      clear hi311_2 hl311_2
                      replace p311 := eq_true p311
                      replace q311 := eq_true q311
                      have p312 : 0 ≤ (x5_2 : Int) := of_decide_eq_true (by first | (with_reducible assumption) | assumption)
                      have q312 : x5_2 < (l1_1.length : Int) := of_decide_eq_true (by first | (with_reducible assumption) | assumption)
                      obtain ⟨ad312, A312_2, c312_2, e312, hx312_0, hx312_1, hx312_2, hl312_2, hi312_2⟩ := at_T54 HR1_1.out x5_2 p312 q312
                      have hw312_2 := hx312_2
                      have hw312_1 := hx312_1
                      have hw312_0 := hx312_0
                      cases e312
                      replace hx312_0 := (HB.out.cell (World.block_lt_of_cell? w _ hx312_0)).trans hx312_0
                      replace hx312_1 := (HB.out.cell (World.block_lt_of_cell? w _ hx312_1)).trans hx312_1
                      replace hx312_2 := (HB.out.cell (World.block_lt_of_cell? w _ hx312_2)).trans hx312_2
                      have HR312_2 := Aside0.mk hi312_2
                      have HC312_2 := Aside0.mk hl312_2
                      clear hi312_2 hl312_2
                      replace p312 := eq_true p312
                      replace q312 := eq_true q312
                      refine start_ (n := 14) (S := fun w' => w'.cell? ⟨gb309, 0, none⟩ = some (.int .i64 a0_0) ∧ w'.cell? ⟨gb309, 1, none⟩ = some (.slice (some ad311) l0_1.length c0_1) ∧ w'.cell? ⟨gb310, 0, none⟩ = some (.int .i64 a1_0) ∧ w'.cell? ⟨gb310, 1, none⟩ = some (.slice (some ad312) l1_1.length c1_1) ∧ w'.cell? (ad311.add ((x5_2).toNat * 3)) = some (.string ((rd_T54 l0_1 x5_2).f0)) ∧ w'.cell? ⟨(ad311.add ((x5_2).toNat * 3)).block, (ad311.add ((x5_2).toNat * 3)).off + 1, none⟩ = some (.int .i64 ((rd_T54 l0_1 x5_2).f1)) ∧ w'.cell? ⟨(ad311.add ((x5_2).toNat * 3)).block, (ad311.add ((x5_2).toNat * 3)).off + 2, none⟩ = some (.slice A311_2 ((rd_T54 l0_1 x5_2).f2).length c311_2) ∧ w'.cell? (ad312.add ((x5_2).toNat * 3)) = some (.string ((rd_T54 l1_1 x5_2).f0)) ∧ w'.cell? ⟨(ad312.add ((x5_2).toNat * 3)).block, (ad312.add ((x5_2).toNat * 3)).off + 1, none⟩ = some (.int .i64 ((rd_T54 l1_1 x5_2).f1)) ∧ w'.cell? ⟨(ad312.add ((x5_2).toNat * 3)).block, (ad312.add ((x5_2).toNat * 3)).off + 2, none⟩ = some (.slice A312_2 ((rd_T54 l1_1 x5_2).f2).length c312_2)) (ds := []) #[false, false, false, false, false, false, false, false, false, false, false, false, false, false] (by kernel_rfl) rfl rfl ⟨(blk_cell BK309.out 0).trans rfl, (blk_cell BK309.out 1).trans rfl, (blk_cell BK310.out 0).trans rfl, (blk_cell BK310.out 1).trans rfl, ((HB.out.cell (World.block_lt_of_cell? w _ hw311_0)).trans hw311_0), ((HB.out.cell (World.block_lt_of_cell? w _ hw311_1)).trans hw311_1), ((HB.out.cell (World.block_lt_of_cell? w _ hw311_2)).trans hw311_2), ((HB.out.cell (World.block_lt_of_cell? w _ hw312_0)).trans hw312_0), ((HB.out.cell (World.block_lt_of_cell? w _ hw312_1)).trans hw312_1), ((HB.out.cell (World.block_lt_of_cell? w _ hw312_2)).trans hw312_2)⟩ (fun hHeld => ?_); refine with_tabW paraphrastref01_Same.tab6 paraphrastref01_Same.bits6 (fun HT_ HW_ => ?_)
                      generalize wr.drew = w61 at BK309 BK310 HB HR311_2 HR312_2 hx311_0 hx311_1 hx311_2 hx312_0 hx312_1 hx312_2 hHeld ⊢
                      refine pure_ (i := 0) (N := some 29) (v := ?_) (a' := ?_) #[true, false, false, false, false, false, false, false, false, false, false, false, false, false] rfl rfl (any_of HT_.out (by kernel_rfl)) (fun _ _ _ h => h) (Or.inl ⟨by rfl, ?_⟩) ?_ ?_
                      rotate_left
                      · intro w'
                        go_simp
                        with_reducible rfl
                      rotate_left
                      · simp only [Act.put, List.setIfInBounds_toArray, List.set_cons_zero, List.set_cons_succ, i64_w, i32_w]
                        rfl
                      refine pure_ (i := 2) (N := some 31) (v := ?_) (a' := ?_) #[true, false, true, false, false, false, false, false, false, false, false, false, false, false] rfl rfl (any_of HT_.out (by kernel_rfl)) (fun _ _ _ h => h) (Or.inl ⟨by rfl, ?_⟩) ?_ ?_
                      rotate_left
                      · intro w'
                        go_simp
                        with_reducible rfl
                      rotate_left
                      · simp only [Act.put, List.setIfInBounds_toArray, List.set_cons_zero, List.set_cons_succ, i64_w, i32_w]
                        rfl
                      refine pure_ (i := 5) (N := some 34) (v := ?_) (a' := ?_) #[true, false, true, false, false, true, false, false, false, false, false, false, false, false] rfl rfl (any_of HT_.out (by kernel_rfl)) (fun _ _ _ h => h) (Or.inl ⟨by rfl, ?_⟩) ?_ ?_
                      rotate_left
                      · intro w'
                        go_simp
                        with_reducible rfl
                      rotate_left
                      · simp only [Act.put, List.setIfInBounds_toArray, List.set_cons_zero, List.set_cons_succ, i64_w, i32_w]
                        rfl
                      refine pure_ (i := 7) (N := some 36) (v := ?_) (a' := ?_) #[true, false, true, false, false, true, false, true, false, false, false, false, false, false] rfl rfl (any_of HT_.out (by kernel_rfl)) (fun _ _ _ h => h) (Or.inl ⟨by rfl, ?_⟩) ?_ ?_
                      rotate_left
                      · intro w'
                        go_simp
                        with_reducible rfl
                      rotate_left
                      · simp only [Act.put, List.setIfInBounds_toArray, List.set_cons_zero, List.set_cons_succ, i64_w, i32_w]
                        rfl
                      refine take_ (i := 1) (N := some 30) (v := ?_) (a' := ?_) #[true, true, true, false, false, true, false, true, false, false, false, false, false, false] rfl rfl (take_ofW HT_.out HW_.out (by kernel_rfl)) (fun _ _ _ h => h) (Or.inl ⟨by rfl, ?_⟩) hHeld ?_ ?_
                      rotate_left
                      · rintro w' ⟨s0, s1, s2, s3, s4, s5, s6, s7, s8, s9⟩
                        go_simp
                        with_reducible rfl
                      rotate_left
                      · simp only [Act.put, List.setIfInBounds_toArray, List.set_cons_zero, List.set_cons_succ, i64_w, i32_w]
                        rfl
                      refine pure_ (i := 3) (N := some 32) (v := ?_) (a' := ?_) #[true, true, true, true, false, true, false, true, false, false, false, false, false, false] rfl rfl (any_of HT_.out (by kernel_rfl)) (fun _ _ _ h => h) (Or.inl ⟨by rfl, ?_⟩) ?_ ?_
                      rotate_left
                      · intro w'
                        go_simp
                        with_reducible rfl
                      rotate_left
                      · simp only [Act.put, List.setIfInBounds_toArray, List.set_cons_zero, List.set_cons_succ, i64_w, i32_w]
                        rfl
                      refine take_ (i := 4) (N := some 33) (v := ?_) (a' := ?_) #[true, true, true, true, true, true, false, true, false, false, false, false, false, false] rfl rfl (take_ofW HT_.out HW_.out (by kernel_rfl)) (fun _ _ _ h => h) (Or.inl ⟨by rfl, ?_⟩) hHeld ?_ ?_
                      rotate_left
                      · rintro w' ⟨s0, s1, s2, s3, s4, s5, s6, s7, s8, s9⟩
                        go_simp
                        with_reducible rfl
                      rotate_left
                      · simp only [Act.put, List.setIfInBounds_toArray, List.set_cons_zero, List.set_cons_succ, i64_w, i32_w]
                        rfl
                      refine take_ (i := 6) (N := some 35) (v := ?_) (a' := ?_) #[true, true, true, true, true, true, true, true, false, false, false, false, false, false] rfl rfl (take_ofW HT_.out HW_.out (by kernel_rfl)) (fun _ _ _ h => h) (Or.inl ⟨by rfl, ?_⟩) hHeld ?_ ?_
                      rotate_left
                      · rintro w' ⟨s0, s1, s2, s3, s4, s5, s6, s7, s8, s9⟩
                        go_simp
                        with_reducible rfl
                      rotate_left
                      · simp only [Act.put, List.setIfInBounds_toArray, List.set_cons_zero, List.set_cons_succ, i64_w, i32_w]
                        rfl
                      refine pure_ (i := 8) (N := some 37) (v := ?_) (a' := ?_) #[true, true, true, true, true, true, true, true, true, false, false, false, false, false] rfl rfl (any_of HT_.out (by kernel_rfl)) (fun _ _ _ h => h) (Or.inl ⟨by rfl, ?_⟩) ?_ ?_
                      rotate_left
                      · intro w'
                        go_simp
                        with_reducible rfl
                      rotate_left
                      · simp only [Act.put, List.setIfInBounds_toArray, List.set_cons_zero, List.set_cons_succ, i64_w, i32_w]
                        rfl
                      refine take_ (i := 9) (N := some 38) (v := ?_) (a' := ?_) #[true, true, true, true, true, true, true, true, true, true, false, false, false, false] rfl rfl (take_ofW HT_.out HW_.out (by kernel_rfl)) (fun _ _ _ h => h) (Or.inl ⟨by rfl, ?_⟩) hHeld ?_ ?_
                      rotate_left
                      · rintro w' ⟨s0, s1, s2, s3, s4, s5, s6, s7, s8, s9⟩
                        go_simp
                        with_reducible rfl
                      rotate_left
                      · simp only [Act.put, List.setIfInBounds_toArray, List.set_cons_zero, List.set_cons_succ, i64_w, i32_w]
                        rfl
                      refine join_ (σ := Nat × Nat) 2 #[true, true, true, true, true, true, true, true, true, true, true, true, false, false] (fun s_ => [(6, .pointer (some ⟨s_.1, 0, none⟩)), (7, .pointer (some ⟨s_.2, 0, none⟩))]) (fun s_ w' => (w'.cell? ⟨gb309, 0, none⟩ = some (.int .i64 a0_0) ∧ w'.cell? ⟨gb309, 1, none⟩ = some (.slice (some ad311) l0_1.length c0_1) ∧ w'.cell? ⟨gb310, 0, none⟩ = some (.int .i64 a1_0) ∧ w'.cell? ⟨gb310, 1, none⟩ = some (.slice (some ad312) l1_1.length c1_1) ∧ w'.cell? (ad311.add ((x5_2).toNat * 3)) = some (.string ((rd_T54 l0_1 x5_2).f0)) ∧ w'.cell? ⟨(ad311.add ((x5_2).toNat * 3)).block, (ad311.add ((x5_2).toNat * 3)).off + 1, none⟩ = some (.int .i64 ((rd_T54 l0_1 x5_2).f1)) ∧ w'.cell? ⟨(ad311.add ((x5_2).toNat * 3)).block, (ad311.add ((x5_2).toNat * 3)).off + 2, none⟩ = some (.slice A311_2 ((rd_T54 l0_1 x5_2).f2).length c311_2) ∧ w'.cell? (ad312.add ((x5_2).toNat * 3)) = some (.string ((rd_T54 l1_1 x5_2).f0)) ∧ w'.cell? ⟨(ad312.add ((x5_2).toNat * 3)).block, (ad312.add ((x5_2).toNat * 3)).off + 1, none⟩ = some (.int .i64 ((rd_T54 l1_1 x5_2).f1)) ∧ w'.cell? ⟨(ad312.add ((x5_2).toNat * 3)).block, (ad312.add ((x5_2).toNat * 3)).off + 2, none⟩ = some (.slice A312_2 ((rd_T54 l1_1 x5_2).f2).length c312_2)) ∧ (w'.heap[gb309]? = some (.cells #[.int .i64 a0_0, .slice (some ad311) l0_1.length c0_1] 38 (0, 0))) ∧ (w'.heap[gb310]? = some (.cells #[.int .i64 a1_0, .slice (some ad312) l1_1.length c1_1] 38 (0, 0))) ∧ (w'.heap[s_.1]? = some (.cells #[.string (⟨#[]⟩ : ByteArray), .int .i64 0, .slice none 0 0] 54 (0, 0))) ∧ (w'.heap[s_.2]? = some (.cells #[.string (⟨#[]⟩ : ByteArray), .int .i64 0, .slice none 0 0] 54 (0, 0))) ∧ (w.heap.size ≤ s_.1) ∧ (w.heap.size ≤ s_.1) ∧ (gb309 ≠ s_.1) ∧ (s_.1 ≠ gb309) ∧ (gb310 ≠ s_.1) ∧ (s_.1 ≠ gb310) ∧ (s_.2 ≠ s_.1) ∧ (s_.1 ≠ s_.2) ∧ (w.heap.size ≤ s_.2) ∧ (w.heap.size ≤ s_.2) ∧ (gb309 ≠ s_.2) ∧ (s_.2 ≠ gb309) ∧ (gb310 ≠ s_.2) ∧ (s_.2 ≠ gb310) ∧ (Below w.heap.size w w')) ?_ ?_
                      rotate_left
                      · intro hCont
                        refine two_ (i := 10) (j := 11) (Ni := some 6) (Nj := some 7) #[true, true, true, true, true, true, true, true, true, true, true, false, false, false] #[true, true, true, true, true, true, true, true, true, true, false, true, false, false] rfl rfl rfl rfl (two_of HT_.out (by kernel_rfl)) (by decide) (by decide) (fun K hK => ?_) (fun K hK => ?_)
                        · skip
                          refine box_step ?hg (N := 6) ?hd (cs := #[.string (⟨#[]⟩ : ByteArray), .int .i64 0, .slice none 0 0]) (t := 54) ?hr ?_; (case hd => rfl); (case hg => rfl); (case hr => first | (go_simp; done) | (go_simp; rfl))
                          intro gb313 hg w62 hbox hb
                          have n0_ := Aside0.mk (blk_below (g := gb309) (o := .cells #[.int .i64 a0_0, .slice (some ad311) l0_1.length c0_1] 38 (0, 0)) (by (with_reducible repeat (first | refine blk_drewN ?_ _ | refine blk_drew ?_ | refine blk_alloc ?_ _)); exact BK309.out) hb)
                          have n1_ := Aside0.mk (blk_below (g := gb310) (o := .cells #[.int .i64 a1_0, .slice (some ad312) l1_1.length c1_1] 38 (0, 0)) (by (with_reducible repeat (first | refine blk_drewN ?_ _ | refine blk_drew ?_ | refine blk_alloc ?_ _)); exact BK310.out) hb)
                          have n2_ := Aside0.mk (below_step (by repeat (first | (with_reducible first | exact HB.out | apply below_alloc | apply pw_below_drewN | apply below_drew1 | refine below_set ?_ GE309.out | refine below_set ?_ GE310.out) | exact HB.out)) hb)
                          have n3_ := Aside0.mk (hbox)
                          have n4_ := Aside0.mk ((by rw [hg]; exact (below_size (by repeat (first | (with_reducible first | exact HB.out | apply below_alloc | apply pw_below_drewN | apply below_drew1 | refine below_set ?_ GE309.out | refine below_set ?_ GE310.out) | exact HB.out))) : w.heap.size ≤ gb313))
                          have n5_ := Aside0.mk ((by rw [hg]; exact (below_size (by repeat (first | (with_reducible first | exact HB.out | apply below_alloc | apply pw_below_drewN | apply below_drew1 | refine below_set ?_ GE309.out | refine below_set ?_ GE310.out) | exact HB.out))) : w.heap.size ≤ gb313))
                          have n6_ := Aside0.mk ((by rw [hg]; exact Nat.ne_of_lt (blk_lt (g := gb309) (o := .cells #[.int .i64 a0_0, .slice (some ad311) l0_1.length c0_1] 38 (0, 0)) (by (with_reducible repeat (first | refine blk_drewN ?_ _ | refine blk_drew ?_ | refine blk_alloc ?_ _)); exact BK309.out)) : gb309 ≠ gb313))
                          have n7_ := Aside0.mk ((by rw [hg]; exact Nat.ne_of_gt (blk_lt (g := gb309) (o := .cells #[.int .i64 a0_0, .slice (some ad311) l0_1.length c0_1] 38 (0, 0)) (by (with_reducible repeat (first | refine blk_drewN ?_ _ | refine blk_drew ?_ | refine blk_alloc ?_ _)); exact BK309.out)) : gb313 ≠ gb309))
                          have n8_ := Aside0.mk ((by rw [hg]; exact Nat.ne_of_lt (blk_lt (g := gb310) (o := .cells #[.int .i64 a1_0, .slice (some ad312) l1_1.length c1_1] 38 (0, 0)) (by (with_reducible repeat (first | refine blk_drewN ?_ _ | refine blk_drew ?_ | refine blk_alloc ?_ _)); exact BK310.out)) : gb310 ≠ gb313))
                          have n9_ := Aside0.mk ((by rw [hg]; exact Nat.ne_of_gt (blk_lt (g := gb310) (o := .cells #[.int .i64 a1_0, .slice (some ad312) l1_1.length c1_1] 38 (0, 0)) (by (with_reducible repeat (first | refine blk_drewN ?_ _ | refine blk_drew ?_ | refine blk_alloc ?_ _)); exact BK310.out)) : gb313 ≠ gb310))
                          clear BK309
                          clear BK310
                          clear HB
                          have BK309 := n0_
                          have BK310 := n1_
                          have HB := n2_
                          have BK313 := n3_
                          have GW313 := n4_
                          have GE313 := n5_
                          have NB309_313 := n6_
                          have NB313_309 := n7_
                          have NB310_313 := n8_
                          have NB313_310 := n9_
                          clear n0_ n1_ n2_ n3_ n4_ n5_ n6_ n7_ n8_ n9_
                          clear hb hbox hg
                          refine hK.out _ _ ⟨(blk_cell BK309.out 0).trans rfl, (blk_cell BK309.out 1).trans rfl, (blk_cell BK310.out 0).trans rfl, (blk_cell BK310.out 1).trans rfl, ((HB.out.cell (World.block_lt_of_cell? w _ hw311_0)).trans hw311_0), ((HB.out.cell (World.block_lt_of_cell? w _ hw311_1)).trans hw311_1), ((HB.out.cell (World.block_lt_of_cell? w _ hw311_2)).trans hw311_2), ((HB.out.cell (World.block_lt_of_cell? w _ hw312_0)).trans hw312_0), ((HB.out.cell (World.block_lt_of_cell? w _ hw312_1)).trans hw312_1), ((HB.out.cell (World.block_lt_of_cell? w _ hw312_2)).trans hw312_2)⟩ (fun hHeld => ?_)
                          clear hK K
                          refine norm_ (a' := ?_) ?_ ?_
                          rotate_left
                          · show Act.put _ (some 6) _ = _
                            simp only [Act.put, List.setIfInBounds_toArray, List.set_cons_zero, List.set_cons_succ, i64_w, i32_w]
                            rfl
                          refine one_ (i := 11) (N := some 7) #[true, true, true, true, true, true, true, true, true, true, true, true, false, false] rfl rfl (one_of HT_.out (by kernel_rfl)) (by decide) (fun K hK => ?_)
                          refine box_step ?hg (N := 7) ?hd (cs := #[.string (⟨#[]⟩ : ByteArray), .int .i64 0, .slice none 0 0]) (t := 54) ?hr ?_; (case hd => rfl); (case hg => rfl); (case hr => first | (go_simp; done) | (go_simp; rfl))
                          intro gb314 hg w63 hbox hb
                          have n0_ := Aside0.mk (blk_below (g := gb309) (o := .cells #[.int .i64 a0_0, .slice (some ad311) l0_1.length c0_1] 38 (0, 0)) (by (with_reducible repeat (first | refine blk_drewN ?_ _ | refine blk_drew ?_ | refine blk_alloc ?_ _)); exact BK309.out) hb)
                          have n1_ := Aside0.mk (blk_below (g := gb310) (o := .cells #[.int .i64 a1_0, .slice (some ad312) l1_1.length c1_1] 38 (0, 0)) (by (with_reducible repeat (first | refine blk_drewN ?_ _ | refine blk_drew ?_ | refine blk_alloc ?_ _)); exact BK310.out) hb)
                          have n2_ := Aside0.mk (blk_below (g := gb313) (o := .cells #[.string (⟨#[]⟩ : ByteArray), .int .i64 0, .slice none 0 0] 54 (0, 0)) (by (with_reducible repeat (first | refine blk_drewN ?_ _ | refine blk_drew ?_ | refine blk_alloc ?_ _)); exact BK313.out) hb)
                          have n3_ := Aside0.mk (below_step (by repeat (first | (with_reducible first | exact HB.out | apply below_alloc | apply pw_below_drewN | apply below_drew1 | refine below_set ?_ GE309.out | refine below_set ?_ GE310.out | refine below_set ?_ GE313.out) | exact HB.out)) hb)
                          have n4_ := Aside0.mk (hbox)
                          have n5_ := Aside0.mk ((by rw [hg]; exact (below_size (by repeat (first | (with_reducible first | exact HB.out | apply below_alloc | apply pw_below_drewN | apply below_drew1 | refine below_set ?_ GE309.out | refine below_set ?_ GE310.out | refine below_set ?_ GE313.out) | exact HB.out))) : w.heap.size ≤ gb314))
                          have n6_ := Aside0.mk ((by rw [hg]; exact (below_size (by repeat (first | (with_reducible first | exact HB.out | apply below_alloc | apply pw_below_drewN | apply below_drew1 | refine below_set ?_ GE309.out | refine below_set ?_ GE310.out | refine below_set ?_ GE313.out) | exact HB.out))) : w.heap.size ≤ gb314))
                          have n7_ := Aside0.mk ((by rw [hg]; exact Nat.ne_of_lt (blk_lt (g := gb309) (o := .cells #[.int .i64 a0_0, .slice (some ad311) l0_1.length c0_1] 38 (0, 0)) (by (with_reducible repeat (first | refine blk_drewN ?_ _ | refine blk_drew ?_ | refine blk_alloc ?_ _)); exact BK309.out)) : gb309 ≠ gb314))
                          have n8_ := Aside0.mk ((by rw [hg]; exact Nat.ne_of_gt (blk_lt (g := gb309) (o := .cells #[.int .i64 a0_0, .slice (some ad311) l0_1.length c0_1] 38 (0, 0)) (by (with_reducible repeat (first | refine blk_drewN ?_ _ | refine blk_drew ?_ | refine blk_alloc ?_ _)); exact BK309.out)) : gb314 ≠ gb309))
                          have n9_ := Aside0.mk ((by rw [hg]; exact Nat.ne_of_lt (blk_lt (g := gb310) (o := .cells #[.int .i64 a1_0, .slice (some ad312) l1_1.length c1_1] 38 (0, 0)) (by (with_reducible repeat (first | refine blk_drewN ?_ _ | refine blk_drew ?_ | refine blk_alloc ?_ _)); exact BK310.out)) : gb310 ≠ gb314))
                          have n10_ := Aside0.mk ((by rw [hg]; exact Nat.ne_of_gt (blk_lt (g := gb310) (o := .cells #[.int .i64 a1_0, .slice (some ad312) l1_1.length c1_1] 38 (0, 0)) (by (with_reducible repeat (first | refine blk_drewN ?_ _ | refine blk_drew ?_ | refine blk_alloc ?_ _)); exact BK310.out)) : gb314 ≠ gb310))
                          have n11_ := Aside0.mk ((by rw [hg]; exact Nat.ne_of_lt (blk_lt (g := gb313) (o := .cells #[.string (⟨#[]⟩ : ByteArray), .int .i64 0, .slice none 0 0] 54 (0, 0)) (by (with_reducible repeat (first | refine blk_drewN ?_ _ | refine blk_drew ?_ | refine blk_alloc ?_ _)); exact BK313.out)) : gb313 ≠ gb314))
                          have n12_ := Aside0.mk ((by rw [hg]; exact Nat.ne_of_gt (blk_lt (g := gb313) (o := .cells #[.string (⟨#[]⟩ : ByteArray), .int .i64 0, .slice none 0 0] 54 (0, 0)) (by (with_reducible repeat (first | refine blk_drewN ?_ _ | refine blk_drew ?_ | refine blk_alloc ?_ _)); exact BK313.out)) : gb314 ≠ gb313))
                          clear BK309
                          clear BK310
                          clear BK313
                          clear HB
                          have BK309 := n0_
                          have BK310 := n1_
                          have BK313 := n2_
                          have HB := n3_
                          have BK314 := n4_
                          have GW314 := n5_
                          have GE314 := n6_
                          have NB309_314 := n7_
                          have NB314_309 := n8_
                          have NB310_314 := n9_
                          have NB314_310 := n10_
                          have NB313_314 := n11_
                          have NB314_313 := n12_
                          clear n0_ n1_ n2_ n3_ n4_ n5_ n6_ n7_ n8_ n9_ n10_ n11_ n12_
                          clear hb hbox hg
                          refine hK.out _ _ ⟨(blk_cell BK309.out 0).trans rfl, (blk_cell BK309.out 1).trans rfl, (blk_cell BK310.out 0).trans rfl, (blk_cell BK310.out 1).trans rfl, ((HB.out.cell (World.block_lt_of_cell? w _ hw311_0)).trans hw311_0), ((HB.out.cell (World.block_lt_of_cell? w _ hw311_1)).trans hw311_1), ((HB.out.cell (World.block_lt_of_cell? w _ hw311_2)).trans hw311_2), ((HB.out.cell (World.block_lt_of_cell? w _ hw312_0)).trans hw312_0), ((HB.out.cell (World.block_lt_of_cell? w _ hw312_1)).trans hw312_1), ((HB.out.cell (World.block_lt_of_cell? w _ hw312_2)).trans hw312_2)⟩ (fun hHeld => ?_)
                          clear hK K
                          refine norm_ (a' := ?_) ?_ ?_
                          rotate_left
                          · show Act.put _ (some 7) _ = _
                            simp only [Act.put, List.setIfInBounds_toArray, List.set_cons_zero, List.set_cons_succ, i64_w, i32_w]
                            rfl
                          exact norm_ (by simp only [putAll, Act.put, List.setIfInBounds_toArray, List.set_cons_zero, List.set_cons_succ]) (hCont (gb313, gb314) _ ⟨hHeld, (by (with_reducible repeat (first | refine blk_drewN ?_ _ | refine blk_drew ?_ | refine blk_alloc ?_ _)); exact BK309.out), (by (with_reducible repeat (first | refine blk_drewN ?_ _ | refine blk_drew ?_ | refine blk_alloc ?_ _)); exact BK310.out), (by (with_reducible repeat (first | refine blk_drewN ?_ _ | refine blk_drew ?_ | refine blk_alloc ?_ _)); exact BK313.out), (by (with_reducible repeat (first | refine blk_drewN ?_ _ | refine blk_drew ?_ | refine blk_alloc ?_ _)); exact BK314.out), GW313.out, GE313.out, NB309_313.out, NB313_309.out, NB310_313.out, NB313_310.out, NB314_313.out, NB313_314.out, GW314.out, GE314.out, NB309_314.out, NB314_309.out, NB310_314.out, NB314_310.out, (by repeat (first | (with_reducible first | exact HB.out | apply below_alloc | apply pw_below_drewN | apply below_drew1 | refine below_set ?_ GE309.out | refine below_set ?_ GE310.out | refine below_set ?_ GE313.out | refine below_set ?_ GE314.out) | exact HB.out))⟩)
                        · skip
                          refine box_step ?hg (N := 7) ?hd (cs := #[.string (⟨#[]⟩ : ByteArray), .int .i64 0, .slice none 0 0]) (t := 54) ?hr ?_; (case hd => rfl); (case hg => rfl); (case hr => first | (go_simp; done) | (go_simp; rfl))
                          intro gb314 hg w62 hbox hb
                          have n0_ := Aside0.mk (blk_below (g := gb309) (o := .cells #[.int .i64 a0_0, .slice (some ad311) l0_1.length c0_1] 38 (0, 0)) (by (with_reducible repeat (first | refine blk_drewN ?_ _ | refine blk_drew ?_ | refine blk_alloc ?_ _)); exact BK309.out) hb)
                          have n1_ := Aside0.mk (blk_below (g := gb310) (o := .cells #[.int .i64 a1_0, .slice (some ad312) l1_1.length c1_1] 38 (0, 0)) (by (with_reducible repeat (first | refine blk_drewN ?_ _ | refine blk_drew ?_ | refine blk_alloc ?_ _)); exact BK310.out) hb)
                          have n2_ := Aside0.mk (below_step (by repeat (first | (with_reducible first | exact HB.out | apply below_alloc | apply pw_below_drewN | apply below_drew1 | refine below_set ?_ GE309.out | refine below_set ?_ GE310.out) | exact HB.out)) hb)
                          have n3_ := Aside0.mk (hbox)
                          have n4_ := Aside0.mk ((by rw [hg]; exact (below_size (by repeat (first | (with_reducible first | exact HB.out | apply below_alloc | apply pw_below_drewN | apply below_drew1 | refine below_set ?_ GE309.out | refine below_set ?_ GE310.out) | exact HB.out))) : w.heap.size ≤ gb314))
                          have n5_ := Aside0.mk ((by rw [hg]; exact (below_size (by repeat (first | (with_reducible first | exact HB.out | apply below_alloc | apply pw_below_drewN | apply below_drew1 | refine below_set ?_ GE309.out | refine below_set ?_ GE310.out) | exact HB.out))) : w.heap.size ≤ gb314))
                          have n6_ := Aside0.mk ((by rw [hg]; exact Nat.ne_of_lt (blk_lt (g := gb309) (o := .cells #[.int .i64 a0_0, .slice (some ad311) l0_1.length c0_1] 38 (0, 0)) (by (with_reducible repeat (first | refine blk_drewN ?_ _ | refine blk_drew ?_ | refine blk_alloc ?_ _)); exact BK309.out)) : gb309 ≠ gb314))
                          have n7_ := Aside0.mk ((by rw [hg]; exact Nat.ne_of_gt (blk_lt (g := gb309) (o := .cells #[.int .i64 a0_0, .slice (some ad311) l0_1.length c0_1] 38 (0, 0)) (by (with_reducible repeat (first | refine blk_drewN ?_ _ | refine blk_drew ?_ | refine blk_alloc ?_ _)); exact BK309.out)) : gb314 ≠ gb309))
                          have n8_ := Aside0.mk ((by rw [hg]; exact Nat.ne_of_lt (blk_lt (g := gb310) (o := .cells #[.int .i64 a1_0, .slice (some ad312) l1_1.length c1_1] 38 (0, 0)) (by (with_reducible repeat (first | refine blk_drewN ?_ _ | refine blk_drew ?_ | refine blk_alloc ?_ _)); exact BK310.out)) : gb310 ≠ gb314))
                          have n9_ := Aside0.mk ((by rw [hg]; exact Nat.ne_of_gt (blk_lt (g := gb310) (o := .cells #[.int .i64 a1_0, .slice (some ad312) l1_1.length c1_1] 38 (0, 0)) (by (with_reducible repeat (first | refine blk_drewN ?_ _ | refine blk_drew ?_ | refine blk_alloc ?_ _)); exact BK310.out)) : gb314 ≠ gb310))
                          clear BK309
                          clear BK310
                          clear HB
                          have BK309 := n0_
                          have BK310 := n1_
                          have HB := n2_
                          have BK314 := n3_
                          have GW314 := n4_
                          have GE314 := n5_
                          have NB309_314 := n6_
                          have NB314_309 := n7_
                          have NB310_314 := n8_
                          have NB314_310 := n9_
                          clear n0_ n1_ n2_ n3_ n4_ n5_ n6_ n7_ n8_ n9_
                          clear hb hbox hg
                          refine hK.out _ _ ⟨(blk_cell BK309.out 0).trans rfl, (blk_cell BK309.out 1).trans rfl, (blk_cell BK310.out 0).trans rfl, (blk_cell BK310.out 1).trans rfl, ((HB.out.cell (World.block_lt_of_cell? w _ hw311_0)).trans hw311_0), ((HB.out.cell (World.block_lt_of_cell? w _ hw311_1)).trans hw311_1), ((HB.out.cell (World.block_lt_of_cell? w _ hw311_2)).trans hw311_2), ((HB.out.cell (World.block_lt_of_cell? w _ hw312_0)).trans hw312_0), ((HB.out.cell (World.block_lt_of_cell? w _ hw312_1)).trans hw312_1), ((HB.out.cell (World.block_lt_of_cell? w _ hw312_2)).trans hw312_2)⟩ (fun hHeld => ?_)
                          clear hK K
                          refine norm_ (a' := ?_) ?_ ?_
                          rotate_left
                          · show Act.put _ (some 7) _ = _
                            simp only [Act.put, List.setIfInBounds_toArray, List.set_cons_zero, List.set_cons_succ, i64_w, i32_w]
                            rfl
                          refine one_ (i := 10) (N := some 6) #[true, true, true, true, true, true, true, true, true, true, true, true, false, false] rfl rfl (one_of HT_.out (by kernel_rfl)) (by decide) (fun K hK => ?_)
                          refine box_step ?hg (N := 6) ?hd (cs := #[.string (⟨#[]⟩ : ByteArray), .int .i64 0, .slice none 0 0]) (t := 54) ?hr ?_; (case hd => rfl); (case hg => rfl); (case hr => first | (go_simp; done) | (go_simp; rfl))
                          intro gb313 hg w63 hbox hb
                          have n0_ := Aside0.mk (blk_below (g := gb309) (o := .cells #[.int .i64 a0_0, .slice (some ad311) l0_1.length c0_1] 38 (0, 0)) (by (with_reducible repeat (first | refine blk_drewN ?_ _ | refine blk_drew ?_ | refine blk_alloc ?_ _)); exact BK309.out) hb)
                          have n1_ := Aside0.mk (blk_below (g := gb310) (o := .cells #[.int .i64 a1_0, .slice (some ad312) l1_1.length c1_1] 38 (0, 0)) (by (with_reducible repeat (first | refine blk_drewN ?_ _ | refine blk_drew ?_ | refine blk_alloc ?_ _)); exact BK310.out) hb)
                          have n2_ := Aside0.mk (blk_below (g := gb314) (o := .cells #[.string (⟨#[]⟩ : ByteArray), .int .i64 0, .slice none 0 0] 54 (0, 0)) (by (with_reducible repeat (first | refine blk_drewN ?_ _ | refine blk_drew ?_ | refine blk_alloc ?_ _)); exact BK314.out) hb)
                          have n3_ := Aside0.mk (below_step (by repeat (first | (with_reducible first | exact HB.out | apply below_alloc | apply pw_below_drewN | apply below_drew1 | refine below_set ?_ GE309.out | refine below_set ?_ GE310.out | refine below_set ?_ GE314.out) | exact HB.out)) hb)
                          have n4_ := Aside0.mk (hbox)
                          have n5_ := Aside0.mk ((by rw [hg]; exact (below_size (by repeat (first | (with_reducible first | exact HB.out | apply below_alloc | apply pw_below_drewN | apply below_drew1 | refine below_set ?_ GE309.out | refine below_set ?_ GE310.out | refine below_set ?_ GE314.out) | exact HB.out))) : w.heap.size ≤ gb313))
                          have n6_ := Aside0.mk ((by rw [hg]; exact (below_size (by repeat (first | (with_reducible first | exact HB.out | apply below_alloc | apply pw_below_drewN | apply below_drew1 | refine below_set ?_ GE309.out | refine below_set ?_ GE310.out | refine below_set ?_ GE314.out) | exact HB.out))) : w.heap.size ≤ gb313))
                          have n7_ := Aside0.mk ((by rw [hg]; exact Nat.ne_of_lt (blk_lt (g := gb309) (o := .cells #[.int .i64 a0_0, .slice (some ad311) l0_1.length c0_1] 38 (0, 0)) (by (with_reducible repeat (first | refine blk_drewN ?_ _ | refine blk_drew ?_ | refine blk_alloc ?_ _)); exact BK309.out)) : gb309 ≠ gb313))
                          have n8_ := Aside0.mk ((by rw [hg]; exact Nat.ne_of_gt (blk_lt (g := gb309) (o := .cells #[.int .i64 a0_0, .slice (some ad311) l0_1.length c0_1] 38 (0, 0)) (by (with_reducible repeat (first | refine blk_drewN ?_ _ | refine blk_drew ?_ | refine blk_alloc ?_ _)); exact BK309.out)) : gb313 ≠ gb309))
                          have n9_ := Aside0.mk ((by rw [hg]; exact Nat.ne_of_lt (blk_lt (g := gb310) (o := .cells #[.int .i64 a1_0, .slice (some ad312) l1_1.length c1_1] 38 (0, 0)) (by (with_reducible repeat (first | refine blk_drewN ?_ _ | refine blk_drew ?_ | refine blk_alloc ?_ _)); exact BK310.out)) : gb310 ≠ gb313))
                          have n10_ := Aside0.mk ((by rw [hg]; exact Nat.ne_of_gt (blk_lt (g := gb310) (o := .cells #[.int .i64 a1_0, .slice (some ad312) l1_1.length c1_1] 38 (0, 0)) (by (with_reducible repeat (first | refine blk_drewN ?_ _ | refine blk_drew ?_ | refine blk_alloc ?_ _)); exact BK310.out)) : gb313 ≠ gb310))
                          have n11_ := Aside0.mk ((by rw [hg]; exact Nat.ne_of_lt (blk_lt (g := gb314) (o := .cells #[.string (⟨#[]⟩ : ByteArray), .int .i64 0, .slice none 0 0] 54 (0, 0)) (by (with_reducible repeat (first | refine blk_drewN ?_ _ | refine blk_drew ?_ | refine blk_alloc ?_ _)); exact BK314.out)) : gb314 ≠ gb313))
                          have n12_ := Aside0.mk ((by rw [hg]; exact Nat.ne_of_gt (blk_lt (g := gb314) (o := .cells #[.string (⟨#[]⟩ : ByteArray), .int .i64 0, .slice none 0 0] 54 (0, 0)) (by (with_reducible repeat (first | refine blk_drewN ?_ _ | refine blk_drew ?_ | refine blk_alloc ?_ _)); exact BK314.out)) : gb313 ≠ gb314))
                          clear BK309
                          clear BK310
                          clear BK314
                          clear HB
                          have BK309 := n0_
                          have BK310 := n1_
                          have BK314 := n2_
                          have HB := n3_
                          have BK313 := n4_
                          have GW313 := n5_
                          have GE313 := n6_
                          have NB309_313 := n7_
                          have NB313_309 := n8_
                          have NB310_313 := n9_
                          have NB313_310 := n10_
                          have NB314_313 := n11_
                          have NB313_314 := n12_
                          clear n0_ n1_ n2_ n3_ n4_ n5_ n6_ n7_ n8_ n9_ n10_ n11_ n12_
                          clear hb hbox hg
                          refine hK.out _ _ ⟨(blk_cell BK309.out 0).trans rfl, (blk_cell BK309.out 1).trans rfl, (blk_cell BK310.out 0).trans rfl, (blk_cell BK310.out 1).trans rfl, ((HB.out.cell (World.block_lt_of_cell? w _ hw311_0)).trans hw311_0), ((HB.out.cell (World.block_lt_of_cell? w _ hw311_1)).trans hw311_1), ((HB.out.cell (World.block_lt_of_cell? w _ hw311_2)).trans hw311_2), ((HB.out.cell (World.block_lt_of_cell? w _ hw312_0)).trans hw312_0), ((HB.out.cell (World.block_lt_of_cell? w _ hw312_1)).trans hw312_1), ((HB.out.cell (World.block_lt_of_cell? w _ hw312_2)).trans hw312_2)⟩ (fun hHeld => ?_)
                          clear hK K
                          refine norm_ (a' := ?_) ?_ ?_
                          rotate_left
                          · show Act.put _ (some 6) _ = _
                            simp only [Act.put, List.setIfInBounds_toArray, List.set_cons_zero, List.set_cons_succ, i64_w, i32_w]
                            rfl
                          exact norm_ (by simp only [putAll, Act.put, List.setIfInBounds_toArray, List.set_cons_zero, List.set_cons_succ]) (hCont (gb313, gb314) _ ⟨hHeld, (by (with_reducible repeat (first | refine blk_drewN ?_ _ | refine blk_drew ?_ | refine blk_alloc ?_ _)); exact BK309.out), (by (with_reducible repeat (first | refine blk_drewN ?_ _ | refine blk_drew ?_ | refine blk_alloc ?_ _)); exact BK310.out), (by (with_reducible repeat (first | refine blk_drewN ?_ _ | refine blk_drew ?_ | refine blk_alloc ?_ _)); exact BK313.out), (by (with_reducible repeat (first | refine blk_drewN ?_ _ | refine blk_drew ?_ | refine blk_alloc ?_ _)); exact BK314.out), GW313.out, GE313.out, NB309_313.out, NB313_309.out, NB310_313.out, NB313_310.out, NB314_313.out, NB313_314.out, GW314.out, GE314.out, NB309_314.out, NB314_309.out, NB310_314.out, NB314_310.out, (by repeat (first | (with_reducible first | exact HB.out | apply below_alloc | apply pw_below_drewN | apply below_drew1 | refine below_set ?_ GE309.out | refine below_set ?_ GE310.out | refine below_set ?_ GE314.out | refine below_set ?_ GE313.out) | exact HB.out))⟩)
                      rintro ⟨gb313, gb314⟩ w64 ⟨hS_, h0_, h1_, h2_, h3_, h4_, h5_, h6_, h7_, h8_, h9_, h10_, h11_, h12_, h13_, h14_, h15_, h16_, h17_, h18_⟩
                      have n0_ : Aside0 (w64.heap[gb309]? = some (.cells #[.int .i64 a0_0, .slice (some ad311) l0_1.length c0_1] 38 (0, 0))) := ⟨h0_⟩
                      have n1_ : Aside0 (w64.heap[gb310]? = some (.cells #[.int .i64 a1_0, .slice (some ad312) l1_1.length c1_1] 38 (0, 0))) := ⟨h1_⟩
                      have n2_ : Aside0 (w64.heap[gb313]? = some (.cells #[.string (⟨#[]⟩ : ByteArray), .int .i64 0, .slice none 0 0] 54 (0, 0))) := ⟨h2_⟩
                      have n3_ : Aside0 (w64.heap[gb314]? = some (.cells #[.string (⟨#[]⟩ : ByteArray), .int .i64 0, .slice none 0 0] 54 (0, 0))) := ⟨h3_⟩
                      have n4_ : Aside0 (w.heap.size ≤ gb313) := ⟨h4_⟩
                      have n5_ : Aside0 (w.heap.size ≤ gb313) := ⟨h5_⟩
                      have n6_ : Aside0 (gb309 ≠ gb313) := ⟨h6_⟩
                      have n7_ : Aside0 (gb313 ≠ gb309) := ⟨h7_⟩
                      have n8_ : Aside0 (gb310 ≠ gb313) := ⟨h8_⟩
                      have n9_ : Aside0 (gb313 ≠ gb310) := ⟨h9_⟩
                      have n10_ : Aside0 (gb314 ≠ gb313) := ⟨h10_⟩
                      have n11_ : Aside0 (gb313 ≠ gb314) := ⟨h11_⟩
                      have n12_ : Aside0 (w.heap.size ≤ gb314) := ⟨h12_⟩
                      have n13_ : Aside0 (w.heap.size ≤ gb314) := ⟨h13_⟩
                      have n14_ : Aside0 (gb309 ≠ gb314) := ⟨h14_⟩
                      have n15_ : Aside0 (gb314 ≠ gb309) := ⟨h15_⟩
                      have n16_ : Aside0 (gb310 ≠ gb314) := ⟨h16_⟩
                      have n17_ : Aside0 (gb314 ≠ gb310) := ⟨h17_⟩
                      have n18_ : Aside0 (Below w.heap.size w w64) := ⟨h18_⟩
                      clear BK309
                      clear BK310
                      clear HB
                      clear h0_ h1_ h2_ h3_ h4_ h5_ h6_ h7_ h8_ h9_ h10_ h11_ h12_ h13_ h14_ h15_ h16_ h17_ h18_
                      have BK309 := n0_
                      have BK310 := n1_
                      have BK313 := n2_
                      have BK314 := n3_
                      have GW313 := n4_
                      have GE313 := n5_
                      have NB309_313 := n6_
                      have NB313_309 := n7_
                      have NB310_313 := n8_
                      have NB313_310 := n9_
                      have NB314_313 := n10_
                      have NB313_314 := n11_
                      have GW314 := n12_
                      have GE314 := n13_
                      have NB309_314 := n14_
                      have NB314_309 := n15_
                      have NB310_314 := n16_
                      have NB314_310 := n17_
                      have HB := n18_
                      clear n0_ n1_ n2_ n3_ n4_ n5_ n6_ n7_ n8_ n9_ n10_ n11_ n12_ n13_ n14_ n15_ n16_ n17_ n18_
                      have hHeld : w64.cell? ⟨gb309, 0, none⟩ = some (.int .i64 a0_0) ∧ w64.cell? ⟨gb309, 1, none⟩ = some (.slice (some ad311) l0_1.length c0_1) ∧ w64.cell? ⟨gb310, 0, none⟩ = some (.int .i64 a1_0) ∧ w64.cell? ⟨gb310, 1, none⟩ = some (.slice (some ad312) l1_1.length c1_1) ∧ w64.cell? (ad311.add ((x5_2).toNat * 3)) = some (.string ((rd_T54 l0_1 x5_2).f0)) ∧ w64.cell? ⟨(ad311.add ((x5_2).toNat * 3)).block, (ad311.add ((x5_2).toNat * 3)).off + 1, none⟩ = some (.int .i64 ((rd_T54 l0_1 x5_2).f1)) ∧ w64.cell? ⟨(ad311.add ((x5_2).toNat * 3)).block, (ad311.add ((x5_2).toNat * 3)).off + 2, none⟩ = some (.slice A311_2 ((rd_T54 l0_1 x5_2).f2).length c311_2) ∧ w64.cell? (ad312.add ((x5_2).toNat * 3)) = some (.string ((rd_T54 l1_1 x5_2).f0)) ∧ w64.cell? ⟨(ad312.add ((x5_2).toNat * 3)).block, (ad312.add ((x5_2).toNat * 3)).off + 1, none⟩ = some (.int .i64 ((rd_T54 l1_1 x5_2).f1)) ∧ w64.cell? ⟨(ad312.add ((x5_2).toNat * 3)).block, (ad312.add ((x5_2).toNat * 3)).off + 2, none⟩ = some (.slice A312_2 ((rd_T54 l1_1 x5_2).f2).length c312_2) := hS_
                      refine norm_ (a' := ?_) ?_ ?_
                      rotate_left
                      · simp only [putAll, Act.put, List.setIfInBounds_toArray, List.set_cons_zero, List.set_cons_succ]
                        rfl
                      refine one_ (i := 12) (N := none) #[true, true, true, true, true, true, true, true, true, true, true, true, true, false] rfl rfl (one_of HT_.out (by kernel_rfl)) (by decide) (fun K hK => ?_)
                      have hs65 : w64.cell? ⟨gb313, 0, none⟩ = some (.string (⟨#[]⟩ : ByteArray)) := (blk_cell BK313.out 0).trans rfl
                      have hfs65 := blk_frozen BK313.out 0
                      have hns65_0 := NB309_313.out
                      have hns65_1 := NB310_313.out
                      have hns65_3 := NB314_313.out
                      have hms65_0 := NB313_309.out
                      have hms65_1 := NB313_310.out
                      have hms65_3 := NB313_314.out
                      have hs66 : w64.cell? ⟨gb313, 1, none⟩ = some (.int .i64 0) := (blk_cell BK313.out 1).trans rfl
                      have hfs66 := blk_frozen BK313.out 1
                      have hns66_0 := NB309_313.out
                      have hns66_1 := NB310_313.out
                      have hns66_3 := NB314_313.out
                      have hms66_0 := NB313_309.out
                      have hms66_1 := NB313_310.out
                      have hms66_3 := NB313_314.out
                      have hs67 : w64.cell? ⟨gb313, 2, none⟩ = some (.slice none 0 0) := (blk_cell BK313.out 2).trans rfl
                      have hfs67 := blk_frozen BK313.out 2
                      have hns67_0 := NB309_313.out
                      have hns67_1 := NB310_313.out
                      have hns67_3 := NB314_313.out
                      have hms67_0 := NB313_309.out
                      have hms67_1 := NB313_310.out
                      have hms67_3 := NB313_314.out
                      refine skip_ (w1 := ?_) (by rfl) rfl ?_ ?_
                      rotate_left
                      · go_simp
                        rfl
                      refine hK.out _ _ ⟨((cell_far (p := ⟨gb313, _, none⟩) NB309_313.out _).trans (((cell_far (p := ⟨gb313, _, none⟩) NB309_313.out _).trans (((cell_far (p := ⟨gb313, _, none⟩) NB309_313.out _).trans (hHeld.1)))))), ((cell_far (p := ⟨gb313, _, none⟩) NB309_313.out _).trans (((cell_far (p := ⟨gb313, _, none⟩) NB309_313.out _).trans (((cell_far (p := ⟨gb313, _, none⟩) NB309_313.out _).trans (hHeld.2.1)))))), ((cell_far (p := ⟨gb313, _, none⟩) NB310_313.out _).trans (((cell_far (p := ⟨gb313, _, none⟩) NB310_313.out _).trans (((cell_far (p := ⟨gb313, _, none⟩) NB310_313.out _).trans (hHeld.2.2.1)))))), ((cell_far (p := ⟨gb313, _, none⟩) NB310_313.out _).trans (((cell_far (p := ⟨gb313, _, none⟩) NB310_313.out _).trans (((cell_far (p := ⟨gb313, _, none⟩) NB310_313.out _).trans (hHeld.2.2.2.1)))))), ((cell_far (p := ⟨gb313, _, none⟩) (far_ne28 hw311_0 GW313.out) _).trans (((cell_far (p := ⟨gb313, _, none⟩) (far_ne28 hw311_0 GW313.out) _).trans (((cell_far (p := ⟨gb313, _, none⟩) (far_ne28 hw311_0 GW313.out) _).trans (hHeld.2.2.2.2.1)))))), ((cell_far (p := ⟨gb313, _, none⟩) (far_ne28 hw311_1 GW313.out) _).trans (((cell_far (p := ⟨gb313, _, none⟩) (far_ne28 hw311_1 GW313.out) _).trans (((cell_far (p := ⟨gb313, _, none⟩) (far_ne28 hw311_1 GW313.out) _).trans (hHeld.2.2.2.2.2.1)))))), ((cell_far (p := ⟨gb313, _, none⟩) (far_ne28 hw311_2 GW313.out) _).trans (((cell_far (p := ⟨gb313, _, none⟩) (far_ne28 hw311_2 GW313.out) _).trans (((cell_far (p := ⟨gb313, _, none⟩) (far_ne28 hw311_2 GW313.out) _).trans (hHeld.2.2.2.2.2.2.1)))))), ((cell_far (p := ⟨gb313, _, none⟩) (far_ne28 hw312_0 GW313.out) _).trans (((cell_far (p := ⟨gb313, _, none⟩) (far_ne28 hw312_0 GW313.out) _).trans (((cell_far (p := ⟨gb313, _, none⟩) (far_ne28 hw312_0 GW313.out) _).trans (hHeld.2.2.2.2.2.2.2.1)))))), ((cell_far (p := ⟨gb313, _, none⟩) (far_ne28 hw312_1 GW313.out) _).trans (((cell_far (p := ⟨gb313, _, none⟩) (far_ne28 hw312_1 GW313.out) _).trans (((cell_far (p := ⟨gb313, _, none⟩) (far_ne28 hw312_1 GW313.out) _).trans (hHeld.2.2.2.2.2.2.2.2.1)))))), ((cell_far (p := ⟨gb313, _, none⟩) (far_ne28 hw312_2 GW313.out) _).trans (((cell_far (p := ⟨gb313, _, none⟩) (far_ne28 hw312_2 GW313.out) _).trans (((cell_far (p := ⟨gb313, _, none⟩) (far_ne28 hw312_2 GW313.out) _).trans (hHeld.2.2.2.2.2.2.2.2.2))))))⟩ (fun hHeld => ?_)
                      clear hK K
                      refine one_ (i := 13) (N := none) #[true, true, true, true, true, true, true, true, true, true, true, true, true, true] rfl rfl (one_of HT_.out (by kernel_rfl)) (by decide) (fun K hK => ?_)
                      have hs68 : w64.cell? ⟨gb314, 0, none⟩ = some (.string (⟨#[]⟩ : ByteArray)) := (blk_cell BK314.out 0).trans rfl
                      have hfs68 := blk_frozen BK314.out 0
                      have hns68_0 := NB309_314.out
                      have hns68_1 := NB310_314.out
                      have hns68_2 := NB313_314.out
                      have hms68_0 := NB314_309.out
                      have hms68_1 := NB314_310.out
                      have hms68_2 := NB314_313.out
                      have hs69 : w64.cell? ⟨gb314, 1, none⟩ = some (.int .i64 0) := (blk_cell BK314.out 1).trans rfl
                      have hfs69 := blk_frozen BK314.out 1
                      have hns69_0 := NB309_314.out
                      have hns69_1 := NB310_314.out
                      have hns69_2 := NB313_314.out
                      have hms69_0 := NB314_309.out
                      have hms69_1 := NB314_310.out
                      have hms69_2 := NB314_313.out
                      have hs70 : w64.cell? ⟨gb314, 2, none⟩ = some (.slice none 0 0) := (blk_cell BK314.out 2).trans rfl
                      have hfs70 := blk_frozen BK314.out 2
                      have hns70_0 := NB309_314.out
                      have hns70_1 := NB310_314.out
                      have hns70_2 := NB313_314.out
                      have hms70_0 := NB314_309.out
                      have hms70_1 := NB314_310.out
                      have hms70_2 := NB314_313.out
                      refine skip_ (w1 := ?_) (by rfl) rfl ?_ ?_
                      rotate_left
                      · go_simp
                        rfl
                      refine hK.out _ _ ⟨((cell_far (p := ⟨gb314, _, none⟩) NB309_314.out _).trans (((cell_far (p := ⟨gb314, _, none⟩) NB309_314.out _).trans (((cell_far (p := ⟨gb314, _, none⟩) NB309_314.out _).trans (hHeld.1)))))), ((cell_far (p := ⟨gb314, _, none⟩) NB309_314.out _).trans (((cell_far (p := ⟨gb314, _, none⟩) NB309_314.out _).trans (((cell_far (p := ⟨gb314, _, none⟩) NB309_314.out _).trans (hHeld.2.1)))))), ((cell_far (p := ⟨gb314, _, none⟩) NB310_314.out _).trans (((cell_far (p := ⟨gb314, _, none⟩) NB310_314.out _).trans (((cell_far (p := ⟨gb314, _, none⟩) NB310_314.out _).trans (hHeld.2.2.1)))))), ((cell_far (p := ⟨gb314, _, none⟩) NB310_314.out _).trans (((cell_far (p := ⟨gb314, _, none⟩) NB310_314.out _).trans (((cell_far (p := ⟨gb314, _, none⟩) NB310_314.out _).trans (hHeld.2.2.2.1)))))), ((cell_far (p := ⟨gb314, _, none⟩) (far_ne28 hw311_0 GW314.out) _).trans (((cell_far (p := ⟨gb314, _, none⟩) (far_ne28 hw311_0 GW314.out) _).trans (((cell_far (p := ⟨gb314, _, none⟩) (far_ne28 hw311_0 GW314.out) _).trans (hHeld.2.2.2.2.1)))))), ((cell_far (p := ⟨gb314, _, none⟩) (far_ne28 hw311_1 GW314.out) _).trans (((cell_far (p := ⟨gb314, _, none⟩) (far_ne28 hw311_1 GW314.out) _).trans (((cell_far (p := ⟨gb314, _, none⟩) (far_ne28 hw311_1 GW314.out) _).trans (hHeld.2.2.2.2.2.1)))))), ((cell_far (p := ⟨gb314, _, none⟩) (far_ne28 hw311_2 GW314.out) _).trans (((cell_far (p := ⟨gb314, _, none⟩) (far_ne28 hw311_2 GW314.out) _).trans (((cell_far (p := ⟨gb314, _, none⟩) (far_ne28 hw311_2 GW314.out) _).trans (hHeld.2.2.2.2.2.2.1)))))), ((cell_far (p := ⟨gb314, _, none⟩) (far_ne28 hw312_0 GW314.out) _).trans (((cell_far (p := ⟨gb314, _, none⟩) (far_ne28 hw312_0 GW314.out) _).trans (((cell_far (p := ⟨gb314, _, none⟩) (far_ne28 hw312_0 GW314.out) _).trans (hHeld.2.2.2.2.2.2.2.1)))))), ((cell_far (p := ⟨gb314, _, none⟩) (far_ne28 hw312_1 GW314.out) _).trans (((cell_far (p := ⟨gb314, _, none⟩) (far_ne28 hw312_1 GW314.out) _).trans (((cell_far (p := ⟨gb314, _, none⟩) (far_ne28 hw312_1 GW314.out) _).trans (hHeld.2.2.2.2.2.2.2.2.1)))))), ((cell_far (p := ⟨gb314, _, none⟩) (far_ne28 hw312_2 GW314.out) _).trans (((cell_far (p := ⟨gb314, _, none⟩) (far_ne28 hw312_2 GW314.out) _).trans (((cell_far (p := ⟨gb314, _, none⟩) (far_ne28 hw312_2 GW314.out) _).trans (hHeld.2.2.2.2.2.2.2.2.2))))))⟩ (fun hHeld => ?_)
                      clear hK K
                      refine done_ (done_of HT_.out (by kernel_rfl)) ?_
                      have hnb71 := NB313_309.out
                      have hnc71 := NB309_313.out
                      have hnb72 := NB313_310.out
                      have hnc72 := NB310_313.out
                      have hnb73 := NB313_314.out
                      have hnc73 := NB314_313.out
                      have hcz74_0 : w64.cell? ⟨gb313, 0, none⟩ = some (.string (⟨#[]⟩ : ByteArray)) := (blk_cell BK313.out 0).trans rfl
                      have hcz74_1 : w64.cell? ⟨gb313, 1, none⟩ = some (.int .i64 0) := (blk_cell BK313.out 1).trans rfl
                      have hcz74_2 : w64.cell? ⟨gb313, 2, none⟩ = some (.slice none 0 0) := (blk_cell BK313.out 2).trans rfl
                      have hfz74_0 := blk_frozen BK313.out 0
                      have hfz74_1 := blk_frozen BK313.out 1
                      have hfz74_2 := blk_frozen BK313.out 2
                      have hnb75 := NB314_309.out
                      have hnc75 := NB309_314.out
                      have hnb76 := NB314_310.out
                      have hnc76 := NB310_314.out
                      have hcz77_0 : w64.cell? ⟨gb314, 0, none⟩ = some (.string (⟨#[]⟩ : ByteArray)) := (blk_cell BK314.out 0).trans rfl
                      have hcz77_1 : w64.cell? ⟨gb314, 1, none⟩ = some (.int .i64 0) := (blk_cell BK314.out 1).trans rfl
                      have hcz77_2 : w64.cell? ⟨gb314, 2, none⟩ = some (.slice none 0 0) := (blk_cell BK314.out 2).trans rfl
                      have hfz77_0 := blk_frozen BK314.out 0
                      have hfz77_1 := blk_frozen BK314.out 1
                      have hfz77_2 := blk_frozen BK314.out 2
                      try go_wp2
                      go_ret
                      exact ⟨by first | rfl | (simp [errW_none, errW_some] <;> rfl) | (simp [*, errW_none, errW_some] <;> rfl), by repeat (first | (with_reducible first | exact HB.out | apply below_alloc | apply pw_below_drewN | apply below_drew1 | refine below_set ?_ GE309.out | refine below_set ?_ GE310.out | refine below_set ?_ GE313.out | refine below_set ?_ GE314.out) | exact HB.out)⟩
                  · rw [if_neg c17] at H
                    have c17b0 : (((rd_T54 l0_1 x5_2).f0).toList == ((rd_T54 l1_1 x5_2).f0).toList) = false := beq_eq_false_iff_ne.mpr c17
                    have c17b1 : (((rd_T54 l0_1 x5_2).f0).toList != ((rd_T54 l1_1 x5_2).f0).toList) = true := bne_iff_ne.mpr c17
                    obtain rfl := Option.some.inj H
                    have hnb78 := NB309_310.out
                    have hnc78 := NB310_309.out
                    have hcz79_0 : wr.cell? ⟨gb309, 0, none⟩ = some (.int .i64 a0_0) := (blk_cell BK309.out 0).trans rfl
                    have hcz79_1 : wr.cell? ⟨gb309, 1, none⟩ = some (.slice A0_1 l0_1.length c0_1) := (blk_cell BK309.out 1).trans rfl
                    have hfz79_0 := blk_frozen BK309.out 0
                    have hfz79_1 := blk_frozen BK309.out 1
                    try go_wp2
                    have n0_ := Aside0.mk (blk_drew BK309.out)
                    have n1_ := Aside0.mk (blk_drew BK310.out)
                    have n2_ := Aside0.mk (below_drew1 HB.out)
                    clear BK309
                    clear BK310
                    clear HB
                    have BK309 := n0_
                    have BK310 := n1_
                    have HB := n2_
                    clear n0_ n1_ n2_
                    have p311 : 0 ≤ (x5_2 : Int) := of_decide_eq_true (by first | (with_reducible assumption) | assumption)
                    have q311 : x5_2 < (l0_1.length : Int) := of_decide_eq_true (by first | (with_reducible assumption) | assumption)
                    obtain ⟨ad311, A311_2, c311_2, e311, hx311_0, hx311_1, hx311_2, hl311_2, hi311_2⟩ := at_T54 HR0_1.out x5_2 p311 q311
                    have hw311_2 := hx311_2
                    have hw311_1 := hx311_1
                    have hw311_0 := hx311_0
                    cases e311
                    replace hx311_0 := (HB.out.cell (World.block_lt_of_cell? w _ hx311_0)).trans hx311_0
                    replace hx311_1 := (HB.out.cell (World.block_lt_of_cell? w _ hx311_1)).trans hx311_1
                    replace hx311_2 := (HB.out.cell (World.block_lt_of_cell? w _ hx311_2)).trans hx311_2
                    have HR311_2 := Aside0.mk hi311_2
                    have HC311_2 := Aside0.mk hl311_2
                    clear hi311_2 hl311_2
                    replace p311 := eq_true p311
                    replace q311 := eq_true q311
                    have p312 : 0 ≤ (x5_2 : Int) := of_decide_eq_true (by first | (with_reducible assumption) | assumption)
                    have q312 : x5_2 < (l1_1.length : Int) := of_decide_eq_true (by first | (with_reducible assumption) | assumption)
                    obtain ⟨ad312, A312_2, c312_2, e312, hx312_0, hx312_1, hx312_2, hl312_2, hi312_2⟩ := at_T54 HR1_1.out x5_2 p312 q312
                    have hw312_2 := hx312_2
                    have hw312_1 := hx312_1
                    have hw312_0 := hx312_0
                    cases e312
                    replace hx312_0 := (HB.out.cell (World.block_lt_of_cell? w _ hx312_0)).trans hx312_0
                    replace hx312_1 := (HB.out.cell (World.block_lt_of_cell? w _ hx312_1)).trans hx312_1
                    replace hx312_2 := (HB.out.cell (World.block_lt_of_cell? w _ hx312_2)).trans hx312_2
                    have HR312_2 := Aside0.mk hi312_2
                    have HC312_2 := Aside0.mk hl312_2
                    clear hi312_2 hl312_2
                    replace p312 := eq_true p312
                    replace q312 := eq_true q312
                    refine start_ (n := 14) (S := fun w' => w'.cell? ⟨gb309, 0, none⟩ = some (.int .i64 a0_0) ∧ w'.cell? ⟨gb309, 1, none⟩ = some (.slice (some ad311) l0_1.length c0_1) ∧ w'.cell? ⟨gb310, 0, none⟩ = some (.int .i64 a1_0) ∧ w'.cell? ⟨gb310, 1, none⟩ = some (.slice (some ad312) l1_1.length c1_1) ∧ w'.cell? (ad311.add ((x5_2).toNat * 3)) = some (.string ((rd_T54 l0_1 x5_2).f0)) ∧ w'.cell? ⟨(ad311.add ((x5_2).toNat * 3)).block, (ad311.add ((x5_2).toNat * 3)).off + 1, none⟩ = some (.int .i64 ((rd_T54 l0_1 x5_2).f1)) ∧ w'.cell? ⟨(ad311.add ((x5_2).toNat * 3)).block, (ad311.add ((x5_2).toNat * 3)).off + 2, none⟩ = some (.slice A311_2 ((rd_T54 l0_1 x5_2).f2).length c311_2) ∧ w'.cell? (ad312.add ((x5_2).toNat * 3)) = some (.string ((rd_T54 l1_1 x5_2).f0)) ∧ w'.cell? ⟨(ad312.add ((x5_2).toNat * 3)).block, (ad312.add ((x5_2).toNat * 3)).off + 1, none⟩ = some (.int .i64 ((rd_T54 l1_1 x5_2).f1)) ∧ w'.cell? ⟨(ad312.add ((x5_2).toNat * 3)).block, (ad312.add ((x5_2).toNat * 3)).off + 2, none⟩ = some (.slice A312_2 ((rd_T54 l1_1 x5_2).f2).length c312_2)) (ds := []) #[false, false, false, false, false, false, false, false, false, false, false, false, false, false] (by kernel_rfl) rfl rfl ⟨(blk_cell BK309.out 0).trans rfl, (blk_cell BK309.out 1).trans rfl, (blk_cell BK310.out 0).trans rfl, (blk_cell BK310.out 1).trans rfl, ((HB.out.cell (World.block_lt_of_cell? w _ hw311_0)).trans hw311_0), ((HB.out.cell (World.block_lt_of_cell? w _ hw311_1)).trans hw311_1), ((HB.out.cell (World.block_lt_of_cell? w _ hw311_2)).trans hw311_2), ((HB.out.cell (World.block_lt_of_cell? w _ hw312_0)).trans hw312_0), ((HB.out.cell (World.block_lt_of_cell? w _ hw312_1)).trans hw312_1), ((HB.out.cell (World.block_lt_of_cell? w _ hw312_2)).trans hw312_2)⟩ (fun hHeld => ?_); refine with_tabW paraphrastref01_Same.tab6 paraphrastref01_Same.bits6 (fun HT_ HW_ => ?_)
                    generalize wr.drew = w80 at BK309 BK310 HB HR311_2 HR312_2 hx311_0 hx311_1 hx311_2 hx312_0 hx312_1 hx312_2 hHeld ⊢
                    refine pure_ (i := 0) (N := some 29) (v := ?_) (a' := ?_) #[true, false, false, false, false, false, false, false, false, false, false, false, false, false] rfl rfl (any_of HT_.out (by kernel_rfl)) (fun _ _ _ h => h) (Or.inl ⟨by rfl, ?_⟩) ?_ ?_
                    rotate_left
                    · intro w'
                      go_simp
                      with_reducible rfl
                    rotate_left
                    · simp only [Act.put, List.setIfInBounds_toArray, List.set_cons_zero, List.set_cons_succ, i64_w, i32_w]
                      rfl
                    refine pure_ (i := 2) (N := some 31) (v := ?_) (a' := ?_) #[true, false, true, false, false, false, false, false, false, false, false, false, false, false] rfl rfl (any_of HT_.out (by kernel_rfl)) (fun _ _ _ h => h) (Or.inl ⟨by rfl, ?_⟩) ?_ ?_
                    rotate_left
                    · intro w'
                      go_simp
                      with_reducible rfl
                    rotate_left
                    · simp only [Act.put, List.setIfInBounds_toArray, List.set_cons_zero, List.set_cons_succ, i64_w, i32_w]
                      rfl
                    refine pure_ (i := 5) (N := some 34) (v := ?_) (a' := ?_) #[true, false, true, false, false, true, false, false, false, false, false, false, false, false] rfl rfl (any_of HT_.out (by kernel_rfl)) (fun _ _ _ h => h) (Or.inl ⟨by rfl, ?_⟩) ?_ ?_
                    rotate_left
                    · intro w'
                      go_simp
                      with_reducible rfl
                    rotate_left
                    · simp only [Act.put, List.setIfInBounds_toArray, List.set_cons_zero, List.set_cons_succ, i64_w, i32_w]
                      rfl
                    refine pure_ (i := 7) (N := some 36) (v := ?_) (a' := ?_) #[true, false, true, false, false, true, false, true, false, false, false, false, false, false] rfl rfl (any_of HT_.out (by kernel_rfl)) (fun _ _ _ h => h) (Or.inl ⟨by rfl, ?_⟩) ?_ ?_
                    rotate_left
                    · intro w'
                      go_simp
                      with_reducible rfl
                    rotate_left
                    · simp only [Act.put, List.setIfInBounds_toArray, List.set_cons_zero, List.set_cons_succ, i64_w, i32_w]
                      rfl
                    refine take_ (i := 1) (N := some 30) (v := ?_) (a' := ?_) #[true, true, true, false, false, true, false, true, false, false, false, false, false, false] rfl rfl (take_ofW HT_.out HW_.out (by kernel_rfl)) (fun _ _ _ h => h) (Or.inl ⟨by rfl, ?_⟩) hHeld ?_ ?_
                    rotate_left
                    · rintro w' ⟨s0, s1, s2, s3, s4, s5, s6, s7, s8, s9⟩
                      go_simp
                      with_reducible rfl
                    rotate_left
                    · simp only [Act.put, List.setIfInBounds_toArray, List.set_cons_zero, List.set_cons_succ, i64_w, i32_w]
                      rfl
                    refine pure_ (i := 3) (N := some 32) (v := ?_) (a' := ?_) #[true, true, true, true, false, true, false, true, false, false, false, false, false, false] rfl rfl (any_of HT_.out (by kernel_rfl)) (fun _ _ _ h => h) (Or.inl ⟨by rfl, ?_⟩) ?_ ?_
                    rotate_left
                    · intro w'
                      go_simp
                      with_reducible rfl
                    rotate_left
                    · simp only [Act.put, List.setIfInBounds_toArray, List.set_cons_zero, List.set_cons_succ, i64_w, i32_w]
                      rfl
                    refine take_ (i := 4) (N := some 33) (v := ?_) (a' := ?_) #[true, true, true, true, true, true, false, true, false, false, false, false, false, false] rfl rfl (take_ofW HT_.out HW_.out (by kernel_rfl)) (fun _ _ _ h => h) (Or.inl ⟨by rfl, ?_⟩) hHeld ?_ ?_
                    rotate_left
                    · rintro w' ⟨s0, s1, s2, s3, s4, s5, s6, s7, s8, s9⟩
                      go_simp
                      with_reducible rfl
                    rotate_left
                    · simp only [Act.put, List.setIfInBounds_toArray, List.set_cons_zero, List.set_cons_succ, i64_w, i32_w]
                      rfl
                    refine take_ (i := 6) (N := some 35) (v := ?_) (a' := ?_) #[true, true, true, true, true, true, true, true, false, false, false, false, false, false] rfl rfl (take_ofW HT_.out HW_.out (by kernel_rfl)) (fun _ _ _ h => h) (Or.inl ⟨by rfl, ?_⟩) hHeld ?_ ?_
                    rotate_left
                    · rintro w' ⟨s0, s1, s2, s3, s4, s5, s6, s7, s8, s9⟩
                      go_simp
                      with_reducible rfl
                    rotate_left
                    · simp only [Act.put, List.setIfInBounds_toArray, List.set_cons_zero, List.set_cons_succ, i64_w, i32_w]
                      rfl
                    refine pure_ (i := 8) (N := some 37) (v := ?_) (a' := ?_) #[true, true, true, true, true, true, true, true, true, false, false, false, false, false] rfl rfl (any_of HT_.out (by kernel_rfl)) (fun _ _ _ h => h) (Or.inl ⟨by rfl, ?_⟩) ?_ ?_
                    rotate_left
                    · intro w'
                      go_simp
                      with_reducible rfl
                    rotate_left
                    · simp only [Act.put, List.setIfInBounds_toArray, List.set_cons_zero, List.set_cons_succ, i64_w, i32_w]
                      rfl
                    refine take_ (i := 9) (N := some 38) (v := ?_) (a' := ?_) #[true, true, true, true, true, true, true, true, true, true, false, false, false, false] rfl rfl (take_ofW HT_.out HW_.out (by kernel_rfl)) (fun _ _ _ h => h) (Or.inl ⟨by rfl, ?_⟩) hHeld ?_ ?_
                    rotate_left
                    · rintro w' ⟨s0, s1, s2, s3, s4, s5, s6, s7, s8, s9⟩
                      go_simp
                      with_reducible rfl
                    rotate_left
                    · simp only [Act.put, List.setIfInBounds_toArray, List.set_cons_zero, List.set_cons_succ, i64_w, i32_w]
                      rfl
                    refine join_ (σ := Nat × Nat) 2 #[true, true, true, true, true, true, true, true, true, true, true, true, false, false] (fun s_ => [(6, .pointer (some ⟨s_.1, 0, none⟩)), (7, .pointer (some ⟨s_.2, 0, none⟩))]) (fun s_ w' => (w'.cell? ⟨gb309, 0, none⟩ = some (.int .i64 a0_0) ∧ w'.cell? ⟨gb309, 1, none⟩ = some (.slice (some ad311) l0_1.length c0_1) ∧ w'.cell? ⟨gb310, 0, none⟩ = some (.int .i64 a1_0) ∧ w'.cell? ⟨gb310, 1, none⟩ = some (.slice (some ad312) l1_1.length c1_1) ∧ w'.cell? (ad311.add ((x5_2).toNat * 3)) = some (.string ((rd_T54 l0_1 x5_2).f0)) ∧ w'.cell? ⟨(ad311.add ((x5_2).toNat * 3)).block, (ad311.add ((x5_2).toNat * 3)).off + 1, none⟩ = some (.int .i64 ((rd_T54 l0_1 x5_2).f1)) ∧ w'.cell? ⟨(ad311.add ((x5_2).toNat * 3)).block, (ad311.add ((x5_2).toNat * 3)).off + 2, none⟩ = some (.slice A311_2 ((rd_T54 l0_1 x5_2).f2).length c311_2) ∧ w'.cell? (ad312.add ((x5_2).toNat * 3)) = some (.string ((rd_T54 l1_1 x5_2).f0)) ∧ w'.cell? ⟨(ad312.add ((x5_2).toNat * 3)).block, (ad312.add ((x5_2).toNat * 3)).off + 1, none⟩ = some (.int .i64 ((rd_T54 l1_1 x5_2).f1)) ∧ w'.cell? ⟨(ad312.add ((x5_2).toNat * 3)).block, (ad312.add ((x5_2).toNat * 3)).off + 2, none⟩ = some (.slice A312_2 ((rd_T54 l1_1 x5_2).f2).length c312_2)) ∧ (w'.heap[gb309]? = some (.cells #[.int .i64 a0_0, .slice (some ad311) l0_1.length c0_1] 38 (0, 0))) ∧ (w'.heap[gb310]? = some (.cells #[.int .i64 a1_0, .slice (some ad312) l1_1.length c1_1] 38 (0, 0))) ∧ (w'.heap[s_.1]? = some (.cells #[.string (⟨#[]⟩ : ByteArray), .int .i64 0, .slice none 0 0] 54 (0, 0))) ∧ (w'.heap[s_.2]? = some (.cells #[.string (⟨#[]⟩ : ByteArray), .int .i64 0, .slice none 0 0] 54 (0, 0))) ∧ (w.heap.size ≤ s_.1) ∧ (w.heap.size ≤ s_.1) ∧ (gb309 ≠ s_.1) ∧ (s_.1 ≠ gb309) ∧ (gb310 ≠ s_.1) ∧ (s_.1 ≠ gb310) ∧ (s_.2 ≠ s_.1) ∧ (s_.1 ≠ s_.2) ∧ (w.heap.size ≤ s_.2) ∧ (w.heap.size ≤ s_.2) ∧ (gb309 ≠ s_.2) ∧ (s_.2 ≠ gb309) ∧ (gb310 ≠ s_.2) ∧ (s_.2 ≠ gb310) ∧ (Below w.heap.size w w')) ?_ ?_
                    rotate_left
                    · intro hCont
                      refine two_ (i := 10) (j := 11) (Ni := some 6) (Nj := some 7) #[true, true, true, true, true, true, true, true, true, true, true, false, false, false] #[true, true, true, true, true, true, true, true, true, true, false, true, false, false] rfl rfl rfl rfl (two_of HT_.out (by kernel_rfl)) (by decide) (by decide) (fun K hK => ?_) (fun K hK => ?_)
                      · skip
                        refine box_step ?hg (N := 6) ?hd (cs := #[.string (⟨#[]⟩ : ByteArray), .int .i64 0, .slice none 0 0]) (t := 54) ?hr ?_; (case hd => rfl); (case hg => rfl); (case hr => first | (go_simp; done) | (go_simp; rfl))
                        intro gb313 hg w81 hbox hb
                        have n0_ := Aside0.mk (blk_below (g := gb309) (o := .cells #[.int .i64 a0_0, .slice (some ad311) l0_1.length c0_1] 38 (0, 0)) (by (with_reducible repeat (first | refine blk_drewN ?_ _ | refine blk_drew ?_ | refine blk_alloc ?_ _)); exact BK309.out) hb)
                        have n1_ := Aside0.mk (blk_below (g := gb310) (o := .cells #[.int .i64 a1_0, .slice (some ad312) l1_1.length c1_1] 38 (0, 0)) (by (with_reducible repeat (first | refine blk_drewN ?_ _ | refine blk_drew ?_ | refine blk_alloc ?_ _)); exact BK310.out) hb)
                        have n2_ := Aside0.mk (below_step (by repeat (first | (with_reducible first | exact HB.out | apply below_alloc | apply pw_below_drewN | apply below_drew1 | refine below_set ?_ GE309.out | refine below_set ?_ GE310.out) | exact HB.out)) hb)
                        have n3_ := Aside0.mk (hbox)
                        have n4_ := Aside0.mk ((by rw [hg]; exact (below_size (by repeat (first | (with_reducible first | exact HB.out | apply below_alloc | apply pw_below_drewN | apply below_drew1 | refine below_set ?_ GE309.out | refine below_set ?_ GE310.out) | exact HB.out))) : w.heap.size ≤ gb313))
                        have n5_ := Aside0.mk ((by rw [hg]; exact (below_size (by repeat (first | (with_reducible first | exact HB.out | apply below_alloc | apply pw_below_drewN | apply below_drew1 | refine below_set ?_ GE309.out | refine below_set ?_ GE310.out) | exact HB.out))) : w.heap.size ≤ gb313))
                        have n6_ := Aside0.mk ((by rw [hg]; exact Nat.ne_of_lt (blk_lt (g := gb309) (o := .cells #[.int .i64 a0_0, .slice (some ad311) l0_1.length c0_1] 38 (0, 0)) (by (with_reducible repeat (first | refine blk_drewN ?_ _ | refine blk_drew ?_ | refine blk_alloc ?_ _)); exact BK309.out)) : gb309 ≠ gb313))
                        have n7_ := Aside0.mk ((by rw [hg]; exact Nat.ne_of_gt (blk_lt (g := gb309) (o := .cells #[.int .i64 a0_0, .slice (some ad311) l0_1.length c0_1] 38 (0, 0)) (by (with_reducible repeat (first | refine blk_drewN ?_ _ | refine blk_drew ?_ | refine blk_alloc ?_ _)); exact BK309.out)) : gb313 ≠ gb309))
                        have n8_ := Aside0.mk ((by rw [hg]; exact Nat.ne_of_lt (blk_lt (g := gb310) (o := .cells #[.int .i64 a1_0, .slice (some ad312) l1_1.length c1_1] 38 (0, 0)) (by (with_reducible repeat (first | refine blk_drewN ?_ _ | refine blk_drew ?_ | refine blk_alloc ?_ _)); exact BK310.out)) : gb310 ≠ gb313))
                        have n9_ := Aside0.mk ((by rw [hg]; exact Nat.ne_of_gt (blk_lt (g := gb310) (o := .cells #[.int .i64 a1_0, .slice (some ad312) l1_1.length c1_1] 38 (0, 0)) (by (with_reducible repeat (first | refine blk_drewN ?_ _ | refine blk_drew ?_ | refine blk_alloc ?_ _)); exact BK310.out)) : gb313 ≠ gb310))
                        clear BK309
                        clear BK310
                        clear HB
                        have BK309 := n0_
                        have BK310 := n1_
                        have HB := n2_
                        have BK313 := n3_
                        have GW313 := n4_
                        have GE313 := n5_
                        have NB309_313 := n6_
                        have NB313_309 := n7_
                        have NB310_313 := n8_
                        have NB313_310 := n9_
                        clear n0_ n1_ n2_ n3_ n4_ n5_ n6_ n7_ n8_ n9_
                        clear hb hbox hg
                        refine hK.out _ _ ⟨(blk_cell BK309.out 0).trans rfl, (blk_cell BK309.out 1).trans rfl, (blk_cell BK310.out 0).trans rfl, (blk_cell BK310.out 1).trans rfl, ((HB.out.cell (World.block_lt_of_cell? w _ hw311_0)).trans hw311_0), ((HB.out.cell (World.block_lt_of_cell? w _ hw311_1)).trans hw311_1), ((HB.out.cell (World.block_lt_of_cell? w _ hw311_2)).trans hw311_2), ((HB.out.cell (World.block_lt_of_cell? w _ hw312_0)).trans hw312_0), ((HB.out.cell (World.block_lt_of_cell? w _ hw312_1)).trans hw312_1), ((HB.out.cell (World.block_lt_of_cell? w _ hw312_2)).trans hw312_2)⟩ (fun hHeld => ?_)
                        clear hK K
                        refine norm_ (a' := ?_) ?_ ?_
                        rotate_left
                        · show Act.put _ (some 6) _ = _
                          simp only [Act.put, List.setIfInBounds_toArray, List.set_cons_zero, List.set_cons_succ, i64_w, i32_w]
                          rfl
                        refine one_ (i := 11) (N := some 7) #[true, true, true, true, true, true, true, true, true, true, true, true, false, false] rfl rfl (one_of HT_.out (by kernel_rfl)) (by decide) (fun K hK => ?_)
                        refine box_step ?hg (N := 7) ?hd (cs := #[.string (⟨#[]⟩ : ByteArray), .int .i64 0, .slice none 0 0]) (t := 54) ?hr ?_; (case hd => rfl); (case hg => rfl); (case hr => first | (go_simp; done) | (go_simp; rfl))
                        intro gb314 hg w82 hbox hb
                        have n0_ := Aside0.mk (blk_below (g := gb309) (o := .cells #[.int .i64 a0_0, .slice (some ad311) l0_1.length c0_1] 38 (0, 0)) (by (with_reducible repeat (first | refine blk_drewN ?_ _ | refine blk_drew ?_ | refine blk_alloc ?_ _)); exact BK309.out) hb)
                        have n1_ := Aside0.mk (blk_below (g := gb310) (o := .cells #[.int .i64 a1_0, .slice (some ad312) l1_1.length c1_1] 38 (0, 0)) (by (with_reducible repeat (first | refine blk_drewN ?_ _ | refine blk_drew ?_ | refine blk_alloc ?_ _)); exact BK310.out) hb)
                        have n2_ := Aside0.mk (blk_below (g := gb313) (o := .cells #[.string (⟨#[]⟩ : ByteArray), .int .i64 0, .slice none 0 0] 54 (0, 0)) (by (with_reducible repeat (first | refine blk_drewN ?_ _ | refine blk_drew ?_ | refine blk_alloc ?_ _)); exact BK313.out) hb)
                        have n3_ := Aside0.mk (below_step (by repeat (first | (with_reducible first | exact HB.out | apply below_alloc | apply pw_below_drewN | apply below_drew1 | refine below_set ?_ GE309.out | refine below_set ?_ GE310.out | refine below_set ?_ GE313.out) | exact HB.out)) hb)
                        have n4_ := Aside0.mk (hbox)
                        have n5_ := Aside0.mk ((by rw [hg]; exact (below_size (by repeat (first | (with_reducible first | exact HB.out | apply below_alloc | apply pw_below_drewN | apply below_drew1 | refine below_set ?_ GE309.out | refine below_set ?_ GE310.out | refine below_set ?_ GE313.out) | exact HB.out))) : w.heap.size ≤ gb314))
                        have n6_ := Aside0.mk ((by rw [hg]; exact (below_size (by repeat (first | (with_reducible first | exact HB.out | apply below_alloc | apply pw_below_drewN | apply below_drew1 | refine below_set ?_ GE309.out | refine below_set ?_ GE310.out | refine below_set ?_ GE313.out) | exact HB.out))) : w.heap.size ≤ gb314))
                        have n7_ := Aside0.mk ((by rw [hg]; exact Nat.ne_of_lt (blk_lt (g := gb309) (o := .cells #[.int .i64 a0_0, .slice (some ad311) l0_1.length c0_1] 38 (0, 0)) (by (with_reducible repeat (first | refine blk_drewN ?_ _ | refine blk_drew ?_ | refine blk_alloc ?_ _)); exact BK309.out)) : gb309 ≠ gb314))
                        have n8_ := Aside0.mk ((by rw [hg]; exact Nat.ne_of_gt (blk_lt (g := gb309) (o := .cells #[.int .i64 a0_0, .slice (some ad311) l0_1.length c0_1] 38 (0, 0)) (by (with_reducible repeat (first | refine blk_drewN ?_ _ | refine blk_drew ?_ | refine blk_alloc ?_ _)); exact BK309.out)) : gb314 ≠ gb309))
                        have n9_ := Aside0.mk ((by rw [hg]; exact Nat.ne_of_lt (blk_lt (g := gb310) (o := .cells #[.int .i64 a1_0, .slice (some ad312) l1_1.length c1_1] 38 (0, 0)) (by (with_reducible repeat (first | refine blk_drewN ?_ _ | refine blk_drew ?_ | refine blk_alloc ?_ _)); exact BK310.out)) : gb310 ≠ gb314))
                        have n10_ := Aside0.mk ((by rw [hg]; exact Nat.ne_of_gt (blk_lt (g := gb310) (o := .cells #[.int .i64 a1_0, .slice (some ad312) l1_1.length c1_1] 38 (0, 0)) (by (with_reducible repeat (first | refine blk_drewN ?_ _ | refine blk_drew ?_ | refine blk_alloc ?_ _)); exact BK310.out)) : gb314 ≠ gb310))
                        have n11_ := Aside0.mk ((by rw [hg]; exact Nat.ne_of_lt (blk_lt (g := gb313) (o := .cells #[.string (⟨#[]⟩ : ByteArray), .int .i64 0, .slice none 0 0] 54 (0, 0)) (by (with_reducible repeat (first | refine blk_drewN ?_ _ | refine blk_drew ?_ | refine blk_alloc ?_ _)); exact BK313.out)) : gb313 ≠ gb314))
                        have n12_ := Aside0.mk ((by rw [hg]; exact Nat.ne_of_gt (blk_lt (g := gb313) (o := .cells #[.string (⟨#[]⟩ : ByteArray), .int .i64 0, .slice none 0 0] 54 (0, 0)) (by (with_reducible repeat (first | refine blk_drewN ?_ _ | refine blk_drew ?_ | refine blk_alloc ?_ _)); exact BK313.out)) : gb314 ≠ gb313))
                        clear BK309
                        clear BK310
                        clear BK313
                        clear HB
                        have BK309 := n0_
                        have BK310 := n1_
                        have BK313 := n2_
                        have HB := n3_
                        have BK314 := n4_
                        have GW314 := n5_
                        have GE314 := n6_
                        have NB309_314 := n7_
                        have NB314_309 := n8_
                        have NB310_314 := n9_
                        have NB314_310 := n10_
                        have NB313_314 := n11_
                        have NB314_313 := n12_
                        clear n0_ n1_ n2_ n3_ n4_ n5_ n6_ n7_ n8_ n9_ n10_ n11_ n12_
                        clear hb hbox hg
                        refine hK.out _ _ ⟨(blk_cell BK309.out 0).trans rfl, (blk_cell BK309.out 1).trans rfl, (blk_cell BK310.out 0).trans rfl, (blk_cell BK310.out 1).trans rfl, ((HB.out.cell (World.block_lt_of_cell? w _ hw311_0)).trans hw311_0), ((HB.out.cell (World.block_lt_of_cell? w _ hw311_1)).trans hw311_1), ((HB.out.cell (World.block_lt_of_cell? w _ hw311_2)).trans hw311_2), ((HB.out.cell (World.block_lt_of_cell? w _ hw312_0)).trans hw312_0), ((HB.out.cell (World.block_lt_of_cell? w _ hw312_1)).trans hw312_1), ((HB.out.cell (World.block_lt_of_cell? w _ hw312_2)).trans hw312_2)⟩ (fun hHeld => ?_)
                        clear hK K
                        refine norm_ (a' := ?_) ?_ ?_
                        rotate_left
                        · show Act.put _ (some 7) _ = _
                          simp only [Act.put, List.setIfInBounds_toArray, List.set_cons_zero, List.set_cons_succ, i64_w, i32_w]
                          rfl
                        exact norm_ (by simp only [putAll, Act.put, List.setIfInBounds_toArray, List.set_cons_zero, List.set_cons_succ]) (hCont (gb313, gb314) _ ⟨hHeld, (by (with_reducible repeat (first | refine blk_drewN ?_ _ | refine blk_drew ?_ | refine blk_alloc ?_ _)); exact BK309.out), (by (with_reducible repeat (first | refine blk_drewN ?_ _ | refine blk_drew ?_ | refine blk_alloc ?_ _)); exact BK310.out), (by (with_reducible repeat (first | refine blk_drewN ?_ _ | refine blk_drew ?_ | refine blk_alloc ?_ _)); exact BK313.out), (by (with_reducible repeat (first | refine blk_drewN ?_ _ | refine blk_drew ?_ | refine blk_alloc ?_ _)); exact BK314.out), GW313.out, GE313.out, NB309_313.out, NB313_309.out, NB310_313.out, NB313_310.out, NB314_313.out, NB313_314.out, GW314.out, GE314.out, NB309_314.out, NB314_309.out, NB310_314.out, NB314_310.out, (by repeat (first | (with_reducible first | exact HB.out | apply below_alloc | apply pw_below_drewN | apply below_drew1 | refine below_set ?_ GE309.out | refine below_set ?_ GE310.out | refine below_set ?_ GE313.out | refine below_set ?_ GE314.out) | exact HB.out))⟩)
                      · skip
                        refine box_step ?hg (N := 7) ?hd (cs := #[.string (⟨#[]⟩ : ByteArray), .int .i64 0, .slice none 0 0]) (t := 54) ?hr ?_; (case hd => rfl); (case hg => rfl); (case hr => first | (go_simp; done) | (go_simp; rfl))
                        intro gb314 hg w81 hbox hb
                        have n0_ := Aside0.mk (blk_below (g := gb309) (o := .cells #[.int .i64 a0_0, .slice (some ad311) l0_1.length c0_1] 38 (0, 0)) (by (with_reducible repeat (first | refine blk_drewN ?_ _ | refine blk_drew ?_ | refine blk_alloc ?_ _)); exact BK309.out) hb)
                        have n1_ := Aside0.mk (blk_below (g := gb310) (o := .cells #[.int .i64 a1_0, .slice (some ad312) l1_1.length c1_1] 38 (0, 0)) (by (with_reducible repeat (first | refine blk_drewN ?_ _ | refine blk_drew ?_ | refine blk_alloc ?_ _)); exact BK310.out) hb)
                        have n2_ := Aside0.mk (below_step (by repeat (first | (with_reducible first | exact HB.out | apply below_alloc | apply pw_below_drewN | apply below_drew1 | refine below_set ?_ GE309.out | refine below_set ?_ GE310.out) | exact HB.out)) hb)
                        have n3_ := Aside0.mk (hbox)
                        have n4_ := Aside0.mk ((by rw [hg]; exact (below_size (by repeat (first | (with_reducible first | exact HB.out | apply below_alloc | apply pw_below_drewN | apply below_drew1 | refine below_set ?_ GE309.out | refine below_set ?_ GE310.out) | exact HB.out))) : w.heap.size ≤ gb314))
                        have n5_ := Aside0.mk ((by rw [hg]; exact (below_size (by repeat (first | (with_reducible first | exact HB.out | apply below_alloc | apply pw_below_drewN | apply below_drew1 | refine below_set ?_ GE309.out | refine below_set ?_ GE310.out) | exact HB.out))) : w.heap.size ≤ gb314))
                        have n6_ := Aside0.mk ((by rw [hg]; exact Nat.ne_of_lt (blk_lt (g := gb309) (o := .cells #[.int .i64 a0_0, .slice (some ad311) l0_1.length c0_1] 38 (0, 0)) (by (with_reducible repeat (first | refine blk_drewN ?_ _ | refine blk_drew ?_ | refine blk_alloc ?_ _)); exact BK309.out)) : gb309 ≠ gb314))
                        have n7_ := Aside0.mk ((by rw [hg]; exact Nat.ne_of_gt (blk_lt (g := gb309) (o := .cells #[.int .i64 a0_0, .slice (some ad311) l0_1.length c0_1] 38 (0, 0)) (by (with_reducible repeat (first | refine blk_drewN ?_ _ | refine blk_drew ?_ | refine blk_alloc ?_ _)); exact BK309.out)) : gb314 ≠ gb309))
                        have n8_ := Aside0.mk ((by rw [hg]; exact Nat.ne_of_lt (blk_lt (g := gb310) (o := .cells #[.int .i64 a1_0, .slice (some ad312) l1_1.length c1_1] 38 (0, 0)) (by (with_reducible repeat (first | refine blk_drewN ?_ _ | refine blk_drew ?_ | refine blk_alloc ?_ _)); exact BK310.out)) : gb310 ≠ gb314))
                        have n9_ := Aside0.mk ((by rw [hg]; exact Nat.ne_of_gt (blk_lt (g := gb310) (o := .cells #[.int .i64 a1_0, .slice (some ad312) l1_1.length c1_1] 38 (0, 0)) (by (with_reducible repeat (first | refine blk_drewN ?_ _ | refine blk_drew ?_ | refine blk_alloc ?_ _)); exact BK310.out)) : gb314 ≠ gb310))
                        clear BK309
                        clear BK310
                        clear HB
                        have BK309 := n0_
                        have BK310 := n1_
                        have HB := n2_
                        have BK314 := n3_
                        have GW314 := n4_
                        have GE314 := n5_
                        have NB309_314 := n6_
                        have NB314_309 := n7_
                        have NB310_314 := n8_
                        have NB314_310 := n9_
                        clear n0_ n1_ n2_ n3_ n4_ n5_ n6_ n7_ n8_ n9_
                        clear hb hbox hg
                        refine hK.out _ _ ⟨(blk_cell BK309.out 0).trans rfl, (blk_cell BK309.out 1).trans rfl, (blk_cell BK310.out 0).trans rfl, (blk_cell BK310.out 1).trans rfl, ((HB.out.cell (World.block_lt_of_cell? w _ hw311_0)).trans hw311_0), ((HB.out.cell (World.block_lt_of_cell? w _ hw311_1)).trans hw311_1), ((HB.out.cell (World.block_lt_of_cell? w _ hw311_2)).trans hw311_2), ((HB.out.cell (World.block_lt_of_cell? w _ hw312_0)).trans hw312_0), ((HB.out.cell (World.block_lt_of_cell? w _ hw312_1)).trans hw312_1), ((HB.out.cell (World.block_lt_of_cell? w _ hw312_2)).trans hw312_2)⟩ (fun hHeld => ?_)
                        clear hK K
                        refine norm_ (a' := ?_) ?_ ?_
                        rotate_left
                        · show Act.put _ (some 7) _ = _
                          simp only [Act.put, List.setIfInBounds_toArray, List.set_cons_zero, List.set_cons_succ, i64_w, i32_w]
                          rfl
                        refine one_ (i := 10) (N := some 6) #[true, true, true, true, true, true, true, true, true, true, true, true, false, false] rfl rfl (one_of HT_.out (by kernel_rfl)) (by decide) (fun K hK => ?_)
                        refine box_step ?hg (N := 6) ?hd (cs := #[.string (⟨#[]⟩ : ByteArray), .int .i64 0, .slice none 0 0]) (t := 54) ?hr ?_; (case hd => rfl); (case hg => rfl); (case hr => first | (go_simp; done) | (go_simp; rfl))
                        intro gb313 hg w82 hbox hb
                        have n0_ := Aside0.mk (blk_below (g := gb309) (o := .cells #[.int .i64 a0_0, .slice (some ad311) l0_1.length c0_1] 38 (0, 0)) (by (with_reducible repeat (first | refine blk_drewN ?_ _ | refine blk_drew ?_ | refine blk_alloc ?_ _)); exact BK309.out) hb)
                        have n1_ := Aside0.mk (blk_below (g := gb310) (o := .cells #[.int .i64 a1_0, .slice (some ad312) l1_1.length c1_1] 38 (0, 0)) (by (with_reducible repeat (first | refine blk_drewN ?_ _ | refine blk_drew ?_ | refine blk_alloc ?_ _)); exact BK310.out) hb)
                        have n2_ := Aside0.mk (blk_below (g := gb314) (o := .cells #[.string (⟨#[]⟩ : ByteArray), .int .i64 0, .slice none 0 0] 54 (0, 0)) (by (with_reducible repeat (first | refine blk_drewN ?_ _ | refine blk_drew ?_ | refine blk_alloc ?_ _)); exact BK314.out) hb)
                        have n3_ := Aside0.mk (below_step (by repeat (first | (with_reducible first | exact HB.out | apply below_alloc | apply pw_below_drewN | apply below_drew1 | refine below_set ?_ GE309.out | refine below_set ?_ GE310.out | refine below_set ?_ GE314.out) | exact HB.out)) hb)
                        have n4_ := Aside0.mk (hbox)
                        have n5_ := Aside0.mk ((by rw [hg]; exact (below_size (by repeat (first | (with_reducible first | exact HB.out | apply below_alloc | apply pw_below_drewN | apply below_drew1 | refine below_set ?_ GE309.out | refine below_set ?_ GE310.out | refine below_set ?_ GE314.out) | exact HB.out))) : w.heap.size ≤ gb313))
                        have n6_ := Aside0.mk ((by rw [hg]; exact (below_size (by repeat (first | (with_reducible first | exact HB.out | apply below_alloc | apply pw_below_drewN | apply below_drew1 | refine below_set ?_ GE309.out | refine below_set ?_ GE310.out | refine below_set ?_ GE314.out) | exact HB.out))) : w.heap.size ≤ gb313))
                        have n7_ := Aside0.mk ((by rw [hg]; exact Nat.ne_of_lt (blk_lt (g := gb309) (o := .cells #[.int .i64 a0_0, .slice (some ad311) l0_1.length c0_1] 38 (0, 0)) (by (with_reducible repeat (first | refine blk_drewN ?_ _ | refine blk_drew ?_ | refine blk_alloc ?_ _)); exact BK309.out)) : gb309 ≠ gb313))
                        have n8_ := Aside0.mk ((by rw [hg]; exact Nat.ne_of_gt (blk_lt (g := gb309) (o := .cells #[.int .i64 a0_0, .slice (some ad311) l0_1.length c0_1] 38 (0, 0)) (by (with_reducible repeat (first | refine blk_drewN ?_ _ | refine blk_drew ?_ | refine blk_alloc ?_ _)); exact BK309.out)) : gb313 ≠ gb309))
                        have n9_ := Aside0.mk ((by rw [hg]; exact Nat.ne_of_lt (blk_lt (g := gb310) (o := .cells #[.int .i64 a1_0, .slice (some ad312) l1_1.length c1_1] 38 (0, 0)) (by (with_reducible repeat (first | refine blk_drewN ?_ _ | refine blk_drew ?_ | refine blk_alloc ?_ _)); exact BK310.out)) : gb310 ≠ gb313))
                        have n10_ := Aside0.mk ((by rw [hg]; exact Nat.ne_of_gt (blk_lt (g := gb310) (o := .cells #[.int .i64 a1_0, .slice (some ad312) l1_1.length c1_1] 38 (0, 0)) (by (with_reducible repeat (first | refine blk_drewN ?_ _ | refine blk_drew ?_ | refine blk_alloc ?_ _)); exact BK310.out)) : gb313 ≠ gb310))
                        have n11_ := Aside0.mk ((by rw [hg]; exact Nat.ne_of_lt (blk_lt (g := gb314) (o := .cells #[.string (⟨#[]⟩ : ByteArray), .int .i64 0, .slice none 0 0] 54 (0, 0)) (by (with_reducible repeat (first | refine blk_drewN ?_ _ | refine blk_drew ?_ | refine blk_alloc ?_ _)); exact BK314.out)) : gb314 ≠ gb313))
                        have n12_ := Aside0.mk ((by rw [hg]; exact Nat.ne_of_gt (blk_lt (g := gb314) (o := .cells #[.string (⟨#[]⟩ : ByteArray), .int .i64 0, .slice none 0 0] 54 (0, 0)) (by (with_reducible repeat (first | refine blk_drewN ?_ _ | refine blk_drew ?_ | refine blk_alloc ?_ _)); exact BK314.out)) : gb313 ≠ gb314))
                        clear BK309
                        clear BK310
                        clear BK314
                        clear HB
                        have BK309 := n0_
                        have BK310 := n1_
                        have BK314 := n2_
                        have HB := n3_
                        have BK313 := n4_
                        have GW313 := n5_
                        have GE313 := n6_
                        have NB309_313 := n7_
                        have NB313_309 := n8_
                        have NB310_313 := n9_
                        have NB313_310 := n10_
                        have NB314_313 := n11_
                        have NB313_314 := n12_
                        clear n0_ n1_ n2_ n3_ n4_ n5_ n6_ n7_ n8_ n9_ n10_ n11_ n12_
                        clear hb hbox hg
                        refine hK.out _ _ ⟨(blk_cell BK309.out 0).trans rfl, (blk_cell BK309.out 1).trans rfl, (blk_cell BK310.out 0).trans rfl, (blk_cell BK310.out 1).trans rfl, ((HB.out.cell (World.block_lt_of_cell? w _ hw311_0)).trans hw311_0), ((HB.out.cell (World.block_lt_of_cell? w _ hw311_1)).trans hw311_1), ((HB.out.cell (World.block_lt_of_cell? w _ hw311_2)).trans hw311_2), ((HB.out.cell (World.block_lt_of_cell? w _ hw312_0)).trans hw312_0), ((HB.out.cell (World.block_lt_of_cell? w _ hw312_1)).trans hw312_1), ((HB.out.cell (World.block_lt_of_cell? w _ hw312_2)).trans hw312_2)⟩ (fun hHeld => ?_)
                        clear hK K
                        refine norm_ (a' := ?_) ?_ ?_
                        rotate_left
                        · show Act.put _ (some 6) _ = _
                          simp only [Act.put, List.setIfInBounds_toArray, List.set_cons_zero, List.set_cons_succ, i64_w, i32_w]
                          rfl
                        exact norm_ (by simp only [putAll, Act.put, List.setIfInBounds_toArray, List.set_cons_zero, List.set_cons_succ]) (hCont (gb313, gb314) _ ⟨hHeld, (by (with_reducible repeat (first | refine blk_drewN ?_ _ | refine blk_drew ?_ | refine blk_alloc ?_ _)); exact BK309.out), (by (with_reducible repeat (first | refine blk_drewN ?_ _ | refine blk_drew ?_ | refine blk_alloc ?_ _)); exact BK310.out), (by (with_reducible repeat (first | refine blk_drewN ?_ _ | refine blk_drew ?_ | refine blk_alloc ?_ _)); exact BK313.out), (by (with_reducible repeat (first | refine blk_drewN ?_ _ | refine blk_drew ?_ | refine blk_alloc ?_ _)); exact BK314.out), GW313.out, GE313.out, NB309_313.out, NB313_309.out, NB310_313.out, NB313_310.out, NB314_313.out, NB313_314.out, GW314.out, GE314.out, NB309_314.out, NB314_309.out, NB310_314.out, NB314_310.out, (by repeat (first | (with_reducible first | exact HB.out | apply below_alloc | apply pw_below_drewN | apply below_drew1 | refine below_set ?_ GE309.out | refine below_set ?_ GE310.out | refine below_set ?_ GE314.out | refine below_set ?_ GE313.out) | exact HB.out))⟩)
                    rintro ⟨gb313, gb314⟩ w83 ⟨hS_, h0_, h1_, h2_, h3_, h4_, h5_, h6_, h7_, h8_, h9_, h10_, h11_, h12_, h13_, h14_, h15_, h16_, h17_, h18_⟩
                    have n0_ : Aside0 (w83.heap[gb309]? = some (.cells #[.int .i64 a0_0, .slice (some ad311) l0_1.length c0_1] 38 (0, 0))) := ⟨h0_⟩
                    have n1_ : Aside0 (w83.heap[gb310]? = some (.cells #[.int .i64 a1_0, .slice (some ad312) l1_1.length c1_1] 38 (0, 0))) := ⟨h1_⟩
                    have n2_ : Aside0 (w83.heap[gb313]? = some (.cells #[.string (⟨#[]⟩ : ByteArray), .int .i64 0, .slice none 0 0] 54 (0, 0))) := ⟨h2_⟩
                    have n3_ : Aside0 (w83.heap[gb314]? = some (.cells #[.string (⟨#[]⟩ : ByteArray), .int .i64 0, .slice none 0 0] 54 (0, 0))) := ⟨h3_⟩
                    have n4_ : Aside0 (w.heap.size ≤ gb313) := ⟨h4_⟩
                    have n5_ : Aside0 (w.heap.size ≤ gb313) := ⟨h5_⟩
                    have n6_ : Aside0 (gb309 ≠ gb313) := ⟨h6_⟩
                    have n7_ : Aside0 (gb313 ≠ gb309) := ⟨h7_⟩
                    have n8_ : Aside0 (gb310 ≠ gb313) := ⟨h8_⟩
                    have n9_ : Aside0 (gb313 ≠ gb310) := ⟨h9_⟩
                    have n10_ : Aside0 (gb314 ≠ gb313) := ⟨h10_⟩
                    have n11_ : Aside0 (gb313 ≠ gb314) := ⟨h11_⟩
                    have n12_ : Aside0 (w.heap.size ≤ gb314) := ⟨h12_⟩
                    have n13_ : Aside0 (w.heap.size ≤ gb314) := ⟨h13_⟩
                    have n14_ : Aside0 (gb309 ≠ gb314) := ⟨h14_⟩
                    have n15_ : Aside0 (gb314 ≠ gb309) := ⟨h15_⟩
                    have n16_ : Aside0 (gb310 ≠ gb314) := ⟨h16_⟩
                    have n17_ : Aside0 (gb314 ≠ gb310) := ⟨h17_⟩
                    have n18_ : Aside0 (Below w.heap.size w w83) := ⟨h18_⟩
                    clear BK309
                    clear BK310
                    clear HB
                    clear h0_ h1_ h2_ h3_ h4_ h5_ h6_ h7_ h8_ h9_ h10_ h11_ h12_ h13_ h14_ h15_ h16_ h17_ h18_
                    have BK309 := n0_
                    have BK310 := n1_
                    have BK313 := n2_
                    have BK314 := n3_
                    have GW313 := n4_
                    have GE313 := n5_
                    have NB309_313 := n6_
                    have NB313_309 := n7_
                    have NB310_313 := n8_
                    have NB313_310 := n9_
                    have NB314_313 := n10_
                    have NB313_314 := n11_
                    have GW314 := n12_
                    have GE314 := n13_
                    have NB309_314 := n14_
                    have NB314_309 := n15_
                    have NB310_314 := n16_
                    have NB314_310 := n17_
                    have HB := n18_
                    clear n0_ n1_ n2_ n3_ n4_ n5_ n6_ n7_ n8_ n9_ n10_ n11_ n12_ n13_ n14_ n15_ n16_ n17_ n18_
                    have hHeld : w83.cell? ⟨gb309, 0, none⟩ = some (.int .i64 a0_0) ∧ w83.cell? ⟨gb309, 1, none⟩ = some (.slice (some ad311) l0_1.length c0_1) ∧ w83.cell? ⟨gb310, 0, none⟩ = some (.int .i64 a1_0) ∧ w83.cell? ⟨gb310, 1, none⟩ = some (.slice (some ad312) l1_1.length c1_1) ∧ w83.cell? (ad311.add ((x5_2).toNat * 3)) = some (.string ((rd_T54 l0_1 x5_2).f0)) ∧ w83.cell? ⟨(ad311.add ((x5_2).toNat * 3)).block, (ad311.add ((x5_2).toNat * 3)).off + 1, none⟩ = some (.int .i64 ((rd_T54 l0_1 x5_2).f1)) ∧ w83.cell? ⟨(ad311.add ((x5_2).toNat * 3)).block, (ad311.add ((x5_2).toNat * 3)).off + 2, none⟩ = some (.slice A311_2 ((rd_T54 l0_1 x5_2).f2).length c311_2) ∧ w83.cell? (ad312.add ((x5_2).toNat * 3)) = some (.string ((rd_T54 l1_1 x5_2).f0)) ∧ w83.cell? ⟨(ad312.add ((x5_2).toNat * 3)).block, (ad312.add ((x5_2).toNat * 3)).off + 1, none⟩ = some (.int .i64 ((rd_T54 l1_1 x5_2).f1)) ∧ w83.cell? ⟨(ad312.add ((x5_2).toNat * 3)).block, (ad312.add ((x5_2).toNat * 3)).off + 2, none⟩ = some (.slice A312_2 ((rd_T54 l1_1 x5_2).f2).length c312_2) := hS_
                    refine norm_ (a' := ?_) ?_ ?_
                    rotate_left
                    · simp only [putAll, Act.put, List.setIfInBounds_toArray, List.set_cons_zero, List.set_cons_succ]
                      rfl
                    refine one_ (i := 12) (N := none) #[true, true, true, true, true, true, true, true, true, true, true, true, true, false] rfl rfl (one_of HT_.out (by kernel_rfl)) (by decide) (fun K hK => ?_)
                    have hs84 : w83.cell? ⟨gb313, 0, none⟩ = some (.string (⟨#[]⟩ : ByteArray)) := (blk_cell BK313.out 0).trans rfl
                    have hfs84 := blk_frozen BK313.out 0
                    have hns84_0 := NB309_313.out
                    have hns84_1 := NB310_313.out
                    have hns84_3 := NB314_313.out
                    have hms84_0 := NB313_309.out
                    have hms84_1 := NB313_310.out
                    have hms84_3 := NB313_314.out
                    have hs85 : w83.cell? ⟨gb313, 1, none⟩ = some (.int .i64 0) := (blk_cell BK313.out 1).trans rfl
                    have hfs85 := blk_frozen BK313.out 1
                    have hns85_0 := NB309_313.out
                    have hns85_1 := NB310_313.out
                    have hns85_3 := NB314_313.out
                    have hms85_0 := NB313_309.out
                    have hms85_1 := NB313_310.out
                    have hms85_3 := NB313_314.out
                    have hs86 : w83.cell? ⟨gb313, 2, none⟩ = some (.slice none 0 0) := (blk_cell BK313.out 2).trans rfl
                    have hfs86 := blk_frozen BK313.out 2
                    have hns86_0 := NB309_313.out
                    have hns86_1 := NB310_313.out
                    have hns86_3 := NB314_313.out
                    have hms86_0 := NB313_309.out
                    have hms86_1 := NB313_310.out
                    have hms86_3 := NB313_314.out
                    refine skip_ (w1 := ?_) (by rfl) rfl ?_ ?_
                    rotate_left
                    · go_simp
                      rfl
                    refine hK.out _ _ ⟨((cell_far (p := ⟨gb313, _, none⟩) NB309_313.out _).trans (((cell_far (p := ⟨gb313, _, none⟩) NB309_313.out _).trans (((cell_far (p := ⟨gb313, _, none⟩) NB309_313.out _).trans (hHeld.1)))))), ((cell_far (p := ⟨gb313, _, none⟩) NB309_313.out _).trans (((cell_far (p := ⟨gb313, _, none⟩) NB309_313.out _).trans (((cell_far (p := ⟨gb313, _, none⟩) NB309_313.out _).trans (hHeld.2.1)))))), ((cell_far (p := ⟨gb313, _, none⟩) NB310_313.out _).trans (((cell_far (p := ⟨gb313, _, none⟩) NB310_313.out _).trans (((cell_far (p := ⟨gb313, _, none⟩) NB310_313.out _).trans (hHeld.2.2.1)))))), ((cell_far (p := ⟨gb313, _, none⟩) NB310_313.out _).trans (((cell_far (p := ⟨gb313, _, none⟩) NB310_313.out _).trans (((cell_far (p := ⟨gb313, _, none⟩) NB310_313.out _).trans (hHeld.2.2.2.1)))))), ((cell_far (p := ⟨gb313, _, none⟩) (far_ne28 hw311_0 GW313.out) _).trans (((cell_far (p := ⟨gb313, _, none⟩) (far_ne28 hw311_0 GW313.out) _).trans (((cell_far (p := ⟨gb313, _, none⟩) (far_ne28 hw311_0 GW313.out) _).trans (hHeld.2.2.2.2.1)))))), ((cell_far (p := ⟨gb313, _, none⟩) (far_ne28 hw311_1 GW313.out) _).trans (((cell_far (p := ⟨gb313, _, none⟩) (far_ne28 hw311_1 GW313.out) _).trans (((cell_far (p := ⟨gb313, _, none⟩) (far_ne28 hw311_1 GW313.out) _).trans (hHeld.2.2.2.2.2.1)))))), ((cell_far (p := ⟨gb313, _, none⟩) (far_ne28 hw311_2 GW313.out) _).trans (((cell_far (p := ⟨gb313, _, none⟩) (far_ne28 hw311_2 GW313.out) _).trans (((cell_far (p := ⟨gb313, _, none⟩) (far_ne28 hw311_2 GW313.out) _).trans (hHeld.2.2.2.2.2.2.1)))))), ((cell_far (p := ⟨gb313, _, none⟩) (far_ne28 hw312_0 GW313.out) _).trans (((cell_far (p := ⟨gb313, _, none⟩) (far_ne28 hw312_0 GW313.out) _).trans (((cell_far (p := ⟨gb313, _, none⟩) (far_ne28 hw312_0 GW313.out) _).trans (hHeld.2.2.2.2.2.2.2.1)))))), ((cell_far (p := ⟨gb313, _, none⟩) (far_ne28 hw312_1 GW313.out) _).trans (((cell_far (p := ⟨gb313, _, none⟩) (far_ne28 hw312_1 GW313.out) _).trans (((cell_far (p := ⟨gb313, _, none⟩) (far_ne28 hw312_1 GW313.out) _).trans (hHeld.2.2.2.2.2.2.2.2.1)))))), ((cell_far (p := ⟨gb313, _, none⟩) (far_ne28 hw312_2 GW313.out) _).trans (((cell_far (p := ⟨gb313, _, none⟩) (far_ne28 hw312_2 GW313.out) _).trans (((cell_far (p := ⟨gb313, _, none⟩) (far_ne28 hw312_2 GW313.out) _).trans (hHeld.2.2.2.2.2.2.2.2.2))))))⟩ (fun hHeld => ?_)
                    clear hK K
                    refine one_ (i := 13) (N := none) #[true, true, true, true, true, true, true, true, true, true, true, true, true, true] rfl rfl (one_of HT_.out (by kernel_rfl)) (by decide) (fun K hK => ?_)
                    have hs87 : w83.cell? ⟨gb314, 0, none⟩ = some (.string (⟨#[]⟩ : ByteArray)) := (blk_cell BK314.out 0).trans rfl
                    have hfs87 := blk_frozen BK314.out 0
                    have hns87_0 := NB309_314.out
                    have hns87_1 := NB310_314.out
                    have hns87_2 := NB313_314.out
                    have hms87_0 := NB314_309.out
                    have hms87_1 := NB314_310.out
                    have hms87_2 := NB314_313.out
                    have hs88 : w83.cell? ⟨gb314, 1, none⟩ = some (.int .i64 0) := (blk_cell BK314.out 1).trans rfl
                    have hfs88 := blk_frozen BK314.out 1
                    have hns88_0 := NB309_314.out
                    have hns88_1 := NB310_314.out
                    have hns88_2 := NB313_314.out
                    have hms88_0 := NB314_309.out
                    have hms88_1 := NB314_310.out
                    have hms88_2 := NB314_313.out
                    have hs89 : w83.cell? ⟨gb314, 2, none⟩ = some (.slice none 0 0) := (blk_cell BK314.out 2).trans rfl
                    have hfs89 := blk_frozen BK314.out 2
                    have hns89_0 := NB309_314.out
                    have hns89_1 := NB310_314.out
                    have hns89_2 := NB313_314.out
                    have hms89_0 := NB314_309.out
                    have hms89_1 := NB314_310.out
                    have hms89_2 := NB314_313.out
                    refine skip_ (w1 := ?_) (by rfl) rfl ?_ ?_
                    rotate_left
                    · go_simp
                      rfl
                    refine hK.out _ _ ⟨((cell_far (p := ⟨gb314, _, none⟩) NB309_314.out _).trans (((cell_far (p := ⟨gb314, _, none⟩) NB309_314.out _).trans (((cell_far (p := ⟨gb314, _, none⟩) NB309_314.out _).trans (hHeld.1)))))), ((cell_far (p := ⟨gb314, _, none⟩) NB309_314.out _).trans (((cell_far (p := ⟨gb314, _, none⟩) NB309_314.out _).trans (((cell_far (p := ⟨gb314, _, none⟩) NB309_314.out _).trans (hHeld.2.1)))))), ((cell_far (p := ⟨gb314, _, none⟩) NB310_314.out _).trans (((cell_far (p := ⟨gb314, _, none⟩) NB310_314.out _).trans (((cell_far (p := ⟨gb314, _, none⟩) NB310_314.out _).trans (hHeld.2.2.1)))))), ((cell_far (p := ⟨gb314, _, none⟩) NB310_314.out _).trans (((cell_far (p := ⟨gb314, _, none⟩) NB310_314.out _).trans (((cell_far (p := ⟨gb314, _, none⟩) NB310_314.out _).trans (hHeld.2.2.2.1)))))), ((cell_far (p := ⟨gb314, _, none⟩) (far_ne28 hw311_0 GW314.out) _).trans (((cell_far (p := ⟨gb314, _, none⟩) (far_ne28 hw311_0 GW314.out) _).trans (((cell_far (p := ⟨gb314, _, none⟩) (far_ne28 hw311_0 GW314.out) _).trans (hHeld.2.2.2.2.1)))))), ((cell_far (p := ⟨gb314, _, none⟩) (far_ne28 hw311_1 GW314.out) _).trans (((cell_far (p := ⟨gb314, _, none⟩) (far_ne28 hw311_1 GW314.out) _).trans (((cell_far (p := ⟨gb314, _, none⟩) (far_ne28 hw311_1 GW314.out) _).trans (hHeld.2.2.2.2.2.1)))))), ((cell_far (p := ⟨gb314, _, none⟩) (far_ne28 hw311_2 GW314.out) _).trans (((cell_far (p := ⟨gb314, _, none⟩) (far_ne28 hw311_2 GW314.out) _).trans (((cell_far (p := ⟨gb314, _, none⟩) (far_ne28 hw311_2 GW314.out) _).trans (hHeld.2.2.2.2.2.2.1)))))), ((cell_far (p := ⟨gb314, _, none⟩) (far_ne28 hw312_0 GW314.out) _).trans (((cell_far (p := ⟨gb314, _, none⟩) (far_ne28 hw312_0 GW314.out) _).trans (((cell_far (p := ⟨gb314, _, none⟩) (far_ne28 hw312_0 GW314.out) _).trans (hHeld.2.2.2.2.2.2.2.1)))))), ((cell_far (p := ⟨gb314, _, none⟩) (far_ne28 hw312_1 GW314.out) _).trans (((cell_far (p := ⟨gb314, _, none⟩) (far_ne28 hw312_1 GW314.out) _).trans (((cell_far (p := ⟨gb314, _, none⟩) (far_ne28 hw312_1 GW314.out) _).trans (hHeld.2.2.2.2.2.2.2.2.1)))))), ((cell_far (p := ⟨gb314, _, none⟩) (far_ne28 hw312_2 GW314.out) _).trans (((cell_far (p := ⟨gb314, _, none⟩) (far_ne28 hw312_2 GW314.out) _).trans (((cell_far (p := ⟨gb314, _, none⟩) (far_ne28 hw312_2 GW314.out) _).trans (hHeld.2.2.2.2.2.2.2.2.2))))))⟩ (fun hHeld => ?_)
                    clear hK K
                    refine done_ (done_of HT_.out (by kernel_rfl)) ?_
                    have hnb90 := NB313_309.out
                    have hnc90 := NB309_313.out
                    have hnb91 := NB313_310.out
                    have hnc91 := NB310_313.out
                    have hnb92 := NB313_314.out
                    have hnc92 := NB314_313.out
                    have hcz93_0 : w83.cell? ⟨gb313, 0, none⟩ = some (.string (⟨#[]⟩ : ByteArray)) := (blk_cell BK313.out 0).trans rfl
                    have hcz93_1 : w83.cell? ⟨gb313, 1, none⟩ = some (.int .i64 0) := (blk_cell BK313.out 1).trans rfl
                    have hcz93_2 : w83.cell? ⟨gb313, 2, none⟩ = some (.slice none 0 0) := (blk_cell BK313.out 2).trans rfl
                    have hfz93_0 := blk_frozen BK313.out 0
                    have hfz93_1 := blk_frozen BK313.out 1
                    have hfz93_2 := blk_frozen BK313.out 2
                    have hnb94 := NB314_309.out
                    have hnc94 := NB309_314.out
                    have hnb95 := NB314_310.out
                    have hnc95 := NB310_314.out
                    have hcz96_0 : w83.cell? ⟨gb314, 0, none⟩ = some (.string (⟨#[]⟩ : ByteArray)) := (blk_cell BK314.out 0).trans rfl
                    have hcz96_1 : w83.cell? ⟨gb314, 1, none⟩ = some (.int .i64 0) := (blk_cell BK314.out 1).trans rfl
                    have hcz96_2 : w83.cell? ⟨gb314, 2, none⟩ = some (.slice none 0 0) := (blk_cell BK314.out 2).trans rfl
                    have hfz96_0 := blk_frozen BK314.out 0
                    have hfz96_1 := blk_frozen BK314.out 1
                    have hfz96_2 := blk_frozen BK314.out 2
                    try go_wp2
                    go_ret
                    exact ⟨by first | rfl | (simp [errW_none, errW_some] <;> rfl) | (simp [*, errW_none, errW_some] <;> rfl), by repeat (first | (with_reducible first | exact HB.out | apply below_alloc | apply pw_below_drewN | apply below_drew1 | refine below_set ?_ GE309.out | refine below_set ?_ GE310.out | refine below_set ?_ GE313.out | refine below_set ?_ GE314.out) | exact HB.out)⟩
                · rw [if_neg c16] at H
                  exact absurd H (by simp)
              · rw [if_neg c15] at H
                exact absurd H (by simp)
            · rw [if_neg c14] at H
              have c14b0 : decide (x5_2 < (l0_1.length : Int)) = false := decide_eq_false c14
              clear c14
              obtain rfl := Option.some.inj H
              have hnb97 := NB309_310.out
              have hnc97 := NB310_309.out
              have hcz98_0 : wr.cell? ⟨gb309, 0, none⟩ = some (.int .i64 a0_0) := (blk_cell BK309.out 0).trans rfl
              have hcz98_1 : wr.cell? ⟨gb309, 1, none⟩ = some (.slice A0_1 l0_1.length c0_1) := (blk_cell BK309.out 1).trans rfl
              have hfz98_0 := blk_frozen BK309.out 0
              have hfz98_1 := blk_frozen BK309.out 1
              go_wp2
              go_ret
              exact ⟨by first | rfl | (simp [errW_none, errW_some] <;> rfl) | (simp [*, errW_none, errW_some] <;> rfl), by repeat (first | (with_reducible first | exact HB.out | apply below_alloc | apply pw_below_drewN | apply below_drew1 | refine below_set ?_ GE309.out | refine below_set ?_ GE310.out) | exact HB.out)⟩
end Go.Proofs.YtfmpaofbnjlniaaDoor.F
