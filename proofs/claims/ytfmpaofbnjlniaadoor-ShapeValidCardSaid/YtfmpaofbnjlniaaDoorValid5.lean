/- Part 5 of the proof: ShapeValid: for every structure and every string, Valid, Name and Symbols return what the document specifies; no condition. -/
import Derived.Test.YtfmpaofbnjlniaaDoorValid4
namespace Go.Proofs.YtfmpaofbnjlniaaDoor.F
open Go.RowKit Go.Proofs.YtfmpaofbnjlniaaDoorW.PrintWords Go.Proofs.YtfmpaofbnjlniaaDoorW.PrintLast Go.Proofs.YtfmpaofbnjlniaaDoorW.PrintMore
attribute [local go_sem] max2_int min2_int max_two min_two max_three min_three max_four min_four
set_option linter.unusedVariables false
set_option linter.unusedSimpArgs false
/-! ### paraphrastref01_Valid: function 19 -/
mutual
def paraphrastref01_Valid.j0 : Nat → Bool → Int → List (S54) → Option (Bool)
  | 0, _, _, _ => none
  | k + 1, x18, x265000, x265001 => if x18 = true then (some false) else (paraphrastref01_Valid.l0 k 0 x265000 x265001)
def paraphrastref01_Valid.l0 : Nat → Int → Int → List (S54) → Option (Bool)
  | 0, _, _, _ => none
  | k + 1, x3, x265000, x265001 => if x3 < (x265001.length : Int) then (if 0 ≤ x3 then ((paraphrastref01_rel.f k x265000 ((rd_T54 x265001 x3).f0) ((rd_T54 x265001 x3).f1) ((rd_T54 x265001 x3).f2)).bind fun t266 => (if t266 = true then (paraphrastref01_Valid.l1 k x3 0 x265000 x265001) else (some false))) else (none)) else (some true)
def paraphrastref01_Valid.l1 : Nat → Int → Int → Int → List (S54) → Option (Bool)
  | 0, _, _, _, _ => none
  | k + 1, x3, x4, x265000, x265001 => if x4 < x3 then (if 0 ≤ x4 then (if x4 < (x265001.length : Int) then (if 0 ≤ x3 then (if x3 < (x265001.length : Int) then (if ((rd_T54 x265001 x4).f0).toList = ((rd_T54 x265001 x3).f0).toList then (some false) else (paraphrastref01_Valid.l1 k x3 (wrap64 (x4 + 1)) x265000 x265001)) else (none)) else (none)) else (none)) else (none)) else (paraphrastref01_Valid.l0 k (wrap64 (x3 + 1)) x265000 x265001)
end
def paraphrastref01_Valid.f (k : Nat) (a0_0 : Int) (l0_1 : List (S54)) : Option (Bool) := if a0_0 < 1 then (paraphrastref01_Valid.j0 k true a0_0 l0_1) else (if a0_0 > 64 then (paraphrastref01_Valid.j0 k true a0_0 l0_1) else (paraphrastref01_Valid.j0 k (decide ((l0_1.length : Int) > 8)) a0_0 l0_1))
def paraphrastref01_Valid.T6 : Bool × List (List Nat × List Nat) := (true, [([], []), ([0], [0]), ([], []), ([2], [2]), ([], []), ([3, 4], [3, 4]), ([5], [5]), ([1, 6], [1, 6]), ([7], [7])])
def paraphrastref01_Valid.B6 : List Nat := [0, 1, 0, 4, 0, 28, 60, 127, 255]
theorem paraphrastref01_Valid.tab6 : rtab .any (opsOf Tryd.f19 6) = paraphrastref01_Valid.T6 := by kernel_rfl
theorem paraphrastref01_Valid.bits6 : waitsOk paraphrastref01_Valid.T6.2 paraphrastref01_Valid.B6 = true := by kernel_rfl
def paraphrastref01_Valid.T11 : Bool × List (List Nat × List Nat) := (true, [([], []), ([0], [0]), ([], []), ([1, 2], [1, 2]), ([3], [3]), ([4], [4]), ([], []), ([6], [6]), ([], []), ([7, 8], [7, 8]), ([9], [9]), ([10], [10]), ([5, 11], [5, 11])])
def paraphrastref01_Valid.B11 : List Nat := [0, 1, 0, 7, 15, 31, 0, 64, 0, 448, 960, 1984, 4095]
theorem paraphrastref01_Valid.tab11 : rtab .any (opsOf Tryd.f19 11) = paraphrastref01_Valid.T11 := by kernel_rfl
theorem paraphrastref01_Valid.bits11 : waitsOk paraphrastref01_Valid.T11.2 paraphrastref01_Valid.B11 = true := by kernel_rfl
set_option maxHeartbeats 8000000 in
set_option maxRecDepth 100000 in
theorem paraphrastref01_Valid.calls (k : Nat) (a0_0 : Int) (A0_1 : Option Addr) (c0_1 : Nat) (l0_1 : List (S54)) (r : Bool) (w : World) (hr0_1 : Kd.C k54 w A0_1 l0_1.length l0_1) (hc0_1 : l0_1.length ≤ c0_1) (h : paraphrastref01_Valid.f k a0_0 l0_1 = some r) :
    Calls Tryd.prog 19 #[.agg #[.int .i64 a0_0, .slice A0_1 l0_1.length c0_1]] w fun e w' => e = .returned (.bool r) ∧ Below w.heap.size w w' := by
  have hu38 := Tryd.underlying38
  have hu54 := Tryd.underlying54
  have HR0_1 := Aside0.mk hr0_1
  have HC0_1 := Aside0.mk hc0_1
  clear hr0_1 hc0_1
  have HB := Aside0.mk (Below.refl w.heap.size w)
  have H : (if a0_0 < 1 then (paraphrastref01_Valid.j0 k true a0_0 l0_1) else (if a0_0 > 64 then (paraphrastref01_Valid.j0 k true a0_0 l0_1) else (paraphrastref01_Valid.j0 k (decide ((l0_1.length : Int) > 8)) a0_0 l0_1))) = some r := h
  clear h
  have HC2 := Aside0.mk H
  clear H
  go_enter Tryd.func19, Tryd.ntmps19
  go_upto_region 1 with (first | ((with_reducible refine gate_dst (N := 1) rfl ?_); (try (refine gate_guard (by rfl) ?_; dsimp only)); refine box_event ?hg (N := 1) ?hd (cs := #[.int .i64 a0_0, .slice A0_1 l0_1.length c0_1]) (t := 38) ?hr ?_; (case hd => rfl); (case hg => rfl); (case hr => first | (go_simp; done) | (go_simp; rfl)); intro gb264 hg w3 hbox hb; have n0_ := Aside0.mk (below_step (by repeat (first | (with_reducible first | exact HB.out | apply below_alloc | apply pw_below_drewN | apply below_drew1) | exact HB.out)) hb); have n1_ := Aside0.mk (hbox); have n2_ := Aside0.mk ((by rw [hg]; exact (below_size (by repeat (first | (with_reducible first | exact HB.out | apply below_alloc | apply pw_below_drewN | apply below_drew1) | exact HB.out))) : w.heap.size ≤ gb264)); have n3_ := Aside0.mk ((by rw [hg]; exact (below_size (by repeat (first | (with_reducible first | exact HB.out | apply below_alloc | apply pw_below_drewN | apply below_drew1) | exact HB.out))) : w.heap.size ≤ gb264)); clear HB; have HB := n0_; have BK264 := n1_; have GW264 := n2_; have GE264 := n3_; clear n0_ n1_ n2_ n3_; clear hb hbox hg))
  (try simp only [Act.put, List.setIfInBounds_toArray, List.set_cons_zero, List.set_cons_succ])
  go_cut [18] (fun v18 wc => ∃ (kq : Nat) (x18_1 : Bool), v18 = .bool x18_1 ∧ Aside0 (paraphrastref01_Valid.j0 kq x18_1 a0_0 l0_1 = some r) ∧ Aside0 (kq ≤ k) ∧ Aside0 (wc.heap[gb264]? = some (.cells #[.int .i64 a0_0, (.slice A0_1 l0_1.length c0_1)] 38 (0, 0))) ∧ Aside0 (Below w.heap.size w wc))
  case first =>
    have H := HC2.out
    clear HC2
    by_cases c4 : a0_0 < 1
    · rw [if_pos c4] at H
      have c4b0 : decide (a0_0 < 1) = true := decide_eq_true c4
      clear c4
      (first | rw [c4b0] | (simp only [i64_w, i32_w]; rw [c4b0]) | skip)
      have H' := Aside0.mk H
      clear H
      have hcz5_0 : w3.cell? ⟨gb264, 0, none⟩ = some (.int .i64 a0_0) := (blk_cell BK264.out 0).trans rfl
      have hcz5_1 : w3.cell? ⟨gb264, 1, none⟩ = some (.slice A0_1 l0_1.length c0_1) := (blk_cell BK264.out 1).trans rfl
      have hfz5_0 := blk_frozen BK264.out 0
      have hfz5_1 := blk_frozen BK264.out 1
      go_wp2
      go_meet
      case rel => exact ⟨_, (true), (by first | rfl | (simp; done) | (simp [*]; done)), H', ⟨by first | omega | exact Nat.le_refl _⟩, ⟨by (with_reducible repeat (first | refine blk_drewN ?_ _ | refine blk_drew ?_ | refine blk_alloc ?_ _)); exact BK264.out⟩, ⟨by repeat (first | (with_reducible first | exact HB.out | apply below_alloc | apply pw_below_drewN | apply below_drew1 | refine below_set ?_ GE264.out) | exact HB.out)⟩⟩
    · rw [if_neg c4] at H
      have c4b0 : decide (a0_0 < 1) = false := decide_eq_false c4
      clear c4
      (first | rw [c4b0] | (simp only [i64_w, i32_w]; rw [c4b0]) | skip)
      by_cases c6 : a0_0 > 64
      · rw [if_pos c6] at H
        have c6b0 : decide (64 < a0_0) = true := decide_eq_true c6
        clear c6
        have H' := Aside0.mk H
        clear H
        have hcz7_0 : w3.cell? ⟨gb264, 0, none⟩ = some (.int .i64 a0_0) := (blk_cell BK264.out 0).trans rfl
        have hcz7_1 : w3.cell? ⟨gb264, 1, none⟩ = some (.slice A0_1 l0_1.length c0_1) := (blk_cell BK264.out 1).trans rfl
        have hfz7_0 := blk_frozen BK264.out 0
        have hfz7_1 := blk_frozen BK264.out 1
        go_wp2
        go_meet
        case rel => exact ⟨_, (true), (by first | rfl | (simp; done) | (simp [*]; done)), H', ⟨by first | omega | exact Nat.le_refl _⟩, ⟨by (with_reducible repeat (first | refine blk_drewN ?_ _ | refine blk_drew ?_ | refine blk_alloc ?_ _)); exact BK264.out⟩, ⟨by repeat (first | (with_reducible first | exact HB.out | apply below_alloc | apply pw_below_drewN | apply below_drew1 | refine below_set ?_ GE264.out) | exact HB.out)⟩⟩
      · rw [if_neg c6] at H
        have c6b0 : decide (64 < a0_0) = false := decide_eq_false c6
        clear c6
        have H' := Aside0.mk H
        clear H
        have hcz8_0 : w3.cell? ⟨gb264, 0, none⟩ = some (.int .i64 a0_0) := (blk_cell BK264.out 0).trans rfl
        have hcz8_1 : w3.cell? ⟨gb264, 1, none⟩ = some (.slice A0_1 l0_1.length c0_1) := (blk_cell BK264.out 1).trans rfl
        have hfz8_0 := blk_frozen BK264.out 0
        have hfz8_1 := blk_frozen BK264.out 1
        go_wp2
        go_meet
        case rel => exact ⟨_, (decide ((l0_1.length : Int) > 8)), (by first | rfl | (simp; done) | (simp [*]; done)), H', ⟨by first | omega | exact Nat.le_refl _⟩, ⟨by (with_reducible repeat (first | refine blk_drewN ?_ _ | refine blk_drew ?_ | refine blk_alloc ?_ _)); exact BK264.out⟩, ⟨by repeat (first | (with_reducible first | exact HB.out | apply below_alloc | apply pw_below_drewN | apply below_drew1 | refine below_set ?_ GE264.out) | exact HB.out)⟩⟩
  case rest =>
    clear HC2
    try clear c1
    try clear p2
    try clear c4
    try clear c4b0
    try clear c6
    try clear c6b0
    try clear hcz5_0
    try clear hcz5_1
    try clear hcz7_0
    try clear hcz7_1
    try clear hcz8_0
    try clear hcz8_1
    try clear hfz5_0
    try clear hfz5_1
    try clear hfz7_0
    try clear hfz7_1
    try clear hfz8_0
    try clear hfz8_1
    obtain ⟨kq, x18_1, rfl, HA, HJ1, BK264, HB⟩ := hcut
    cases kq with
    | zero => exact absurd HA.out (by simp [paraphrastref01_Valid.j0])
    | succ kj1 =>
      have H := HA.out
      clear HA
      simp only [paraphrastref01_Valid.j0] at H
      by_cases c9 : x18_1 = true
      · subst c9
        have H1 : (some false) = some r := by rw [if_pos rfl] at H; exact H
        clear H
        have H := H1
        clear H1
        obtain rfl := Option.some.inj H
        go_wp2
        go_ret
        exact ⟨by first | rfl | (simp [errW_none, errW_some] <;> rfl) | (simp [*, errW_none, errW_some] <;> rfl), by repeat (first | (with_reducible first | exact HB.out | apply below_alloc | apply pw_below_drewN | apply below_drew1 | refine below_set ?_ GE264.out) | exact HB.out)⟩
      · replace c9 := Bool.eq_false_iff.mpr c9
        subst c9
        have H1 : (paraphrastref01_Valid.l0 kj1 0 a0_0 l0_1) = some r := by rw [if_neg (show ¬ (false = true) by decide)] at H; exact H
        clear H
        have H := H1
        clear H1
        have H' := Aside0.mk H
        clear H
        go_wp2
        go_loopg [3] kj1 (fun kq v3 w' => ∃ (x3_2 : Int), v3 = .int .i64 x3_2 ∧ Aside0 (paraphrastref01_Valid.l0 kq x3_2 a0_0 l0_1 = some r) ∧ Aside0 (kq ≤ kj1) ∧ Aside0 (w'.heap[gb264]? = some (.cells #[.int .i64 a0_0, (.slice A0_1 l0_1.length c0_1)] 38 (0, 0))) ∧ Aside0 (Below w.heap.size w w'))
        case atStart => exact ⟨(0), (by first | rfl | (simp; done) | (simp [*]; done)), H', ⟨Nat.le_refl _⟩, ⟨by (with_reducible repeat (first | refine blk_drewN ?_ _ | refine blk_drew ?_ | refine blk_alloc ?_ _)); exact BK264.out⟩, ⟨by repeat (first | (with_reducible first | exact HB.out | apply below_alloc | apply pw_below_drewN | apply below_drew1 | refine below_set ?_ GE264.out) | exact HB.out)⟩⟩
        case round =>
          clear H'
          try clear c1
          try clear p2
          try clear c4
          try clear c4b0
          try clear c6
          try clear c6b0
          try clear c9
          try clear hcz5_0
          try clear hcz5_1
          try clear hcz7_0
          try clear hcz7_1
          try clear hcz8_0
          try clear hcz8_1
          try clear hfz5_0
          try clear hfz5_1
          try clear hfz7_0
          try clear hfz7_1
          try clear hfz8_0
          try clear hfz8_1
          try clear p2
          obtain ⟨x3_2, rfl, HA, HK2, BK264, HB⟩ := hrel
          cases gk with
          | zero => exact absurd HA.out (by simp [paraphrastref01_Valid.l0])
          | succ k2 =>
            have H := HA.out
            clear HA
            simp only [paraphrastref01_Valid.l0] at H
            by_cases c10 : x3_2 < (l0_1.length : Int)
            · rw [if_pos c10] at H
              have c10b0 : decide (x3_2 < (l0_1.length : Int)) = true := decide_eq_true c10
              clear c10
              by_cases c11 : 0 ≤ x3_2
              · rw [if_pos c11] at H
                have c11b0 : decide (0 ≤ x3_2) = true := decide_eq_true c11
                clear c11
                replace H := Option.bind_eq_some_iff.mp H
                obtain ⟨t266, A120, H⟩ := H
                replace H : (if t266 = true then (paraphrastref01_Valid.l1 k2 x3_2 0 a0_0 l0_1) else (some false)) = some r := H
                have A12 := Aside0.mk A120
                clear A120
                by_cases c13 : t266 = true
                · subst c13
                  have H1 : (paraphrastref01_Valid.l1 k2 x3_2 0 a0_0 l0_1) = some r := by rw [if_pos rfl] at H; exact H
                  clear H
                  have H := H1
                  clear H1
                  have H' := Aside0.mk H
                  clear H
                  have hcz14_0 : wr.cell? ⟨gb264, 0, none⟩ = some (.int .i64 a0_0) := (blk_cell BK264.out 0).trans rfl
                  have hcz14_1 : wr.cell? ⟨gb264, 1, none⟩ = some (.slice A0_1 l0_1.length c0_1) := (blk_cell BK264.out 1).trans rfl
                  have hfz14_0 := blk_frozen BK264.out 0
                  have hfz14_1 := blk_frozen BK264.out 1
                  try go_wp2
                  have n0_ := Aside0.mk (blk_drew BK264.out)
                  have n1_ := Aside0.mk (below_drew1 HB.out)
                  clear BK264
                  clear HB
                  have BK264 := n0_
                  have HB := n1_
                  clear n0_ n1_
                  have p265 : 0 ≤ (x3_2 : Int) := of_decide_eq_true (by first | (with_reducible assumption) | assumption)
                  have q265 : x3_2 < (l0_1.length : Int) := of_decide_eq_true (by first | (with_reducible assumption) | assumption)
                  obtain ⟨ad265, A265_2, c265_2, e265, hx265_0, hx265_1, hx265_2, hl265_2, hi265_2⟩ := at_T54 HR0_1.out x3_2 p265 q265
                  have hw265_2 := hx265_2
                  have hw265_1 := hx265_1
                  have hw265_0 := hx265_0
                  cases e265
                  replace hx265_0 := (HB.out.cell (World.block_lt_of_cell? w _ hx265_0)).trans hx265_0
                  replace hx265_1 := (HB.out.cell (World.block_lt_of_cell? w _ hx265_1)).trans hx265_1
                  replace hx265_2 := (HB.out.cell (World.block_lt_of_cell? w _ hx265_2)).trans hx265_2
                  have HR265_2 := Aside0.mk hi265_2
                  have HC265_2 := Aside0.mk hl265_2
                  clear hi265_2 hl265_2
                  replace p265 := eq_true p265
                  replace q265 := eq_true q265
                  refine start_ (n := 9) (S := fun w' => w'.cell? ⟨gb264, 0, none⟩ = some (.int .i64 a0_0) ∧ w'.cell? ⟨gb264, 1, none⟩ = some (.slice (some ad265) l0_1.length c0_1) ∧ w'.cell? (ad265.add ((x3_2).toNat * 3)) = some (.string ((rd_T54 l0_1 x3_2).f0)) ∧ w'.cell? ⟨(ad265.add ((x3_2).toNat * 3)).block, (ad265.add ((x3_2).toNat * 3)).off + 1, none⟩ = some (.int .i64 ((rd_T54 l0_1 x3_2).f1)) ∧ w'.cell? ⟨(ad265.add ((x3_2).toNat * 3)).block, (ad265.add ((x3_2).toNat * 3)).off + 2, none⟩ = some (.slice A265_2 ((rd_T54 l0_1 x3_2).f2).length c265_2)) (ds := []) #[false, false, false, false, false, false, false, false, false] (by kernel_rfl) rfl rfl ⟨(blk_cell BK264.out 0).trans rfl, (blk_cell BK264.out 1).trans rfl, ((HB.out.cell (World.block_lt_of_cell? w _ hw265_0)).trans hw265_0), ((HB.out.cell (World.block_lt_of_cell? w _ hw265_1)).trans hw265_1), ((HB.out.cell (World.block_lt_of_cell? w _ hw265_2)).trans hw265_2)⟩ (fun hHeld => ?_); refine with_tabW paraphrastref01_Valid.tab6 paraphrastref01_Valid.bits6 (fun HT_ HW_ => ?_)
                  generalize wr.drew = w15 at BK264 HB HR265_2 hx265_0 hx265_1 hx265_2 hHeld ⊢
                  refine pure_ (i := 0) (N := some 26) (v := ?_) (a' := ?_) #[true, false, false, false, false, false, false, false, false] rfl rfl (any_of HT_.out (by kernel_rfl)) (fun _ _ _ h => h) (Or.inl ⟨by rfl, ?_⟩) ?_ ?_
                  rotate_left
                  · intro w'
                    go_simp
                    with_reducible rfl
                  rotate_left
                  · simp only [Act.put, List.setIfInBounds_toArray, List.set_cons_zero, List.set_cons_succ, i64_w, i32_w]
                    rfl
                  refine pure_ (i := 2) (N := some 28) (v := ?_) (a' := ?_) #[true, false, true, false, false, false, false, false, false] rfl rfl (any_of HT_.out (by kernel_rfl)) (fun _ _ _ h => h) (Or.inl ⟨by rfl, ?_⟩) ?_ ?_
                  rotate_left
                  · intro w'
                    go_simp
                    with_reducible rfl
                  rotate_left
                  · simp only [Act.put, List.setIfInBounds_toArray, List.set_cons_zero, List.set_cons_succ, i64_w, i32_w]
                    rfl
                  refine pure_ (i := 4) (N := some 30) (v := ?_) (a' := ?_) #[true, false, true, false, true, false, false, false, false] rfl rfl (any_of HT_.out (by kernel_rfl)) (fun _ _ _ h => h) (Or.inl ⟨by rfl, ?_⟩) ?_ ?_
                  rotate_left
                  · intro w'
                    go_simp
                    with_reducible rfl
                  rotate_left
                  · simp only [Act.put, List.setIfInBounds_toArray, List.set_cons_zero, List.set_cons_succ, i64_w, i32_w]
                    rfl
                  refine take_ (i := 1) (N := some 27) (v := ?_) (a' := ?_) #[true, true, true, false, true, false, false, false, false] rfl rfl (take_ofW HT_.out HW_.out (by kernel_rfl)) (fun _ _ _ h => h) (Or.inl ⟨by rfl, ?_⟩) hHeld ?_ ?_
                  rotate_left
                  · rintro w' ⟨s0, s1, s2, s3, s4⟩
                    go_simp
                    with_reducible rfl
                  rotate_left
                  · simp only [Act.put, List.setIfInBounds_toArray, List.set_cons_zero, List.set_cons_succ, i64_w, i32_w]
                    rfl
                  refine take_ (i := 3) (N := some 29) (v := ?_) (a' := ?_) #[true, true, true, true, true, false, false, false, false] rfl rfl (take_ofW HT_.out HW_.out (by kernel_rfl)) (fun _ _ _ h => h) (Or.inl ⟨by rfl, ?_⟩) hHeld ?_ ?_
                  rotate_left
                  · rintro w' ⟨s0, s1, s2, s3, s4⟩
                    go_simp
                    with_reducible rfl
                  rotate_left
                  · simp only [Act.put, List.setIfInBounds_toArray, List.set_cons_zero, List.set_cons_succ, i64_w, i32_w]
                    rfl
                  refine pure_ (i := 5) (N := some 31) (v := ?_) (a' := ?_) #[true, true, true, true, true, true, false, false, false] rfl rfl (any_of HT_.out (by kernel_rfl)) (fun _ _ _ h => h) (Or.inl ⟨by rfl, ?_⟩) ?_ ?_
                  rotate_left
                  · intro w'
                    go_simp
                    with_reducible rfl
                  rotate_left
                  · simp only [Act.put, List.setIfInBounds_toArray, List.set_cons_zero, List.set_cons_succ, i64_w, i32_w]
                    rfl
                  refine take_ (i := 6) (N := some 32) (v := ?_) (a' := ?_) #[true, true, true, true, true, true, true, false, false] rfl rfl (take_ofW HT_.out HW_.out (by kernel_rfl)) (fun _ _ _ h => h) (Or.inl ⟨by rfl, ?_⟩) hHeld ?_ ?_
                  rotate_left
                  · rintro w' ⟨s0, s1, s2, s3, s4⟩
                    go_simp
                    with_reducible rfl
                  rotate_left
                  · simp only [Act.put, List.setIfInBounds_toArray, List.set_cons_zero, List.set_cons_succ, i64_w, i32_w]
                    rfl
                  refine one_ (i := 7) (N := some 33) #[true, true, true, true, true, true, true, true, false] rfl rfl (one_of HT_.out (by kernel_rfl)) (by decide) (fun K hK => ?_)
                  refine goes_ Tryd.func35 (by kernel_rfl) rfl #[.int .i64 a0_0, .agg #[.string ((rd_T54 l0_1 x3_2).f0), .int .i64 ((rd_T54 l0_1 x3_2).f1), .slice A265_2 ((rd_T54 l0_1 x3_2).f2).length c265_2]] (by rfl) rfl rfl (by (try simp only [List.map_toArray, List.map_cons, List.map_nil]); first | done | rfl | (simp only [List.length_drop, List.length_take]; rfl)) ?_
                  with_reducible refine (paraphrastref01_rel.calls k2 a0_0 ((rd_T54 l0_1 x3_2).f0) ((rd_T54 l0_1 x3_2).f1) _ _ ((rd_T54 l0_1 x3_2).f2) true _ ?side1 ?side2 A12.out).mono ?_
                  (case side1 => repeat (first | exact (Kd.C_below HR265_2.out HB.out) | (with_reducible refine Kd.C_alloc ?_ _) | (with_reducible refine Kd.C_drewN ?_ _) | (with_reducible refine Kd.C_drew ?_)))
                  (case side2 => exact HC265_2.out)
                  rintro e w16 ⟨rfl, hb⟩
                  refine ⟨_, rfl, ?_⟩
                  have n0_ := Aside0.mk (blk_below (g := gb264) (o := .cells #[.int .i64 a0_0, .slice (some ad265) l0_1.length c0_1] 38 (0, 0)) (by (with_reducible repeat (first | refine blk_drewN ?_ _ | refine blk_drew ?_ | refine blk_alloc ?_ _)); exact BK264.out) hb)
                  have n1_ := Aside0.mk (below_step (by repeat (first | (with_reducible first | exact HB.out | apply below_alloc | apply pw_below_drewN | apply below_drew1 | refine below_set ?_ GE264.out) | exact HB.out)) hb)
                  clear BK264
                  clear HB
                  have BK264 := n0_
                  have HB := n1_
                  clear n0_ n1_
                  (try clear hb)
                  (try clear hb2)
                  (try clear hk)
                  (try clear hi)
                  refine hK.out _ _ ⟨(blk_cell BK264.out 0).trans rfl, (blk_cell BK264.out 1).trans rfl, ((HB.out.cell (World.block_lt_of_cell? w _ hw265_0)).trans hw265_0), ((HB.out.cell (World.block_lt_of_cell? w _ hw265_1)).trans hw265_1), ((HB.out.cell (World.block_lt_of_cell? w _ hw265_2)).trans hw265_2)⟩ (fun hHeld => ?_)
                  clear hK K
                  refine norm_ (a' := ?_) ?_ ?_
                  rotate_left
                  · show Act.put _ (some 33) _ = _
                    simp only [Act.put, List.setIfInBounds_toArray, List.set_cons_zero, List.set_cons_succ, i64_w, i32_w]
                    rfl
                  refine pure_ (i := 8) (N := some 34) (v := ?_) (a' := ?_) #[true, true, true, true, true, true, true, true, true] rfl rfl (any_of HT_.out (by kernel_rfl)) (fun _ _ _ h => h) (Or.inl ⟨by rfl, ?_⟩) ?_ ?_
                  rotate_left
                  · intro w'
                    go_simp
                    with_reducible rfl
                  rotate_left
                  · simp only [Act.put, List.setIfInBounds_toArray, List.set_cons_zero, List.set_cons_succ, i64_w, i32_w]
                    rfl
                  refine done_ (done_of HT_.out (by kernel_rfl)) ?_
                  try go_wp2
                  go_loopg [4] k2 (fun kq v4 w' => ∃ (x4_3 : Int), v4 = .int .i64 x4_3 ∧ Aside0 (paraphrastref01_Valid.l1 kq x3_2 x4_3 a0_0 l0_1 = some r) ∧ Aside0 (kq ≤ k2) ∧ Aside0 (w'.heap[gb264]? = some (.cells #[.int .i64 a0_0, (.slice (some ad265) l0_1.length c0_1)] 38 (0, 0))) ∧ Aside0 (Below w.heap.size w w'))
                  case atStart => exact ⟨(0), (by first | rfl | (simp; done) | (simp [*]; done)), H', ⟨Nat.le_refl _⟩, ⟨by (with_reducible repeat (first | refine blk_drewN ?_ _ | refine blk_drew ?_ | refine blk_alloc ?_ _)); exact BK264.out⟩, ⟨by repeat (first | (with_reducible first | exact HB.out | apply below_alloc | apply pw_below_drewN | apply below_drew1 | refine below_set ?_ GE264.out) | exact HB.out)⟩⟩
                  case round =>
                    clear H'
                    try clear c1
                    try clear c2
                    try clear p2
                    try clear q2
                    try clear hx2
                    try clear c3
                    try clear c4
                    try clear c4b0
                    try clear c6
                    try clear c6b0
                    try clear c9
                    try clear c10
                    try clear c10b0
                    try clear c11
                    try clear c11b0
                    try clear c13
                    try clear hcz14_0
                    try clear hcz14_1
                    try clear hcz5_0
                    try clear hcz5_1
                    try clear hcz7_0
                    try clear hcz7_1
                    try clear hcz8_0
                    try clear hcz8_1
                    try clear hfz14_0
                    try clear hfz14_1
                    try clear hfz5_0
                    try clear hfz5_1
                    try clear hfz7_0
                    try clear hfz7_1
                    try clear hfz8_0
                    try clear hfz8_1
                    try clear hx265_0
                    try clear hx265_1
                    try clear hx265_2
                    try clear p2
                    try clear p265
                    try clear q265
                    obtain ⟨x4_3, rfl, HA, HK3, BK264, HB⟩ := hrel
                    cases gk with
                    | zero => exact absurd HA.out (by simp [paraphrastref01_Valid.l1])
                    | succ k3 =>
                      have H := HA.out
                      clear HA
                      simp only [paraphrastref01_Valid.l1] at H
                      by_cases c17 : x4_3 < x3_2
                      · rw [if_pos c17] at H
                        have c17b0 : decide (x4_3 < x3_2) = true := decide_eq_true c17
                        clear c17
                        by_cases c18 : 0 ≤ x4_3
                        · rw [if_pos c18] at H
                          have c18b0 : decide (0 ≤ x4_3) = true := decide_eq_true c18
                          clear c18
                          by_cases c19 : x4_3 < (l0_1.length : Int)
                          · rw [if_pos c19] at H
                            have c19b0 : decide (x4_3 < (l0_1.length : Int)) = true := decide_eq_true c19
                            clear c19
                            by_cases c20 : 0 ≤ x3_2
                            · rw [if_pos c20] at H
                              have c20b0 : decide (0 ≤ x3_2) = true := decide_eq_true c20
                              clear c20
                              by_cases c21 : x3_2 < (l0_1.length : Int)
                              · rw [if_pos c21] at H
                                have c21b0 : decide (x3_2 < (l0_1.length : Int)) = true := decide_eq_true c21
                                clear c21
                                by_cases c22 : ((rd_T54 l0_1 x4_3).f0).toList = ((rd_T54 l0_1 x3_2).f0).toList
                                · rw [if_pos c22] at H
                                  have c22b0 : (((rd_T54 l0_1 x4_3).f0).toList == ((rd_T54 l0_1 x3_2).f0).toList) = true := beq_iff_eq.mpr c22
                                  have c22b1 : (((rd_T54 l0_1 x4_3).f0).toList != ((rd_T54 l0_1 x3_2).f0).toList) = false := bne_eq_false_iff_eq.mpr c22
                                  clear c22
                                  obtain rfl := Option.some.inj H
                                  try go_wp2
                                  have n0_ := Aside0.mk (blk_drew BK264.out)
                                  have n1_ := Aside0.mk (below_drew1 HB.out)
                                  clear BK264
                                  clear HB
                                  have BK264 := n0_
                                  have HB := n1_
                                  clear n0_ n1_
                                  have p267 : 0 ≤ (x4_3 : Int) := of_decide_eq_true (by first | (with_reducible assumption) | assumption)
                                  have q267 : x4_3 < (l0_1.length : Int) := of_decide_eq_true (by first | (with_reducible assumption) | assumption)
                                  obtain ⟨ad267, A267_2, c267_2, e267, hx267_0, hx267_1, hx267_2, hl267_2, hi267_2⟩ := at_T54 HR0_1.out x4_3 p267 q267
                                  have hw267_2 := hx267_2
                                  have hw267_1 := hx267_1
                                  have hw267_0 := hx267_0
                                  obtain rfl : ad265 = ad267 := (by injection e267)
                                  replace hx267_0 := (HB.out.cell (World.block_lt_of_cell? w _ hx267_0)).trans hx267_0
                                  replace hx267_1 := (HB.out.cell (World.block_lt_of_cell? w _ hx267_1)).trans hx267_1
                                  replace hx267_2 := (HB.out.cell (World.block_lt_of_cell? w _ hx267_2)).trans hx267_2
                                  have HR267_2 := Aside0.mk hi267_2
                                  have HC267_2 := Aside0.mk hl267_2
                                  clear hi267_2 hl267_2
                                  replace p267 := eq_true p267
                                  replace q267 := eq_true q267
                                  have p268 : 0 ≤ (x3_2 : Int) := of_decide_eq_true (by first | (with_reducible assumption) | assumption)
                                  have q268 : x3_2 < (l0_1.length : Int) := of_decide_eq_true (by first | (with_reducible assumption) | assumption)
                                  obtain ⟨ad268, A268_2, c268_2, e268, hx268_0, hx268_1, hx268_2, hl268_2, hi268_2⟩ := at_T54 HR0_1.out x3_2 p268 q268
                                  have hw268_2 := hx268_2
                                  have hw268_1 := hx268_1
                                  have hw268_0 := hx268_0
                                  obtain rfl : ad265 = ad268 := (by injection e268)
                                  replace hx268_0 := (HB.out.cell (World.block_lt_of_cell? w _ hx268_0)).trans hx268_0
                                  replace hx268_1 := (HB.out.cell (World.block_lt_of_cell? w _ hx268_1)).trans hx268_1
                                  replace hx268_2 := (HB.out.cell (World.block_lt_of_cell? w _ hx268_2)).trans hx268_2
                                  have HR268_2 := Aside0.mk hi268_2
                                  have HC268_2 := Aside0.mk hl268_2
                                  clear hi268_2 hl268_2
                                  replace p268 := eq_true p268
                                  replace q268 := eq_true q268
                                  refine start_ (n := 13) (S := fun w' => w'.cell? ⟨gb264, 0, none⟩ = some (.int .i64 a0_0) ∧ w'.cell? ⟨gb264, 1, none⟩ = some (.slice (some ad265) l0_1.length c0_1) ∧ w'.cell? (ad265.add ((x4_3).toNat * 3)) = some (.string ((rd_T54 l0_1 x4_3).f0)) ∧ w'.cell? ⟨(ad265.add ((x4_3).toNat * 3)).block, (ad265.add ((x4_3).toNat * 3)).off + 1, none⟩ = some (.int .i64 ((rd_T54 l0_1 x4_3).f1)) ∧ w'.cell? ⟨(ad265.add ((x4_3).toNat * 3)).block, (ad265.add ((x4_3).toNat * 3)).off + 2, none⟩ = some (.slice A267_2 ((rd_T54 l0_1 x4_3).f2).length c267_2) ∧ w'.cell? (ad265.add ((x3_2).toNat * 3)) = some (.string ((rd_T54 l0_1 x3_2).f0)) ∧ w'.cell? ⟨(ad265.add ((x3_2).toNat * 3)).block, (ad265.add ((x3_2).toNat * 3)).off + 1, none⟩ = some (.int .i64 ((rd_T54 l0_1 x3_2).f1)) ∧ w'.cell? ⟨(ad265.add ((x3_2).toNat * 3)).block, (ad265.add ((x3_2).toNat * 3)).off + 2, none⟩ = some (.slice A268_2 ((rd_T54 l0_1 x3_2).f2).length c268_2)) (ds := []) #[false, false, false, false, false, false, false, false, false, false, false, false, false] (by kernel_rfl) rfl rfl ⟨(blk_cell BK264.out 0).trans rfl, (blk_cell BK264.out 1).trans rfl, ((HB.out.cell (World.block_lt_of_cell? w _ hw267_0)).trans hw267_0), ((HB.out.cell (World.block_lt_of_cell? w _ hw267_1)).trans hw267_1), ((HB.out.cell (World.block_lt_of_cell? w _ hw267_2)).trans hw267_2), ((HB.out.cell (World.block_lt_of_cell? w _ hw268_0)).trans hw268_0), ((HB.out.cell (World.block_lt_of_cell? w _ hw268_1)).trans hw268_1), ((HB.out.cell (World.block_lt_of_cell? w _ hw268_2)).trans hw268_2)⟩ (fun hHeld => ?_); refine with_tabW paraphrastref01_Valid.tab11 paraphrastref01_Valid.bits11 (fun HT_ HW_ => ?_)
                                  generalize wr.drew = w23 at BK264 HB HR267_2 HR268_2 hx267_0 hx267_1 hx267_2 hx268_0 hx268_1 hx268_2 hHeld ⊢
                                  refine pure_ (i := 0) (N := some 40) (v := ?_) (a' := ?_) #[true, false, false, false, false, false, false, false, false, false, false, false, false] rfl rfl (any_of HT_.out (by kernel_rfl)) (fun _ _ _ h => h) (Or.inl ⟨by rfl, ?_⟩) ?_ ?_
                                  rotate_left
                                  · intro w'
                                    go_simp
                                    with_reducible rfl
                                  rotate_left
                                  · simp only [Act.put, List.setIfInBounds_toArray, List.set_cons_zero, List.set_cons_succ, i64_w, i32_w]
                                    rfl
                                  refine pure_ (i := 2) (N := some 42) (v := ?_) (a' := ?_) #[true, false, true, false, false, false, false, false, false, false, false, false, false] rfl rfl (any_of HT_.out (by kernel_rfl)) (fun _ _ _ h => h) (Or.inl ⟨by rfl, ?_⟩) ?_ ?_
                                  rotate_left
                                  · intro w'
                                    go_simp
                                    with_reducible rfl
                                  rotate_left
                                  · simp only [Act.put, List.setIfInBounds_toArray, List.set_cons_zero, List.set_cons_succ, i64_w, i32_w]
                                    rfl
                                  refine pure_ (i := 6) (N := some 46) (v := ?_) (a' := ?_) #[true, false, true, false, false, false, true, false, false, false, false, false, false] rfl rfl (any_of HT_.out (by kernel_rfl)) (fun _ _ _ h => h) (Or.inl ⟨by rfl, ?_⟩) ?_ ?_
                                  rotate_left
                                  · intro w'
                                    go_simp
                                    with_reducible rfl
                                  rotate_left
                                  · simp only [Act.put, List.setIfInBounds_toArray, List.set_cons_zero, List.set_cons_succ, i64_w, i32_w]
                                    rfl
                                  refine pure_ (i := 8) (N := some 48) (v := ?_) (a' := ?_) #[true, false, true, false, false, false, true, false, true, false, false, false, false] rfl rfl (any_of HT_.out (by kernel_rfl)) (fun _ _ _ h => h) (Or.inl ⟨by rfl, ?_⟩) ?_ ?_
                                  rotate_left
                                  · intro w'
                                    go_simp
                                    with_reducible rfl
                                  rotate_left
                                  · simp only [Act.put, List.setIfInBounds_toArray, List.set_cons_zero, List.set_cons_succ, i64_w, i32_w]
                                    rfl
                                  refine take_ (i := 1) (N := some 41) (v := ?_) (a' := ?_) #[true, true, true, false, false, false, true, false, true, false, false, false, false] rfl rfl (take_ofW HT_.out HW_.out (by kernel_rfl)) (fun _ _ _ h => h) (Or.inl ⟨by rfl, ?_⟩) hHeld ?_ ?_
                                  rotate_left
                                  · rintro w' ⟨s0, s1, s2, s3, s4, s5, s6, s7⟩
                                    go_simp
                                    with_reducible rfl
                                  rotate_left
                                  · simp only [Act.put, List.setIfInBounds_toArray, List.set_cons_zero, List.set_cons_succ, i64_w, i32_w]
                                    rfl
                                  refine pure_ (i := 3) (N := some 43) (v := ?_) (a' := ?_) #[true, true, true, true, false, false, true, false, true, false, false, false, false] rfl rfl (any_of HT_.out (by kernel_rfl)) (fun _ _ _ h => h) (Or.inl ⟨by rfl, ?_⟩) ?_ ?_
                                  rotate_left
                                  · intro w'
                                    go_simp
                                    with_reducible rfl
                                  rotate_left
                                  · simp only [Act.put, List.setIfInBounds_toArray, List.set_cons_zero, List.set_cons_succ, i64_w, i32_w]
                                    rfl
                                  refine pure_ (i := 4) (N := some 44) (v := ?_) (a' := ?_) #[true, true, true, true, true, false, true, false, true, false, false, false, false] rfl rfl (any_of HT_.out (by kernel_rfl)) (fun _ _ _ h => h) (Or.inl ⟨by rfl, ?_⟩) ?_ ?_
                                  rotate_left
                                  · intro w'
                                    go_simp
                                    with_reducible rfl
                                  rotate_left
                                  · simp only [Act.put, List.setIfInBounds_toArray, List.set_cons_zero, List.set_cons_succ, i64_w, i32_w]
                                    rfl
                                  refine take_ (i := 5) (N := some 45) (v := ?_) (a' := ?_) #[true, true, true, true, true, true, true, false, true, false, false, false, false] rfl rfl (take_ofW HT_.out HW_.out (by kernel_rfl)) (fun _ _ _ h => h) (Or.inl ⟨by rfl, ?_⟩) hHeld ?_ ?_
                                  rotate_left
                                  · rintro w' ⟨s0, s1, s2, s3, s4, s5, s6, s7⟩
                                    go_simp
                                    with_reducible rfl
                                  rotate_left
                                  · simp only [Act.put, List.setIfInBounds_toArray, List.set_cons_zero, List.set_cons_succ, i64_w, i32_w]
                                    rfl
                                  refine take_ (i := 7) (N := some 47) (v := ?_) (a' := ?_) #[true, true, true, true, true, true, true, true, true, false, false, false, false] rfl rfl (take_ofW HT_.out HW_.out (by kernel_rfl)) (fun _ _ _ h => h) (Or.inl ⟨by rfl, ?_⟩) hHeld ?_ ?_
                                  rotate_left
                                  · rintro w' ⟨s0, s1, s2, s3, s4, s5, s6, s7⟩
                                    go_simp
                                    with_reducible rfl
                                  rotate_left
                                  · simp only [Act.put, List.setIfInBounds_toArray, List.set_cons_zero, List.set_cons_succ, i64_w, i32_w]
                                    rfl
                                  refine pure_ (i := 9) (N := some 49) (v := ?_) (a' := ?_) #[true, true, true, true, true, true, true, true, true, true, false, false, false] rfl rfl (any_of HT_.out (by kernel_rfl)) (fun _ _ _ h => h) (Or.inl ⟨by rfl, ?_⟩) ?_ ?_
                                  rotate_left
                                  · intro w'
                                    go_simp
                                    with_reducible rfl
                                  rotate_left
                                  · simp only [Act.put, List.setIfInBounds_toArray, List.set_cons_zero, List.set_cons_succ, i64_w, i32_w]
                                    rfl
                                  refine pure_ (i := 10) (N := some 50) (v := ?_) (a' := ?_) #[true, true, true, true, true, true, true, true, true, true, true, false, false] rfl rfl (any_of HT_.out (by kernel_rfl)) (fun _ _ _ h => h) (Or.inl ⟨by rfl, ?_⟩) ?_ ?_
                                  rotate_left
                                  · intro w'
                                    go_simp
                                    with_reducible rfl
                                  rotate_left
                                  · simp only [Act.put, List.setIfInBounds_toArray, List.set_cons_zero, List.set_cons_succ, i64_w, i32_w]
                                    rfl
                                  refine take_ (i := 11) (N := some 51) (v := ?_) (a' := ?_) #[true, true, true, true, true, true, true, true, true, true, true, true, false] rfl rfl (take_ofW HT_.out HW_.out (by kernel_rfl)) (fun _ _ _ h => h) (Or.inl ⟨by rfl, ?_⟩) hHeld ?_ ?_
                                  rotate_left
                                  · rintro w' ⟨s0, s1, s2, s3, s4, s5, s6, s7⟩
                                    go_simp
                                    with_reducible rfl
                                  rotate_left
                                  · simp only [Act.put, List.setIfInBounds_toArray, List.set_cons_zero, List.set_cons_succ, i64_w, i32_w]
                                    rfl
                                  refine pure_ (i := 12) (N := some 52) (v := ?_) (a' := ?_) #[true, true, true, true, true, true, true, true, true, true, true, true, true] rfl rfl (any_of HT_.out (by kernel_rfl)) (fun _ _ _ h => h) (Or.inl ⟨by rfl, ?_⟩) ?_ ?_
                                  rotate_left
                                  · intro w'
                                    go_simp
                                    with_reducible rfl
                                  rotate_left
                                  · simp only [Act.put, List.setIfInBounds_toArray, List.set_cons_zero, List.set_cons_succ, i64_w, i32_w]
                                    rfl
                                  refine done_ (done_of HT_.out (by kernel_rfl)) ?_
                                  try go_wp2
                                  go_ret
                                  exact ⟨by first | rfl | (simp [errW_none, errW_some] <;> rfl) | (simp [*, errW_none, errW_some] <;> rfl), by repeat (first | (with_reducible first | exact HB.out | apply below_alloc | apply pw_below_drewN | apply below_drew1 | refine below_set ?_ GE264.out) | exact HB.out)⟩
                                · rw [if_neg c22] at H
                                  have c22b0 : (((rd_T54 l0_1 x4_3).f0).toList == ((rd_T54 l0_1 x3_2).f0).toList) = false := beq_eq_false_iff_ne.mpr c22
                                  have c22b1 : (((rd_T54 l0_1 x4_3).f0).toList != ((rd_T54 l0_1 x3_2).f0).toList) = true := bne_iff_ne.mpr c22
                                  have H' := Aside0.mk H
                                  clear H
                                  try go_wp2
                                  have n0_ := Aside0.mk (blk_drew BK264.out)
                                  have n1_ := Aside0.mk (below_drew1 HB.out)
                                  clear BK264
                                  clear HB
                                  have BK264 := n0_
                                  have HB := n1_
                                  clear n0_ n1_
                                  have p267 : 0 ≤ (x4_3 : Int) := of_decide_eq_true (by first | (with_reducible assumption) | assumption)
                                  have q267 : x4_3 < (l0_1.length : Int) := of_decide_eq_true (by first | (with_reducible assumption) | assumption)
                                  obtain ⟨ad267, A267_2, c267_2, e267, hx267_0, hx267_1, hx267_2, hl267_2, hi267_2⟩ := at_T54 HR0_1.out x4_3 p267 q267
                                  have hw267_2 := hx267_2
                                  have hw267_1 := hx267_1
                                  have hw267_0 := hx267_0
                                  obtain rfl : ad265 = ad267 := (by injection e267)
                                  replace hx267_0 := (HB.out.cell (World.block_lt_of_cell? w _ hx267_0)).trans hx267_0
                                  replace hx267_1 := (HB.out.cell (World.block_lt_of_cell? w _ hx267_1)).trans hx267_1
                                  replace hx267_2 := (HB.out.cell (World.block_lt_of_cell? w _ hx267_2)).trans hx267_2
                                  have HR267_2 := Aside0.mk hi267_2
                                  have HC267_2 := Aside0.mk hl267_2
                                  clear hi267_2 hl267_2
                                  replace p267 := eq_true p267
                                  replace q267 := eq_true q267
                                  have p268 : 0 ≤ (x3_2 : Int) := of_decide_eq_true (by first | (with_reducible assumption) | assumption)
                                  have q268 : x3_2 < (l0_1.length : Int) := of_decide_eq_true (by first | (with_reducible assumption) | assumption)
                                  obtain ⟨ad268, A268_2, c268_2, e268, hx268_0, hx268_1, hx268_2, hl268_2, hi268_2⟩ := at_T54 HR0_1.out x3_2 p268 q268
                                  have hw268_2 := hx268_2
                                  have hw268_1 := hx268_1
                                  have hw268_0 := hx268_0
                                  obtain rfl : ad265 = ad268 := (by injection e268)
                                  replace hx268_0 := (HB.out.cell (World.block_lt_of_cell? w _ hx268_0)).trans hx268_0
                                  replace hx268_1 := (HB.out.cell (World.block_lt_of_cell? w _ hx268_1)).trans hx268_1
                                  replace hx268_2 := (HB.out.cell (World.block_lt_of_cell? w _ hx268_2)).trans hx268_2
                                  have HR268_2 := Aside0.mk hi268_2
                                  have HC268_2 := Aside0.mk hl268_2
                                  clear hi268_2 hl268_2
                                  replace p268 := eq_true p268
                                  replace q268 := eq_true q268
                                  refine start_ (n := 13) (S := fun w' => w'.cell? ⟨gb264, 0, none⟩ = some (.int .i64 a0_0) ∧ w'.cell? ⟨gb264, 1, none⟩ = some (.slice (some ad265) l0_1.length c0_1) ∧ w'.cell? (ad265.add ((x4_3).toNat * 3)) = some (.string ((rd_T54 l0_1 x4_3).f0)) ∧ w'.cell? ⟨(ad265.add ((x4_3).toNat * 3)).block, (ad265.add ((x4_3).toNat * 3)).off + 1, none⟩ = some (.int .i64 ((rd_T54 l0_1 x4_3).f1)) ∧ w'.cell? ⟨(ad265.add ((x4_3).toNat * 3)).block, (ad265.add ((x4_3).toNat * 3)).off + 2, none⟩ = some (.slice A267_2 ((rd_T54 l0_1 x4_3).f2).length c267_2) ∧ w'.cell? (ad265.add ((x3_2).toNat * 3)) = some (.string ((rd_T54 l0_1 x3_2).f0)) ∧ w'.cell? ⟨(ad265.add ((x3_2).toNat * 3)).block, (ad265.add ((x3_2).toNat * 3)).off + 1, none⟩ = some (.int .i64 ((rd_T54 l0_1 x3_2).f1)) ∧ w'.cell? ⟨(ad265.add ((x3_2).toNat * 3)).block, (ad265.add ((x3_2).toNat * 3)).off + 2, none⟩ = some (.slice A268_2 ((rd_T54 l0_1 x3_2).f2).length c268_2)) (ds := []) #[false, false, false, false, false, false, false, false, false, false, false, false, false] (by kernel_rfl) rfl rfl ⟨(blk_cell BK264.out 0).trans rfl, (blk_cell BK264.out 1).trans rfl, ((HB.out.cell (World.block_lt_of_cell? w _ hw267_0)).trans hw267_0), ((HB.out.cell (World.block_lt_of_cell? w _ hw267_1)).trans hw267_1), ((HB.out.cell (World.block_lt_of_cell? w _ hw267_2)).trans hw267_2), ((HB.out.cell (World.block_lt_of_cell? w _ hw268_0)).trans hw268_0), ((HB.out.cell (World.block_lt_of_cell? w _ hw268_1)).trans hw268_1), ((HB.out.cell (World.block_lt_of_cell? w _ hw268_2)).trans hw268_2)⟩ (fun hHeld => ?_); refine with_tabW paraphrastref01_Valid.tab11 paraphrastref01_Valid.bits11 (fun HT_ HW_ => ?_)
                                  generalize wr.drew = w24 at BK264 HB HR267_2 HR268_2 hx267_0 hx267_1 hx267_2 hx268_0 hx268_1 hx268_2 hHeld ⊢
                                  refine pure_ (i := 0) (N := some 40) (v := ?_) (a' := ?_) #[true, false, false, false, false, false, false, false, false, false, false, false, false] rfl rfl (any_of HT_.out (by kernel_rfl)) (fun _ _ _ h => h) (Or.inl ⟨by rfl, ?_⟩) ?_ ?_
                                  rotate_left
                                  · intro w'
                                    go_simp
                                    with_reducible rfl
                                  rotate_left
                                  · simp only [Act.put, List.setIfInBounds_toArray, List.set_cons_zero, List.set_cons_succ, i64_w, i32_w]
                                    rfl
                                  refine pure_ (i := 2) (N := some 42) (v := ?_) (a' := ?_) #[true, false, true, false, false, false, false, false, false, false, false, false, false] rfl rfl (any_of HT_.out (by kernel_rfl)) (fun _ _ _ h => h) (Or.inl ⟨by rfl, ?_⟩) ?_ ?_
                                  rotate_left
                                  · intro w'
                                    go_simp
                                    with_reducible rfl
                                  rotate_left
                                  · simp only [Act.put, List.setIfInBounds_toArray, List.set_cons_zero, List.set_cons_succ, i64_w, i32_w]
                                    rfl
                                  refine pure_ (i := 6) (N := some 46) (v := ?_) (a' := ?_) #[true, false, true, false, false, false, true, false, false, false, false, false, false] rfl rfl (any_of HT_.out (by kernel_rfl)) (fun _ _ _ h => h) (Or.inl ⟨by rfl, ?_⟩) ?_ ?_
                                  rotate_left
                                  · intro w'
                                    go_simp
                                    with_reducible rfl
                                  rotate_left
                                  · simp only [Act.put, List.setIfInBounds_toArray, List.set_cons_zero, List.set_cons_succ, i64_w, i32_w]
                                    rfl
                                  refine pure_ (i := 8) (N := some 48) (v := ?_) (a' := ?_) #[true, false, true, false, false, false, true, false, true, false, false, false, false] rfl rfl (any_of HT_.out (by kernel_rfl)) (fun _ _ _ h => h) (Or.inl ⟨by rfl, ?_⟩) ?_ ?_
                                  rotate_left
                                  · intro w'
                                    go_simp
                                    with_reducible rfl
                                  rotate_left
                                  · simp only [Act.put, List.setIfInBounds_toArray, List.set_cons_zero, List.set_cons_succ, i64_w, i32_w]
                                    rfl
                                  refine take_ (i := 1) (N := some 41) (v := ?_) (a' := ?_) #[true, true, true, false, false, false, true, false, true, false, false, false, false] rfl rfl (take_ofW HT_.out HW_.out (by kernel_rfl)) (fun _ _ _ h => h) (Or.inl ⟨by rfl, ?_⟩) hHeld ?_ ?_
                                  rotate_left
                                  · rintro w' ⟨s0, s1, s2, s3, s4, s5, s6, s7⟩
                                    go_simp
                                    with_reducible rfl
                                  rotate_left
                                  · simp only [Act.put, List.setIfInBounds_toArray, List.set_cons_zero, List.set_cons_succ, i64_w, i32_w]
                                    rfl
                                  refine pure_ (i := 3) (N := some 43) (v := ?_) (a' := ?_) #[true, true, true, true, false, false, true, false, true, false, false, false, false] rfl rfl (any_of HT_.out (by kernel_rfl)) (fun _ _ _ h => h) (Or.inl ⟨by rfl, ?_⟩) ?_ ?_
                                  rotate_left
                                  · intro w'
                                    go_simp
                                    with_reducible rfl
                                  rotate_left
                                  · simp only [Act.put, List.setIfInBounds_toArray, List.set_cons_zero, List.set_cons_succ, i64_w, i32_w]
                                    rfl
                                  refine pure_ (i := 4) (N := some 44) (v := ?_) (a' := ?_) #[true, true, true, true, true, false, true, false, true, false, false, false, false] rfl rfl (any_of HT_.out (by kernel_rfl)) (fun _ _ _ h => h) (Or.inl ⟨by rfl, ?_⟩) ?_ ?_
                                  rotate_left
                                  · intro w'
                                    go_simp
                                    with_reducible rfl
                                  rotate_left
                                  · simp only [Act.put, List.setIfInBounds_toArray, List.set_cons_zero, List.set_cons_succ, i64_w, i32_w]
                                    rfl
                                  refine take_ (i := 5) (N := some 45) (v := ?_) (a' := ?_) #[true, true, true, true, true, true, true, false, true, false, false, false, false] rfl rfl (take_ofW HT_.out HW_.out (by kernel_rfl)) (fun _ _ _ h => h) (Or.inl ⟨by rfl, ?_⟩) hHeld ?_ ?_
                                  rotate_left
                                  · rintro w' ⟨s0, s1, s2, s3, s4, s5, s6, s7⟩
                                    go_simp
                                    with_reducible rfl
                                  rotate_left
                                  · simp only [Act.put, List.setIfInBounds_toArray, List.set_cons_zero, List.set_cons_succ, i64_w, i32_w]
                                    rfl
                                  refine take_ (i := 7) (N := some 47) (v := ?_) (a' := ?_) #[true, true, true, true, true, true, true, true, true, false, false, false, false] rfl rfl (take_ofW HT_.out HW_.out (by kernel_rfl)) (fun _ _ _ h => h) (Or.inl ⟨by rfl, ?_⟩) hHeld ?_ ?_
                                  rotate_left
                                  · rintro w' ⟨s0, s1, s2, s3, s4, s5, s6, s7⟩
                                    go_simp
                                    with_reducible rfl
                                  rotate_left
                                  · simp only [Act.put, List.setIfInBounds_toArray, List.set_cons_zero, List.set_cons_succ, i64_w, i32_w]
                                    rfl
                                  refine pure_ (i := 9) (N := some 49) (v := ?_) (a' := ?_) #[true, true, true, true, true, true, true, true, true, true, false, false, false] rfl rfl (any_of HT_.out (by kernel_rfl)) (fun _ _ _ h => h) (Or.inl ⟨by rfl, ?_⟩) ?_ ?_
                                  rotate_left
                                  · intro w'
                                    go_simp
                                    with_reducible rfl
                                  rotate_left
                                  · simp only [Act.put, List.setIfInBounds_toArray, List.set_cons_zero, List.set_cons_succ, i64_w, i32_w]
                                    rfl
                                  refine pure_ (i := 10) (N := some 50) (v := ?_) (a' := ?_) #[true, true, true, true, true, true, true, true, true, true, true, false, false] rfl rfl (any_of HT_.out (by kernel_rfl)) (fun _ _ _ h => h) (Or.inl ⟨by rfl, ?_⟩) ?_ ?_
                                  rotate_left
                                  · intro w'
                                    go_simp
                                    with_reducible rfl
                                  rotate_left
                                  · simp only [Act.put, List.setIfInBounds_toArray, List.set_cons_zero, List.set_cons_succ, i64_w, i32_w]
                                    rfl
                                  refine take_ (i := 11) (N := some 51) (v := ?_) (a' := ?_) #[true, true, true, true, true, true, true, true, true, true, true, true, false] rfl rfl (take_ofW HT_.out HW_.out (by kernel_rfl)) (fun _ _ _ h => h) (Or.inl ⟨by rfl, ?_⟩) hHeld ?_ ?_
                                  rotate_left
                                  · rintro w' ⟨s0, s1, s2, s3, s4, s5, s6, s7⟩
                                    go_simp
                                    with_reducible rfl
                                  rotate_left
                                  · simp only [Act.put, List.setIfInBounds_toArray, List.set_cons_zero, List.set_cons_succ, i64_w, i32_w]
                                    rfl
                                  refine pure_ (i := 12) (N := some 52) (v := ?_) (a' := ?_) #[true, true, true, true, true, true, true, true, true, true, true, true, true] rfl rfl (any_of HT_.out (by kernel_rfl)) (fun _ _ _ h => h) (Or.inl ⟨by rfl, ?_⟩) ?_ ?_
                                  rotate_left
                                  · intro w'
                                    go_simp
                                    with_reducible rfl
                                  rotate_left
                                  · simp only [Act.put, List.setIfInBounds_toArray, List.set_cons_zero, List.set_cons_succ, i64_w, i32_w]
                                    rfl
                                  refine done_ (done_of HT_.out (by kernel_rfl)) ?_
                                  try go_wp2
                                  go_roundg k3
                                  case measure => have := HJ1.out; have := HK2.out; have := HK3.out; omega
                                  case rel => exact ⟨(wrap64 (x4_3 + 1)), (by first | rfl | (simp; done) | (simp [*]; done)), H', ⟨by have := HJ1.out; have := HK2.out; have := HK3.out; omega⟩, ⟨by (with_reducible repeat (first | refine blk_drewN ?_ _ | refine blk_drew ?_ | refine blk_alloc ?_ _)); exact BK264.out⟩, ⟨by repeat (first | (with_reducible first | exact HB.out | apply below_alloc | apply pw_below_drewN | apply below_drew1 | refine below_set ?_ GE264.out) | exact HB.out)⟩⟩
                              · rw [if_neg c21] at H
                                exact absurd H (by simp)
                            · rw [if_neg c20] at H
                              exact absurd H (by simp)
                          · rw [if_neg c19] at H
                            exact absurd H (by simp)
                        · rw [if_neg c18] at H
                          exact absurd H (by simp)
                      · rw [if_neg c17] at H
                        have c17b0 : decide (x4_3 < x3_2) = false := decide_eq_false c17
                        clear c17
                        have H' := Aside0.mk H
                        clear H
                        go_wp2
                        go_roundg k3
                        case measure => have := HJ1.out; have := HK2.out; have := HK3.out; omega
                        case rel => exact ⟨(wrap64 (x3_2 + 1)), (by first | rfl | (simp; done) | (simp [*]; done)), H', ⟨by have := HJ1.out; have := HK2.out; have := HK3.out; omega⟩, ⟨by (with_reducible repeat (first | refine blk_drewN ?_ _ | refine blk_drew ?_ | refine blk_alloc ?_ _)); exact BK264.out⟩, ⟨by repeat (first | (with_reducible first | exact HB.out | apply below_alloc | apply pw_below_drewN | apply below_drew1 | refine below_set ?_ GE264.out) | exact HB.out)⟩⟩
                · replace c13 := Bool.eq_false_iff.mpr c13
                  subst c13
                  have H1 : (some false) = some r := by rw [if_neg (show ¬ (false = true) by decide)] at H; exact H
                  clear H
                  have H := H1
                  clear H1
                  obtain rfl := Option.some.inj H
                  have hcz25_0 : wr.cell? ⟨gb264, 0, none⟩ = some (.int .i64 a0_0) := (blk_cell BK264.out 0).trans rfl
                  have hcz25_1 : wr.cell? ⟨gb264, 1, none⟩ = some (.slice A0_1 l0_1.length c0_1) := (blk_cell BK264.out 1).trans rfl
                  have hfz25_0 := blk_frozen BK264.out 0
                  have hfz25_1 := blk_frozen BK264.out 1
                  try go_wp2
                  have n0_ := Aside0.mk (blk_drew BK264.out)
                  have n1_ := Aside0.mk (below_drew1 HB.out)
                  clear BK264
                  clear HB
                  have BK264 := n0_
                  have HB := n1_
                  clear n0_ n1_
                  have p265 : 0 ≤ (x3_2 : Int) := of_decide_eq_true (by first | (with_reducible assumption) | assumption)
                  have q265 : x3_2 < (l0_1.length : Int) := of_decide_eq_true (by first | (with_reducible assumption) | assumption)
                  obtain ⟨ad265, A265_2, c265_2, e265, hx265_0, hx265_1, hx265_2, hl265_2, hi265_2⟩ := at_T54 HR0_1.out x3_2 p265 q265
                  have hw265_2 := hx265_2
                  have hw265_1 := hx265_1
                  have hw265_0 := hx265_0
                  cases e265
                  replace hx265_0 := (HB.out.cell (World.block_lt_of_cell? w _ hx265_0)).trans hx265_0
                  replace hx265_1 := (HB.out.cell (World.block_lt_of_cell? w _ hx265_1)).trans hx265_1
                  replace hx265_2 := (HB.out.cell (World.block_lt_of_cell? w _ hx265_2)).trans hx265_2
                  have HR265_2 := Aside0.mk hi265_2
                  have HC265_2 := Aside0.mk hl265_2
                  clear hi265_2 hl265_2
                  replace p265 := eq_true p265
                  replace q265 := eq_true q265
                  refine start_ (n := 9) (S := fun w' => w'.cell? ⟨gb264, 0, none⟩ = some (.int .i64 a0_0) ∧ w'.cell? ⟨gb264, 1, none⟩ = some (.slice (some ad265) l0_1.length c0_1) ∧ w'.cell? (ad265.add ((x3_2).toNat * 3)) = some (.string ((rd_T54 l0_1 x3_2).f0)) ∧ w'.cell? ⟨(ad265.add ((x3_2).toNat * 3)).block, (ad265.add ((x3_2).toNat * 3)).off + 1, none⟩ = some (.int .i64 ((rd_T54 l0_1 x3_2).f1)) ∧ w'.cell? ⟨(ad265.add ((x3_2).toNat * 3)).block, (ad265.add ((x3_2).toNat * 3)).off + 2, none⟩ = some (.slice A265_2 ((rd_T54 l0_1 x3_2).f2).length c265_2)) (ds := []) #[false, false, false, false, false, false, false, false, false] (by kernel_rfl) rfl rfl ⟨(blk_cell BK264.out 0).trans rfl, (blk_cell BK264.out 1).trans rfl, ((HB.out.cell (World.block_lt_of_cell? w _ hw265_0)).trans hw265_0), ((HB.out.cell (World.block_lt_of_cell? w _ hw265_1)).trans hw265_1), ((HB.out.cell (World.block_lt_of_cell? w _ hw265_2)).trans hw265_2)⟩ (fun hHeld => ?_); refine with_tabW paraphrastref01_Valid.tab6 paraphrastref01_Valid.bits6 (fun HT_ HW_ => ?_)
                  generalize wr.drew = w26 at BK264 HB HR265_2 hx265_0 hx265_1 hx265_2 hHeld ⊢
                  refine pure_ (i := 0) (N := some 26) (v := ?_) (a' := ?_) #[true, false, false, false, false, false, false, false, false] rfl rfl (any_of HT_.out (by kernel_rfl)) (fun _ _ _ h => h) (Or.inl ⟨by rfl, ?_⟩) ?_ ?_
                  rotate_left
                  · intro w'
                    go_simp
                    with_reducible rfl
                  rotate_left
                  · simp only [Act.put, List.setIfInBounds_toArray, List.set_cons_zero, List.set_cons_succ, i64_w, i32_w]
                    rfl
                  refine pure_ (i := 2) (N := some 28) (v := ?_) (a' := ?_) #[true, false, true, false, false, false, false, false, false] rfl rfl (any_of HT_.out (by kernel_rfl)) (fun _ _ _ h => h) (Or.inl ⟨by rfl, ?_⟩) ?_ ?_
                  rotate_left
                  · intro w'
                    go_simp
                    with_reducible rfl
                  rotate_left
                  · simp only [Act.put, List.setIfInBounds_toArray, List.set_cons_zero, List.set_cons_succ, i64_w, i32_w]
                    rfl
                  refine pure_ (i := 4) (N := some 30) (v := ?_) (a' := ?_) #[true, false, true, false, true, false, false, false, false] rfl rfl (any_of HT_.out (by kernel_rfl)) (fun _ _ _ h => h) (Or.inl ⟨by rfl, ?_⟩) ?_ ?_
                  rotate_left
                  · intro w'
                    go_simp
                    with_reducible rfl
                  rotate_left
                  · simp only [Act.put, List.setIfInBounds_toArray, List.set_cons_zero, List.set_cons_succ, i64_w, i32_w]
                    rfl
                  refine take_ (i := 1) (N := some 27) (v := ?_) (a' := ?_) #[true, true, true, false, true, false, false, false, false] rfl rfl (take_ofW HT_.out HW_.out (by kernel_rfl)) (fun _ _ _ h => h) (Or.inl ⟨by rfl, ?_⟩) hHeld ?_ ?_
                  rotate_left
                  · rintro w' ⟨s0, s1, s2, s3, s4⟩
                    go_simp
                    with_reducible rfl
                  rotate_left
                  · simp only [Act.put, List.setIfInBounds_toArray, List.set_cons_zero, List.set_cons_succ, i64_w, i32_w]
                    rfl
                  refine take_ (i := 3) (N := some 29) (v := ?_) (a' := ?_) #[true, true, true, true, true, false, false, false, false] rfl rfl (take_ofW HT_.out HW_.out (by kernel_rfl)) (fun _ _ _ h => h) (Or.inl ⟨by rfl, ?_⟩) hHeld ?_ ?_
                  rotate_left
                  · rintro w' ⟨s0, s1, s2, s3, s4⟩
                    go_simp
                    with_reducible rfl
                  rotate_left
                  · simp only [Act.put, List.setIfInBounds_toArray, List.set_cons_zero, List.set_cons_succ, i64_w, i32_w]
                    rfl
                  refine pure_ (i := 5) (N := some 31) (v := ?_) (a' := ?_) #[true, true, true, true, true, true, false, false, false] rfl rfl (any_of HT_.out (by kernel_rfl)) (fun _ _ _ h => h) (Or.inl ⟨by rfl, ?_⟩) ?_ ?_
                  rotate_left
                  · intro w'
                    go_simp
                    with_reducible rfl
                  rotate_left
                  · simp only [Act.put, List.setIfInBounds_toArray, List.set_cons_zero, List.set_cons_succ, i64_w, i32_w]
                    rfl
                  refine take_ (i := 6) (N := some 32) (v := ?_) (a' := ?_) #[true, true, true, true, true, true, true, false, false] rfl rfl (take_ofW HT_.out HW_.out (by kernel_rfl)) (fun _ _ _ h => h) (Or.inl ⟨by rfl, ?_⟩) hHeld ?_ ?_
                  rotate_left
                  · rintro w' ⟨s0, s1, s2, s3, s4⟩
                    go_simp
                    with_reducible rfl
                  rotate_left
                  · simp only [Act.put, List.setIfInBounds_toArray, List.set_cons_zero, List.set_cons_succ, i64_w, i32_w]
                    rfl
                  refine one_ (i := 7) (N := some 33) #[true, true, true, true, true, true, true, true, false] rfl rfl (one_of HT_.out (by kernel_rfl)) (by decide) (fun K hK => ?_)
                  refine goes_ Tryd.func35 (by kernel_rfl) rfl #[.int .i64 a0_0, .agg #[.string ((rd_T54 l0_1 x3_2).f0), .int .i64 ((rd_T54 l0_1 x3_2).f1), .slice A265_2 ((rd_T54 l0_1 x3_2).f2).length c265_2]] (by rfl) rfl rfl (by (try simp only [List.map_toArray, List.map_cons, List.map_nil]); first | done | rfl | (simp only [List.length_drop, List.length_take]; rfl)) ?_
                  with_reducible refine (paraphrastref01_rel.calls k2 a0_0 ((rd_T54 l0_1 x3_2).f0) ((rd_T54 l0_1 x3_2).f1) _ _ ((rd_T54 l0_1 x3_2).f2) false _ ?side1 ?side2 A12.out).mono ?_
                  (case side1 => repeat (first | exact (Kd.C_below HR265_2.out HB.out) | (with_reducible refine Kd.C_alloc ?_ _) | (with_reducible refine Kd.C_drewN ?_ _) | (with_reducible refine Kd.C_drew ?_)))
                  (case side2 => exact HC265_2.out)
                  rintro e w27 ⟨rfl, hb⟩
                  refine ⟨_, rfl, ?_⟩
                  have n0_ := Aside0.mk (blk_below (g := gb264) (o := .cells #[.int .i64 a0_0, .slice (some ad265) l0_1.length c0_1] 38 (0, 0)) (by (with_reducible repeat (first | refine blk_drewN ?_ _ | refine blk_drew ?_ | refine blk_alloc ?_ _)); exact BK264.out) hb)
                  have n1_ := Aside0.mk (below_step (by repeat (first | (with_reducible first | exact HB.out | apply below_alloc | apply pw_below_drewN | apply below_drew1 | refine below_set ?_ GE264.out) | exact HB.out)) hb)
                  clear BK264
                  clear HB
                  have BK264 := n0_
                  have HB := n1_
                  clear n0_ n1_
                  (try clear hb)
                  (try clear hb2)
                  (try clear hk)
                  (try clear hi)
                  refine hK.out _ _ ⟨(blk_cell BK264.out 0).trans rfl, (blk_cell BK264.out 1).trans rfl, ((HB.out.cell (World.block_lt_of_cell? w _ hw265_0)).trans hw265_0), ((HB.out.cell (World.block_lt_of_cell? w _ hw265_1)).trans hw265_1), ((HB.out.cell (World.block_lt_of_cell? w _ hw265_2)).trans hw265_2)⟩ (fun hHeld => ?_)
                  clear hK K
                  refine norm_ (a' := ?_) ?_ ?_
                  rotate_left
                  · show Act.put _ (some 33) _ = _
                    simp only [Act.put, List.setIfInBounds_toArray, List.set_cons_zero, List.set_cons_succ, i64_w, i32_w]
                    rfl
                  refine pure_ (i := 8) (N := some 34) (v := ?_) (a' := ?_) #[true, true, true, true, true, true, true, true, true] rfl rfl (any_of HT_.out (by kernel_rfl)) (fun _ _ _ h => h) (Or.inl ⟨by rfl, ?_⟩) ?_ ?_
                  rotate_left
                  · intro w'
                    go_simp
                    with_reducible rfl
                  rotate_left
                  · simp only [Act.put, List.setIfInBounds_toArray, List.set_cons_zero, List.set_cons_succ, i64_w, i32_w]
                    rfl
                  refine done_ (done_of HT_.out (by kernel_rfl)) ?_
                  try go_wp2
                  go_ret
                  exact ⟨by first | rfl | (simp [errW_none, errW_some] <;> rfl) | (simp [*, errW_none, errW_some] <;> rfl), by repeat (first | (with_reducible first | exact HB.out | apply below_alloc | apply pw_below_drewN | apply below_drew1 | refine below_set ?_ GE264.out) | exact HB.out)⟩
              · rw [if_neg c11] at H
                exact absurd H (by simp)
            · rw [if_neg c10] at H
              have c10b0 : decide (x3_2 < (l0_1.length : Int)) = false := decide_eq_false c10
              clear c10
              obtain rfl := Option.some.inj H
              have hcz28_0 : wr.cell? ⟨gb264, 0, none⟩ = some (.int .i64 a0_0) := (blk_cell BK264.out 0).trans rfl
              have hcz28_1 : wr.cell? ⟨gb264, 1, none⟩ = some (.slice A0_1 l0_1.length c0_1) := (blk_cell BK264.out 1).trans rfl
              have hfz28_0 := blk_frozen BK264.out 0
              have hfz28_1 := blk_frozen BK264.out 1
              go_wp2
              go_ret
              exact ⟨by first | rfl | (simp [errW_none, errW_some] <;> rfl) | (simp [*, errW_none, errW_some] <;> rfl), by repeat (first | (with_reducible first | exact HB.out | apply below_alloc | apply pw_below_drewN | apply below_drew1 | refine below_set ?_ GE264.out) | exact HB.out)⟩
end Go.Proofs.YtfmpaofbnjlniaaDoor.F
/- Names, tuples, relations, structures: what Name, tuples, rel and Valid answer, as plain Bools; the program's and the document's. -/
namespace Go.Proofs.YtfmpaofbnjlniaaDoor.F
open Go.RowKit Go.Proofs.YtfmpaofbnjlniaaDoorW.PrintWords Go.Proofs.YtfmpaofbnjlniaaDoorW.PrintLast Go.Proofs.YtfmpaofbnjlniaaDoorW.PrintMore
set_option linter.unusedVariables false
def letB (c : Int) : Bool := (decide (97 ≤ c) && decide (c ≤ 122)) || (decide (65 ≤ c) && decide (c ≤ 90))
def digB (c : Int) : Bool := decide (48 ≤ c) && decide (c ≤ 57)
theorem letter_eq (c : Int) : shape_letter.f c = some (letB c) := by
  unfold shape_letter.f letB
  simp only [ge_iff_le]
  by_cases h1 : 97 ≤ c <;> by_cases h2 : c ≤ 122 <;> by_cases h3 : 65 ≤ c <;> by_cases h4 : c ≤ 90 <;> simp [h1, h2, h3, h4]
theorem digit_eq (c : Int) : shape_digit.f c = some (digB c) := by
  unfold shape_digit.f digB
  split <;> simp <;> omega
def wordB (s : ByteArray) : Bool := (shape_word.f s).getD false
theorem word_eq (s : ByteArray) : shape_word.f s = some (wordB s) := by
  unfold wordB shape_word.f
  repeat' split
  all_goals rfl
/-- The d bytes from i on are letters or digits. -/
def restB (s : ByteArray) : Nat → Nat → Bool
  | 0, _ => true
  | d + 1, i => (letB (bt s i) || digB (bt s i)) && restB s d (i + 1)
def nameB (s : ByteArray) : Bool := decide (1 ≤ s.size) && decide (s.size ≤ 12) && letB (bt s 0) && !wordB s && restB s (s.size - 1) 1
theorem name_loop (s : ByteArray) (hs : s.size ≤ 12) : ∀ (d i k : Nat), i + d = s.size → d + 1 ≤ k → shape_Name.l0 k s (s.size : Int) (i : Int) = some (restB s d i)
  | 0, i, k + 1, h, hk => by unfold shape_Name.l0; rw [if_neg (by omega)]; rfl
  | d + 1, i, k + 1, h, hk => by
    unfold shape_Name.l0 restB
    have ih := name_loop s hs d (i + 1) k (by omega) (by omega)
    rw [show ((i + 1 : Nat) : Int) = (i : Int) + 1 by omega] at ih
    rw [if_pos (by omega), if_pos (by omega), if_pos (by omega), letter_eq, digit_eq, w64 (by omega) (by omega), ih]
    simp only [Option.bind_some]
    cases letB (bt s i) <;> cases digB (bt s i) <;> rfl
theorem toList_loop (bs : ByteArray) : ∀ (d i : Nat) (r : List UInt8), i + d = bs.size → ByteArray.toList.loop bs i r = r.reverse ++ bs.data.toList.drop i
  | 0, i, r, h => by
    have hl : bs.data.toList.length = bs.size := data_length bs
    unfold ByteArray.toList.loop
    rw [if_neg (by omega), List.drop_eq_nil_of_le (by omega), List.append_nil]
  | d + 1, i, r, h => by
    have hl : bs.data.toList.length = bs.size := data_length bs
    unfold ByteArray.toList.loop
    rw [if_pos (by omega), toList_loop bs d (i + 1) _ (by omega), List.drop_eq_getElem_cons (show i < bs.data.toList.length by omega), List.reverse_cons, List.append_assoc]
    have hi : i < bs.data.size := by rw [Array.length_toList] at hl; omega
    have : bs.get! i = bs.data.toList[i]'(by omega) := by
      show bs.data[i]! = _
      rw [getElem!_pos bs.data i hi]; simp
    rw [this]; rfl
theorem toList_data (s : ByteArray) : s.toList = s.data.toList := by
  unfold ByteArray.toList
  rw [toList_loop s s.size 0 [] (by omega)]; simp
theorem toList_nil (s : ByteArray) : s.toList = ([] : List UInt8) ↔ s.size = 0 := by
  rw [toList_data, ← data_length s]
  exact (List.length_eq_zero_iff (l := s.data.toList)).symm
theorem name_eq (s : ByteArray) (k : Nat) (hk : 20 ≤ k) : shape_Name.f k s = some (nameB s) := by
  obtain ⟨k, rfl⟩ : ∃ k', k = k' + 1 := ⟨k - 1, by omega⟩
  unfold shape_Name.f nameB
  by_cases h0 : s.size = 0
  · rw [if_pos ((toList_nil s).2 h0)]; simp [shape_Name.j0, h0]
  · rw [if_neg (fun h => h0 ((toList_nil s).1 h))]
    by_cases h1 : (s.size : Int) > 12
    · rw [if_pos h1]; simp [shape_Name.j0, show ¬ s.size ≤ 12 by omega]
    · rw [if_neg h1, if_pos (by omega), letter_eq]
      simp only [Option.bind_some]
      cases hl : letB (bt s 0) with
      | false => simp [shape_Name.j0]
      | true =>
        rw [if_pos rfl, word_eq]
        simp only [Option.bind_some]
        cases hw : wordB s with
        | true => simp [shape_Name.j0]
        | false =>
          unfold shape_Name.j0
          simp only [Bool.false_eq_true, if_false]
          have := name_loop s (by omega) s.size 0 k (by omega) (by omega)
          rw [show ((0 : Nat) : Int) = 0 from rfl] at this
          rw [this]
          obtain ⟨m, hm⟩ : ∃ m, s.size = m + 1 := ⟨s.size - 1, by omega⟩
          rw [hm, restB, show ((0 : Nat) : Int) = 0 from rfl, hl]
          simp; omega
theorem compare_loop (x y : List Int) (hl : x.length = y.length) (hx : x.length ≤ 100000) : ∀ (j i k : Nat), i + j = x.length → j + 1 ≤ k → ∃ c, slices_Compare_int_int.l0 k x y x (x.length : Int) (i : Int) = some c ∧ decide (c ≥ 0) = !lexL (x.drop i) (y.drop i)
  | 0, i, k + 1, h, hk => by
    refine ⟨0, ?_, ?_⟩
    · unfold slices_Compare_int_int.l0; rw [if_neg (by omega), if_neg (by omega)]
    · rw [List.drop_eq_nil_of_le (by omega)]; rfl
  | j + 1, i, k + 1, h, hk => by
    have hi : i < x.length := by omega
    have hi2 : i < y.length := by omega
    unfold slices_Compare_int_int.l0
    rw [if_pos (by omega), if_pos (by omega), if_pos (by omega), if_neg (by omega), if_pos (by omega), rd_nat x i hi, rd_nat y i hi2, List.drop_eq_getElem_cons hi, List.drop_eq_getElem_cons hi2, w64 (by omega) (by omega)]
    unfold cmp_Compare_int.f cmp_isNaN_int.f lexL
    simp only [bne_self_eq_false, Option.bind_some, Bool.false_eq_true, if_false]
    rcases Int.lt_trichotomy x[i] y[i] with h1 | h1 | h1
    · exact ⟨-1, by simp [h1], by rw [if_neg (by omega), decide_eq_true h1]; rfl⟩
    · obtain ⟨c, hc, hd⟩ := compare_loop x y hl hx j (i + 1) k (by omega) (by omega)
      rw [show ((i + 1 : Nat) : Int) = (i : Int) + 1 by omega] at hc
      exact ⟨c, by simp [h1, hc], by rw [if_pos h1]; exact hd⟩
    · exact ⟨1, by simp [h1, show ¬ x[i] < y[i] by omega], by rw [if_neg (by omega), decide_eq_false (by omega : ¬ x[i] < y[i])]; rfl⟩
def tupV (n a : Int) (t : List Int) : Bool := decide ((t.length : Int) = a) && !t.any (outB n)
/-- The d tuples from i on are of this arity, in range, and each is above the one before it. -/
def tupsV (n a : Int) (l : List (List Int)) : Nat → Nat → Bool
  | 0, _ => true
  | d + 1, i => tupV n a (rd_L2 l i) && (decide (i = 0) || lexL (rd_L2 l ((i : Int) - 1)) (rd_L2 l i)) && tupsV n a l d (i + 1)
theorem elements_eq (n : Int) (t : List Int) : shape_elements.f n t = some (!t.any (outB n)) := rfl
/-- shape.tuples' loop: from i on, the tuple ahead of i having this arity. -/
theorem tuples_loop (n a : Int) (nm : ByteArray) (a1 : Int) (l : List (List Int)) (hl : l.length ≤ 9223372036854775807) (ha : a ≤ 12) : ∀ (d i k : Nat), i + d = l.length → d + 100 ≤ k → (0 < i → ((rd_L2 l ((i : Int) - 1)).length : Int) = a) →
    shape_tuples.l0 k n l (l.length : Int) (i : Int) nm a l = some (tupsV n a l d i)
  | 0, i, k + 1, h, hk, hp => by unfold shape_tuples.l0; rw [if_neg (by omega)]; rfl
  | d + 1, i, k + 1, h, hk, hp => by
    unfold shape_tuples.l0 tupsV tupV
    rw [if_pos (by omega), if_pos (by omega), if_pos (by omega), w64 (x := (i : Int) + 1) (by omega) (by omega), w64 (x := (i : Int) - 1) (by omega) (by omega)]
    by_cases h1 : ((rd_L2 l (i : Int)).length : Int) = a
    · rw [if_pos h1, elements_eq, decide_eq_true h1]
      simp only [Option.bind_some, Bool.true_and]
      have ih := tuples_loop n a nm a1 l hl ha d (i + 1) k (by omega) (by omega) (fun _ => by rw [show (((i + 1 : Nat) : Int) - 1) = (i : Int) by omega]; exact h1)
      rw [show ((i + 1 : Nat) : Int) = (i : Int) + 1 by omega] at ih
      cases hb : (rd_L2 l (i : Int)).any (outB n) with
      | true => simp
      | false =>
        simp only [Bool.not_false, if_true, Bool.true_and]
        by_cases h2 : (i : Int) > 0
        · rw [if_pos h2, if_pos (by omega), if_pos (by omega), decide_eq_false (by omega), Bool.false_or]
          have hp' := hp (by omega)
          obtain ⟨c, hc, hd⟩ := compare_loop (rd_L2 l ((i : Int) - 1)) (rd_L2 l (i : Int)) (by omega) (by omega) (rd_L2 l ((i : Int) - 1)).length 0 k (by omega) (by omega)
          unfold slices_Compare_int_int.f
          rw [show ((0 : Nat) : Int) = 0 from rfl] at hc
          rw [hc]
          simp only [Option.bind_some, List.drop_zero] at hd ⊢
          by_cases h3 : c ≥ 0
          · rw [if_pos h3]
            rw [decide_eq_true h3] at hd
            rw [show lexL (rd_L2 l ((i : Int) - 1)) (rd_L2 l (i : Int)) = false from (Bool.not_eq_true' _).mp hd.symm]
            rfl
          · rw [if_neg h3, ih]
            rw [decide_eq_false h3] at hd
            rw [show lexL (rd_L2 l ((i : Int) - 1)) (rd_L2 l (i : Int)) = true from (Bool.not_eq_false' _).mp hd.symm]
            rfl
        · rw [if_neg h2, ih, decide_eq_true (by omega)]
          rfl
    · rw [if_neg h1, decide_eq_false h1]
      rfl
/-! ### the document's functions -/
theorem ref_letter_eq (c : Int) : paraphrastref01_letter.f c = some (letB c) := letter_eq c
theorem ref_digit_eq (c : Int) : paraphrastref01_digit.f c = some (digB c) := digit_eq c
theorem ref_word_eq (s : ByteArray) : paraphrastref01_Word.f s = some (wordB s) := word_eq s
theorem ref_name_loop (s : ByteArray) (hs : s.size ≤ 12) : ∀ (d i k : Nat), i + d = s.size → d + 1 ≤ k → paraphrastref01_Name.l0 k s (i : Int) = some (restB s d i)
  | 0, i, k + 1, h, hk => by unfold paraphrastref01_Name.l0; rw [if_neg (by omega)]; rfl
  | d + 1, i, k + 1, h, hk => by
    unfold paraphrastref01_Name.l0 restB
    have ih := ref_name_loop s hs d (i + 1) k (by omega) (by omega)
    rw [show ((i + 1 : Nat) : Int) = (i : Int) + 1 by omega] at ih
    rw [if_pos (by omega), if_pos (by omega), ref_letter_eq, ref_digit_eq, w64 (by omega) (by omega), ih]
    simp only [Option.bind_some]
    cases letB (bt s i) <;> cases digB (bt s i) <;> rfl
theorem ref_name_eq (s : ByteArray) (k : Nat) (hk : 20 ≤ k) : paraphrastref01_Name.f k s = some (nameB s) := by
  obtain ⟨k, rfl⟩ : ∃ k', k = k' + 1 := ⟨k - 1, by omega⟩
  unfold paraphrastref01_Name.f nameB
  by_cases h0 : s.size = 0
  · rw [if_pos (by omega)]; simp [paraphrastref01_Name.j0, h0]
  · rw [if_neg (by omega)]
    by_cases h1 : (s.size : Int) > 12
    · rw [if_pos h1]; simp [paraphrastref01_Name.j0, show ¬ s.size ≤ 12 by omega]
    · rw [if_neg h1, if_pos (by omega), ref_letter_eq]
      simp only [Option.bind_some]
      cases hl : letB (bt s 0) with
      | false => simp [paraphrastref01_Name.j0]
      | true =>
        rw [if_pos rfl, ref_word_eq]
        simp only [Option.bind_some]
        cases hw : wordB s with
        | true => simp [paraphrastref01_Name.j0]
        | false =>
          unfold paraphrastref01_Name.j0
          simp only [Bool.false_eq_true, if_false]
          have := ref_name_loop s (by omega) (s.size - 1) 1 k (by omega) (by omega)
          rw [show ((1 : Nat) : Int) = 1 from rfl] at this
          rw [this]
          simp; omega
theorem ref_tuples_loop (n a : Int) (nm : ByteArray) (l : List (List Int)) (hl : l.length ≤ 9223372036854775807) (ha : a ≤ 12) : ∀ (d i k : Nat), i + d = l.length → d + 100 ≤ k → (0 < i → ((rd_L2 l ((i : Int) - 1)).length : Int) = a) →
    paraphrastref01_rel.l0 k n (i : Int) nm a l = some (tupsV n a l d i)
  | 0, i, k + 1, h, hk, hp => by unfold paraphrastref01_rel.l0; rw [if_neg (by omega)]; rfl
  | d + 1, i, k + 1, h, hk, hp => by
    unfold paraphrastref01_rel.l0 tupsV tupV
    rw [if_pos (by omega), if_pos (by omega), w64 (x := (i : Int) + 1) (by omega) (by omega), w64 (x := (i : Int) - 1) (by omega) (by omega)]
    by_cases h1 : ((rd_L2 l (i : Int)).length : Int) = a
    · rw [if_pos h1, in_elements n (rd_L2 l (i : Int)) (by omega) k (by omega), elements_eq, decide_eq_true h1]
      simp only [Option.bind_some, Bool.true_and]
      have ih := ref_tuples_loop n a nm l hl ha d (i + 1) k (by omega) (by omega) (fun _ => by rw [show (((i + 1 : Nat) : Int) - 1) = (i : Int) by omega]; exact h1)
      rw [show ((i + 1 : Nat) : Int) = (i : Int) + 1 by omega] at ih
      cases hb : (rd_L2 l (i : Int)).any (outB n) with
      | true => simp
      | false =>
        simp only [Bool.not_false, if_true, Bool.true_and]
        by_cases h2 : (i : Int) > 0
        · rw [if_pos h2, if_pos (by omega), if_pos (by omega), decide_eq_false (by omega), Bool.false_or]
          have hp' := hp (by omega)
          have hL : paraphrastref01_Less.f k (rd_L2 l ((i : Int) - 1)) (rd_L2 l (i : Int)) = some (lexL (rd_L2 l ((i : Int) - 1)) (rd_L2 l (i : Int))) := less_all _ _ (by omega) (by omega) (rd_L2 l ((i : Int) - 1)).length 0 k (by omega) (by omega)
          rw [hL]
          simp only [Option.bind_some]
          cases lexL (rd_L2 l ((i : Int) - 1)) (rd_L2 l (i : Int)) with
          | false => rfl
          | true => rw [if_pos rfl, ih]; rfl
        · rw [if_neg h2, ih, decide_eq_true (by omega)]
          rfl
    · rw [if_neg h1, decide_eq_false h1]
      rfl
/-! ### relations and structures -/
def powOk (n a : Int) : Bool := match paraphrastref01_Pow.f 14 n a with | some q => decide (q ≤ 4096) | none => false
theorem pow_ok (n a : Int) (hn1 : 1 ≤ n) (hn2 : n ≤ 64) (h0 : 0 ≤ a) (h1 : a ≤ 12) (k : Nat) (hk : 14 ≤ k) : ∃ q, paraphrastref01_Pow.f k n a = some q ∧ shape_power.f k n a 4096 = some (if q > 4096 then -1 else q) ∧ 1 ≤ q ∧ powOk n a = decide (q ≤ 4096) := by
  obtain ⟨q, hq, e1, e2⟩ := pow_both n a hn1 hn2 h1 a.toNat 1 0 14 (by omega) (by omega) (by omega) (by omega) (by omega)
  have f1 : paraphrastref01_Pow.f 14 n a = some q := e1
  exact ⟨q, at_rounds (paraphrastref01_Pow.mono _ _) hk f1, at_rounds (shape_power.mono _ _ _) hk e2, hq, by unfold powOk; rw [f1]⟩
def relV (n : Int) (r : S54) : Bool := nameB r.f0 && decide (0 ≤ r.f1) && decide (r.f1 ≤ 12) && powOk n r.f1 && tupsV n r.f1 r.f2 r.f2.length 0
def relsV (n : Int) (l : List S54) : Nat → Nat → Bool
  | 0, _ => true
  | d + 1, i => relV n (rd_T54 l i) && !(l.take i).any (nameIs (rd_T54 l i).f0) && relsV n l d (i + 1)
def validB (n : Int) (l : List S54) : Bool := decide (1 ≤ n) && decide (n ≤ 64) && decide (l.length ≤ 8) && relsV n l l.length 0
theorem ref_rel_eq (T : Nat) (hT : T ≤ 9223372036854775807) (n : Int) (hn1 : 1 ≤ n) (hn2 : n ≤ 64) (r : S54) (hl : r.f2.length ≤ T) (k : Nat) (hk : T + 200 ≤ k) : paraphrastref01_rel.f k n r.f0 r.f1 r.f2 = some (relV n r) := by
  obtain ⟨k, rfl⟩ : ∃ k', k = k' + 1 := ⟨k - 1, by omega⟩
  have hj : paraphrastref01_rel.j0 (k + 1) n true r.f0 r.f1 r.f2 = some false := rfl
  unfold paraphrastref01_rel.f relV
  rw [ref_name_eq _ _ (by omega)]
  simp only [Option.bind_some]
  cases hn : nameB r.f0 with
  | false => simp [hj]
  | true =>
    rw [if_pos rfl]
    by_cases h0 : r.f1 < 0
    · rw [if_pos h0, hj, decide_eq_false (by omega)]; rfl
    · rw [if_neg h0]
      by_cases h1 : r.f1 > 12
      · rw [if_pos h1, hj, decide_eq_false (by omega : ¬ r.f1 ≤ 12)]; simp
      · obtain ⟨q, e1, _, _, e3⟩ := pow_ok n r.f1 hn1 hn2 (by omega) (by omega) (k + 1) (by omega)
        rw [if_neg h1, e1, e3, decide_eq_true (by omega : 0 ≤ r.f1), decide_eq_true (by omega : r.f1 ≤ 12)]
        simp only [Option.bind_some, Bool.true_and]
        by_cases h2 : q > 4096
        · rw [decide_eq_true h2, hj, decide_eq_false (by omega)]; rfl
        · rw [decide_eq_false h2, decide_eq_true (by omega : q ≤ 4096)]
          unfold paraphrastref01_rel.j0
          simp only [Bool.false_eq_true, if_false, Bool.true_and]
          exact ref_tuples_loop n r.f1 r.f0 r.f2 (by omega) (by omega) r.f2.length 0 k (by omega) (by omega) (by omega)
theorem rdT_nat (l : List S54) (i : Nat) (h : i < l.length) : rd_T54 l (i : Int) = l[i] := by unfold rd_T54; rw [Int.toNat_natCast, List.getD_eq_getElem?_getD, List.getElem?_eq_getElem h]; rfl
theorem valid_j2 (k : Nat) (n : Int) (l : List S54) (i : Nat) (b : Bool) (f0 : ByteArray) (f1 : Int) (f2 : List (List Int)) (hi : i < l.length) (hl : l.length ≤ 8) :
    shape_Valid.j2 (k + 1) (i : Int) l (l.length : Int) (i : Int) b n l f0 f1 f2 = if b = true then some false else if (l.take i).any (nameIs f0) = true then some false else shape_Valid.l0 k l (l.length : Int) ((i + 1 : Nat) : Int) n l := by
  conv => lhs; unfold shape_Valid.j2
  cases b with
  | true => rfl
  | false =>
    simp only [Bool.false_eq_true, if_false]
    rw [if_pos (by omega), if_pos (by omega), w64 (by omega) (by omega), Int.toNat_natCast, show ((i + 1 : Nat) : Int) = (i : Int) + 1 by omega]
    rfl
theorem valid_loop (n : Int) (hn1 : 1 ≤ n) (hn2 : n ≤ 64) (l : List S54) (hl : l.length ≤ 8) (T : Nat) (hT : T ≤ 9223372036854775807) (hall : ∀ r ∈ l, r.f2.length ≤ T) : ∀ (d i k : Nat), i + d = l.length → d * 2 + T + 200 ≤ k →
    shape_Valid.l0 k l (l.length : Int) (i : Int) n l = some (relsV n l d i)
  | 0, i, k + 1, h, hk => by unfold shape_Valid.l0; rw [if_neg (by omega)]; rfl
  | d + 1, i, k + 1, h, hk => by
    have hi : i < l.length := by omega
    have hr := hall _ (List.getElem_mem hi)
    rw [← rdT_nat l i hi] at hr
    obtain ⟨k, rfl⟩ : ∃ k', k = k' + 1 := ⟨k - 1, by omega⟩
    have ih := valid_loop n hn1 hn2 l hl T hT hall d (i + 1) k (by omega) (by omega)
    unfold shape_Valid.l0 relsV
    rw [if_pos (by omega), if_pos (by omega), if_pos (by omega), name_eq _ _ (by omega)]
    generalize rd_T54 l (i : Int) = r at hr ⊢
    simp only [Option.bind_some, valid_j2 k n l i _ r.f0 r.f1 r.f2 hi hl, ih, if_true]
    unfold relV
    cases hn : nameB r.f0 with
    | false => simp
    | true =>
      by_cases h0 : r.f1 < 0
      · rw [if_pos rfl, if_pos h0, decide_eq_false (by omega)]; simp
      · by_cases h1 : r.f1 > 12
        · rw [if_pos rfl, if_neg h0, if_pos h1, decide_eq_false (by omega : ¬ r.f1 ≤ 12)]; simp
        · obtain ⟨q, _, e2, hq, e3⟩ := pow_ok n r.f1 hn1 hn2 (by omega) (by omega) (k + 1) (by omega)
          rw [if_pos rfl, if_neg h0, if_neg h1, e2, e3, decide_eq_true (by omega : 0 ≤ r.f1), decide_eq_true (by omega : r.f1 ≤ 12)]
          simp only [Option.bind_some]
          by_cases h2 : q > 4096
          · rw [if_pos h2, if_pos (by omega), decide_eq_false (by omega)]; simp
          · rw [if_neg h2, if_neg (by omega), decide_eq_true (by omega : q ≤ 4096)]
            have ht : shape_tuples.f (k + 1) n r.f0 r.f1 r.f2 = some (tupsV n r.f1 r.f2 r.f2.length 0) := tuples_loop n r.f1 r.f0 0 r.f2 (by omega) (by omega) r.f2.length 0 (k + 1) (by omega) (by omega) (by omega)
            rw [ht]
            simp only [Option.bind_some, Bool.true_and]
            cases tupsV n r.f1 r.f2 r.f2.length 0 <;> cases (l.take i).any (nameIs r.f0) <;> rfl
theorem valid_eq (n : Int) (l : List S54) (T : Nat) (hT : T ≤ 9223372036854775807) (hall : ∀ r ∈ l, r.f2.length ≤ T) (k : Nat) (hk : T + 300 ≤ k) : shape_Valid.f k n l = some (validB n l) := by
  obtain ⟨k, rfl⟩ : ∃ k', k = k' + 1 := ⟨k - 1, by omega⟩
  have hj : shape_Valid.j0 (k + 1) true n l = some false := rfl
  unfold shape_Valid.f validB
  by_cases h1 : n < 1
  · rw [if_pos h1, hj, decide_eq_false (by omega)]; rfl
  · rw [if_neg h1]
    by_cases h2 : n > 64
    · rw [if_pos h2, hj, decide_eq_false (by omega : ¬ n ≤ 64)]; simp
    · rw [if_neg h2, decide_eq_true (by omega : 1 ≤ n), decide_eq_true (by omega : n ≤ 64)]
      by_cases h3 : (l.length : Int) > 8
      · rw [decide_eq_true h3, hj, decide_eq_false (by omega)]; rfl
      · rw [decide_eq_false h3, decide_eq_true (by omega : l.length ≤ 8)]
        unfold shape_Valid.j0
        simp only [Bool.false_eq_true, if_false, Bool.true_and]
        exact valid_loop n (by omega) (by omega) l (by omega) T hT hall l.length 0 k (by omega) (by omega)
theorem ref_names (n : Int) (l : List S54) (hl : l.length ≤ 8) (i : Nat) (hi : i < l.length) (R : Bool) (B : Nat) (hR : ∀ k, B ≤ k → paraphrastref01_Valid.l0 k ((i + 1 : Nat) : Int) n l = some R) : ∀ (m j k : Nat), j + m = i → m + B + 1 ≤ k →
    paraphrastref01_Valid.l1 k (i : Int) (j : Int) n l = some (!((l.take i).drop j).any (nameIs (rd_T54 l i).f0) && R)
  | 0, j, k + 1, h, hk => by
    unfold paraphrastref01_Valid.l1
    rw [if_neg (by omega), w64 (by omega) (by omega), show (i : Int) + 1 = ((i + 1 : Nat) : Int) by omega, hR k (by omega), List.drop_eq_nil_of_le (by simp; omega)]
    rfl
  | m + 1, j, k + 1, h, hk => by
    have ih := ref_names n l hl i hi R B hR m (j + 1) k (by omega) (by omega)
    unfold paraphrastref01_Valid.l1
    rw [if_pos (by omega), if_pos (by omega), if_pos (by omega), if_pos (by omega), if_pos (by omega), w64 (by omega) (by omega), show (j : Int) + 1 = ((j + 1 : Nat) : Int) by omega, ih, List.drop_eq_getElem_cons (show j < (l.take i).length by simp; omega), List.any_cons, List.getElem_take, rdT_nat l j (by omega)]
    unfold nameIs
    by_cases he : l[j].f0.toList = (rd_T54 l i).f0.toList
    · rw [if_pos he, beq_iff_eq.2 he]; rfl
    · rw [if_neg he, beq_eq_false_iff_ne.2 he]; rfl
theorem ref_valid_loop (n : Int) (hn1 : 1 ≤ n) (hn2 : n ≤ 64) (l : List S54) (hl : l.length ≤ 8) (T : Nat) (hT : T ≤ 9223372036854775807) (hall : ∀ r ∈ l, r.f2.length ≤ T) : ∀ (d i k : Nat), i + d = l.length → d * 12 + T + 200 ≤ k →
    paraphrastref01_Valid.l0 k (i : Int) n l = some (relsV n l d i)
  | 0, i, k + 1, h, hk => by unfold paraphrastref01_Valid.l0; rw [if_neg (by omega)]; rfl
  | d + 1, i, k + 1, h, hk => by
    have hi : i < l.length := by omega
    have hr := hall _ (List.getElem_mem hi)
    rw [← rdT_nat l i hi] at hr
    obtain ⟨B, hB⟩ : ∃ B : Nat, B = d * 12 + T + 200 := ⟨_, rfl⟩
    have IH : ∀ k', B ≤ k' → paraphrastref01_Valid.l0 k' ((i + 1 : Nat) : Int) n l = some (relsV n l d (i + 1)) := fun k' hk' => ref_valid_loop n hn1 hn2 l hl T hT hall d (i + 1) k' (by omega) (by omega)
    have hnm := ref_names n l hl i hi (relsV n l d (i + 1)) B IH i 0 k (by omega) (by omega)
    unfold paraphrastref01_Valid.l0 relsV
    rw [if_pos (by omega), if_pos (by omega), ref_rel_eq T hT n hn1 hn2 (rd_T54 l (i : Int)) hr k (by omega)]
    simp only [Option.bind_some]
    cases relV n (rd_T54 l (i : Int)) with
    | false => simp
    | true =>
      rw [if_pos rfl]
      rw [show ((0 : Nat) : Int) = 0 from rfl] at hnm
      rw [hnm, List.drop_zero, Bool.true_and]
theorem ref_valid_eq (n : Int) (l : List S54) (T : Nat) (hT : T ≤ 9223372036854775807) (hall : ∀ r ∈ l, r.f2.length ≤ T) (k : Nat) (hk : T + 400 ≤ k) : paraphrastref01_Valid.f k n l = some (validB n l) := by
  obtain ⟨k, rfl⟩ : ∃ k', k = k' + 1 := ⟨k - 1, by omega⟩
  have hj : paraphrastref01_Valid.j0 (k + 1) true n l = some false := rfl
  unfold paraphrastref01_Valid.f validB
  by_cases h1 : n < 1
  · rw [if_pos h1, hj, decide_eq_false (by omega)]; rfl
  · rw [if_neg h1]
    by_cases h2 : n > 64
    · rw [if_pos h2, hj, decide_eq_false (by omega : ¬ n ≤ 64)]; simp
    · rw [if_neg h2, decide_eq_true (by omega : 1 ≤ n), decide_eq_true (by omega : n ≤ 64)]
      by_cases h3 : (l.length : Int) > 8
      · rw [decide_eq_true h3, hj, decide_eq_false (by omega)]; rfl
      · rw [decide_eq_false h3, decide_eq_true (by omega : l.length ≤ 8)]
        unfold paraphrastref01_Valid.j0
        simp only [Bool.false_eq_true, if_false, Bool.true_and]
        exact ref_valid_loop n (by omega) (by omega) l (by omega) T hT hall l.length 0 k (by omega) (by omega)
end Go.Proofs.YtfmpaofbnjlniaaDoor.F
namespace Go.Proofs.YtfmpaofbnjlniaaDoor.F
open Go.RowKit Go.Proofs.YtfmpaofbnjlniaaDoorW.PrintWords Go.Proofs.YtfmpaofbnjlniaaDoorW.PrintLast Go.Proofs.YtfmpaofbnjlniaaDoorW.PrintMore
attribute [local go_sem] max2_int min2_int max_two min_two max_three min_three max_four min_four
set_option linter.unusedVariables false
set_option linter.unusedSimpArgs false
/-! ### paraphrastlaw01_Few: function 18 -/
mutual
def paraphrastlaw01_Few.l0 : Nat → List (S38) → Int → Int → Int → Option (Bool)
  | 0, _, _, _, _ => none
  | k + 1, x0, x3, x4, x5 => if x5 < (x0.length : Int) then (if 0 ≤ x5 then (if (((rd_T38 x0 x5).f1).length : Int) > 12 then (some false) else (paraphrastlaw01_Few.l1 k x0 x3 x4 x5 0)) else (none)) else (some (decide (x4 ≤ 20000)))
def paraphrastlaw01_Few.l1 : Nat → List (S38) → Int → Int → Int → Int → Option (Bool)
  | 0, _, _, _, _, _ => none
  | k + 1, x0, x3, x4, x5, x6 => if 0 ≤ x5 then (if x5 < (x0.length : Int) then (if x6 < (((rd_T38 x0 x5).f1).length : Int) then (if 0 ≤ x6 then (if (wrap64 (x3 + (((rd_T54 ((rd_T38 x0 x5).f1) x6).f2).length : Int))) > 1500 then (paraphrastlaw01_Few.j2 k x0 (wrap64 (x3 + (((rd_T54 ((rd_T38 x0 x5).f1) x6).f2).length : Int))) x4 x5 x6 true) else (paraphrastlaw01_Few.j2 k x0 (wrap64 (x3 + (((rd_T54 ((rd_T38 x0 x5).f1) x6).f2).length : Int))) x4 x5 x6 (decide ((((rd_T54 ((rd_T38 x0 x5).f1) x6).f0).size : Int) > 1000)))) else (none)) else (paraphrastlaw01_Few.l0 k x0 x3 x4 (wrap64 (x5 + 1)))) else (none)) else (none)
def paraphrastlaw01_Few.j2 : Nat → List (S38) → Int → Int → Int → Int → Bool → Option (Bool)
  | 0, _, _, _, _, _, _ => none
  | k + 1, x0, x3, x4, x5, x6, x57 => if x57 = true then (some false) else (paraphrastlaw01_Few.l2 k x0 x3 x4 x5 x6 0)
def paraphrastlaw01_Few.l2 : Nat → List (S38) → Int → Int → Int → Int → Int → Option (Bool)
  | 0, _, _, _, _, _, _ => none
  | k + 1, x0, x3, x4, x5, x6, x7 => if 0 ≤ x5 then (if x5 < (x0.length : Int) then (if 0 ≤ x6 then (if x6 < (((rd_T38 x0 x5).f1).length : Int) then (if x7 < (((rd_T54 ((rd_T38 x0 x5).f1) x6).f2).length : Int) then (if 0 ≤ x7 then (paraphrastlaw01_Few.l2 k x0 x3 (wrap64 (x4 + ((rd_L2 ((rd_T54 ((rd_T38 x0 x5).f1) x6).f2) x7).length : Int))) x5 x6 (wrap64 (x7 + 1))) else (none)) else (paraphrastlaw01_Few.l1 k x0 x3 x4 x5 (wrap64 (x6 + 1)))) else (none)) else (none)) else (none)) else (none)
end
def paraphrastlaw01_Few.f (k : Nat) (l0 : List (S38)) : Option (Bool) := paraphrastlaw01_Few.l0 k l0 0 0 0
theorem paraphrastlaw01_Few.mono_l : ∀ k, (∀ y0 y1 y2 y3, LeO (paraphrastlaw01_Few.l0 k y0 y1 y2 y3) (paraphrastlaw01_Few.l0 (k + 1) y0 y1 y2 y3)) ∧ (∀ y0 y1 y2 y3 y4, LeO (paraphrastlaw01_Few.l1 k y0 y1 y2 y3 y4) (paraphrastlaw01_Few.l1 (k + 1) y0 y1 y2 y3 y4)) ∧ (∀ y0 y1 y2 y3 y4 y5, LeO (paraphrastlaw01_Few.j2 k y0 y1 y2 y3 y4 y5) (paraphrastlaw01_Few.j2 (k + 1) y0 y1 y2 y3 y4 y5)) ∧ (∀ y0 y1 y2 y3 y4 y5, LeO (paraphrastlaw01_Few.l2 k y0 y1 y2 y3 y4 y5) (paraphrastlaw01_Few.l2 (k + 1) y0 y1 y2 y3 y4 y5))
  | 0 => ⟨fun _ _ _ _ r h => by simp [paraphrastlaw01_Few.l0] at h, fun _ _ _ _ _ r h => by simp [paraphrastlaw01_Few.l1] at h, fun _ _ _ _ _ _ r h => by simp [paraphrastlaw01_Few.j2] at h, fun _ _ _ _ _ _ r h => by simp [paraphrastlaw01_Few.l2] at h⟩
  | k + 1 => by
    obtain ⟨ih0, ih1, ih2, ih3⟩ := paraphrastlaw01_Few.mono_l k
    refine ⟨?_, ?_, ?_, ?_⟩
    · intro y0 y1 y2 y3
      unfold paraphrastlaw01_Few.l0
      repeat' first
      | (with_reducible exact ih0 _ _ _ _)
      | (with_reducible exact ih1 _ _ _ _ _)
      | (with_reducible exact ih2 _ _ _ _ _ _)
      | (with_reducible exact ih3 _ _ _ _ _ _)
      | (with_reducible exact LeO.refl _)
      | (with_reducible exact LeO.none _)
      | (with_reducible refine LeO.ite ?_ ?_)
      | (with_reducible refine LeO.bind ?_ (fun _ => ?_))
      | exact ih0 _ _ _ _
      | exact ih1 _ _ _ _ _
      | exact ih2 _ _ _ _ _ _
      | exact ih3 _ _ _ _ _ _
      | exact LeO.none _
      | refine LeO.ite ?_ ?_
      | refine LeO.bind ?_ (fun _ => ?_)
    · intro y0 y1 y2 y3 y4
      unfold paraphrastlaw01_Few.l1
      repeat' first
      | (with_reducible exact ih0 _ _ _ _)
      | (with_reducible exact ih1 _ _ _ _ _)
      | (with_reducible exact ih2 _ _ _ _ _ _)
      | (with_reducible exact ih3 _ _ _ _ _ _)
      | (with_reducible exact LeO.refl _)
      | (with_reducible exact LeO.none _)
      | (with_reducible refine LeO.ite ?_ ?_)
      | (with_reducible refine LeO.bind ?_ (fun _ => ?_))
      | exact ih0 _ _ _ _
      | exact ih1 _ _ _ _ _
      | exact ih2 _ _ _ _ _ _
      | exact ih3 _ _ _ _ _ _
      | exact LeO.none _
      | refine LeO.ite ?_ ?_
      | refine LeO.bind ?_ (fun _ => ?_)
    · intro y0 y1 y2 y3 y4 y5
      unfold paraphrastlaw01_Few.j2
      repeat' first
      | (with_reducible exact ih0 _ _ _ _)
      | (with_reducible exact ih1 _ _ _ _ _)
      | (with_reducible exact ih2 _ _ _ _ _ _)
      | (with_reducible exact ih3 _ _ _ _ _ _)
      | (with_reducible exact LeO.refl _)
      | (with_reducible exact LeO.none _)
      | (with_reducible refine LeO.ite ?_ ?_)
      | (with_reducible refine LeO.bind ?_ (fun _ => ?_))
      | exact ih0 _ _ _ _
      | exact ih1 _ _ _ _ _
      | exact ih2 _ _ _ _ _ _
      | exact ih3 _ _ _ _ _ _
      | exact LeO.none _
      | refine LeO.ite ?_ ?_
      | refine LeO.bind ?_ (fun _ => ?_)
    · intro y0 y1 y2 y3 y4 y5
      unfold paraphrastlaw01_Few.l2
      repeat' first
      | (with_reducible exact ih0 _ _ _ _)
      | (with_reducible exact ih1 _ _ _ _ _)
      | (with_reducible exact ih2 _ _ _ _ _ _)
      | (with_reducible exact ih3 _ _ _ _ _ _)
      | (with_reducible exact LeO.refl _)
      | (with_reducible exact LeO.none _)
      | (with_reducible refine LeO.ite ?_ ?_)
      | (with_reducible refine LeO.bind ?_ (fun _ => ?_))
      | exact ih0 _ _ _ _
      | exact ih1 _ _ _ _ _
      | exact ih2 _ _ _ _ _ _
      | exact ih3 _ _ _ _ _ _
      | exact LeO.none _
      | refine LeO.ite ?_ ?_
      | refine LeO.bind ?_ (fun _ => ?_)
theorem paraphrastlaw01_Few.mono : ∀ a0 k, LeO (paraphrastlaw01_Few.f k a0) (paraphrastlaw01_Few.f (k + 1) a0) := by
  intro a0 k
  obtain ⟨ih0, ih1, ih2, ih3⟩ := paraphrastlaw01_Few.mono_l k
  unfold paraphrastlaw01_Few.f
  repeat' first
      | (with_reducible exact ih0 _ _ _ _)
      | (with_reducible exact ih1 _ _ _ _ _)
      | (with_reducible exact ih2 _ _ _ _ _ _)
      | (with_reducible exact ih3 _ _ _ _ _ _)
      | (with_reducible exact LeO.refl _)
      | (with_reducible exact LeO.none _)
      | (with_reducible refine LeO.ite ?_ ?_)
      | (with_reducible refine LeO.bind ?_ (fun _ => ?_))
      | exact ih0 _ _ _ _
      | exact ih1 _ _ _ _ _
      | exact ih2 _ _ _ _ _ _
      | exact ih3 _ _ _ _ _ _
      | exact LeO.none _
      | refine LeO.ite ?_ ?_
      | refine LeO.bind ?_ (fun _ => ?_)
set_option maxHeartbeats 8000000 in
set_option maxRecDepth 100000 in
theorem paraphrastlaw01_Few.calls (k : Nat) (A0 : Option Addr) (c0 : Nat) (l0 : List (S38)) (r : Bool) (w : World) (hr0 : Kd.C k38 w A0 l0.length l0) (hc0 : l0.length ≤ c0) (h : paraphrastlaw01_Few.f k l0 = some r) :
    Calls Tryd.prog 18 #[.slice A0 l0.length c0] w fun e w' => e = .returned (.bool r) ∧ Drawn0 w w' := by
  have HR0 := Aside0.mk hr0
  have HC0 := Aside0.mk hc0
  clear hr0 hc0
  have H : (paraphrastlaw01_Few.l0 k l0 0 0 0) = some r := h
  clear h
  have H' := Aside0.mk H
  clear H
  go_enter Tryd.func18, Tryd.ntmps18
  go_wp2
  go_loopg [3, 4, 5] k (fun kq v3 v4 v5 w' => ∃ (x3_1 : Int) (x4_1 : Int) (x5_1 : Int), v3 = .int .i64 x3_1 ∧ v4 = .int .i64 x4_1 ∧ v5 = .int .i64 x5_1 ∧ Aside0 (paraphrastlaw01_Few.l0 kq l0 x3_1 x4_1 x5_1 = some r) ∧ Aside0 (kq ≤ k) ∧ Drawn0 w w')
  case atStart => exact ⟨(0), (0), (0), (by first | rfl | (simp; done) | (simp [*]; done)), (by first | rfl | (simp; done) | (simp [*]; done)), (by first | rfl | (simp; done) | (simp [*]; done)), H', ⟨Nat.le_refl _⟩, by repeat (first | exact Drawn0.refl _ | apply Drawn0.step)⟩
  case round =>
    clear H'
    try clear c1
    obtain ⟨x3_1, x4_1, x5_1, rfl, rfl, rfl, HA, HK1, ⟨m1, rfl⟩⟩ := hrel
    cases gk with
    | zero => exact absurd HA.out (by simp [paraphrastlaw01_Few.l0])
    | succ k1 =>
      have H := HA.out
      clear HA
      simp only [paraphrastlaw01_Few.l0] at H
      by_cases c2 : x5_1 < (l0.length : Int)
      · rw [if_pos c2] at H
        have c2b0 : decide (x5_1 < (l0.length : Int)) = true := decide_eq_true c2
        clear c2
        by_cases c3 : 0 ≤ x5_1
        · rw [if_pos c3] at H
          have c3b0 : decide (0 ≤ x5_1) = true := decide_eq_true c3
          clear c3
          by_cases c4 : (((rd_T38 l0 x5_1).f1).length : Int) > 12
          · rw [if_pos c4] at H
            have c4b0 : decide (12 < (((rd_T38 l0 x5_1).f1).length : Int)) = true := decide_eq_true c4
            have c4b1 : decide (12 < ((rd_T38 l0 x5_1).f1).length) = true := decide_eq_true (by omega)
            clear c4
            obtain rfl := Option.some.inj H
            have p240 : 0 ≤ (x5_1 : Int) := of_decide_eq_true (by first | (with_reducible assumption) | assumption)
            have q240 : x5_1 < (l0.length : Int) := of_decide_eq_true (by first | (with_reducible assumption) | assumption)
            obtain ⟨ad240, A240_1, c240_1, e240, hx240_0, hx240_1, hl240_1, hi240_1⟩ := at_T38 HR0.out x5_1 p240 q240
            cases e240
            have HR240_1 := Aside0.mk hi240_1
            have HC240_1 := Aside0.mk hl240_1
            clear hi240_1 hl240_1
            replace p240 := eq_true p240
            replace q240 := eq_true q240
            go_wp2
            go_ret
            exact ⟨by first | rfl | (simp; done) | (simp [*]; done), by repeat (first | exact Drawn0.refl _ | apply Drawn0.step)⟩
          · rw [if_neg c4] at H
            have c4b0 : decide (12 < (((rd_T38 l0 x5_1).f1).length : Int)) = false := decide_eq_false c4
            have c4b1 : decide (12 < ((rd_T38 l0 x5_1).f1).length) = false := decide_eq_false (by omega)
            clear c4
            have H' := Aside0.mk H
            clear H
            have p240 : 0 ≤ (x5_1 : Int) := of_decide_eq_true (by first | (with_reducible assumption) | assumption)
            have q240 : x5_1 < (l0.length : Int) := of_decide_eq_true (by first | (with_reducible assumption) | assumption)
            obtain ⟨ad240, A240_1, c240_1, e240, hx240_0, hx240_1, hl240_1, hi240_1⟩ := at_T38 HR0.out x5_1 p240 q240
            cases e240
            have HR240_1 := Aside0.mk hi240_1
            have HC240_1 := Aside0.mk hl240_1
            clear hi240_1 hl240_1
            replace p240 := eq_true p240
            replace q240 := eq_true q240
            go_wp2
            go_loopg [3, 4, 6] k1 (fun kq v3 v4 v6 w' => ∃ (x3_2 : Int) (x4_2 : Int) (x6_2 : Int), v3 = .int .i64 x3_2 ∧ v4 = .int .i64 x4_2 ∧ v6 = .int .i64 x6_2 ∧ Aside0 (paraphrastlaw01_Few.l1 kq l0 x3_2 x4_2 x5_1 x6_2 = some r) ∧ Aside0 (kq ≤ k1) ∧ Drawn0 w w')
            case atStart => exact ⟨(x3_1), (x4_1), (0), (by first | rfl | (simp; done) | (simp [*]; done)), (by first | rfl | (simp; done) | (simp [*]; done)), (by first | rfl | (simp; done) | (simp [*]; done)), H', ⟨Nat.le_refl _⟩, by repeat (first | exact Drawn0.refl _ | apply Drawn0.step)⟩
            case round =>
              clear H'
              try clear c1
              try clear c2
              try clear c2b0
              try clear p2
              try clear q2
              try clear hx2
              try clear c3
              try clear c3b0
              try clear c4
              try clear c4b0
              try clear c4b1
              try clear hx240_0
              try clear hx240_1
              try clear p240
              try clear q240
              obtain ⟨x3_2, x4_2, x6_2, rfl, rfl, rfl, HA, HK2, ⟨m2, rfl⟩⟩ := hrel
              cases gk with
              | zero => exact absurd HA.out (by simp [paraphrastlaw01_Few.l1])
              | succ k2 =>
                have H := HA.out
                clear HA
                simp only [paraphrastlaw01_Few.l1] at H
                by_cases c5 : 0 ≤ x5_1
                · rw [if_pos c5] at H
                  have c5b0 : decide (0 ≤ x5_1) = true := decide_eq_true c5
                  clear c5
                  by_cases c6 : x5_1 < (l0.length : Int)
                  · rw [if_pos c6] at H
                    have c6b0 : decide (x5_1 < (l0.length : Int)) = true := decide_eq_true c6
                    clear c6
                    by_cases c7 : x6_2 < (((rd_T38 l0 x5_1).f1).length : Int)
                    · rw [if_pos c7] at H
                      have c7b0 : decide (x6_2 < (((rd_T38 l0 x5_1).f1).length : Int)) = true := decide_eq_true c7
                      clear c7
                      by_cases c8 : 0 ≤ x6_2
                      · rw [if_pos c8] at H
                        have c8b0 : decide (0 ≤ x6_2) = true := decide_eq_true c8
                        clear c8
                        have HC9 := Aside0.mk H
                        clear H
                        have p241 : 0 ≤ (x5_1 : Int) := of_decide_eq_true (by first | (with_reducible assumption) | assumption)
                        have q241 : x5_1 < (l0.length : Int) := of_decide_eq_true (by first | (with_reducible assumption) | assumption)
                        obtain ⟨ad241, A241_1, c241_1, e241, hx241_0, hx241_1, hl241_1, hi241_1⟩ := at_T38 HR0.out x5_1 p241 q241
                        obtain rfl : ad240 = ad241 := (by injection e241)
                        have HR241_1 := Aside0.mk hi241_1
                        have HC241_1 := Aside0.mk hl241_1
                        clear hi241_1 hl241_1
                        replace p241 := eq_true p241
                        replace q241 := eq_true q241
                        have p242 : 0 ≤ (x5_1 : Int) := of_decide_eq_true (by first | (with_reducible assumption) | assumption)
                        have q242 : x5_1 < (l0.length : Int) := of_decide_eq_true (by first | (with_reducible assumption) | assumption)
                        obtain ⟨ad242, A242_1, c242_1, e242, hx242_0, hx242_1, hl242_1, hi242_1⟩ := at_T38 HR0.out x5_1 p242 q242
                        obtain rfl : ad240 = ad242 := (by injection e242)
                        have HR242_1 := Aside0.mk hi242_1
                        have HC242_1 := Aside0.mk hl242_1
                        clear hi242_1 hl242_1
                        replace p242 := eq_true p242
                        replace q242 := eq_true q242
                        have ea_ := Option.some.inj (hx241_1.symm.trans hx242_1)
                        injection ea_ with ea_ en_ ec_
                        subst ea_
                        subst ec_
                        clear en_
                        have p243 : 0 ≤ (x6_2 : Int) := of_decide_eq_true (by first | (with_reducible assumption) | assumption)
                        have q243 : x6_2 < (((rd_T38 l0 x5_1).f1).length : Int) := of_decide_eq_true (by first | (with_reducible assumption) | assumption)
                        obtain ⟨ad243, A243_2, c243_2, e243, hx243_0, hx243_1, hx243_2, hl243_2, hi243_2⟩ := at_T54 HR242_1.out x6_2 p243 q243
                        cases e243
                        have HR243_2 := Aside0.mk hi243_2
                        have HC243_2 := Aside0.mk hl243_2
                        clear hi243_2 hl243_2
                        replace p243 := eq_true p243
                        replace q243 := eq_true q243
                        go_upto_region 11 with (fail)
                        go_cut [57] (fun v57 wc => ∃ (kq : Nat) (x57_8 : Bool), v57 = .bool x57_8 ∧ Aside0 (paraphrastlaw01_Few.j2 kq l0 (wrap64 (x3_2 + (((rd_T54 ((rd_T38 l0 x5_1).f1) x6_2).f2).length : Int))) x4_2 x5_1 x6_2 x57_8 = some r) ∧ Aside0 (kq ≤ k2) ∧ Drawn0 w wc)
                        case first =>
                          have H := HC9.out
                          clear HC9
                          by_cases c10 : (wrap64 (x3_2 + (((rd_T54 ((rd_T38 l0 x5_1).f1) x6_2).f2).length : Int))) > 1500
                          · rw [if_pos c10] at H
                            have c10b0 : decide (1500 < (wrap64 (x3_2 + (((rd_T54 ((rd_T38 l0 x5_1).f1) x6_2).f2).length : Int)))) = true := decide_eq_true c10
                            clear c10
                            (first | rw [c10b0] | (simp only [i64_w, i32_w]; rw [c10b0]) | skip)
                            have H' := Aside0.mk H
                            clear H
                            go_wp2
                            go_meet
                            case rel => exact ⟨_, (true), (by first | rfl | (simp; done) | (simp [*]; done)), H', ⟨by have := HK1.out; have := HK2.out; first | omega | exact Nat.le_refl _⟩, by repeat (first | exact Drawn0.refl _ | apply Drawn0.step)⟩
                          · rw [if_neg c10] at H
                            have c10b0 : decide (1500 < (wrap64 (x3_2 + (((rd_T54 ((rd_T38 l0 x5_1).f1) x6_2).f2).length : Int)))) = false := decide_eq_false c10
                            clear c10
                            (first | rw [c10b0] | (simp only [i64_w, i32_w]; rw [c10b0]) | skip)
                            have H' := Aside0.mk H
                            clear H
                            have p244 : 0 ≤ (x5_1 : Int) := of_decide_eq_true (by first | (with_reducible assumption) | assumption)
                            have q244 : x5_1 < (l0.length : Int) := of_decide_eq_true (by first | (with_reducible assumption) | assumption)
                            obtain ⟨ad244, A244_1, c244_1, e244, hx244_0, hx244_1, hl244_1, hi244_1⟩ := at_T38 HR0.out x5_1 p244 q244
                            obtain rfl : ad240 = ad244 := (by injection e244)
                            have HR244_1 := Aside0.mk hi244_1
                            have HC244_1 := Aside0.mk hl244_1
                            clear hi244_1 hl244_1
                            replace p244 := eq_true p244
                            replace q244 := eq_true q244
                            have p245 : 0 ≤ (x6_2 : Int) := of_decide_eq_true (by first | (with_reducible assumption) | assumption)
                            have q245 : x6_2 < (((rd_T38 l0 x5_1).f1).length : Int) := of_decide_eq_true (by first | (with_reducible assumption) | assumption)
                            obtain ⟨ad245, A245_2, c245_2, e245, hx245_0, hx245_1, hx245_2, hl245_2, hi245_2⟩ := at_T54 HR244_1.out x6_2 p245 q245
                            cases e245
                            have HR245_2 := Aside0.mk hi245_2
                            have HC245_2 := Aside0.mk hl245_2
                            clear hi245_2 hl245_2
                            replace p245 := eq_true p245
                            replace q245 := eq_true q245
                            go_wp2
                            go_meet
                            case rel => exact ⟨_, (decide ((((rd_T54 ((rd_T38 l0 x5_1).f1) x6_2).f0).size : Int) > 1000)), (by first | rfl | (simp; done) | (simp [*]; done)), H', ⟨by have := HK1.out; have := HK2.out; first | omega | exact Nat.le_refl _⟩, by repeat (first | exact Drawn0.refl _ | apply Drawn0.step)⟩
                        case rest =>
                          clear HC9
                          try clear c1
                          try clear c2
                          try clear c2b0
                          try clear p2
                          try clear q2
                          try clear hx2
                          try clear c3
                          try clear c3b0
                          try clear c4
                          try clear c4b0
                          try clear c4b1
                          try clear c5
                          try clear c5b0
                          try clear c6
                          try clear c6b0
                          try clear p6
                          try clear c7
                          try clear c7b0
                          try clear c8
                          try clear c8b0
                          try clear c10
                          try clear c10b0
                          try clear hx240_0
                          try clear hx240_1
                          try clear hx241_0
                          try clear hx241_1
                          try clear hx242_0
                          try clear hx242_1
                          try clear hx243_0
                          try clear hx243_1
                          try clear hx243_2
                          try clear hx244_0
                          try clear hx244_1
                          try clear hx245_0
                          try clear hx245_1
                          try clear hx245_2
                          try clear p2
                          try clear p240
                          try clear p241
                          try clear p242
                          try clear p243
                          try clear p244
                          try clear p245
                          try clear q2
                          try clear q240
                          try clear q241
                          try clear q242
                          try clear q243
                          try clear q244
                          try clear q245
                          obtain ⟨kq, x57_8, rfl, HA, HJ8, ⟨mc8, rfl⟩⟩ := hcut
                          cases kq with
                          | zero => exact absurd HA.out (by simp [paraphrastlaw01_Few.j2])
                          | succ kj8 =>
                            have H := HA.out
                            clear HA
                            simp only [paraphrastlaw01_Few.j2] at H
                            by_cases c11 : x57_8 = true
                            · subst c11
                              have H1 : (some false) = some r := by rw [if_pos rfl] at H; exact H
                              clear H
                              have H := H1
                              clear H1
                              obtain rfl := Option.some.inj H
                              go_wp2
                              go_ret
                              exact ⟨by first | rfl | (simp; done) | (simp [*]; done), by repeat (first | exact Drawn0.refl _ | apply Drawn0.step)⟩
                            · replace c11 := Bool.eq_false_iff.mpr c11
                              subst c11
                              have H1 : (paraphrastlaw01_Few.l2 kj8 l0 (wrap64 (x3_2 + (((rd_T54 ((rd_T38 l0 x5_1).f1) x6_2).f2).length : Int))) x4_2 x5_1 x6_2 0) = some r := by rw [if_neg (show ¬ (false = true) by decide)] at H; exact H
                              clear H
                              have H := H1
                              clear H1
                              have H' := Aside0.mk H
                              clear H
                              go_wp2
                              go_loopg [4, 7] kj8 (fun kq v4 v7 w' => ∃ (x4_4 : Int) (x7_4 : Int), v4 = .int .i64 x4_4 ∧ v7 = .int .i64 x7_4 ∧ Aside0 (paraphrastlaw01_Few.l2 kq l0 (wrap64 (x3_2 + (((rd_T54 ((rd_T38 l0 x5_1).f1) x6_2).f2).length : Int))) x4_4 x5_1 x6_2 x7_4 = some r) ∧ Aside0 (kq ≤ kj8) ∧ Drawn0 w w')
                              case atStart => exact ⟨(x4_2), (0), (by first | rfl | (simp; done) | (simp [*]; done)), (by first | rfl | (simp; done) | (simp [*]; done)), H', ⟨Nat.le_refl _⟩, by repeat (first | exact Drawn0.refl _ | apply Drawn0.step)⟩
                              case round =>
                                clear H'
                                try clear c1
                                try clear c2
                                try clear c2b0
                                try clear p2
                                try clear q2
                                try clear hx2
                                try clear c3
                                try clear c3b0
                                try clear c4
                                try clear c4b0
                                try clear c4b1
                                try clear c5
                                try clear c5b0
                                try clear c6
                                try clear c6b0
                                try clear p6
                                try clear c7
                                try clear c7b0
                                try clear c8
                                try clear c8b0
                                try clear c10
                                try clear c10b0
                                try clear c11
                                try clear hx240_0
                                try clear hx240_1
                                try clear hx241_0
                                try clear hx241_1
                                try clear hx242_0
                                try clear hx242_1
                                try clear hx243_0
                                try clear hx243_1
                                try clear hx243_2
                                try clear hx244_0
                                try clear hx244_1
                                try clear hx245_0
                                try clear hx245_1
                                try clear hx245_2
                                try clear p2
                                try clear p240
                                try clear p241
                                try clear p242
                                try clear p243
                                try clear p244
                                try clear p245
                                try clear p6
                                try clear q2
                                try clear q240
                                try clear q241
                                try clear q242
                                try clear q243
                                try clear q244
                                try clear q245
                                obtain ⟨x4_4, x7_4, rfl, rfl, HA, HK4, ⟨m4, rfl⟩⟩ := hrel
                                cases gk with
                                | zero => exact absurd HA.out (by simp [paraphrastlaw01_Few.l2])
                                | succ k4 =>
                                  have H := HA.out
                                  clear HA
                                  simp only [paraphrastlaw01_Few.l2] at H
                                  by_cases c12 : 0 ≤ x5_1
                                  · rw [if_pos c12] at H
                                    have c12b0 : decide (0 ≤ x5_1) = true := decide_eq_true c12
                                    clear c12
                                    by_cases c13 : x5_1 < (l0.length : Int)
                                    · rw [if_pos c13] at H
                                      have c13b0 : decide (x5_1 < (l0.length : Int)) = true := decide_eq_true c13
                                      clear c13
                                      by_cases c14 : 0 ≤ x6_2
                                      · rw [if_pos c14] at H
                                        have c14b0 : decide (0 ≤ x6_2) = true := decide_eq_true c14
                                        clear c14
                                        by_cases c15 : x6_2 < (((rd_T38 l0 x5_1).f1).length : Int)
                                        · rw [if_pos c15] at H
                                          have c15b0 : decide (x6_2 < (((rd_T38 l0 x5_1).f1).length : Int)) = true := decide_eq_true c15
                                          clear c15
                                          by_cases c16 : x7_4 < (((rd_T54 ((rd_T38 l0 x5_1).f1) x6_2).f2).length : Int)
                                          · rw [if_pos c16] at H
                                            have c16b0 : decide (x7_4 < (((rd_T54 ((rd_T38 l0 x5_1).f1) x6_2).f2).length : Int)) = true := decide_eq_true c16
                                            clear c16
                                            by_cases c17 : 0 ≤ x7_4
                                            · rw [if_pos c17] at H
                                              have c17b0 : decide (0 ≤ x7_4) = true := decide_eq_true c17
                                              clear c17
                                              have H' := Aside0.mk H
                                              clear H
                                              have p246 : 0 ≤ (x5_1 : Int) := of_decide_eq_true (by first | (with_reducible assumption) | assumption)
                                              have q246 : x5_1 < (l0.length : Int) := of_decide_eq_true (by first | (with_reducible assumption) | assumption)
                                              obtain ⟨ad246, A246_1, c246_1, e246, hx246_0, hx246_1, hl246_1, hi246_1⟩ := at_T38 HR0.out x5_1 p246 q246
                                              obtain rfl : ad240 = ad246 := (by injection e246)
                                              have HR246_1 := Aside0.mk hi246_1
                                              have HC246_1 := Aside0.mk hl246_1
                                              clear hi246_1 hl246_1
                                              replace p246 := eq_true p246
                                              replace q246 := eq_true q246
                                              have p247 : 0 ≤ (x6_2 : Int) := of_decide_eq_true (by first | (with_reducible assumption) | assumption)
                                              have q247 : x6_2 < (((rd_T38 l0 x5_1).f1).length : Int) := of_decide_eq_true (by first | (with_reducible assumption) | assumption)
                                              obtain ⟨ad247, A247_2, c247_2, e247, hx247_0, hx247_1, hx247_2, hl247_2, hi247_2⟩ := at_T54 HR246_1.out x6_2 p247 q247
                                              cases e247
                                              have HR247_2 := Aside0.mk hi247_2
                                              have HC247_2 := Aside0.mk hl247_2
                                              clear hi247_2 hl247_2
                                              replace p247 := eq_true p247
                                              replace q247 := eq_true q247
                                              have p248 : 0 ≤ (x5_1 : Int) := of_decide_eq_true (by first | (with_reducible assumption) | assumption)
                                              have q248 : x5_1 < (l0.length : Int) := of_decide_eq_true (by first | (with_reducible assumption) | assumption)
                                              obtain ⟨ad248, A248_1, c248_1, e248, hx248_0, hx248_1, hl248_1, hi248_1⟩ := at_T38 HR0.out x5_1 p248 q248
                                              obtain rfl : ad240 = ad248 := (by injection e248)
                                              have HR248_1 := Aside0.mk hi248_1
                                              have HC248_1 := Aside0.mk hl248_1
                                              clear hi248_1 hl248_1
                                              replace p248 := eq_true p248
                                              replace q248 := eq_true q248
                                              have ea_ := Option.some.inj (hx246_1.symm.trans hx248_1)
                                              injection ea_ with ea_ en_ ec_
                                              subst ea_
                                              subst ec_
                                              clear en_
                                              have p249 : 0 ≤ (x6_2 : Int) := of_decide_eq_true (by first | (with_reducible assumption) | assumption)
                                              have q249 : x6_2 < (((rd_T38 l0 x5_1).f1).length : Int) := of_decide_eq_true (by first | (with_reducible assumption) | assumption)
                                              obtain ⟨ad249, A249_2, c249_2, e249, hx249_0, hx249_1, hx249_2, hl249_2, hi249_2⟩ := at_T54 HR248_1.out x6_2 p249 q249
                                              cases e249
                                              have HR249_2 := Aside0.mk hi249_2
                                              have HC249_2 := Aside0.mk hl249_2
                                              clear hi249_2 hl249_2
                                              replace p249 := eq_true p249
                                              replace q249 := eq_true q249
                                              have ea_ := Option.some.inj (hx247_2.symm.trans hx249_2)
                                              injection ea_ with ea_ en_ ec_
                                              subst ea_
                                              subst ec_
                                              clear en_
                                              have p250 : 0 ≤ (x7_4 : Int) := of_decide_eq_true (by first | (with_reducible assumption) | assumption)
                                              have q250 : x7_4 < (((rd_T54 ((rd_T38 l0 x5_1).f1) x6_2).f2).length : Int) := of_decide_eq_true (by first | (with_reducible assumption) | assumption)
                                              obtain ⟨ad250, A250_0, c250_0, e250, hx250_0, hl250_0, hi250_0⟩ := at_L2 HR249_2.out x7_4 p250 q250
                                              cases e250
                                              have HR250_0 := Aside0.mk hi250_0
                                              have HC250_0 := Aside0.mk hl250_0
                                              clear hi250_0 hl250_0
                                              replace p250 := eq_true p250
                                              replace q250 := eq_true q250
                                              go_wp2
                                              go_roundg k4
                                              case measure => have := HK1.out; have := HK2.out; have := HJ8.out; have := HK4.out; omega
                                              case rel => exact ⟨(wrap64 (x4_4 + ((rd_L2 ((rd_T54 ((rd_T38 l0 x5_1).f1) x6_2).f2) x7_4).length : Int))), (wrap64 (x7_4 + 1)), (by first | rfl | (simp; done) | (simp [*]; done)), (by first | rfl | (simp; done) | (simp [*]; done)), H', ⟨by have := HK1.out; have := HK2.out; have := HJ8.out; have := HK4.out; omega⟩, by repeat (first | exact Drawn0.refl _ | apply Drawn0.step)⟩
                                            · rw [if_neg c17] at H
                                              exact absurd H (by simp)
                                          · rw [if_neg c16] at H
                                            have c16b0 : decide (x7_4 < (((rd_T54 ((rd_T38 l0 x5_1).f1) x6_2).f2).length : Int)) = false := decide_eq_false c16
                                            clear c16
                                            have H' := Aside0.mk H
                                            clear H
                                            have p246 : 0 ≤ (x5_1 : Int) := of_decide_eq_true (by first | (with_reducible assumption) | assumption)
                                            have q246 : x5_1 < (l0.length : Int) := of_decide_eq_true (by first | (with_reducible assumption) | assumption)
                                            obtain ⟨ad246, A246_1, c246_1, e246, hx246_0, hx246_1, hl246_1, hi246_1⟩ := at_T38 HR0.out x5_1 p246 q246
                                            obtain rfl : ad240 = ad246 := (by injection e246)
                                            have HR246_1 := Aside0.mk hi246_1
                                            have HC246_1 := Aside0.mk hl246_1
                                            clear hi246_1 hl246_1
                                            replace p246 := eq_true p246
                                            replace q246 := eq_true q246
                                            have p247 : 0 ≤ (x6_2 : Int) := of_decide_eq_true (by first | (with_reducible assumption) | assumption)
                                            have q247 : x6_2 < (((rd_T38 l0 x5_1).f1).length : Int) := of_decide_eq_true (by first | (with_reducible assumption) | assumption)
                                            obtain ⟨ad247, A247_2, c247_2, e247, hx247_0, hx247_1, hx247_2, hl247_2, hi247_2⟩ := at_T54 HR246_1.out x6_2 p247 q247
                                            cases e247
                                            have HR247_2 := Aside0.mk hi247_2
                                            have HC247_2 := Aside0.mk hl247_2
                                            clear hi247_2 hl247_2
                                            replace p247 := eq_true p247
                                            replace q247 := eq_true q247
                                            go_wp2
                                            go_roundg k4
                                            case measure => have := HK1.out; have := HK2.out; have := HJ8.out; have := HK4.out; omega
                                            case rel => exact ⟨((wrap64 (x3_2 + (((rd_T54 ((rd_T38 l0 x5_1).f1) x6_2).f2).length : Int)))), (x4_4), (wrap64 (x6_2 + 1)), (by first | rfl | (simp; done) | (simp [*]; done)), (by first | rfl | (simp; done) | (simp [*]; done)), (by first | rfl | (simp; done) | (simp [*]; done)), H', ⟨by have := HK1.out; have := HK2.out; have := HJ8.out; have := HK4.out; omega⟩, by repeat (first | exact Drawn0.refl _ | apply Drawn0.step)⟩
                                        · rw [if_neg c15] at H
                                          exact absurd H (by simp)
                                      · rw [if_neg c14] at H
                                        exact absurd H (by simp)
                                    · rw [if_neg c13] at H
                                      exact absurd H (by simp)
                                  · rw [if_neg c12] at H
                                    exact absurd H (by simp)
                      · rw [if_neg c8] at H
                        exact absurd H (by simp)
                    · rw [if_neg c7] at H
                      have c7b0 : decide (x6_2 < (((rd_T38 l0 x5_1).f1).length : Int)) = false := decide_eq_false c7
                      clear c7
                      have H' := Aside0.mk H
                      clear H
                      have p241 : 0 ≤ (x5_1 : Int) := of_decide_eq_true (by first | (with_reducible assumption) | assumption)
                      have q241 : x5_1 < (l0.length : Int) := of_decide_eq_true (by first | (with_reducible assumption) | assumption)
                      obtain ⟨ad241, A241_1, c241_1, e241, hx241_0, hx241_1, hl241_1, hi241_1⟩ := at_T38 HR0.out x5_1 p241 q241
                      obtain rfl : ad240 = ad241 := (by injection e241)
                      have HR241_1 := Aside0.mk hi241_1
                      have HC241_1 := Aside0.mk hl241_1
                      clear hi241_1 hl241_1
                      replace p241 := eq_true p241
                      replace q241 := eq_true q241
                      go_wp2
                      go_roundg k2
                      case measure => have := HK1.out; have := HK2.out; omega
                      case rel => exact ⟨(x3_2), (x4_2), (wrap64 (x5_1 + 1)), (by first | rfl | (simp; done) | (simp [*]; done)), (by first | rfl | (simp; done) | (simp [*]; done)), (by first | rfl | (simp; done) | (simp [*]; done)), H', ⟨by have := HK1.out; have := HK2.out; omega⟩, by repeat (first | exact Drawn0.refl _ | apply Drawn0.step)⟩
                  · rw [if_neg c6] at H
                    exact absurd H (by simp)
                · rw [if_neg c5] at H
                  exact absurd H (by simp)
        · rw [if_neg c3] at H
          exact absurd H (by simp)
      · rw [if_neg c2] at H
        have c2b0 : decide (x5_1 < (l0.length : Int)) = false := decide_eq_false c2
        clear c2
        obtain rfl := Option.some.inj H
        go_wp2
        go_ret
        exact ⟨by first | rfl | (simp; done) | (simp [*]; done), by repeat (first | exact Drawn0.refl _ | apply Drawn0.step)⟩
end Go.Proofs.YtfmpaofbnjlniaaDoor.F
namespace Go.Proofs.YtfmpaofbnjlniaaDoor.F
open Go.RowKit Go.Proofs.YtfmpaofbnjlniaaDoorW.PrintWords Go.Proofs.YtfmpaofbnjlniaaDoorW.PrintLast Go.Proofs.YtfmpaofbnjlniaaDoorW.PrintMore
attribute [local go_sem] max2_int min2_int max_two min_two max_three min_three max_four min_four
set_option linter.unusedVariables false
set_option linter.unusedSimpArgs false
/-! ### paraphrastref01_Symbols: function 20 -/
def paraphrastref01_Symbols.l0 : Nat → List (S67) → Int → Int → List (S54) → Option ((List (S67)))
  | 0, _, _, _, _ => none
  | k + 1, x3, x4, x270000, x270001 => if x4 < (x270001.length : Int) then (if 0 ≤ x4 then (if x3.length < 5864062014805 then (paraphrastref01_Symbols.l0 k (x3 ++ [(⟨(rd_T54 x270001 x4).f0, (rd_T54 x270001 x4).f1⟩ : S67)]) (wrap64 (x4 + 1)) x270000 x270001) else (none)) else (none)) else (some x3)
def paraphrastref01_Symbols.f (k : Nat) (a0_0 : Int) (l0_1 : List (S54)) : Option ((List (S67))) := paraphrastref01_Symbols.l0 k ([] : List (S67)) 0 a0_0 l0_1
def paraphrastref01_Symbols.T5 : Bool × List (List Nat × List Nat) := (true, [([], []), ([], []), ([1], [1]), ([], []), ([2, 3], [2, 3]), ([4], [4]), ([5], [5]), ([], []), ([7], [7]), ([], []), ([8, 9], [8, 9]), ([10], [10]), ([11], [11]), ([6, 12], [6, 12]), ([13], [13]), ([0, 14], [0, 14]), ([15, 15, 0, 1, 2, 3, 4, 5, 6, 7, 8, 9, 10, 11, 12, 13, 14, 15], [0, 15])])
def paraphrastref01_Symbols.B5 : List Nat := [0, 0, 2, 0, 14, 30, 62, 0, 128, 0, 896, 1920, 3968, 8190, 16382, 32767, 65535]
theorem paraphrastref01_Symbols.tab5 : rtab .any (opsOf Tryd.f20 5) = paraphrastref01_Symbols.T5 := by kernel_rfl
theorem paraphrastref01_Symbols.bits5 : waitsOk paraphrastref01_Symbols.T5.2 paraphrastref01_Symbols.B5 = true := by kernel_rfl
set_option maxHeartbeats 8000000 in
set_option maxRecDepth 100000 in
theorem paraphrastref01_Symbols.calls (k : Nat) (a0_0 : Int) (A0_1 : Option Addr) (c0_1 : Nat) (l0_1 : List (S54)) (r : List (S67)) (w : World) (hr0_1 : Kd.C k54 w A0_1 l0_1.length l0_1) (hc0_1 : l0_1.length ≤ c0_1) (h : paraphrastref01_Symbols.f k a0_0 l0_1 = some r) :
    Calls Tryd.prog 20 #[.agg #[.int .i64 a0_0, .slice A0_1 l0_1.length c0_1]] w fun e w' => ∃ v0_ : Value, e = .returned (v0_) ∧ Kd.R k67 67 w' w.heap.size (fun _ => True) v0_ r ∧ Below w.heap.size w w' := by
  have hu38 := Tryd.underlying38
  have hu67 := Tryd.underlying67
  have HR0_1 := Aside0.mk hr0_1
  have HC0_1 := Aside0.mk hc0_1
  clear hr0_1 hc0_1
  have HB := Aside0.mk (Below.refl w.heap.size w)
  have H : (paraphrastref01_Symbols.l0 k ([] : List (S67)) 0 a0_0 l0_1) = some r := h
  clear h
  have H' := Aside0.mk H
  clear H
  go_enter Tryd.func20, Tryd.ntmps20
  go_wp2_with (first | ((with_reducible refine gate_dst (N := 1) rfl ?_); refine box_event ?hg (N := 1) ?hd (cs := #[.int .i64 a0_0, .slice A0_1 l0_1.length c0_1]) (t := 38) ?hr ?_; (case hd => rfl); (case hg => rfl); (case hr => first | (go_simp; done) | (go_simp; rfl)); intro gb269 hg w2 hbox hb; have n0_ := Aside0.mk (below_step (by repeat (first | (with_reducible first | exact HB.out | apply below_alloc | apply pw_below_drewN | apply below_drew1) | exact HB.out)) hb); have n1_ := Aside0.mk (hbox); have n2_ := Aside0.mk ((by rw [hg]; exact (below_size (by repeat (first | (with_reducible first | exact HB.out | apply below_alloc | apply pw_below_drewN | apply below_drew1) | exact HB.out))) : w.heap.size ≤ gb269)); have n3_ := Aside0.mk ((by rw [hg]; exact (below_size (by repeat (first | (with_reducible first | exact HB.out | apply below_alloc | apply pw_below_drewN | apply below_drew1) | exact HB.out))) : w.heap.size ≤ gb269)); clear HB; have HB := n0_; have BK269 := n1_; have GW269 := n2_; have GE269 := n3_; clear n0_ n1_ n2_ n3_; clear hb hbox hg))
  go_loopg [3, 4] k (fun kq v3 v4 w' => ∃ (x3_1 : List (S67)) (x4_1 : Int), v4 = .int .i64 x4_1 ∧ Aside0 (paraphrastref01_Symbols.l0 kq x3_1 x4_1 a0_0 l0_1 = some r) ∧ Aside0 (kq ≤ k) ∧ Aside0 (Kd.R k67 67 w' w.heap.size (fun _ => True) v3 x3_1) ∧ Aside0 (w'.heap[gb269]? = some (.cells #[.int .i64 a0_0, (.slice A0_1 l0_1.length c0_1)] 38 (0, 0))) ∧ Aside0 (Below w.heap.size w w'))
  case atStart => exact ⟨(([] : List (S67))), (0), (by first | rfl | (simp; done) | (simp [*]; done)), H', ⟨Nat.le_refl _⟩, ⟨by first | exact Kd.R_nil _ _ _ _ _ | exact Kd.N_nil _ _ _ _ _ | exact Kd.V_nil _ _ _ _ _ | exact Kd.Q_nil _ _ _ _ _ | exact Kd.S_nil _ _ _ _ _⟩, ⟨by (with_reducible repeat (first | refine blk_drewN ?_ _ | refine blk_drew ?_ | refine blk_alloc ?_ _)); exact BK269.out⟩, ⟨by repeat (first | (with_reducible first | exact HB.out | apply below_alloc | apply pw_below_drewN | apply below_drew1 | refine below_set ?_ GE269.out) | exact HB.out)⟩⟩
  case round =>
    clear H'
    try clear c2
    try clear p2
    obtain ⟨x3_1, x4_1, rfl, HA, HK1, HO_3, BK269, HB⟩ := hrel
    cases gk with
    | zero => exact absurd HA.out (by simp [paraphrastref01_Symbols.l0])
    | succ k1 =>
      have H := HA.out
      clear HA
      simp only [paraphrastref01_Symbols.l0] at H
      by_cases c3 : x4_1 < (l0_1.length : Int)
      · rw [if_pos c3] at H
        have c3b0 : decide (x4_1 < (l0_1.length : Int)) = true := decide_eq_true c3
        clear c3
        by_cases c4 : 0 ≤ x4_1
        · rw [if_pos c4] at H
          have c4b0 : decide (0 ≤ x4_1) = true := decide_eq_true c4
          clear c4
          by_cases c5 : x3_1.length < 5864062014805
          · rw [if_pos c5] at H
            have LMc5 := Aside0.mk c5
            clear c5
            obtain ⟨y272, hy272⟩ : ∃ y_ : List (S67), y_ = (x3_1 ++ [(⟨(rd_T54 l0_1 x4_1).f0, (rd_T54 l0_1 x4_1).f1⟩ : S67)]) := ⟨_, rfl⟩
            replace H : (paraphrastref01_Symbols.l0 k1 y272 (wrap64 (x4_1 + 1)) a0_0 l0_1) = some r := by first | (rw [hy272]; with_reducible exact H) | (have H2_ := (Option.bind_some _ _).symm.trans H; rw [hy272]; with_reducible exact H2_) | (have H2_ := (Option.bind_some _ _).symm.trans H; with_reducible exact H2_) | with_reducible exact H | (rw [hy272]; exact H) | exact H
            have Ny272 := Aside0.mk hy272
            clear hy272
            have H' := Aside0.mk H
            clear H
            have hcz6_0 : wr.cell? ⟨gb269, 0, none⟩ = some (.int .i64 a0_0) := (blk_cell BK269.out 0).trans rfl
            have hcz6_1 : wr.cell? ⟨gb269, 1, none⟩ = some (.slice A0_1 l0_1.length c0_1) := (blk_cell BK269.out 1).trans rfl
            have hfz6_0 := blk_frozen BK269.out 0
            have hfz6_1 := blk_frozen BK269.out 1
            try go_wp2
            have n0_ := Aside0.mk (Kd.R_drew HO_3.out)
            have n1_ := Aside0.mk (blk_drew BK269.out)
            have n2_ := Aside0.mk (below_drew1 HB.out)
            clear HO_3
            clear BK269
            clear HB
            have HO_3 := n0_
            have BK269 := n1_
            have HB := n2_
            clear n0_ n1_ n2_
            have p270 : 0 ≤ (x4_1 : Int) := of_decide_eq_true (by first | (with_reducible assumption) | assumption)
            have q270 : x4_1 < (l0_1.length : Int) := of_decide_eq_true (by first | (with_reducible assumption) | assumption)
            obtain ⟨ad270, A270_2, c270_2, e270, hx270_0, hx270_1, hx270_2, hl270_2, hi270_2⟩ := at_T54 HR0_1.out x4_1 p270 q270
            have hw270_2 := hx270_2
            have hw270_1 := hx270_1
            have hw270_0 := hx270_0
            cases e270
            replace hx270_0 := (HB.out.cell (World.block_lt_of_cell? w _ hx270_0)).trans hx270_0
            replace hx270_1 := (HB.out.cell (World.block_lt_of_cell? w _ hx270_1)).trans hx270_1
            replace hx270_2 := (HB.out.cell (World.block_lt_of_cell? w _ hx270_2)).trans hx270_2
            have HR270_2 := Aside0.mk hi270_2
            have HC270_2 := Aside0.mk hl270_2
            clear hi270_2 hl270_2
            replace p270 := eq_true p270
            replace q270 := eq_true q270
            have p271 : 0 ≤ (x4_1 : Int) := of_decide_eq_true (by first | (with_reducible assumption) | assumption)
            have q271 : x4_1 < (l0_1.length : Int) := of_decide_eq_true (by first | (with_reducible assumption) | assumption)
            obtain ⟨ad271, A271_2, c271_2, e271, hx271_0, hx271_1, hx271_2, hl271_2, hi271_2⟩ := at_T54 HR0_1.out x4_1 p271 q271
            have hw271_2 := hx271_2
            have hw271_1 := hx271_1
            have hw271_0 := hx271_0
            obtain rfl : ad270 = ad271 := (by injection e271)
            replace hx271_0 := (HB.out.cell (World.block_lt_of_cell? w _ hx271_0)).trans hx271_0
            replace hx271_1 := (HB.out.cell (World.block_lt_of_cell? w _ hx271_1)).trans hx271_1
            replace hx271_2 := (HB.out.cell (World.block_lt_of_cell? w _ hx271_2)).trans hx271_2
            have HR271_2 := Aside0.mk hi271_2
            have HC271_2 := Aside0.mk hl271_2
            clear hi271_2 hl271_2
            replace p271 := eq_true p271
            replace q271 := eq_true q271
            have ea_ := Option.some.inj (hx270_2.symm.trans hx271_2)
            injection ea_ with ea_ en_ ec_
            subst ea_
            subst ec_
            clear en_
            refine start_ (n := 17) (S := fun w' => w'.cell? ⟨gb269, 0, none⟩ = some (.int .i64 a0_0) ∧ w'.cell? ⟨gb269, 1, none⟩ = some (.slice (some ad270) l0_1.length c0_1) ∧ w'.cell? (ad270.add ((x4_1).toNat * 3)) = some (.string ((rd_T54 l0_1 x4_1).f0)) ∧ w'.cell? ⟨(ad270.add ((x4_1).toNat * 3)).block, (ad270.add ((x4_1).toNat * 3)).off + 1, none⟩ = some (.int .i64 ((rd_T54 l0_1 x4_1).f1)) ∧ w'.cell? ⟨(ad270.add ((x4_1).toNat * 3)).block, (ad270.add ((x4_1).toNat * 3)).off + 2, none⟩ = some (.slice A270_2 ((rd_T54 l0_1 x4_1).f2).length c270_2) ∧ w'.cell? (ad270.add ((x4_1).toNat * 3)) = some (.string ((rd_T54 l0_1 x4_1).f0)) ∧ w'.cell? ⟨(ad270.add ((x4_1).toNat * 3)).block, (ad270.add ((x4_1).toNat * 3)).off + 1, none⟩ = some (.int .i64 ((rd_T54 l0_1 x4_1).f1)) ∧ w'.cell? ⟨(ad270.add ((x4_1).toNat * 3)).block, (ad270.add ((x4_1).toNat * 3)).off + 2, none⟩ = some (.slice A270_2 ((rd_T54 l0_1 x4_1).f2).length c270_2)) (ds := []) #[false, false, false, false, false, false, false, false, false, false, false, false, false, false, false, false, false] (by kernel_rfl) rfl rfl ⟨(blk_cell BK269.out 0).trans rfl, (blk_cell BK269.out 1).trans rfl, ((HB.out.cell (World.block_lt_of_cell? w _ hw270_0)).trans hw270_0), ((HB.out.cell (World.block_lt_of_cell? w _ hw270_1)).trans hw270_1), ((HB.out.cell (World.block_lt_of_cell? w _ hw270_2)).trans hw270_2), ((HB.out.cell (World.block_lt_of_cell? w _ hw271_0)).trans hw271_0), ((HB.out.cell (World.block_lt_of_cell? w _ hw271_1)).trans hw271_1), ((HB.out.cell (World.block_lt_of_cell? w _ hw271_2)).trans hw271_2)⟩ (fun hHeld => ?_); refine with_tabW paraphrastref01_Symbols.tab5 paraphrastref01_Symbols.bits5 (fun HT_ HW_ => ?_)
            generalize wr.drew = w7 at HO_3 BK269 HB HR270_2 HR271_2 hx270_0 hx270_1 hx270_2 hx271_0 hx271_1 hx271_2 hHeld ⊢
            refine pure_ (i := 0) (N := some 12) (v := ?_) (a' := ?_) #[true, false, false, false, false, false, false, false, false, false, false, false, false, false, false, false, false] rfl rfl (any_of HT_.out (by kernel_rfl)) (fun _ _ _ h => h) (Or.inl ⟨by rfl, ?_⟩) ?_ ?_
            rotate_left
            · intro w'
              go_simp
              with_reducible rfl
            rotate_left
            · simp only [Act.put, List.setIfInBounds_toArray, List.set_cons_zero, List.set_cons_succ, i64_w, i32_w]
              rfl
            refine pure_ (i := 1) (N := some 13) (v := ?_) (a' := ?_) #[true, true, false, false, false, false, false, false, false, false, false, false, false, false, false, false, false] rfl rfl (any_of HT_.out (by kernel_rfl)) (fun _ _ _ h => h) (Or.inl ⟨by rfl, ?_⟩) ?_ ?_
            rotate_left
            · intro w'
              go_simp
              with_reducible rfl
            rotate_left
            · simp only [Act.put, List.setIfInBounds_toArray, List.set_cons_zero, List.set_cons_succ, i64_w, i32_w]
              rfl
            refine pure_ (i := 3) (N := some 15) (v := ?_) (a' := ?_) #[true, true, false, true, false, false, false, false, false, false, false, false, false, false, false, false, false] rfl rfl (any_of HT_.out (by kernel_rfl)) (fun _ _ _ h => h) (Or.inl ⟨by rfl, ?_⟩) ?_ ?_
            rotate_left
            · intro w'
              go_simp
              with_reducible rfl
            rotate_left
            · simp only [Act.put, List.setIfInBounds_toArray, List.set_cons_zero, List.set_cons_succ, i64_w, i32_w]
              rfl
            refine pure_ (i := 7) (N := some 19) (v := ?_) (a' := ?_) #[true, true, false, true, false, false, false, true, false, false, false, false, false, false, false, false, false] rfl rfl (any_of HT_.out (by kernel_rfl)) (fun _ _ _ h => h) (Or.inl ⟨by rfl, ?_⟩) ?_ ?_
            rotate_left
            · intro w'
              go_simp
              with_reducible rfl
            rotate_left
            · simp only [Act.put, List.setIfInBounds_toArray, List.set_cons_zero, List.set_cons_succ, i64_w, i32_w]
              rfl
            refine pure_ (i := 9) (N := some 21) (v := ?_) (a' := ?_) #[true, true, false, true, false, false, false, true, false, true, false, false, false, false, false, false, false] rfl rfl (any_of HT_.out (by kernel_rfl)) (fun _ _ _ h => h) (Or.inl ⟨by rfl, ?_⟩) ?_ ?_
            rotate_left
            · intro w'
              go_simp
              with_reducible rfl
            rotate_left
            · simp only [Act.put, List.setIfInBounds_toArray, List.set_cons_zero, List.set_cons_succ, i64_w, i32_w]
              rfl
            refine take_ (i := 2) (N := some 14) (v := ?_) (a' := ?_) #[true, true, true, true, false, false, false, true, false, true, false, false, false, false, false, false, false] rfl rfl (take_ofW HT_.out HW_.out (by kernel_rfl)) (fun _ _ _ h => h) (Or.inl ⟨by rfl, ?_⟩) hHeld ?_ ?_
            rotate_left
            · rintro w' ⟨s0, s1, s2, s3, s4, s5, s6, s7⟩
              go_simp
              with_reducible rfl
            rotate_left
            · simp only [Act.put, List.setIfInBounds_toArray, List.set_cons_zero, List.set_cons_succ, i64_w, i32_w]
              rfl
            refine pure_ (i := 4) (N := some 16) (v := ?_) (a' := ?_) #[true, true, true, true, true, false, false, true, false, true, false, false, false, false, false, false, false] rfl rfl (any_of HT_.out (by kernel_rfl)) (fun _ _ _ h => h) (Or.inl ⟨by rfl, ?_⟩) ?_ ?_
            rotate_left
            · intro w'
              go_simp
              with_reducible rfl
            rotate_left
            · simp only [Act.put, List.setIfInBounds_toArray, List.set_cons_zero, List.set_cons_succ, i64_w, i32_w]
              rfl
            refine pure_ (i := 5) (N := some 17) (v := ?_) (a' := ?_) #[true, true, true, true, true, true, false, true, false, true, false, false, false, false, false, false, false] rfl rfl (any_of HT_.out (by kernel_rfl)) (fun _ _ _ h => h) (Or.inl ⟨by rfl, ?_⟩) ?_ ?_
            rotate_left
            · intro w'
              go_simp
              with_reducible rfl
            rotate_left
            · simp only [Act.put, List.setIfInBounds_toArray, List.set_cons_zero, List.set_cons_succ, i64_w, i32_w]
              rfl
            refine take_ (i := 6) (N := some 18) (v := ?_) (a' := ?_) #[true, true, true, true, true, true, true, true, false, true, false, false, false, false, false, false, false] rfl rfl (take_ofW HT_.out HW_.out (by kernel_rfl)) (fun _ _ _ h => h) (Or.inl ⟨by rfl, ?_⟩) hHeld ?_ ?_
            rotate_left
            · rintro w' ⟨s0, s1, s2, s3, s4, s5, s6, s7⟩
              go_simp
              with_reducible rfl
            rotate_left
            · simp only [Act.put, List.setIfInBounds_toArray, List.set_cons_zero, List.set_cons_succ, i64_w, i32_w]
              rfl
            refine take_ (i := 8) (N := some 20) (v := ?_) (a' := ?_) #[true, true, true, true, true, true, true, true, true, true, false, false, false, false, false, false, false] rfl rfl (take_ofW HT_.out HW_.out (by kernel_rfl)) (fun _ _ _ h => h) (Or.inl ⟨by rfl, ?_⟩) hHeld ?_ ?_
            rotate_left
            · rintro w' ⟨s0, s1, s2, s3, s4, s5, s6, s7⟩
              go_simp
              with_reducible rfl
            rotate_left
            · simp only [Act.put, List.setIfInBounds_toArray, List.set_cons_zero, List.set_cons_succ, i64_w, i32_w]
              rfl
            refine pure_ (i := 10) (N := some 22) (v := ?_) (a' := ?_) #[true, true, true, true, true, true, true, true, true, true, true, false, false, false, false, false, false] rfl rfl (any_of HT_.out (by kernel_rfl)) (fun _ _ _ h => h) (Or.inl ⟨by rfl, ?_⟩) ?_ ?_
            rotate_left
            · intro w'
              go_simp
              with_reducible rfl
            rotate_left
            · simp only [Act.put, List.setIfInBounds_toArray, List.set_cons_zero, List.set_cons_succ, i64_w, i32_w]
              rfl
            refine pure_ (i := 11) (N := some 23) (v := ?_) (a' := ?_) #[true, true, true, true, true, true, true, true, true, true, true, true, false, false, false, false, false] rfl rfl (any_of HT_.out (by kernel_rfl)) (fun _ _ _ h => h) (Or.inl ⟨by rfl, ?_⟩) ?_ ?_
            rotate_left
            · intro w'
              go_simp
              with_reducible rfl
            rotate_left
            · simp only [Act.put, List.setIfInBounds_toArray, List.set_cons_zero, List.set_cons_succ, i64_w, i32_w]
              rfl
            refine take_ (i := 12) (N := some 24) (v := ?_) (a' := ?_) #[true, true, true, true, true, true, true, true, true, true, true, true, true, false, false, false, false] rfl rfl (take_ofW HT_.out HW_.out (by kernel_rfl)) (fun _ _ _ h => h) (Or.inl ⟨by rfl, ?_⟩) hHeld ?_ ?_
            rotate_left
            · rintro w' ⟨s0, s1, s2, s3, s4, s5, s6, s7⟩
              go_simp
              with_reducible rfl
            rotate_left
            · simp only [Act.put, List.setIfInBounds_toArray, List.set_cons_zero, List.set_cons_succ, i64_w, i32_w]
              rfl
            refine pure_ (i := 13) (N := some 25) (v := ?_) (a' := ?_) #[true, true, true, true, true, true, true, true, true, true, true, true, true, true, false, false, false] rfl rfl (any_of HT_.out (by kernel_rfl)) (fun _ _ _ h => h) (Or.inl ⟨by rfl, ?_⟩) ?_ ?_
            rotate_left
            · intro w'
              go_simp
              with_reducible rfl
            rotate_left
            · simp only [Act.put, List.setIfInBounds_toArray, List.set_cons_zero, List.set_cons_succ, i64_w, i32_w]
              rfl
            refine one_ (i := 14) (N := some 26) #[true, true, true, true, true, true, true, true, true, true, true, true, true, true, true, false, false] rfl rfl (one_of HT_.out (by kernel_rfl)) (by decide) (fun K hK => ?_)
            refine value_ (w1 := ?_) (v := ?_) (by rfl) rfl ?_ ?_
            rotate_left 2
            · go_simp
              constructor
              · rfl
              · rfl
            refine hK.out _ _ ⟨(blk_cell (blk_alloc BK269.out _) 0).trans rfl, (blk_cell (blk_alloc BK269.out _) 1).trans rfl, (World.cell?_alloc_lt _ _ _ (World.block_lt_of_cell? _ _ (((HB.out.cell (World.block_lt_of_cell? w _ hw270_0)).trans hw270_0)))).trans (((HB.out.cell (World.block_lt_of_cell? w _ hw270_0)).trans hw270_0)), (World.cell?_alloc_lt _ _ _ (World.block_lt_of_cell? _ _ (((HB.out.cell (World.block_lt_of_cell? w _ hw270_1)).trans hw270_1)))).trans (((HB.out.cell (World.block_lt_of_cell? w _ hw270_1)).trans hw270_1)), (World.cell?_alloc_lt _ _ _ (World.block_lt_of_cell? _ _ (((HB.out.cell (World.block_lt_of_cell? w _ hw270_2)).trans hw270_2)))).trans (((HB.out.cell (World.block_lt_of_cell? w _ hw270_2)).trans hw270_2)), (World.cell?_alloc_lt _ _ _ (World.block_lt_of_cell? _ _ (((HB.out.cell (World.block_lt_of_cell? w _ hw271_0)).trans hw271_0)))).trans (((HB.out.cell (World.block_lt_of_cell? w _ hw271_0)).trans hw271_0)), (World.cell?_alloc_lt _ _ _ (World.block_lt_of_cell? _ _ (((HB.out.cell (World.block_lt_of_cell? w _ hw271_1)).trans hw271_1)))).trans (((HB.out.cell (World.block_lt_of_cell? w _ hw271_1)).trans hw271_1)), (World.cell?_alloc_lt _ _ _ (World.block_lt_of_cell? _ _ (((HB.out.cell (World.block_lt_of_cell? w _ hw271_2)).trans hw271_2)))).trans (((HB.out.cell (World.block_lt_of_cell? w _ hw271_2)).trans hw271_2))⟩ (fun hHeld => ?_)
            clear hK K
            refine norm_ (a' := ?_) ?_ ?_
            rotate_left
            · show Act.put _ (some 26) _ = _
              simp only [Act.put, List.setIfInBounds_toArray, List.set_cons_zero, List.set_cons_succ, i64_w, i32_w]
              rfl
            refine one_ (i := 15) (N := some 27) #[true, true, true, true, true, true, true, true, true, true, true, true, true, true, true, true, false] rfl rfl (one_of HT_.out (by kernel_rfl)) (by decide) (fun K hK => ?_)
            refine Kd.R_append_step k67 (w0 := w) w.heap.size (by rfl) (.tmp 12) (.tmp 26) 40 67 (.agg #[(.string ⟨#[]⟩), (.int .i64 0)]) 24 rfl Tryd.underlying40 info67 rfl (by decide) (by omega) u3 x3_1 (⟨(rd_T54 l0_1 x4_1).f0, (rd_T54 l0_1 x4_1).f1⟩ : S67) [.string ((rd_T54 l0_1 x4_1).f0), .int .i64 ((rd_T54 l0_1 x4_1).f1)] (fun _ => True) (fun _ => False) rfl rfl ?aP (fun _ hk => hk.elim) ?aF ?aO ?aB ?aS ?aL ?_
            (case aP => exact k67_mkM _ _ _ (⟨(rd_T54 l0_1 x4_1).f0, (rd_T54 l0_1 x4_1).f1⟩ : S67))
            (case aB => exact (by repeat (first | (with_reducible first | exact HB.out | apply below_alloc | apply pw_below_drewN | apply below_drew1 | refine below_set ?_ GE269.out) | exact HB.out)))
            (case aF => exact (fun _ _ => trivial))
            (case aO => exact (by (with_reducible repeat (first | apply Kd.R_alloc | apply Kd.R_drewN | apply Kd.R_drew)); exact HO_3.out))
            (case aS => exact (below_size (by repeat (first | (with_reducible first | exact HB.out | apply below_alloc | apply pw_below_drewN | apply below_drew1 | refine below_set ?_ GE269.out) | exact HB.out))))
            (case aL => have := LMc5.out; omega)
            intro v273 w8 ho hb hg hat
            rw [← Ny272.out] at ho
            have n0_ := Aside0.mk (blk_grown (g := gb269) (o := .cells #[.int .i64 a0_0, .slice (some ad270) l0_1.length c0_1] 38 (0, 0)) (by (with_reducible repeat (first | refine blk_drewN ?_ _ | refine blk_drew ?_ | refine blk_alloc ?_ _)); exact BK269.out) hg (Kd.R_ne HO_3.out BK269.out (by decide)))
            have n1_ := Aside0.mk (hb)
            have n2_ := Aside0.mk (ho)
            clear BK269
            clear HB
            clear HO_3
            have BK269 := n0_
            have HB := n1_
            have HO274 := n2_
            clear n0_ n1_ n2_
            clear ho hb hg hat
            refine hK.out _ _ ⟨(blk_cell BK269.out 0).trans rfl, (blk_cell BK269.out 1).trans rfl, ((HB.out.cell (World.block_lt_of_cell? w _ hw270_0)).trans hw270_0), ((HB.out.cell (World.block_lt_of_cell? w _ hw270_1)).trans hw270_1), ((HB.out.cell (World.block_lt_of_cell? w _ hw270_2)).trans hw270_2), ((HB.out.cell (World.block_lt_of_cell? w _ hw271_0)).trans hw271_0), ((HB.out.cell (World.block_lt_of_cell? w _ hw271_1)).trans hw271_1), ((HB.out.cell (World.block_lt_of_cell? w _ hw271_2)).trans hw271_2)⟩ (fun hHeld => ?_)
            clear hK K
            refine norm_ (a' := ?_) ?_ ?_
            rotate_left
            · show Act.put _ (some 27) _ = _
              simp only [Act.put, List.setIfInBounds_toArray, List.set_cons_zero, List.set_cons_succ, i64_w, i32_w]
              rfl
            refine pure_ (i := 16) (N := some 3) (v := ?_) (a' := ?_) #[true, true, true, true, true, true, true, true, true, true, true, true, true, true, true, true, true] rfl rfl (any_of HT_.out (by kernel_rfl)) (fun _ _ _ h => h) (Or.inl ⟨by rfl, ?_⟩) ?_ ?_
            rotate_left
            · intro w'
              go_simp
              with_reducible rfl
            rotate_left
            · simp only [Act.put, List.setIfInBounds_toArray, List.set_cons_zero, List.set_cons_succ, i64_w, i32_w]
              rfl
            refine done_ (done_of HT_.out (by kernel_rfl)) ?_
            try go_wp2
            go_roundg k1
            case measure => have := HK1.out; omega
            case rel => exact ⟨(y272), (wrap64 (x4_1 + 1)), (by first | rfl | (simp; done) | (simp [*]; done)), H', ⟨by have := HK1.out; omega⟩, ⟨by (with_reducible repeat (first | apply Kd.R_alloc | apply Kd.R_drewN | apply Kd.R_drew)); exact HO274.out⟩, ⟨by (with_reducible repeat (first | refine blk_drewN ?_ _ | refine blk_drew ?_ | refine blk_alloc ?_ _)); exact BK269.out⟩, ⟨by repeat (first | (with_reducible first | exact HB.out | apply below_alloc | apply pw_below_drewN | apply below_drew1 | refine below_set ?_ GE269.out) | exact HB.out)⟩⟩
          · rw [if_neg c5] at H
            exact absurd H (by simp)
        · rw [if_neg c4] at H
          exact absurd H (by simp)
      · rw [if_neg c3] at H
        have c3b0 : decide (x4_1 < (l0_1.length : Int)) = false := decide_eq_false c3
        clear c3
        obtain rfl := Option.some.inj H
        have hcz9_0 : wr.cell? ⟨gb269, 0, none⟩ = some (.int .i64 a0_0) := (blk_cell BK269.out 0).trans rfl
        have hcz9_1 : wr.cell? ⟨gb269, 1, none⟩ = some (.slice A0_1 l0_1.length c0_1) := (blk_cell BK269.out 1).trans rfl
        have hfz9_0 := blk_frozen BK269.out 0
        have hfz9_1 := blk_frozen BK269.out 1
        go_wp2
        go_ret
        exact ⟨_, by first | rfl | (simp [errW_none, errW_some] <;> rfl) | (simp [*, errW_none, errW_some] <;> rfl), by (with_reducible repeat (first | apply Kd.R_alloc | apply Kd.R_drewN | apply Kd.R_drew)); exact HO_3.out, by repeat (first | (with_reducible first | exact HB.out | apply below_alloc | apply pw_below_drewN | apply below_drew1 | refine below_set ?_ GE269.out) | exact HB.out)⟩
end Go.Proofs.YtfmpaofbnjlniaaDoor.F
namespace Go.Proofs.YtfmpaofbnjlniaaDoor.F
open Go.RowKit Go.Proofs.YtfmpaofbnjlniaaDoorW.PrintWords Go.Proofs.YtfmpaofbnjlniaaDoorW.PrintLast Go.Proofs.YtfmpaofbnjlniaaDoorW.PrintMore
attribute [local go_sem] max2_int min2_int max_two min_two max_three min_three max_four min_four
set_option linter.unusedVariables false
set_option linter.unusedSimpArgs false
theorem eqA67 (d : Nat) (w : World) (x0 y0 : ByteArray) (x1 y1 : Int) :
    (Op.equalIn (d + 2) 67 (.agg #[.string x0, .int .i64 x1]) (.agg #[.string y0, .int .i64 y1])).run Tryd.prog w = .ok (x0.toList == y0.toList && (x1 == y1)) w := by
  refine eqA_of Tryd.underlying67 (by kernel_rfl) ?_
  refine eqf_cons (by rfl) (by go_simp; rfl) (by go_simp; rfl) (by go_simp) ?_
  exact eqf_last (by rfl) (by go_simp; rfl) (by go_simp; rfl) (by go_simp)
end Go.Proofs.YtfmpaofbnjlniaaDoor.F
namespace Go.Proofs.YtfmpaofbnjlniaaDoor.F
open Go.RowKit Go.Proofs.YtfmpaofbnjlniaaDoorW.PrintWords Go.Proofs.YtfmpaofbnjlniaaDoorW.PrintLast Go.Proofs.YtfmpaofbnjlniaaDoorW.PrintMore
attribute [local go_sem] max2_int min2_int max_two min_two max_three min_three max_four min_four
set_option linter.unusedVariables false
set_option linter.unusedSimpArgs false
attribute [local go_sem high] eqA67
/-! ### paraphrastlaw01_SameSymbols: function 24 -/
def paraphrastlaw01_SameSymbols.l0 : Nat → List (S67) → List (S67) → Int → Option (Bool)
  | 0, _, _, _ => none
  | k + 1, x0, x1, x5 => if x5 < (x0.length : Int) then (if 0 ≤ x5 then (if x5 < (x1.length : Int) then (if (!((((rd_T67 x0 x5).f0).toList) == (((rd_T67 x1 x5).f0).toList)) || (!(((rd_T67 x0 x5).f1) == ((rd_T67 x1 x5).f1)))) = true then (some false) else (paraphrastlaw01_SameSymbols.l0 k x0 x1 (wrap64 (x5 + 1)))) else (none)) else (none)) else (some true)
def paraphrastlaw01_SameSymbols.f (k : Nat) (l0 : List (S67)) (l1 : List (S67)) : Option (Bool) := if (l0.length : Int) = (l1.length : Int) then (paraphrastlaw01_SameSymbols.l0 k l0 l1 0) else (some false)
set_option maxHeartbeats 8000000 in
set_option maxRecDepth 100000 in
theorem paraphrastlaw01_SameSymbols.calls (k : Nat) (A0 : Option Addr) (c0 : Nat) (l0 : List (S67)) (A1 : Option Addr) (c1 : Nat) (l1 : List (S67)) (r : Bool) (w : World) (hr0 : Kd.C k67 w A0 l0.length l0) (hc0 : l0.length ≤ c0) (hr1 : Kd.C k67 w A1 l1.length l1) (hc1 : l1.length ≤ c1) (h : paraphrastlaw01_SameSymbols.f k l0 l1 = some r) :
    Calls Tryd.prog 24 #[.slice A0 l0.length c0, .slice A1 l1.length c1] w fun e w' => e = .returned (.bool r) ∧ Drawn0 w w' := by
  have hu67 := Tryd.underlying67
  have HR0 := Aside0.mk hr0
  have HC0 := Aside0.mk hc0
  clear hr0 hc0
  have HR1 := Aside0.mk hr1
  have HC1 := Aside0.mk hc1
  clear hr1 hc1
  have H : (if (l0.length : Int) = (l1.length : Int) then (paraphrastlaw01_SameSymbols.l0 k l0 l1 0) else (some false)) = some r := h
  clear h
  by_cases c3 : (l0.length : Int) = (l1.length : Int)
  · rw [if_pos c3] at H
    have c3b0 : ((l0.length : Int) == (l1.length : Int)) = true := beq_iff_eq.mpr c3
    have c3b1 : ((l0.length : Int) != (l1.length : Int)) = false := bne_eq_false_iff_eq.mpr c3
    have c3b2 : (l0.length == l1.length) = true := by first | simpa using c3 | (simp at c3 ⊢; omega)
    clear c3
    have H' := Aside0.mk H
    clear H
    go_enter Tryd.func24, Tryd.ntmps24
    go_wp2
    repeat (go_quiet (fail); try go_wp2)
    go_loopg [5] k (fun kq v5 w' => ∃ (x5_1 : Int), v5 = .int .i64 x5_1 ∧ Aside0 (paraphrastlaw01_SameSymbols.l0 kq l0 l1 x5_1 = some r) ∧ Aside0 (kq ≤ k) ∧ Drawn0 w w')
    case atStart => exact ⟨(0), (by first | rfl | (simp; done) | (simp [*]; done)), H', ⟨Nat.le_refl _⟩, by repeat (first | exact Drawn0.refl _ | apply Drawn0.step)⟩
    case round =>
      clear H'
      try clear c1
      try clear c2
      try clear p2
      try clear c3
      try clear c3b0
      try clear c3b1
      try clear c3b2
      obtain ⟨x5_1, rfl, HA, HK1, ⟨m1, rfl⟩⟩ := hrel
      cases gk with
      | zero => exact absurd HA.out (by simp [paraphrastlaw01_SameSymbols.l0])
      | succ k1 =>
        have H := HA.out
        clear HA
        simp only [paraphrastlaw01_SameSymbols.l0] at H
        by_cases c4 : x5_1 < (l0.length : Int)
        · rw [if_pos c4] at H
          have c4b0 : decide (x5_1 < (l0.length : Int)) = true := decide_eq_true c4
          clear c4
          by_cases c5 : 0 ≤ x5_1
          · rw [if_pos c5] at H
            have c5b0 : decide (0 ≤ x5_1) = true := decide_eq_true c5
            clear c5
            by_cases c6 : x5_1 < (l1.length : Int)
            · rw [if_pos c6] at H
              have c6b0 : decide (x5_1 < (l1.length : Int)) = true := decide_eq_true c6
              clear c6
              by_cases c7 : (!((((rd_T67 l0 x5_1).f0).toList) == (((rd_T67 l1 x5_1).f0).toList)) || (!(((rd_T67 l0 x5_1).f1) == ((rd_T67 l1 x5_1).f1)))) = true
              · rw [if_pos c7] at H
                have c7b0 : (!((((rd_T67 l0 x5_1).f0).toList) == (((rd_T67 l1 x5_1).f0).toList)) || (!(((rd_T67 l0 x5_1).f1) == ((rd_T67 l1 x5_1).f1)))) = true := c7
                clear c7
                obtain rfl := Option.some.inj H
                have p275 : 0 ≤ (x5_1 : Int) := of_decide_eq_true (by first | (with_reducible assumption) | assumption)
                have q275 : x5_1 < (l0.length : Int) := of_decide_eq_true (by first | (with_reducible assumption) | assumption)
                obtain ⟨ad275, e275, hx275_0, hx275_1⟩ := at_T67 HR0.out x5_1 p275 q275
                cases e275
                replace p275 := eq_true p275
                replace q275 := eq_true q275
                have p276 : 0 ≤ (x5_1 : Int) := of_decide_eq_true (by first | (with_reducible assumption) | assumption)
                have q276 : x5_1 < (l1.length : Int) := of_decide_eq_true (by first | (with_reducible assumption) | assumption)
                obtain ⟨ad276, e276, hx276_0, hx276_1⟩ := at_T67 HR1.out x5_1 p276 q276
                cases e276
                replace p276 := eq_true p276
                replace q276 := eq_true q276
                go_wp2
                repeat (go_quiet (fail); try go_wp2)
                go_ret
                exact ⟨by first | rfl | (simp; done) | (simp [*]; done), by repeat (first | exact Drawn0.refl _ | apply Drawn0.step)⟩
              · rw [if_neg c7] at H
                have c7b0 : (!((((rd_T67 l0 x5_1).f0).toList) == (((rd_T67 l1 x5_1).f0).toList)) || (!(((rd_T67 l0 x5_1).f1) == ((rd_T67 l1 x5_1).f1)))) = false := by simpa using c7
                clear c7
                have H' := Aside0.mk H
                clear H
                have p275 : 0 ≤ (x5_1 : Int) := of_decide_eq_true (by first | (with_reducible assumption) | assumption)
                have q275 : x5_1 < (l0.length : Int) := of_decide_eq_true (by first | (with_reducible assumption) | assumption)
                obtain ⟨ad275, e275, hx275_0, hx275_1⟩ := at_T67 HR0.out x5_1 p275 q275
                cases e275
                replace p275 := eq_true p275
                replace q275 := eq_true q275
                have p276 : 0 ≤ (x5_1 : Int) := of_decide_eq_true (by first | (with_reducible assumption) | assumption)
                have q276 : x5_1 < (l1.length : Int) := of_decide_eq_true (by first | (with_reducible assumption) | assumption)
                obtain ⟨ad276, e276, hx276_0, hx276_1⟩ := at_T67 HR1.out x5_1 p276 q276
                cases e276
                replace p276 := eq_true p276
                replace q276 := eq_true q276
                go_wp2
                repeat (go_quiet (fail); try go_wp2)
                go_roundg k1
                case measure => have := HK1.out; omega
                case rel => exact ⟨(wrap64 (x5_1 + 1)), (by first | rfl | (simp; done) | (simp [*]; done)), H', ⟨by have := HK1.out; omega⟩, by repeat (first | exact Drawn0.refl _ | apply Drawn0.step)⟩
            · rw [if_neg c6] at H
              exact absurd H (by simp)
          · rw [if_neg c5] at H
            exact absurd H (by simp)
        · rw [if_neg c4] at H
          have c4b0 : decide (x5_1 < (l0.length : Int)) = false := decide_eq_false c4
          clear c4
          obtain rfl := Option.some.inj H
          go_wp2
          repeat (go_quiet (fail); try go_wp2)
          go_ret
          exact ⟨by first | rfl | (simp; done) | (simp [*]; done), by repeat (first | exact Drawn0.refl _ | apply Drawn0.step)⟩
  · rw [if_neg c3] at H
    have c3b0 : ((l0.length : Int) == (l1.length : Int)) = false := beq_eq_false_iff_ne.mpr c3
    have c3b1 : ((l0.length : Int) != (l1.length : Int)) = true := bne_iff_ne.mpr c3
    have c3b2 : (l0.length == l1.length) = false := by first | simpa using c3 | (simp at c3 ⊢; omega)
    obtain rfl := Option.some.inj H
    go_enter Tryd.func24, Tryd.ntmps24
    go_wp2
    repeat (go_quiet (fail); try go_wp2)
    go_ret
    exact ⟨by first | rfl | (simp; done) | (simp [*]; done), by repeat (first | exact Drawn0.refl _ | apply Drawn0.step)⟩
end Go.Proofs.YtfmpaofbnjlniaaDoor.F
namespace Go.Proofs.YtfmpaofbnjlniaaDoor.F
open Go.RowKit Go.Proofs.YtfmpaofbnjlniaaDoorW.PrintWords Go.Proofs.YtfmpaofbnjlniaaDoorW.PrintLast Go.Proofs.YtfmpaofbnjlniaaDoorW.PrintMore
attribute [local go_sem] max2_int min2_int max_two min_two max_three min_three max_four min_four
set_option linter.unusedVariables false
set_option linter.unusedSimpArgs false
/-! ### shape_Symbols: function 25 -/
def shape_Symbols.l0 : Nat → List (S67) → List (S54) → Int → Int → Option ((List (S67)))
  | 0, _, _, _, _ => none
  | k + 1, x3, x10, x11, x12 => if x12 < x11 then (if 0 ≤ x12 then (if x12 < (x10.length : Int) then (if x3.length < 5864062014805 then (shape_Symbols.l0 k (x3 ++ [(⟨(rd_T54 x10 x12).f0, (rd_T54 x10 x12).f1⟩ : S67)]) x10 x11 (wrap64 (x12 + 1))) else (none)) else (none)) else (none)) else (some x3)
def shape_Symbols.f (k : Nat) (a0_0 : Int) (l0_1 : List (S54)) : Option ((List (S67))) := (shape_Valid.f k a0_0 l0_1).bind fun t278 => (if t278 = true then (shape_Symbols.l0 k ([] : List (S67)) l0_1 (l0_1.length : Int) 0) else (some ([] : List (S67))))
set_option maxHeartbeats 8000000 in
set_option maxRecDepth 100000 in
theorem shape_Symbols.calls (k : Nat) (a0_0 : Int) (A0_1 : Option Addr) (c0_1 : Nat) (l0_1 : List (S54)) (r : List (S67)) (w : World) (hr0_1 : Kd.C k54 w A0_1 l0_1.length l0_1) (hc0_1 : l0_1.length ≤ c0_1) (h : shape_Symbols.f k a0_0 l0_1 = some r) :
    Calls Tryd.prog 25 #[.agg #[.int .i64 a0_0, .slice A0_1 l0_1.length c0_1]] w fun e w' => ∃ v0_ : Value, e = .returned (v0_) ∧ Kd.R k67 67 w' w.heap.size (fun _ => True) v0_ r ∧ Below w.heap.size w w' := by
  have hu38 := Tryd.underlying38
  have hu54 := Tryd.underlying54
  have hu67 := Tryd.underlying67
  have HR0_1 := Aside0.mk hr0_1
  have HC0_1 := Aside0.mk hc0_1
  clear hr0_1 hc0_1
  have HB := Aside0.mk (Below.refl w.heap.size w)
  have H : ((shape_Valid.f k a0_0 l0_1).bind fun t278 => (if t278 = true then (shape_Symbols.l0 k ([] : List (S67)) l0_1 (l0_1.length : Int) 0) else (some ([] : List (S67))))) = some r := h
  clear h
  replace H := Option.bind_eq_some_iff.mp H
  obtain ⟨t278, A20, H⟩ := H
  replace H : (if t278 = true then (shape_Symbols.l0 k ([] : List (S67)) l0_1 (l0_1.length : Int) 0) else (some ([] : List (S67)))) = some r := H
  have A2 := Aside0.mk A20
  clear A20
  by_cases c3 : t278 = true
  · subst c3
    have H1 : (shape_Symbols.l0 k ([] : List (S67)) l0_1 (l0_1.length : Int) 0) = some r := by rw [if_pos rfl] at H; exact H
    clear H
    have H := H1
    clear H1
    have H' := Aside0.mk H
    clear H
    go_enter Tryd.func25, Tryd.ntmps25
    go_wp2_with (first | ((with_reducible refine gate_dst (N := 1) rfl ?_); refine box_event ?hg (N := 1) ?hd (cs := #[.int .i64 a0_0, .slice A0_1 l0_1.length c0_1]) (t := 38) ?hr ?_; (case hd => rfl); (case hg => rfl); (case hr => first | (go_simp; done) | (go_simp; rfl)); intro gb277 hg w4 hbox hb; have n0_ := Aside0.mk (below_step (by repeat (first | (with_reducible first | exact HB.out | apply below_alloc | apply pw_below_drewN | apply below_drew1) | exact HB.out)) hb); have n1_ := Aside0.mk (hbox); have n2_ := Aside0.mk ((by rw [hg]; exact (below_size (by repeat (first | (with_reducible first | exact HB.out | apply below_alloc | apply pw_below_drewN | apply below_drew1) | exact HB.out))) : w.heap.size ≤ gb277)); have n3_ := Aside0.mk ((by rw [hg]; exact (below_size (by repeat (first | (with_reducible first | exact HB.out | apply below_alloc | apply pw_below_drewN | apply below_drew1) | exact HB.out))) : w.heap.size ≤ gb277)); clear HB; have HB := n0_; have BK277 := n1_; have GW277 := n2_; have GE277 := n3_; clear n0_ n1_ n2_ n3_; clear hb hbox hg; have hcz5_0 : w4.cell? ⟨gb277, 0, none⟩ = some (.int .i64 a0_0) := (blk_cell BK277.out 0).trans rfl; have hcz5_1 : w4.cell? ⟨gb277, 1, none⟩ = some (.slice A0_1 l0_1.length c0_1) := (blk_cell BK277.out 1).trans rfl; have hfz5_0 := blk_frozen BK277.out 0; have hfz5_1 := blk_frozen BK277.out 1) | ((with_reducible refine gate_callee (f := 21) rfl ?_); refine goesL_ (some 7) rfl rfl Tryd.func21 (by kernel_rfl) rfl #[.agg #[.int .i64 a0_0, .slice A0_1 l0_1.length c0_1]] rfl (by (try simp only [List.map_toArray, List.map_cons, List.map_nil]); first | done | rfl | (simp only [List.length_drop, List.length_take]; rfl)) ?_; (with_reducible refine (shape_Valid.calls k a0_0 _ _ l0_1 true _ ?side1 ?side2 A2.out).mono ?_); (case side1 => repeat (first | exact (Kd.C_below HR0_1.out HB.out) | (with_reducible refine Kd.C_alloc ?_ _) | (with_reducible refine Kd.C_drewN ?_ _) | (with_reducible refine Kd.C_drew ?_))); (case side2 => exact HC0_1.out); rintro e w6 ⟨rfl, hb⟩; refine ⟨_, rfl, ?_⟩; have n0_ := Aside0.mk (blk_below (g := gb277) (o := .cells #[.int .i64 a0_0, .slice A0_1 l0_1.length c0_1] 38 (0, 0)) (by (with_reducible repeat (first | refine blk_drewN ?_ _ | refine blk_drew ?_ | refine blk_alloc ?_ _)); exact BK277.out) hb); have n1_ := Aside0.mk (below_step (by repeat (first | (with_reducible first | exact HB.out | apply below_alloc | apply pw_below_drewN | apply below_drew1 | refine below_set ?_ GE277.out) | exact HB.out)) hb); clear BK277; clear HB; have BK277 := n0_; have HB := n1_; clear n0_ n1_; (try clear hb); (try clear hb2); (try clear hk); (try clear hi); have hcz7_0 : w6.cell? ⟨gb277, 0, none⟩ = some (.int .i64 a0_0) := (blk_cell BK277.out 0).trans rfl; have hcz7_1 : w6.cell? ⟨gb277, 1, none⟩ = some (.slice A0_1 l0_1.length c0_1) := (blk_cell BK277.out 1).trans rfl; have hfz7_0 := blk_frozen BK277.out 0; have hfz7_1 := blk_frozen BK277.out 1))
    go_loopg [3, 12] k (fun kq v3 v12 w' => ∃ (x3_1 : List (S67)) (x12_1 : Int), v12 = .int .i64 x12_1 ∧ Aside0 (shape_Symbols.l0 kq x3_1 l0_1 (l0_1.length : Int) x12_1 = some r) ∧ Aside0 (kq ≤ k) ∧ Aside0 (Kd.R k67 67 w' w.heap.size (fun _ => True) v3 x3_1) ∧ Aside0 (w'.heap[gb277]? = some (.cells #[.int .i64 a0_0, (.slice A0_1 l0_1.length c0_1)] 38 (0, 0))) ∧ Aside0 (Below w.heap.size w w'))
    case atStart => exact ⟨(([] : List (S67))), (0), (by first | rfl | (simp; done) | (simp [*]; done)), H', ⟨Nat.le_refl _⟩, ⟨by first | exact Kd.R_nil _ _ _ _ _ | exact Kd.N_nil _ _ _ _ _ | exact Kd.V_nil _ _ _ _ _ | exact Kd.Q_nil _ _ _ _ _ | exact Kd.S_nil _ _ _ _ _⟩, ⟨by (with_reducible repeat (first | refine blk_drewN ?_ _ | refine blk_drew ?_ | refine blk_alloc ?_ _)); exact BK277.out⟩, ⟨by repeat (first | (with_reducible first | exact HB.out | apply below_alloc | apply pw_below_drewN | apply below_drew1 | refine below_set ?_ GE277.out) | exact HB.out)⟩⟩
    case round =>
      clear H'
      try clear c2
      try clear p2
      try clear c3
      try clear hcz5_0
      try clear hcz5_1
      try clear hcz7_0
      try clear hcz7_1
      try clear hfz5_0
      try clear hfz5_1
      try clear hfz7_0
      try clear hfz7_1
      obtain ⟨x3_1, x12_1, rfl, HA, HK1, HO_3, BK277, HB⟩ := hrel
      cases gk with
      | zero => exact absurd HA.out (by simp [shape_Symbols.l0])
      | succ k1 =>
        have H := HA.out
        clear HA
        simp only [shape_Symbols.l0] at H
        by_cases c8 : x12_1 < (l0_1.length : Int)
        · rw [if_pos c8] at H
          have c8b0 : decide (x12_1 < (l0_1.length : Int)) = true := decide_eq_true c8
          clear c8
          by_cases c9 : 0 ≤ x12_1
          · rw [if_pos c9] at H
            have c9b0 : decide (0 ≤ x12_1) = true := decide_eq_true c9
            clear c9
            by_cases c10 : x12_1 < (l0_1.length : Int)
            · rw [if_pos c10] at H
              have c10b0 : decide (x12_1 < (l0_1.length : Int)) = true := decide_eq_true c10
              clear c10
              by_cases c11 : x3_1.length < 5864062014805
              · rw [if_pos c11] at H
                have LMc11 := Aside0.mk c11
                clear c11
                obtain ⟨y281, hy281⟩ : ∃ y_ : List (S67), y_ = (x3_1 ++ [(⟨(rd_T54 l0_1 x12_1).f0, (rd_T54 l0_1 x12_1).f1⟩ : S67)]) := ⟨_, rfl⟩
                replace H : (shape_Symbols.l0 k1 y281 l0_1 (l0_1.length : Int) (wrap64 (x12_1 + 1))) = some r := by first | (rw [hy281]; with_reducible exact H) | (have H2_ := (Option.bind_some _ _).symm.trans H; rw [hy281]; with_reducible exact H2_) | (have H2_ := (Option.bind_some _ _).symm.trans H; with_reducible exact H2_) | with_reducible exact H | (rw [hy281]; exact H) | exact H
                have Ny281 := Aside0.mk hy281
                clear hy281
                have H' := Aside0.mk H
                clear H
                have p279 : 0 ≤ (x12_1 : Int) := of_decide_eq_true (by first | (with_reducible assumption) | assumption)
                have q279 : x12_1 < (l0_1.length : Int) := of_decide_eq_true (by first | (with_reducible assumption) | assumption)
                obtain ⟨ad279, A279_2, c279_2, e279, hx279_0, hx279_1, hx279_2, hl279_2, hi279_2⟩ := at_T54 HR0_1.out x12_1 p279 q279
                cases e279
                replace hx279_0 := (HB.out.cell (World.block_lt_of_cell? w _ hx279_0)).trans hx279_0
                replace hx279_1 := (HB.out.cell (World.block_lt_of_cell? w _ hx279_1)).trans hx279_1
                replace hx279_2 := (HB.out.cell (World.block_lt_of_cell? w _ hx279_2)).trans hx279_2
                have HR279_2 := Aside0.mk hi279_2
                have HC279_2 := Aside0.mk hl279_2
                clear hi279_2 hl279_2
                replace p279 := eq_true p279
                replace q279 := eq_true q279
                go_wp2_with (first | ((with_reducible refine gate_dst (N := 5) rfl ?_); refine box_event ?hg (N := 5) ?hd (cs := #[.string (⟨#[]⟩ : ByteArray), .int .i64 0, .slice none 0 0]) (t := 54) ?hr ?_; (case hd => rfl); (case hg => rfl); (case hr => first | (go_simp; done) | (go_simp; rfl)); intro gb280 hg w12 hbox hb; have n0_ := Aside0.mk (Kd.R_below (by (with_reducible repeat (first | apply Kd.R_alloc | apply Kd.R_drewN | apply Kd.R_drew)); exact HO_3.out) hb); have n1_ := Aside0.mk (blk_below (g := gb277) (o := .cells #[.int .i64 a0_0, .slice (some ad279) l0_1.length c0_1] 38 (0, 0)) (by (with_reducible repeat (first | refine blk_drewN ?_ _ | refine blk_drew ?_ | refine blk_alloc ?_ _)); exact BK277.out) hb); have n2_ := Aside0.mk (below_step (by repeat (first | (with_reducible first | exact HB.out | apply below_alloc | apply pw_below_drewN | apply below_drew1 | refine below_set ?_ GE277.out) | exact HB.out)) hb); have n3_ := Aside0.mk (hbox); have n4_ := Aside0.mk ((by rw [hg]; exact (below_size (by repeat (first | (with_reducible first | exact HB.out | apply below_alloc | apply pw_below_drewN | apply below_drew1 | refine below_set ?_ GE277.out) | exact HB.out))) : w.heap.size ≤ gb280)); have n5_ := Aside0.mk ((by rw [hg]; exact (below_size (by repeat (first | (with_reducible first | exact HB.out | apply below_alloc | apply pw_below_drewN | apply below_drew1 | refine below_set ?_ GE277.out) | exact HB.out))) : w.heap.size ≤ gb280)); have n6_ := Aside0.mk ((by rw [hg]; exact Nat.ne_of_lt (blk_lt (g := gb277) (o := .cells #[.int .i64 a0_0, .slice (some ad279) l0_1.length c0_1] 38 (0, 0)) (by (with_reducible repeat (first | refine blk_drewN ?_ _ | refine blk_drew ?_ | refine blk_alloc ?_ _)); exact BK277.out)) : gb277 ≠ gb280)); have n7_ := Aside0.mk ((by rw [hg]; exact Nat.ne_of_gt (blk_lt (g := gb277) (o := .cells #[.int .i64 a0_0, .slice (some ad279) l0_1.length c0_1] 38 (0, 0)) (by (with_reducible repeat (first | refine blk_drewN ?_ _ | refine blk_drew ?_ | refine blk_alloc ?_ _)); exact BK277.out)) : gb280 ≠ gb277)); clear HO_3; clear BK277; clear HB; have HO_3 := n0_; have BK277 := n1_; have HB := n2_; have BK280 := n3_; have GW280 := n4_; have GE280 := n5_; have NB277_280 := n6_; have NB280_277 := n7_; clear n0_ n1_ n2_ n3_ n4_ n5_ n6_ n7_; clear hb hbox hg; have hnb13 := NB280_277.out; have hnc13 := NB277_280.out; have hcz14_0 : w12.cell? ⟨gb280, 0, none⟩ = some (.string (⟨#[]⟩ : ByteArray)) := (blk_cell BK280.out 0).trans rfl; have hcz14_1 : w12.cell? ⟨gb280, 1, none⟩ = some (.int .i64 0) := (blk_cell BK280.out 1).trans rfl; have hcz14_2 : w12.cell? ⟨gb280, 2, none⟩ = some (.slice none 0 0) := (blk_cell BK280.out 2).trans rfl; have hfz14_0 := blk_frozen BK280.out 0; have hfz14_1 := blk_frozen BK280.out 1; have hfz14_2 := blk_frozen BK280.out 2) | ((with_reducible refine gate_builtin (b := .append) (xs := #[.tmp 16, .tmp 22]) rfl ?_); at_builtin; refine Kd.R_append k67 (w0 := w) w.heap.size rfl (.tmp 16) (.tmp 22) 40 67 (.agg #[(.string ⟨#[]⟩), (.int .i64 0)]) 24 rfl Tryd.underlying40 info67 rfl (by decide) (by omega) u3 x3_1 (⟨(rd_T54 l0_1 x12_1).f0, (rd_T54 l0_1 x12_1).f1⟩ : S67) [.string ((rd_T54 l0_1 x12_1).f0), .int .i64 ((rd_T54 l0_1 x12_1).f1)] (fun _ => True) (fun _ => False) rfl (by first | (go_simp; done) | (go_simp; rfl)) ?aP (fun _ hk => hk.elim) ?aF ?aO ?aB ?aS ?aL ?_; (case aP => exact k67_mkM _ _ _ (⟨(rd_T54 l0_1 x12_1).f0, (rd_T54 l0_1 x12_1).f1⟩ : S67)); (case aB => exact (by repeat (first | (with_reducible first | exact HB.out | apply below_alloc | apply pw_below_drewN | apply below_drew1 | refine below_set ?_ GE277.out | refine below_set ?_ GE280.out) | exact HB.out))); (case aF => exact (fun _ _ => trivial)); (case aO => exact (by (with_reducible repeat (first | apply Kd.R_alloc | apply Kd.R_drewN | apply Kd.R_drew)); exact Kd.R_mono (Kd.R_far (p := ⟨gb280, 2, none⟩) (Kd.R_far (p := ⟨gb280, 1, none⟩) (Kd.R_far (p := ⟨gb280, 0, none⟩) (Kd.R_types HO_3.out BK280.out (by decide)) (fun _ hk => hk.2) (.string ((rd_T54 l0_1 x12_1).f0))) (fun _ hk => hk.2) (.int .i64 ((rd_T54 l0_1 x12_1).f1))) (fun _ hk => hk.2) (.slice A279_2 ((rd_T54 l0_1 x12_1).f2).length c279_2)) (fun _ hk => trivial))); (case aS => exact (below_size (by repeat (first | (with_reducible first | exact HB.out | apply below_alloc | apply pw_below_drewN | apply below_drew1 | refine below_set ?_ GE277.out | refine below_set ?_ GE280.out) | exact HB.out)))); (case aL => have := LMc11.out; omega); intro v282 w15 ho hb hg hat; rw [← Ny281.out] at ho; have n0_ := Aside0.mk (blk_grown (g := gb277) (o := .cells #[.int .i64 a0_0, .slice (some ad279) l0_1.length c0_1] 38 (0, 0)) (by (with_reducible repeat (first | refine blk_drewN ?_ _ | refine blk_drew ?_ | refine blk_alloc ?_ _)); refine blk_far ?_ NB277_280.out _; (with_reducible repeat (first | refine blk_drewN ?_ _ | refine blk_drew ?_ | refine blk_alloc ?_ _)); refine blk_far ?_ NB277_280.out _; (with_reducible repeat (first | refine blk_drewN ?_ _ | refine blk_drew ?_ | refine blk_alloc ?_ _)); refine blk_far ?_ NB277_280.out _; (with_reducible repeat (first | refine blk_drewN ?_ _ | refine blk_drew ?_ | refine blk_alloc ?_ _)); exact BK277.out) hg (Kd.R_ne HO_3.out BK277.out (by decide))); have n1_ := Aside0.mk (blk_grown (g := gb280) (o := .cells #[.string ((rd_T54 l0_1 x12_1).f0), .int .i64 ((rd_T54 l0_1 x12_1).f1), .slice A279_2 ((rd_T54 l0_1 x12_1).f2).length c279_2] 54 (0, 0)) (by (with_reducible repeat (first | refine blk_drewN ?_ _ | refine blk_drew ?_ | refine blk_alloc ?_ _)); refine blk_put (cs := #[.string ((rd_T54 l0_1 x12_1).f0), .int .i64 ((rd_T54 l0_1 x12_1).f1), .slice none 0 0]) ?_ 2 _ rfl; (with_reducible repeat (first | refine blk_drewN ?_ _ | refine blk_drew ?_ | refine blk_alloc ?_ _)); refine blk_put (cs := #[.string ((rd_T54 l0_1 x12_1).f0), .int .i64 0, .slice none 0 0]) ?_ 1 _ rfl; (with_reducible repeat (first | refine blk_drewN ?_ _ | refine blk_drew ?_ | refine blk_alloc ?_ _)); refine blk_put (cs := #[.string (⟨#[]⟩ : ByteArray), .int .i64 0, .slice none 0 0]) ?_ 0 _ rfl; (with_reducible repeat (first | refine blk_drewN ?_ _ | refine blk_drew ?_ | refine blk_alloc ?_ _)); exact BK280.out) hg (Kd.R_ne HO_3.out BK280.out (by decide))); have n2_ := Aside0.mk (hb); have n3_ := Aside0.mk (ho); clear BK277; clear BK280; clear HB; clear HO_3; have BK277 := n0_; have BK280 := n1_; have HB := n2_; have HO283 := n3_; clear n0_ n1_ n2_ n3_; clear ho hb hg hat))
                go_roundg k1
                case measure => have := HK1.out; omega
                case rel => exact ⟨(y281), (wrap64 (x12_1 + 1)), (by first | rfl | (simp; done) | (simp [*]; done)), H', ⟨by have := HK1.out; omega⟩, ⟨by (with_reducible repeat (first | apply Kd.R_alloc | apply Kd.R_drewN | apply Kd.R_drew)); exact HO283.out⟩, ⟨by (with_reducible repeat (first | refine blk_drewN ?_ _ | refine blk_drew ?_ | refine blk_alloc ?_ _)); exact BK277.out⟩, ⟨by repeat (first | (with_reducible first | exact HB.out | apply below_alloc | apply pw_below_drewN | apply below_drew1 | refine below_set ?_ GE277.out | refine below_set ?_ GE280.out) | exact HB.out)⟩⟩
              · rw [if_neg c11] at H
                exact absurd H (by simp)
            · rw [if_neg c10] at H
              exact absurd H (by simp)
          · rw [if_neg c9] at H
            exact absurd H (by simp)
        · rw [if_neg c8] at H
          have c8b0 : decide (x12_1 < (l0_1.length : Int)) = false := decide_eq_false c8
          clear c8
          obtain rfl := Option.some.inj H
          go_wp2
          go_ret
          exact ⟨_, by first | rfl | (simp [errW_none, errW_some] <;> rfl) | (simp [*, errW_none, errW_some] <;> rfl), by (with_reducible repeat (first | apply Kd.R_alloc | apply Kd.R_drewN | apply Kd.R_drew)); exact HO_3.out, by repeat (first | (with_reducible first | exact HB.out | apply below_alloc | apply pw_below_drewN | apply below_drew1 | refine below_set ?_ GE277.out) | exact HB.out)⟩
  · replace c3 := Bool.eq_false_iff.mpr c3
    subst c3
    have H1 : (some ([] : List (S67))) = some r := by rw [if_neg (show ¬ (false = true) by decide)] at H; exact H
    clear H
    have H := H1
    clear H1
    obtain rfl := Option.some.inj H
    go_enter Tryd.func25, Tryd.ntmps25
    go_wp2_with (first | ((with_reducible refine gate_dst (N := 1) rfl ?_); refine box_event ?hg (N := 1) ?hd (cs := #[.int .i64 a0_0, .slice A0_1 l0_1.length c0_1]) (t := 38) ?hr ?_; (case hd => rfl); (case hg => rfl); (case hr => first | (go_simp; done) | (go_simp; rfl)); intro gb277 hg w16 hbox hb; have n0_ := Aside0.mk (below_step (by repeat (first | (with_reducible first | exact HB.out | apply below_alloc | apply pw_below_drewN | apply below_drew1) | exact HB.out)) hb); have n1_ := Aside0.mk (hbox); have n2_ := Aside0.mk ((by rw [hg]; exact (below_size (by repeat (first | (with_reducible first | exact HB.out | apply below_alloc | apply pw_below_drewN | apply below_drew1) | exact HB.out))) : w.heap.size ≤ gb277)); have n3_ := Aside0.mk ((by rw [hg]; exact (below_size (by repeat (first | (with_reducible first | exact HB.out | apply below_alloc | apply pw_below_drewN | apply below_drew1) | exact HB.out))) : w.heap.size ≤ gb277)); clear HB; have HB := n0_; have BK277 := n1_; have GW277 := n2_; have GE277 := n3_; clear n0_ n1_ n2_ n3_; clear hb hbox hg; have hcz17_0 : w16.cell? ⟨gb277, 0, none⟩ = some (.int .i64 a0_0) := (blk_cell BK277.out 0).trans rfl; have hcz17_1 : w16.cell? ⟨gb277, 1, none⟩ = some (.slice A0_1 l0_1.length c0_1) := (blk_cell BK277.out 1).trans rfl; have hfz17_0 := blk_frozen BK277.out 0; have hfz17_1 := blk_frozen BK277.out 1) | ((with_reducible refine gate_callee (f := 21) rfl ?_); refine goesL_ (some 7) rfl rfl Tryd.func21 (by kernel_rfl) rfl #[.agg #[.int .i64 a0_0, .slice A0_1 l0_1.length c0_1]] rfl (by (try simp only [List.map_toArray, List.map_cons, List.map_nil]); first | done | rfl | (simp only [List.length_drop, List.length_take]; rfl)) ?_; (with_reducible refine (shape_Valid.calls k a0_0 _ _ l0_1 false _ ?side1 ?side2 A2.out).mono ?_); (case side1 => repeat (first | exact (Kd.C_below HR0_1.out HB.out) | (with_reducible refine Kd.C_alloc ?_ _) | (with_reducible refine Kd.C_drewN ?_ _) | (with_reducible refine Kd.C_drew ?_))); (case side2 => exact HC0_1.out); rintro e w18 ⟨rfl, hb⟩; refine ⟨_, rfl, ?_⟩; have n0_ := Aside0.mk (blk_below (g := gb277) (o := .cells #[.int .i64 a0_0, .slice A0_1 l0_1.length c0_1] 38 (0, 0)) (by (with_reducible repeat (first | refine blk_drewN ?_ _ | refine blk_drew ?_ | refine blk_alloc ?_ _)); exact BK277.out) hb); have n1_ := Aside0.mk (below_step (by repeat (first | (with_reducible first | exact HB.out | apply below_alloc | apply pw_below_drewN | apply below_drew1 | refine below_set ?_ GE277.out) | exact HB.out)) hb); clear BK277; clear HB; have BK277 := n0_; have HB := n1_; clear n0_ n1_; (try clear hb); (try clear hb2); (try clear hk); (try clear hi)))
    go_ret
    exact ⟨_, by first | rfl | (simp [errW_none, errW_some] <;> rfl) | (simp [*, errW_none, errW_some] <;> rfl), by first | exact Kd.R_nil _ _ _ _ _ | exact Kd.N_nil _ _ _ _ _ | exact Kd.V_nil _ _ _ _ _ | exact Kd.Q_nil _ _ _ _ _ | exact Kd.S_nil _ _ _ _ _, by repeat (first | (with_reducible first | exact HB.out | apply below_alloc | apply pw_below_drewN | apply below_drew1 | refine below_set ?_ GE277.out) | exact HB.out)⟩
end Go.Proofs.YtfmpaofbnjlniaaDoor.F
