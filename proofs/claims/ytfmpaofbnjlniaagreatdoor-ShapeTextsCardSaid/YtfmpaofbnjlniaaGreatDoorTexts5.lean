/- ShapeTexts: Text and Parse answer as the reference says, for every structure and every string. -/
import Derived.Test.YtfmpaofbnjlniaaGreatDoorTexts4
import Derived.Lib.FrozenHead
import Derived.Lib.ConvBytes
import Derived.Laws.BytesString
import Derived.Maps.AppendAt
import Derived.Test.YtfmpaofbnjlniaaGreatDoorCards
import Derived.Test.YtfmpaofbnjlniaaGreatDoorTie
import Derived.SevenTiedAt
namespace Go.Proofs.YtfmpaofbnjlniaaGreatDoor.F
open Go.RowKit Go.Proofs.YtfmpaofbnjlniaaGreatDoorW.PrintWords Go.Proofs.YtfmpaofbnjlniaaGreatDoorW.PrintLast Go.Proofs.YtfmpaofbnjlniaaGreatDoorW.PrintMore
attribute [local go_sem] max2_int min2_int max_two min_two max_three min_three max_four min_four
set_option linter.unusedVariables false
set_option linter.unusedSimpArgs false
theorem wpl_cell15 {P : Program} {ops : Array Oper} {Q : Exit → Act → World → Prop} {rest : List Oper} {a : Act} {w : World} (p : Addr) (v : Value) (h : w.cell? p = some v) (k : w.cell? p = some v → wpList P ops Q rest a w) : wpList P ops Q rest a w := k h
/-! ### paraphrastref01_Parse: function 15 -/
mutual
def paraphrastref01_Parse.l0 : Nat → ByteArray → Int → List (S52) → Option (Int × (List (S52)) × Bool)
 | 0, _, _, _ => none
 | k + 1, x5, x236000, x236001 => if (x5.size : Int) > 2 then (if 0 ≤ 2 then (if 2 ≤ (x5.size : Int) then (if (x5.extract 0 2).toList = ([59, 32] : List UInt8) then (paraphrastref01_Parse.j1 k x5 (decide ((x236001.length : Int) ≤ 8)) x236000 x236001) else (paraphrastref01_Parse.j1 k x5 false x236000 x236001)) else (none)) else (none)) else (paraphrastref01_Parse.j1 k x5 false x236000 x236001)
def paraphrastref01_Parse.j1 : Nat → ByteArray → Bool → Int → List (S52) → Option (Int × (List (S52)) × Bool)
 | 0, _, _, _, _ => none
 | k + 1, x5, x36, x236000, x236001 => if x36 = true then (if 2 ≤ (x5.size : Int) then (paraphrastref01_Parse.l1 k (x5.extract 2 x5.size) 0 x236000 x236001) else (none)) else (if x5.toList = ([] : List UInt8) then ((paraphrastref01_Valid.f k x236000 x236001).bind fun t236 => (if t236 = true then (some (x236000, x236001, true)) else (some (0, ([] : List (S52)), false)))) else (some (0, ([] : List (S52)), false)))
def paraphrastref01_Parse.j3 : Nat → ByteArray → Int → Int → List (S52) → Option (Int × (List (S52)) × Bool)
 | 0, _, _, _, _ => none
 | k + 1, x5, x7, x236000, x236001 => if x7 = (x5.size : Int) then (some (0, ([] : List (S52)), false)) else (if 0 ≤ x7 then (if x7 ≤ (x5.size : Int) then (if 0 ≤ (wrap64 (x7 + 1)) then (if (wrap64 (x7 + 1)) ≤ (x5.size : Int) then ((paraphrastref01_number.f k (x5.extract ((wrap64 (x7 + 1)) : Int).toNat x5.size)).bind fun bt238 => (if bt238.1 < 0 then (some (0, ([] : List (S52)), false)) else (paraphrastref01_Parse.l2 k bt238.2 x236000 x236001 (x5.extract 0 (x7 : Int).toNat) bt238.1 ([] : List (List Int))))) else (none)) else (none)) else (none)) else (none))
def paraphrastref01_Parse.l2 : Nat → ByteArray → Int → List (S52) → ByteArray → Int → List (List Int) → Option (Int × (List (S52)) × Bool)
 | 0, _, _, _, _, _, _ => none
 | k + 1, x5, x236000, x236001, x238000, x238001, x238002 => if (x5.size : Int) > 0 then (if 0 < (x5.size : Int) then (paraphrastref01_Parse.j5 k x5 ((bt x5 0) == 32) x236000 x236001 x238000 x238001 x238002) else (none)) else (paraphrastref01_Parse.j5 k x5 false x236000 x236001 x238000 x238001 x238002)
def paraphrastref01_Parse.j5 : Nat → ByteArray → Bool → Int → List (S52) → ByteArray → Int → List (List Int) → Option (Int × (List (S52)) × Bool)
 | 0, _, _, _, _, _, _, _ => none
 | k + 1, x5, x80, x236000, x236001, x238000, x238001, x238002 => if x80 = true then (if 1 ≤ (x5.size : Int) then ((paraphrastref01_tuple.f k (x5.extract 1 x5.size) x238001).bind fun bt240 => (if bt240.2.2 = true then (if x238002.length < 5864062014805 then (paraphrastref01_Parse.l2 k bt240.2.1 x236000 x236001 x238000 x238001 (x238002 ++ [bt240.1])) else (none)) else (some (0, ([] : List (S52)), false)))) else (none)) else (if x236001.length < 2932031007402 then (paraphrastref01_Parse.l0 k x5 x236000 (x236001 ++ [(⟨x238000, x238001, x238002⟩ : S52)])) else (none))
def paraphrastref01_Parse.l1 : Nat → ByteArray → Int → Int → List (S52) → Option (Int × (List (S52)) × Bool)
 | 0, _, _, _, _ => none
 | k + 1, x5, x7, x236000, x236001 => if x7 < (x5.size : Int) then (if 0 ≤ x7 then (if (bt x5 x7) = 47 then (paraphrastref01_Parse.j3 k x5 x7 x236000 x236001) else (paraphrastref01_Parse.l1 k x5 (wrap64 (x7 + 1)) x236000 x236001)) else (none)) else (paraphrastref01_Parse.j3 k x5 x7 x236000 x236001)
end
def paraphrastref01_Parse.f (k : Nat) (a0 : ByteArray) : Option (Int × (List (S52)) × Bool) := if (a0.size : Int) > 40000 then (some (0, ([] : List (S52)), false)) else ((paraphrastref01_number.f k a0).bind fun bt233 => (paraphrastref01_Parse.l0 k bt233.2 bt233.1 ([] : List (S52))))
def paraphrastref01_Parse.T17 : Bool × List (List Nat × List Nat) := (true, [([], []), ([0], [0]), ([], []), ([2], [2]), ([1, 3], [1, 3]), ([4], [4]), ([5], [5]), ([5], [5]), ([5], [5]), ([6, 4, 0, 1, 2, 3, 4, 5, 6], [6]), ([7, 9, 0, 1, 2, 3, 4, 5, 6, 7, 9], [7]), ([8, 10, 0, 1, 2, 3, 4, 5, 6, 7, 8, 9, 10], [8])])
def paraphrastref01_Parse.B17 : List Nat := [0, 1, 0, 4, 15, 31, 63, 63, 63, 127, 767, 2047]
theorem paraphrastref01_Parse.tab17 : rtab .any (opsOf Tryz.f15 17) = paraphrastref01_Parse.T17 := by kernel_rfl
theorem paraphrastref01_Parse.bits17 : waitsOk paraphrastref01_Parse.T17.2 paraphrastref01_Parse.B17 = true := by kernel_rfl
set_option maxHeartbeats 8000000 in
set_option maxRecDepth 100000 in
theorem paraphrastref01_Parse.calls (k : Nat) (a0 : ByteArray) (r1 : Int) (r2 : List (S52)) (r3 : Bool) (w : World) (h : paraphrastref01_Parse.f k a0 = some (r1, r2, r3)) :
  Calls Tryz.prog 15 #[.string a0] w fun e w' => ∃ v1_ : Value, e = .returned (.tuple #[.agg #[.int .i64 r1, v1_], .bool r3]) ∧ Kd.R k52 52 w' w.heap.size (fun _ => True) v1_ r2 ∧ Below w.heap.size w w' := by
 have hu24 := Tryz.underlying24
 have hu52 := Tryz.underlying52
 have HB := Aside0.mk (Below.refl w.heap.size w)
 have H : (if (a0.size : Int) > 40000 then (some (0, ([] : List (S52)), false)) else ((paraphrastref01_number.f k a0).bind fun bt233 => (paraphrastref01_Parse.l0 k bt233.2 bt233.1 ([] : List (S52))))) = some (r1, r2, r3) := h
 clear h
 by_cases c2 : (a0.size : Int) > 40000
 ·rw [if_pos c2] at H
  have c2b0 : decide (40000 < (a0.size : Int)) = true := decide_eq_true c2
  have c2b1 : decide (40000 < a0.size) = true := decide_eq_true (by omega)
  clear c2
  simp only [Option.some.injEq, Prod.mk.injEq] at H
  obtain ⟨rfl, rfl, rfl⟩ := H
  go_enter Tryz.func15, Tryz.ntmps15
  go_wp2_with (first | ((with_reducible refine gate_dst (N := 2) rfl ?_); (try (refine gate_guard (by rfl) ?_; dsimp only)); refine box_event ?hg (N := 2) ?hd (cs := #[.int .i64 0, .slice none 0 0]) (t := 24) ?hr ?_; (case hd => rfl); (case hg => rfl); (case hr => first | (go_simp; done) | (go_simp; rfl)); intro gb232 hg w3 hbox hb; have BK232 := Aside0.mk (hbox); have GW232 := geB w hg; have GE232 := geB w hg; replace HB := Aside0.mk (below_step bel hb); clear hb hbox hg; obtain ⟨hcz4_0, hcz4_1, hfz4_0, hfz4_1⟩ := bq2 BK232))
  refine bodyPost_ret (results_ct rfl _ _ gb232 24 #[.int .i64 0, .slice none 0 0] (0, 0) _ rfl (by (with_reducible repeat (first | refine blk_drewN ?_ _ | refine blk_drew ?_ | refine blk_alloc ?_ _)); refine blk_put (cs := #[.int .i64 0, .slice none 0 0]) ?_ 1 _ rfl; (with_reducible repeat (first | refine blk_drewN ?_ _ | refine blk_drew ?_ | refine blk_alloc ?_ _)); refine blk_put (cs := #[.int .i64 0, .slice none 0 0]) ?_ 0 _ rfl; (with_reducible repeat (first | refine blk_drewN ?_ _ | refine blk_drew ?_ | refine blk_alloc ?_ _)); exact BK232.out) Tryz.underlying24 rfl (by kernel_rfl)) rfl ?_
  exact ⟨_, eN, by first | exact Kd.R_nil _ _ _ _ _ | exact Kd.N_nil _ _ _ _ _ | exact Kd.V_nil _ _ _ _ _ | exact Kd.Q_nil _ _ _ _ _ | exact Kd.S_nil _ _ _ _ _, bel⟩
 ·rw [if_neg c2] at H
  have c2b0 : decide (40000 < (a0.size : Int)) = false := decide_eq_false c2
  have c2b1 : decide (40000 < a0.size) = false := decide_eq_false (by omega)
  clear c2
  replace H := Option.bind_eq_some_iff.mp H
  obtain ⟨⟨t233, t234⟩, A50, H⟩ := H
  replace H : (paraphrastref01_Parse.l0 k t234 t233 ([] : List (S52))) = some (r1, r2, r3) := H
  have A5 := Aside0.mk A50
  clear A50
  have H' := Aside0.mk H
  clear H
  go_enter Tryz.func15, Tryz.ntmps15
  go_wp2_with (first | ((with_reducible refine gate_dst (N := 2) rfl ?_); (try (refine gate_guard (by rfl) ?_; dsimp only)); refine box_event ?hg (N := 2) ?hd (cs := #[.int .i64 0, .slice none 0 0]) (t := 24) ?hr ?_; (case hd => rfl); (case hg => rfl); (case hr => first | (go_simp; done) | (go_simp; rfl)); intro gb232 hg w6 hbox hb; have BK232 := Aside0.mk (hbox); have GW232 := geB w hg; have GE232 := geB w hg; replace HB := Aside0.mk (below_step bel hb); clear hb hbox hg) | ((with_reducible refine gate_callee (f := 51) rfl ?_); refine gL (some 18) Tryz.func51 #[.string a0] ?_; (with_reducible refine (paraphrastref01_number.calls k a0 t233 t234 _ A5.out).mono ?_); rintro e w' ⟨rfl, ⟨nd, rfl⟩⟩; refine ⟨_, rfl, ?_⟩; (try (rw [drewN_self w6]; generalize hq_ : World.drewN w6 _ = w6; have n0_ : Aside0 (w6.heap[gb232]? = some (.cells #[.int .i64 0, .slice none 0 0] 24 (0, 0))) := ⟨by rw [← hq_]; exact (bk BK232)⟩; have n1_ : Aside0 (Below w.heap.size w w6) := ⟨by rw [← hq_]; exact bel⟩; clear BK232 HB hq_; have BK232 := n0_; have HB := n1_; clear n0_ n1_))) | ((with_reducible refine gate_dst (N := 6) rfl ?_); (try (refine gate_guard (by rfl) ?_; dsimp only)); refine box_event ?hg (N := 6) ?hd (cs := #[.int .i64 0, .slice none 0 0]) (t := 24) ?hr ?_; (case hd => rfl); (case hg => rfl); (case hr => first | (go_simp; done) | (go_simp; rfl)); intro gb235 hg w7 hbox hb; have BK235 := Aside0.mk (hbox); have GW235 := geB w hg; have GE235 := geB w hg; have NB232_235 := neL BK232 hg; have NB235_232 := neG BK232 hg; replace BK232 := blB BK232 hb; replace HB := Aside0.mk (below_step bel hb); clear hb hbox hg; have hnb8 := NB235_232.out; have hnc8 := NB232_235.out; obtain ⟨hcz9_0, hcz9_1, hfz9_0, hfz9_1⟩ := bq2 BK235))
  go_loopg [5] k (fun kq v5 w' => ∃ (x5_1 : ByteArray) (x233000_1 : Int) (x236001_1 : List (S52)) (u236001 : Value), v5 = .string x5_1 ∧ Aside0 (paraphrastref01_Parse.l0 kq x5_1 t233 x236001_1 = some (r1, r2, r3)) ∧ Aside0 (kq ≤ k) ∧ Aside0 (Kd.R k52 52 w' w.heap.size (fun _ => True) u236001 x236001_1) ∧ Aside0 (w'.heap[gb232]? = some (.cells #[.int .i64 x233000_1, (.slice none 0 0)] 24 (0, 0))) ∧ Aside0 (w'.heap[gb235]? = some (.cells #[.int .i64 t233, u236001] 24 (0, 0))) ∧ Aside0 (Below w.heap.size w w'))
  case atStart => exact ⟨(t234), (0), (([] : List (S52))), (.slice none 0 0), eS, H', ⟨Nat.le_refl _⟩, ⟨by first | exact Kd.R_nil _ _ _ _ _ | exact Kd.N_nil _ _ _ _ _ | exact Kd.V_nil _ _ _ _ _ | exact Kd.Q_nil _ _ _ _ _ | exact Kd.S_nil _ _ _ _ _⟩, ⟨by (with_reducible repeat (first | refine blk_drewN ?_ _ | refine blk_drew ?_ | refine blk_alloc ?_ _)); refine blk_far ?_ NB232_235.out _; (with_reducible repeat (first | refine blk_drewN ?_ _ | refine blk_drew ?_ | refine blk_alloc ?_ _)); refine blk_far ?_ NB232_235.out _; (with_reducible repeat (first | refine blk_drewN ?_ _ | refine blk_drew ?_ | refine blk_alloc ?_ _)); exact BK232.out⟩, ⟨by (with_reducible repeat (first | refine blk_drewN ?_ _ | refine blk_drew ?_ | refine blk_alloc ?_ _)); refine blk_put (cs := #[.int .i64 t233, .slice none 0 0]) ?_ 1 _ rfl; (with_reducible repeat (first | refine blk_drewN ?_ _ | refine blk_drew ?_ | refine blk_alloc ?_ _)); refine blk_put (cs := #[.int .i64 0, .slice none 0 0]) ?_ 0 _ rfl; (with_reducible repeat (first | refine blk_drewN ?_ _ | refine blk_drew ?_ | refine blk_alloc ?_ _)); exact BK235.out⟩, ⟨bel⟩⟩
  case round =>
   clear H'
   (try clear c2); (try clear c2b0); (try clear c2b1); (try clear hcz9_0); (try clear hcz9_1); (try clear hfz9_0); (try clear hfz9_1)
   obtain ⟨x5_1, x233000_1, x236001_1, u236001, rfl, HA, HK1, HO_236001, BK232, BK235, HB⟩ := hrel
   cases gk with
   | zero => exact absurd HA.out (by simp [paraphrastref01_Parse.l0])
   | succ k1 =>
    have H := HA.out
    clear HA
    simp only [paraphrastref01_Parse.l0] at H
    have HC10 := Aside0.mk H
    clear H
    go_upto_region 5 with (fail)
    go_cut [36] (fun v36 wc => ∃ (kq : Nat) (x36_9 : Bool), v36 = .bool x36_9 ∧ Aside0 (paraphrastref01_Parse.j1 kq x5_1 x36_9 t233 x236001_1 = some (r1, r2, r3)) ∧ Aside0 (kq ≤ k1) ∧ Aside0 (Kd.R k52 52 wc w.heap.size (fun _ => True) u236001 x236001_1) ∧ Aside0 (wc.heap[gb232]? = some (.cells #[.int .i64 x233000_1, (.slice none 0 0)] 24 (0, 0))) ∧ Aside0 (wc.heap[gb235]? = some (.cells #[.int .i64 t233, u236001] 24 (0, 0))) ∧ Aside0 (Below w.heap.size w wc))
    case first =>
     have H := HC10.out
     clear HC10
     by_cases c11 : (x5_1.size : Int) > 2
     ·rw [if_pos c11] at H
      have c11b0 : decide (2 < (x5_1.size : Int)) = true := decide_eq_true c11
      have c11b1 : decide (2 < x5_1.size) = true := decide_eq_true (by omega)
      clear c11
      (first | rw [c11b0] | (simp only [i64_w, i32_w]; rw [c11b0]) | skip)
      by_cases c12 : 0 ≤ 2
      ·rw [if_pos c12] at H
       have c12b0 := eq_true c12
       have c12b1 : decide (0 ≤ 2) = true := decide_eq_true c12
       clear c12
       by_cases c13 : 2 ≤ (x5_1.size : Int)
       ·rw [if_pos c13] at H
        have c13b0 := eq_true c13
        have c13b1 : decide (2 ≤ (x5_1.size : Int)) = true := decide_eq_true c13
        clear c13
        by_cases c14 : (x5_1.extract 0 2).toList = ([59, 32] : List UInt8)
        ·rw [if_pos c14] at H
         have c14b0 : ((x5_1.extract 0 2).toList == ([59, 32] : List UInt8)) = true := beq_iff_eq.mpr c14
         have c14b1 : ((x5_1.extract 0 2).toList != ([59, 32] : List UInt8)) = false := bne_eq_false_iff_eq.mpr c14
         clear c14
         have H' := Aside0.mk H
         clear H
         have hnb15 := NB235_232.out
         have hnc15 := NB232_235.out
         obtain ⟨hcz16_0, hcz16_1, hfz16_0, hfz16_1⟩ := bq2 BK235
         obtain ⟨Ao17, co17, eo17⟩ := Kd.R_slice HO_236001.out
         subst eo17
         go_wp2
         go_meet
         case rel => exact ⟨_, (decide ((x236001_1.length : Int) ≤ 8)), eS, H', ⟨by have := HK1.out; first | omega | exact Nat.le_refl _⟩, ⟨by (with_reducible repeat (first | apply Kd.R_alloc | apply Kd.R_drewN | apply Kd.R_drew)); exact HO_236001.out⟩, ⟨bk BK232⟩, ⟨bk BK235⟩, ⟨bel⟩⟩
        ·rw [if_neg c14] at H
         have c14b0 : ((x5_1.extract 0 2).toList == ([59, 32] : List UInt8)) = false := beq_eq_false_iff_ne.mpr c14
         have c14b1 : ((x5_1.extract 0 2).toList != ([59, 32] : List UInt8)) = true := bne_iff_ne.mpr c14
         have H' := Aside0.mk H
         clear H
         go_wp2
         go_meet
         case rel => exact ⟨_, (false), eS, H', ⟨by have := HK1.out; first | omega | exact Nat.le_refl _⟩, ⟨by (with_reducible repeat (first | apply Kd.R_alloc | apply Kd.R_drewN | apply Kd.R_drew)); exact HO_236001.out⟩, ⟨bk BK232⟩, ⟨bk BK235⟩, ⟨bel⟩⟩
       ·rw [if_neg c13] at H
        exact absurd H (by simp)
      ·rw [if_neg c12] at H
       exact absurd H (by simp)
     ·rw [if_neg c11] at H
      have c11b0 : decide (2 < (x5_1.size : Int)) = false := decide_eq_false c11
      have c11b1 : decide (2 < x5_1.size) = false := decide_eq_false (by omega)
      clear c11
      (first | rw [c11b0] | (simp only [i64_w, i32_w]; rw [c11b0]) | skip)
      have H' := Aside0.mk H
      clear H
      go_wp2
      go_meet
      case rel => exact ⟨_, (false), eS, H', ⟨by have := HK1.out; first | omega | exact Nat.le_refl _⟩, ⟨by (with_reducible repeat (first | apply Kd.R_alloc | apply Kd.R_drewN | apply Kd.R_drew)); exact HO_236001.out⟩, ⟨bk BK232⟩, ⟨bk BK235⟩, ⟨bel⟩⟩
    case rest =>
     clear HC10
     (try clear c2); (try clear c2b0); (try clear c2b1); (try clear hcz9_0); (try clear hcz9_1); (try clear hfz9_0); (try clear hfz9_1)
     obtain ⟨kq, x36_9, rfl, HA, HJ9, HO_236001, BK232, BK235, HB⟩ := hcut
     cases kq with
     | zero => exact absurd HA.out (by simp [paraphrastref01_Parse.j1])
     | succ kj9 =>
      have H := HA.out
      clear HA
      simp only [paraphrastref01_Parse.j1] at H
      by_cases c18 : x36_9 = true
      ·subst c18
       have H1 : (if 2 ≤ (x5_1.size : Int) then (paraphrastref01_Parse.l1 kj9 (x5_1.extract 2 x5_1.size) 0 t233 x236001_1) else (none)) = some (r1, r2, r3) := by rw [if_pos rfl] at H; exact H
       clear H
       have H := H1
       clear H1
       by_cases c19 : 2 ≤ (x5_1.size : Int)
       ·rw [if_pos c19] at H
        have c19b0 := eq_true c19
        have c19b1 : decide (2 ≤ (x5_1.size : Int)) = true := decide_eq_true c19
        clear c19
        have HC20 := Aside0.mk H
        clear H
        go_upto_block 2 with (fail)
        generalize x5_1.extract 2 x5_1.size = y5 at *
        go_cut [7] (fun v7 wc => ∃ (kq : Nat) (x7_19 : Int), v7 = .int .i64 x7_19 ∧ Aside0 (paraphrastref01_Parse.j3 kq y5 x7_19 t233 x236001_1 = some (r1, r2, r3)) ∧ Aside0 (kq ≤ kj9) ∧ Aside0 (Kd.R k52 52 wc w.heap.size (fun _ => True) u236001 x236001_1) ∧ Aside0 (wc.heap[gb232]? = some (.cells #[.int .i64 x233000_1, (.slice none 0 0)] 24 (0, 0))) ∧ Aside0 (wc.heap[gb235]? = some (.cells #[.int .i64 t233, u236001] 24 (0, 0))) ∧ Aside0 (Below w.heap.size w wc))
        case first =>
         have H := HC20.out
         clear HC20
         have H' := Aside0.mk H
         clear H
         go_wp2
         go_loopg [7] kj9 (fun kq v7 w' => ∃ (x7_3 : Int), v7 = .int .i64 x7_3 ∧ Aside0 (paraphrastref01_Parse.l1 kq y5 x7_3 t233 x236001_1 = some (r1, r2, r3)) ∧ Aside0 (kq ≤ kj9) ∧ Aside0 (Kd.R k52 52 w' w.heap.size (fun _ => True) u236001 x236001_1) ∧ Aside0 (w'.heap[gb232]? = some (.cells #[.int .i64 x233000_1, (.slice none 0 0)] 24 (0, 0))) ∧ Aside0 (w'.heap[gb235]? = some (.cells #[.int .i64 t233, u236001] 24 (0, 0))) ∧ Aside0 (Below w.heap.size w w'))
         case atStart => exact ⟨(0), eS, H', ⟨Nat.le_refl _⟩, ⟨by (with_reducible repeat (first | apply Kd.R_alloc | apply Kd.R_drewN | apply Kd.R_drew)); exact HO_236001.out⟩, ⟨bk BK232⟩, ⟨bk BK235⟩, ⟨bel⟩⟩
         case round =>
          clear H'
          (try clear c2); (try clear c2b0); (try clear c2b1); (try clear c18); (try clear c19); (try clear c19b0); (try clear c19b1); (try clear hcz9_0); (try clear hcz9_1); (try clear hfz9_0); (try clear hfz9_1)
          obtain ⟨x7_3, rfl, HA, HK3, HO_236001, BK232, BK235, HB⟩ := hrel
          cases gk with
          | zero => exact absurd HA.out (by simp [paraphrastref01_Parse.l1])
          | succ k3 =>
           have H := HA.out
           clear HA
           simp only [paraphrastref01_Parse.l1] at H
           by_cases c21 : x7_3 < (y5.size : Int)
           ·rw [if_pos c21] at H
            have c21b0 : decide (x7_3 < (y5.size : Int)) = true := decide_eq_true c21
            clear c21
            (first | rw [c21b0] | (simp only [i64_w, i32_w]; rw [c21b0]) | skip)
            by_cases c22 : 0 ≤ x7_3
            ·rw [if_pos c22] at H
             have c22b0 : decide (0 ≤ x7_3) = true := decide_eq_true c22
             clear c22
             by_cases c24 : (bt y5 x7_3) = 47
             ·rw [if_pos c24] at H
              have c24b0 : ((bt y5 x7_3) == 47) = true := beq_iff_eq.mpr c24
              have c24b1 : ((bt y5 x7_3) != 47) = false := bne_eq_false_iff_eq.mpr c24
              clear c24
              have H' := Aside0.mk H
              clear H
              have p23 : 0 ≤ (x7_3 : Int) := dtr
              have q23 : x7_3 < (y5.size : Int) := dtr
              have hx23 := bt_at y5 x7_3
              replace p23 := eq_true p23
              replace q23 := eq_true q23
              go_wp2
              go_meet
              case rel => exact ⟨_, (x7_3), eS, H', ⟨by have := HK1.out; have := HJ9.out; have := HK3.out; first | omega | exact Nat.le_refl _⟩, ⟨by (with_reducible repeat (first | apply Kd.R_alloc | apply Kd.R_drewN | apply Kd.R_drew)); exact HO_236001.out⟩, ⟨bk BK232⟩, ⟨bk BK235⟩, ⟨bel⟩⟩
             ·rw [if_neg c24] at H
              have c24b0 : ((bt y5 x7_3) == 47) = false := beq_eq_false_iff_ne.mpr c24
              have c24b1 : ((bt y5 x7_3) != 47) = true := bne_iff_ne.mpr c24
              have H' := Aside0.mk H
              clear H
              have p23 : 0 ≤ (x7_3 : Int) := dtr
              have q23 : x7_3 < (y5.size : Int) := dtr
              have hx23 := bt_at y5 x7_3
              replace p23 := eq_true p23
              replace q23 := eq_true q23
              go_wp2
              go_roundg k3
              case measure => have := HK1.out; have := HJ9.out; have := HK3.out; omega
              case rel => exact ⟨(wrap64 (x7_3 + 1)), eS, H', ⟨by have := HK1.out; have := HJ9.out; have := HK3.out; omega⟩, ⟨by (with_reducible repeat (first | apply Kd.R_alloc | apply Kd.R_drewN | apply Kd.R_drew)); exact HO_236001.out⟩, ⟨bk BK232⟩, ⟨bk BK235⟩, ⟨bel⟩⟩
            ·rw [if_neg c22] at H
             exact absurd H (by simp)
           ·rw [if_neg c21] at H
            have c21b0 : decide (x7_3 < (y5.size : Int)) = false := decide_eq_false c21
            clear c21
            (first | rw [c21b0] | (simp only [i64_w, i32_w]; rw [c21b0]) | skip)
            have H' := Aside0.mk H
            clear H
            go_wp2
            go_meet
            case rel => exact ⟨_, (x7_3), eS, H', ⟨by have := HK1.out; have := HJ9.out; have := HK3.out; first | omega | exact Nat.le_refl _⟩, ⟨by (with_reducible repeat (first | apply Kd.R_alloc | apply Kd.R_drewN | apply Kd.R_drew)); exact HO_236001.out⟩, ⟨bk BK232⟩, ⟨bk BK235⟩, ⟨bel⟩⟩
        case rest =>
         clear HC20
         (try clear c2); (try clear c2b0); (try clear c2b1); (try clear c18); (try clear c19); (try clear c19b0); (try clear c19b1); (try clear hcz9_0); (try clear hcz9_1); (try clear hfz9_0); (try clear hfz9_1)
         obtain ⟨kq, x7_19, rfl, HA, HJ19, HO_236001, BK232, BK235, HB⟩ := hcut
         cases kq with
         | zero => exact absurd HA.out (by simp [paraphrastref01_Parse.j3])
         | succ kj19 =>
          have H := HA.out
          clear HA
          simp only [paraphrastref01_Parse.j3] at H
          by_cases c25 : x7_19 = (y5.size : Int)
          ·rw [if_pos c25] at H
           have c25b0 : (x7_19 == (y5.size : Int)) = true := beq_iff_eq.mpr c25
           have c25b1 : (x7_19 != (y5.size : Int)) = false := bne_eq_false_iff_eq.mpr c25
           clear c25
           simp only [Option.some.injEq, Prod.mk.injEq] at H
           obtain ⟨rfl, rfl, rfl⟩ := H
           have hnb26 := NB232_235.out
           have hnc26 := NB235_232.out
           obtain ⟨hcz27_0, hcz27_1, hfz27_0, hfz27_1⟩ := bq2 BK232
           go_wp2
           refine bodyPost_ret (results_ct rfl _ _ gb232 24 #[.int .i64 0, .slice none 0 0] (0, 0) _ rfl (by (with_reducible repeat (first | refine blk_drewN ?_ _ | refine blk_drew ?_ | refine blk_alloc ?_ _)); refine blk_put (cs := #[.int .i64 0, .slice none 0 0]) ?_ 1 _ rfl; (with_reducible repeat (first | refine blk_drewN ?_ _ | refine blk_drew ?_ | refine blk_alloc ?_ _)); refine blk_put (cs := #[.int .i64 x233000_1, .slice none 0 0]) ?_ 0 _ rfl; (with_reducible repeat (first | refine blk_drewN ?_ _ | refine blk_drew ?_ | refine blk_alloc ?_ _)); exact BK232.out) Tryz.underlying24 rfl (by kernel_rfl)) rfl ?_
           exact ⟨_, eN, by first | exact Kd.R_nil _ _ _ _ _ | exact Kd.N_nil _ _ _ _ _ | exact Kd.V_nil _ _ _ _ _ | exact Kd.Q_nil _ _ _ _ _ | exact Kd.S_nil _ _ _ _ _, bel⟩
          ·rw [if_neg c25] at H
           have c25b0 : (x7_19 == (y5.size : Int)) = false := beq_eq_false_iff_ne.mpr c25
           have c25b1 : (x7_19 != (y5.size : Int)) = true := bne_iff_ne.mpr c25
           by_cases c28 : 0 ≤ x7_19
           ·rw [if_pos c28] at H
            have c28b0 := eq_true c28
            have c28b1 : decide (0 ≤ x7_19) = true := decide_eq_true c28
            clear c28
            by_cases c29 : x7_19 ≤ (y5.size : Int)
            ·rw [if_pos c29] at H
             have c29b0 := eq_true c29
             have c29b1 : decide (x7_19 ≤ (y5.size : Int)) = true := decide_eq_true c29
             clear c29
             obtain ⟨ji30, hji30⟩ : ∃ j_ : Int, (wrap64 (x7_19 + 1)) = j_ := ⟨_, rfl⟩
             replace H : (if 0 ≤ (ji30) then (if (ji30) ≤ (y5.size : Int) then ((paraphrastref01_number.f kj19 (y5.extract ((ji30) : Int).toNat y5.size)).bind fun bt238 => (if bt238.1 < 0 then (some (0, ([] : List (S52)), false)) else (paraphrastref01_Parse.l2 kj19 bt238.2 t233 x236001_1 (y5.extract 0 (x7_19 : Int).toNat) bt238.1 ([] : List (List Int))))) else (none)) else (none)) = some (r1, r2, r3) := by first | (rw [hji30] at H; exact H) | (simp only [hji30] at H ⊢; exact H)
             have hji30w : (IntKind.i64.wrap (x7_19 + 1)) = ji30 := (i64_w _).trans hji30
             by_cases c31 : 0 ≤ (ji30)
             ·rw [if_pos c31] at H
              have c31b0 := eq_true c31
              have c31b1 : decide (0 ≤ (ji30)) = true := decide_eq_true c31
              clear c31
              by_cases c32 : (ji30) ≤ (y5.size : Int)
              ·rw [if_pos c32] at H
               have c32b0 := eq_true c32
               have c32b1 : decide ((ji30) ≤ (y5.size : Int)) = true := decide_eq_true c32
               clear c32
               replace H := Option.bind_eq_some_iff.mp H
               obtain ⟨⟨t238, t239⟩, A330, H⟩ := H
               replace H : (if t238 < 0 then (some (0, ([] : List (S52)), false)) else (paraphrastref01_Parse.l2 kj19 t239 t233 x236001_1 (y5.extract 0 (x7_19 : Int).toNat) t238 ([] : List (List Int)))) = some (r1, r2, r3) := H
               have A33 := Aside0.mk A330
               clear A330
               by_cases c34 : t238 < 0
               ·rw [if_pos c34] at H
                have c34b0 : decide (t238 < 0) = true := decide_eq_true c34
                clear c34
                simp only [Option.some.injEq, Prod.mk.injEq] at H
                obtain ⟨rfl, rfl, rfl⟩ := H
                go_wp2_with (first | ((with_reducible refine gate_dst (N := 8) rfl ?_); (try (refine gate_guard (by rfl) ?_; dsimp only)); refine box_event ?hg (N := 8) ?hd (cs := #[.string (⟨#[]⟩ : ByteArray), .int .i64 0, .slice none 0 0]) (t := 52) ?hr ?_; (case hd => rfl); (case hg => rfl); (case hr => first | (go_simp; done) | (go_simp; rfl)); intro gb237 hg w35 hbox hb; have BK237 := Aside0.mk (hbox); have GW237 := geB w hg; have GE237 := geB w hg; have NB232_237 := neL BK232 hg; have NB237_232 := neG BK232 hg; have NB235_237 := neL BK235 hg; have NB237_235 := neG BK235 hg; replace HO_236001 := Aside0.mk (Kd.R_below (Kd.R_elderB (tw HO_236001.out) gb237 (Nat.le_of_eq hg.symm)) hb); replace BK232 := blB BK232 hb; replace BK235 := blB BK235 hb; replace HB := Aside0.mk (below_step bel hb); clear hb hbox hg; have hnb36 := NB237_232.out; have hnc36 := NB232_237.out; have hnb37 := NB237_235.out; have hnc37 := NB235_237.out; obtain ⟨hcz38_0, hcz38_1, hcz38_2, hfz38_0, hfz38_1, hfz38_2⟩ := bq3 BK237) | ((with_reducible refine gate_callee (f := 51) rfl ?_); refine goesL_ (some 65) rfl rfl Tryz.func51 (by kernel_rfl) rfl #[.string (y5.extract ((ji30) : Int).toNat y5.size)] rfl (by (try simp only [List.map_toArray, List.map_cons, List.map_nil]); first | done | (simp only [hji30]; rfl) | rfl | (simp only [List.length_drop, List.length_take]; rfl)) ?_; (with_reducible refine (paraphrastref01_number.calls kj19 (y5.extract ((ji30) : Int).toNat y5.size) t238 t239 _ A33.out).mono ?_); rintro e w' ⟨rfl, ⟨nd, rfl⟩⟩; refine ⟨_, rfl, ?_⟩; refine wpl_cell15 ⟨gb237, 1, none⟩ (.int .i64 0) (by go_simp) ?_; intro hcq_; have hnb39 := NB232_235.out; have hnc39 := NB235_232.out; obtain ⟨hcz40_0, hcz40_1, hfz40_0, hfz40_1⟩ := bq2 BK232))
                refine bodyPost_ret (results_ct rfl _ _ gb232 24 #[.int .i64 0, .slice none 0 0] (0, 0) _ rfl (by (with_reducible repeat (first | refine blk_drewN ?_ _ | refine blk_drew ?_ | refine blk_alloc ?_ _)); refine blk_put (cs := #[.int .i64 0, .slice none 0 0]) ?_ 1 _ rfl; (with_reducible repeat (first | refine blk_drewN ?_ _ | refine blk_drew ?_ | refine blk_alloc ?_ _)); refine blk_put (cs := #[.int .i64 x233000_1, .slice none 0 0]) ?_ 0 _ rfl; (with_reducible repeat (first | refine blk_drewN ?_ _ | refine blk_drew ?_ | refine blk_alloc ?_ _)); refine blk_far ?_ NB232_237.out _; (with_reducible repeat (first | refine blk_drewN ?_ _ | refine blk_drew ?_ | refine blk_alloc ?_ _)); refine blk_far ?_ NB232_237.out _; (with_reducible repeat (first | refine blk_drewN ?_ _ | refine blk_drew ?_ | refine blk_alloc ?_ _)); refine blk_far ?_ NB232_237.out _; (with_reducible repeat (first | refine blk_drewN ?_ _ | refine blk_drew ?_ | refine blk_alloc ?_ _)); refine blk_far ?_ NB232_237.out _; (with_reducible repeat (first | refine blk_drewN ?_ _ | refine blk_drew ?_ | refine blk_alloc ?_ _)); exact BK232.out) Tryz.underlying24 rfl (by kernel_rfl)) rfl ?_
                exact ⟨_, by first | rfl | (simp [errW_none, errW_some] <;> rfl) | (simp only [← hji30]; first | rfl | (simp [errW_none, errW_some] <;> rfl)) | (simp [*, errW_none, errW_some] <;> rfl), by first | exact Kd.R_nil _ _ _ _ _ | exact Kd.N_nil _ _ _ _ _ | exact Kd.V_nil _ _ _ _ _ | exact Kd.Q_nil _ _ _ _ _ | exact Kd.S_nil _ _ _ _ _, bel⟩
               ·rw [if_neg c34] at H
                have c34b0 : decide (t238 < 0) = false := decide_eq_false c34
                clear c34
                have H' := Aside0.mk H
                clear H
                go_wp2_with (first | ((with_reducible refine gate_dst (N := 8) rfl ?_); (try (refine gate_guard (by rfl) ?_; dsimp only)); refine box_event ?hg (N := 8) ?hd (cs := #[.string (⟨#[]⟩ : ByteArray), .int .i64 0, .slice none 0 0]) (t := 52) ?hr ?_; (case hd => rfl); (case hg => rfl); (case hr => first | (go_simp; done) | (go_simp; rfl)); intro gb237 hg w41 hbox hb; have BK237 := Aside0.mk (hbox); have GW237 := geB w hg; have GE237 := geB w hg; have NB232_237 := neL BK232 hg; have NB237_232 := neG BK232 hg; have NB235_237 := neL BK235 hg; have NB237_235 := neG BK235 hg; replace HO_236001 := Aside0.mk (Kd.R_below (Kd.R_elderB (tw HO_236001.out) gb237 (Nat.le_of_eq hg.symm)) hb); replace BK232 := blB BK232 hb; replace BK235 := blB BK235 hb; replace HB := Aside0.mk (below_step bel hb); clear hb hbox hg; have hnb42 := NB237_232.out; have hnc42 := NB232_237.out; have hnb43 := NB237_235.out; have hnc43 := NB235_237.out; obtain ⟨hcz44_0, hcz44_1, hcz44_2, hfz44_0, hfz44_1, hfz44_2⟩ := bq3 BK237) | ((with_reducible refine gate_callee (f := 51) rfl ?_); refine goesL_ (some 65) rfl rfl Tryz.func51 (by kernel_rfl) rfl #[.string (y5.extract ((ji30) : Int).toNat y5.size)] rfl (by (try simp only [List.map_toArray, List.map_cons, List.map_nil]); first | done | (simp only [hji30]; rfl) | rfl | (simp only [List.length_drop, List.length_take]; rfl)) ?_; (with_reducible refine (paraphrastref01_number.calls kj19 (y5.extract ((ji30) : Int).toNat y5.size) t238 t239 _ A33.out).mono ?_); rintro e w' ⟨rfl, ⟨nd, rfl⟩⟩; refine ⟨_, rfl, ?_⟩; refine wpl_cell15 ⟨gb237, 1, none⟩ (.int .i64 0) (by go_simp) ?_; intro hcq_))
                go_loopg [5] kj19 (fun kq v5 w' => ∃ (x5_4 : ByteArray) (x233000_4 : Int) (x238002_4 : List (List Int)) (u238002 : Value), v5 = .string x5_4 ∧ Aside0 (paraphrastref01_Parse.l2 kq x5_4 t233 x236001_1 (y5.extract 0 (x7_19 : Int).toNat) t238 x238002_4 = some (r1, r2, r3)) ∧ Aside0 (kq ≤ kj19) ∧ Aside0 (Kd.R k52 52 w' w.heap.size (fun k_ => some k_ ≠ (u238002 : Value).ownBlock ∧ k_ ≠ gb237) u236001 x236001_1) ∧ Aside0 (Kd.S (Kd.slice 3 (Kd.int .i64)) 46 w' w.heap.size (fun _ => True) u238002 x238002_4) ∧ Aside0 (w'.heap[gb232]? = some (.cells #[.int .i64 x233000_4, (.slice none 0 0)] 24 (0, 0))) ∧ Aside0 (w'.heap[gb235]? = some (.cells #[.int .i64 t233, u236001] 24 (0, 0))) ∧ Aside0 (w'.heap[gb237]? = some (.cells #[.string (y5.extract 0 (x7_19 : Int).toNat), .int .i64 t238, u238002] 52 (0, 0))) ∧ Aside0 (Below w.heap.size w w'))
                case atStart => exact ⟨(t239), (x233000_1), (([] : List (List Int))), (.slice none 0 0), eS, H', ⟨Nat.le_refl _⟩, ⟨by (with_reducible repeat (first | apply Kd.R_alloc | apply Kd.R_drewN | apply Kd.R_drew)); exact Kd.R_mono (Kd.R_far (p := ⟨gb237, 1, none⟩) (Kd.R_far (p := ⟨gb237, 2, none⟩) (Kd.R_far (p := ⟨gb237, 1, none⟩) (Kd.R_far (p := ⟨gb237, 0, none⟩) (Kd.R_mono HO_236001.out (fun k_ hk => (⟨hk, hk.2⟩ : _ ∧ k_ ≠ gb237))) (fun _ hk => hk.2) (.string (y5.extract 0 (x7_19 : Int).toNat))) (fun _ hk => hk.2) (.int .i64 0)) (fun _ hk => hk.2) (.slice none 0 0)) (fun _ hk => hk.2) (.int .i64 t238)) (fun _ hk => ⟨(by simp [Value.ownBlock]), hk.1.2⟩)⟩, ⟨by first | exact Kd.S_nil _ _ _ _ _ | exact Kd.N_nil _ _ _ _ _ | exact Kd.V_nil _ _ _ _ _ | exact Kd.Q_nil _ _ _ _ _ | exact Kd.R_nil _ _ _ _ _⟩, ⟨by (with_reducible repeat (first | refine blk_drewN ?_ _ | refine blk_drew ?_ | refine blk_alloc ?_ _)); refine blk_far ?_ NB232_237.out _; (with_reducible repeat (first | refine blk_drewN ?_ _ | refine blk_drew ?_ | refine blk_alloc ?_ _)); refine blk_far ?_ NB232_237.out _; (with_reducible repeat (first | refine blk_drewN ?_ _ | refine blk_drew ?_ | refine blk_alloc ?_ _)); refine blk_far ?_ NB232_237.out _; (with_reducible repeat (first | refine blk_drewN ?_ _ | refine blk_drew ?_ | refine blk_alloc ?_ _)); refine blk_far ?_ NB232_237.out _; (with_reducible repeat (first | refine blk_drewN ?_ _ | refine blk_drew ?_ | refine blk_alloc ?_ _)); exact BK232.out⟩, ⟨by (with_reducible repeat (first | refine blk_drewN ?_ _ | refine blk_drew ?_ | refine blk_alloc ?_ _)); refine blk_far ?_ NB235_237.out _; (with_reducible repeat (first | refine blk_drewN ?_ _ | refine blk_drew ?_ | refine blk_alloc ?_ _)); refine blk_far ?_ NB235_237.out _; (with_reducible repeat (first | refine blk_drewN ?_ _ | refine blk_drew ?_ | refine blk_alloc ?_ _)); refine blk_far ?_ NB235_237.out _; (with_reducible repeat (first | refine blk_drewN ?_ _ | refine blk_drew ?_ | refine blk_alloc ?_ _)); refine blk_far ?_ NB235_237.out _; (with_reducible repeat (first | refine blk_drewN ?_ _ | refine blk_drew ?_ | refine blk_alloc ?_ _)); exact BK235.out⟩, ⟨by (with_reducible repeat (first | refine blk_drewN ?_ _ | refine blk_drew ?_ | refine blk_alloc ?_ _)); refine blk_put (cs := #[.string (y5.extract 0 (x7_19 : Int).toNat), .int .i64 0, .slice none 0 0]) ?_ 1 _ rfl; (with_reducible repeat (first | refine blk_drewN ?_ _ | refine blk_drew ?_ | refine blk_alloc ?_ _)); refine blk_put (cs := #[.string (y5.extract 0 (x7_19 : Int).toNat), .int .i64 0, .slice none 0 0]) ?_ 2 _ rfl; (with_reducible repeat (first | refine blk_drewN ?_ _ | refine blk_drew ?_ | refine blk_alloc ?_ _)); refine blk_put (cs := #[.string (y5.extract 0 (x7_19 : Int).toNat), .int .i64 0, .slice none 0 0]) ?_ 1 _ rfl; (with_reducible repeat (first | refine blk_drewN ?_ _ | refine blk_drew ?_ | refine blk_alloc ?_ _)); refine blk_put (cs := #[.string (⟨#[]⟩ : ByteArray), .int .i64 0, .slice none 0 0]) ?_ 0 _ rfl; (with_reducible repeat (first | refine blk_drewN ?_ _ | refine blk_drew ?_ | refine blk_alloc ?_ _)); exact BK237.out⟩, ⟨bel⟩⟩
                case round =>
                 clear H'
                 (try clear c2); (try clear c2b0); (try clear c2b1); (try clear c18); (try clear c19); (try clear c19b0); (try clear c19b1); (try clear c25); (try clear c25b0); (try clear c25b1); (try clear c28); (try clear c28b0); (try clear c28b1); (try clear c29); (try clear c29b0); (try clear c29b1); (try clear c31); (try clear c31b0); (try clear c31b1); (try clear c32); (try clear c32b0); (try clear c32b1); (try clear c34); (try clear c34b0); (try clear hcz44_0); (try clear hcz44_1); (try clear hcz44_2); (try clear hcz9_0); (try clear hcz9_1); (try clear hfz44_0); (try clear hfz44_1); (try clear hfz44_2); (try clear hfz9_0); (try clear hfz9_1)
                 obtain ⟨x5_4, x233000_4, x238002_4, u238002, rfl, HA, HK4, HO_236001, HO_238002, BK232, BK235, BK237, HB⟩ := hrel
                 cases gk with
                 | zero => exact absurd HA.out (by simp [paraphrastref01_Parse.l2])
                 | succ k4 =>
                  have H := HA.out
                  clear HA
                  simp only [paraphrastref01_Parse.l2] at H
                  have HC45 := Aside0.mk H
                  clear H
                  go_upto_region 16 with (fail)
                  go_cut [80] (fun v80 wc => ∃ (kq : Nat) (x80_44 : Bool), v80 = .bool x80_44 ∧ Aside0 (paraphrastref01_Parse.j5 kq x5_4 x80_44 t233 x236001_1 (y5.extract 0 (x7_19 : Int).toNat) t238 x238002_4 = some (r1, r2, r3)) ∧ Aside0 (kq ≤ k4) ∧ Aside0 (Kd.R k52 52 wc w.heap.size (fun k_ => some k_ ≠ (u238002 : Value).ownBlock ∧ k_ ≠ gb237) u236001 x236001_1) ∧ Aside0 (Kd.S (Kd.slice 3 (Kd.int .i64)) 46 wc w.heap.size (fun _ => True) u238002 x238002_4) ∧ Aside0 (wc.heap[gb232]? = some (.cells #[.int .i64 x233000_4, (.slice none 0 0)] 24 (0, 0))) ∧ Aside0 (wc.heap[gb235]? = some (.cells #[.int .i64 t233, u236001] 24 (0, 0))) ∧ Aside0 (wc.heap[gb237]? = some (.cells #[.string (y5.extract 0 (x7_19 : Int).toNat), .int .i64 t238, u238002] 52 (0, 0))) ∧ Aside0 (Below w.heap.size w wc))
                  case first =>
                   have H := HC45.out
                   clear HC45
                   by_cases c46 : (x5_4.size : Int) > 0
                   ·rw [if_pos c46] at H
                    have c46b0 : decide (0 < (x5_4.size : Int)) = true := decide_eq_true c46
                    have c46b1 : decide (0 < x5_4.size) = true := decide_eq_true (by omega)
                    clear c46
                    (first | rw [c46b0] | (simp only [i64_w, i32_w]; rw [c46b0]) | skip)
                    by_cases c47 : 0 < (x5_4.size : Int)
                    ·rw [if_pos c47] at H
                     have c47b0 : decide (0 < (x5_4.size : Int)) = true := decide_eq_true c47
                     have c47b1 : decide (0 < x5_4.size) = true := decide_eq_true (by omega)
                     clear c47
                     have H' := Aside0.mk H
                     clear H
                     have p48 : 0 ≤ (0 : Int) := (by omega)
                     have q48 : 0 < x5_4.size := (by have : (0 : Int) < (x5_4.size : Int) := dtr; omega)
                     have hx48 : ∀ h : 0 < x5_4.size, ((x5_4[0]'h).toNat : Int) = bt x5_4 0 := bt_at x5_4 0
                     clear p48
                     have qi48 : (0 < (x5_4.size : Int)) = True := eq_true (dtr)
                     replace q48 := eq_true q48
                     go_wp2
                     go_meet
                     case rel => exact ⟨_, (((bt x5_4 0) == 32)), eS, H', ⟨by have := HK1.out; have := HJ9.out; have := HJ19.out; have := HK4.out; first | omega | exact Nat.le_refl _⟩, ⟨by (with_reducible repeat (first | apply Kd.R_alloc | apply Kd.R_drewN | apply Kd.R_drew)); exact HO_236001.out⟩, ⟨by (with_reducible repeat (first | apply Kd.S_alloc | apply Kd.S_drewN | apply Kd.S_drew)); exact HO_238002.out⟩, ⟨bk BK232⟩, ⟨bk BK235⟩, ⟨bk BK237⟩, ⟨bel⟩⟩
                    ·rw [if_neg c47] at H
                     exact absurd H (by simp)
                   ·rw [if_neg c46] at H
                    have c46b0 : decide (0 < (x5_4.size : Int)) = false := decide_eq_false c46
                    have c46b1 : decide (0 < x5_4.size) = false := decide_eq_false (by omega)
                    clear c46
                    (first | rw [c46b0] | (simp only [i64_w, i32_w]; rw [c46b0]) | skip)
                    have H' := Aside0.mk H
                    clear H
                    go_wp2
                    go_meet
                    case rel => exact ⟨_, (false), eS, H', ⟨by have := HK1.out; have := HJ9.out; have := HJ19.out; have := HK4.out; first | omega | exact Nat.le_refl _⟩, ⟨by (with_reducible repeat (first | apply Kd.R_alloc | apply Kd.R_drewN | apply Kd.R_drew)); exact HO_236001.out⟩, ⟨by (with_reducible repeat (first | apply Kd.S_alloc | apply Kd.S_drewN | apply Kd.S_drew)); exact HO_238002.out⟩, ⟨bk BK232⟩, ⟨bk BK235⟩, ⟨bk BK237⟩, ⟨bel⟩⟩
                  case rest =>
                   clear HC45
                   (try clear c2); (try clear c2b0); (try clear c2b1); (try clear c18); (try clear c19); (try clear c19b0); (try clear c19b1); (try clear c25); (try clear c25b0); (try clear c25b1); (try clear c28); (try clear c28b0); (try clear c28b1); (try clear c29); (try clear c29b0); (try clear c29b1); (try clear c31); (try clear c31b0); (try clear c31b1); (try clear c32); (try clear c32b0); (try clear c32b1); (try clear c34); (try clear c34b0); (try clear hcz44_0); (try clear hcz44_1); (try clear hcz44_2); (try clear hcz9_0); (try clear hcz9_1); (try clear hfz44_0); (try clear hfz44_1); (try clear hfz44_2); (try clear hfz9_0); (try clear hfz9_1)
                   obtain ⟨kq, x80_44, rfl, HA, HJ44, HO_236001, HO_238002, BK232, BK235, BK237, HB⟩ := hcut
                   cases kq with
                   | zero => exact absurd HA.out (by simp [paraphrastref01_Parse.j5])
                   | succ kj44 =>
                    have H := HA.out
                    clear HA
                    simp only [paraphrastref01_Parse.j5] at H
                    by_cases c49 : x80_44 = true
                    ·subst c49
                     have H1 : (if 1 ≤ (x5_4.size : Int) then ((paraphrastref01_tuple.f kj44 (x5_4.extract 1 x5_4.size) t238).bind fun bt240 => (if bt240.2.2 = true then (if x238002_4.length < 5864062014805 then (paraphrastref01_Parse.l2 kj44 bt240.2.1 t233 x236001_1 (y5.extract 0 (x7_19 : Int).toNat) t238 (x238002_4 ++ [bt240.1])) else (none)) else (some (0, ([] : List (S52)), false)))) else (none)) = some (r1, r2, r3) := by rw [if_pos rfl] at H; exact H
                     clear H
                     have H := H1
                     clear H1
                     by_cases c50 : 1 ≤ (x5_4.size : Int)
                     ·rw [if_pos c50] at H
                      have c50b0 := eq_true c50
                      have c50b1 : decide (1 ≤ (x5_4.size : Int)) = true := decide_eq_true c50
                      clear c50
                      replace H := Option.bind_eq_some_iff.mp H
                      obtain ⟨⟨t240, t241, t242⟩, A510, H⟩ := H
                      replace H : (if t242 = true then (if x238002_4.length < 5864062014805 then (paraphrastref01_Parse.l2 kj44 t241 t233 x236001_1 (y5.extract 0 (x7_19 : Int).toNat) t238 (x238002_4 ++ [t240])) else (none)) else (some (0, ([] : List (S52)), false))) = some (r1, r2, r3) := H
                      have A51 := Aside0.mk A510
                      clear A510
                      by_cases c52 : t242 = true
                      ·subst c52
                       have H1 : (if x238002_4.length < 5864062014805 then (paraphrastref01_Parse.l2 kj44 t241 t233 x236001_1 (y5.extract 0 (x7_19 : Int).toNat) t238 (x238002_4 ++ [t240])) else (none)) = some (r1, r2, r3) := by rw [if_pos rfl] at H; exact H
                       clear H
                       have H := H1
                       clear H1
                       by_cases c53 : x238002_4.length < 5864062014805
                       ·rw [if_pos c53] at H
                        have LMc53 := Aside0.mk c53
                        clear c53
                        obtain ⟨y245, hy245⟩ : ∃ y_ : List (List Int), y_ = (x238002_4 ++ [t240]) := ⟨_, rfl⟩
                        replace H : (paraphrastref01_Parse.l2 kj44 t241 t233 x236001_1 (y5.extract 0 (x7_19 : Int).toNat) t238 y245) = some (r1, r2, r3) := by first | (rw [hy245]; with_reducible exact H) | (have H2_ := (Option.bind_some _ _).symm.trans H; rw [hy245]; with_reducible exact H2_) | (have H2_ := (Option.bind_some _ _).symm.trans H; with_reducible exact H2_) | with_reducible exact H | (rw [hy245]; exact H) | exact H
                        have Ny245 := Aside0.mk hy245
                        clear hy245
                        have H' := Aside0.mk H
                        clear H
                        try go_wp2
                        replace HO_236001 := Aside0.mk (Kd.R_drew HO_236001.out)
                        replace HO_238002 := Aside0.mk (Kd.S_drew HO_238002.out)
                        replace BK232 := Aside0.mk (blk_drew BK232.out)
                        replace BK235 := Aside0.mk (blk_drew BK235.out)
                        replace BK237 := Aside0.mk (blk_drew BK237.out)
                        replace HB := Aside0.mk (below_drew1 HB.out)
                        refine start_ (n := 12) (S := fun w' => w'.cell? ⟨gb237, 0, none⟩ = some (.string (y5.extract 0 (x7_19 : Int).toNat)) ∧ w'.cell? ⟨gb237, 1, none⟩ = some (.int .i64 t238) ∧ w'.cell? ⟨gb237, 2, none⟩ = some (u238002)) (ds := []) #[false, false, false, false, false, false, false, false, false, false, false, false] (by kernel_rfl) rfl rfl ⟨(blk_cell BK237.out 0).trans rfl, (blk_cell BK237.out 1).trans rfl, (blk_cell BK237.out 2).trans rfl⟩ (fun hHeld => ?_); refine with_tabW paraphrastref01_Parse.tab17 paraphrastref01_Parse.bits17 (fun HT_ HW_ => ?_)
                        generalize wc.drew = w54 at HO_236001 HO_238002 BK232 BK235 BK237 HB hHeld ⊢
                        refine sPu 0 (some 82) ?_
                        refine sPu 1 (some 83) ?_
                        refine sPu 2 (some 84) ?_
                        refine sTk 3 (some 85) ?_
                        refine sOn 4 (some 86) (fun K hK => ?_)
                        refine goes_ Tryz.func52 (by kernel_rfl) rfl #[.string (x5_4.extract 1 x5_4.size), .int .i64 t238] (by rfl) rfl rfl (by (try simp only [List.map_toArray, List.map_cons, List.map_nil]); first | done | rfl | (simp only [List.length_drop, List.length_take]; rfl)) ?_
                        with_reducible refine (paraphrastref01_tuple.calls kj44 (x5_4.extract 1 x5_4.size) t238 t240 t241 true _ A51.out).mono ?_
                        rintro e w55 ⟨v243, rfl, ho0, hb⟩
                        refine ⟨_, rfl, ?_⟩
                        have HO244 := Aside0.mk (Kd.R_lower ho0 (below_size bel))
                        replace HO_236001 := rE HO_236001 (Kd.R_base ho0) hb
                        replace HO_238002 := Aside0.mk (Kd.S_elder' (by (with_reducible repeat (first | apply Kd.S_alloc | apply Kd.S_drewN | apply Kd.S_drew)); exact HO_238002.out) (Kd.R_base ho0) hb)
                        replace BK232 := blB BK232 hb
                        replace BK235 := blB BK235 hb
                        replace BK237 := blB BK237 hb
                        replace HB := Aside0.mk (below_step bel hb)
                        (try clear hb)
                        (try clear hb2)
                        (try clear hk)
                        (try clear hi)
                        (try clear ho0)
                        refine hK.out _ _ ⟨(blk_cell BK237.out 0).trans rfl, (blk_cell BK237.out 1).trans rfl, (blk_cell BK237.out 2).trans rfl⟩ (fun hHeld => ?_)
                        clear hK K
                        refine norm_ (a' := ?_) ?_ ?_
                        rotate_left
                        ·show Act.put _ (some 86) _ = _
                         simp only [Act.put, List.setIfInBounds_toArray, List.set_cons_zero, List.set_cons_succ, i64_w, i32_w]
                         rfl
                        refine sPu 5 (some 81) ?_
                        refine sPu 6 (some 87) ?_
                        refine sPu 7 (some 88) ?_
                        refine sPu 8 (some 89) ?_
                        refine sPu 9 (some 9) ?_
                        refine sPu 10 (some 10) ?_
                        refine sPu 11 (some 11) ?_
                        refine done_ (done_of HT_.out (by kernel_rfl)) ?_
                        have hnb56 := NB237_232.out
                        have hnc56 := NB232_237.out
                        have hnb57 := NB237_235.out
                        have hnc57 := NB235_237.out
                        obtain ⟨hcz58_0, hcz58_1, hcz58_2, hfz58_0, hfz58_1, hfz58_2⟩ := bq3 BK237
                        obtain ⟨Ao60, co60, eo60⟩ := Kd.R_slice HO244.out
                        subst eo60
                        try go_wp2_with (first | ((with_reducible refine gate_builtin (b := .append) (xs := #[.tmp 94, .tmp 96]) rfl ?_); (try (refine gate_guard (by rfl) ?_; dsimp only)); at_builtin; refine Kd.S_append (Kd.slice 3 (Kd.int .i64)) (w0 := w) w.heap.size rfl (.tmp 94) (.tmp 96) 50 46 (.slice none 0 0) 24 rfl Tryz.underlying50 info46 rfl (by decide) (by omega) u238002 x238002_4 t240 [.slice Ao60 t240.length co60] (fun _ => True) (fun k_ => some k_ = (.slice Ao60 t240.length co60 : Value).ownBlock) rfl rfl ?aP (fun k_ hk_ => ((Kd.R_mono (ok' := fun k_ => ((fun _ => True)) k_ ∧ some k_ ≠ (u238002 : Value).ownBlock) (Kd.R_apart' (HO244.out) (Kd.S_typed HO_238002.out) (by decide)) (fun k_ hk => ⟨trivial, hk.2⟩))).1 k_ hk_.symm) ?aF ?aO ?aB ?aS ?aL ?_; (case aP => exact Kd.M_row (Kd.R_mono (Kd.R_tight rfl (Kd.R_mono (ok' := fun k_ => ((fun _ => True)) k_ ∧ some k_ ≠ (u238002 : Value).ownBlock) (Kd.R_apart' (HO244.out) (Kd.S_typed HO_238002.out) (by decide)) (fun k_ hk => ⟨trivial, hk.2⟩))) (fun _ h_ => h_))); (case aB => exact bel); (case aF => exact (fun _ _ => trivial)); (case aO => exact (by (with_reducible repeat (first | apply Kd.S_alloc | apply Kd.S_drewN | apply Kd.S_drew)); exact Kd.S_mono HO_238002.out (fun k_ hk => ⟨trivial, fun e_ => hk.2 e_⟩))); (case aS => exact (below_size bel)); (case aL => have := LMc53.out; omega); intro v246 w59 ho hb hg hat; rw [← Ny245.out] at ho; have HO247 := Aside0.mk (ho); replace HO_236001 := Aside0.mk (Kd.R_after (ok := (fun k_ => some k_ ≠ (.slice Ao60 t240.length co60 : Value).ownBlock ∧ k_ ≠ gb237)) (by (with_reducible repeat (first | apply Kd.R_alloc | apply Kd.R_drewN | apply Kd.R_drew)); exact Kd.R_mono HO_236001.out (fun _ hk => ⟨⟨hk.2, hk.1.2⟩, hk.1.1⟩)) hg hat); replace BK232 := Aside0.mk (blk_grown (g := gb232) (o := .cells #[.int .i64 x233000_4, .slice none 0 0] 24 (0, 0)) (bk BK232) hg (Kd.S_ne HO_238002.out BK232.out (by decide))); replace BK235 := Aside0.mk (blk_grown (g := gb235) (o := .cells #[.int .i64 t233, u236001] 24 (0, 0)) (bk BK235) hg (Kd.S_ne HO_238002.out BK235.out (by decide))); replace BK237 := Aside0.mk (blk_grown (g := gb237) (o := .cells #[.string (y5.extract 0 (x7_19 : Int).toNat), .int .i64 t238, u238002] 52 (0, 0)) (bk BK237) hg (Kd.S_ne HO_238002.out BK237.out (by decide))); replace HB := Aside0.mk (hb); clear HO_238002 HO244; clear ho hb hg hat; obtain ⟨Ao61, co61, eo61⟩ := Kd.S_slice HO247.out; subst eo61; obtain ⟨hcz62_0, hcz62_1, hcz62_2, hfz62_0, hfz62_1, hfz62_2⟩ := bq3 BK237))
                        go_roundg kj44
                        case measure => have := HK1.out; have := HJ9.out; have := HJ19.out; have := HK4.out; have := HJ44.out; omega
                        case rel => exact ⟨(t241), (x233000_4), (y245), (.slice Ao61 y245.length co61), eS, H', ⟨by have := HK1.out; have := HJ9.out; have := HJ19.out; have := HK4.out; have := HJ44.out; omega⟩, ⟨by (with_reducible repeat (first | apply Kd.R_alloc | apply Kd.R_drewN | apply Kd.R_drew)); exact Kd.R_mono (Kd.R_far (p := ⟨gb237, 2, none⟩) (Kd.R_mono HO_236001.out (fun k_ hk => (⟨hk, hk.1.2⟩ : _ ∧ k_ ≠ gb237))) (fun _ hk => hk.2) (.slice Ao61 y245.length co61)) (fun _ hk => ⟨hk.1.2, hk.1.1.2⟩)⟩, ⟨by (with_reducible repeat (first | apply Kd.S_alloc | apply Kd.S_drewN | apply Kd.S_drew)); exact Kd.S_mono (Kd.S_far (p := ⟨gb237, 2, none⟩) (Kd.S_types HO247.out BK237.out (by decide)) (fun _ hk => hk.2) (.slice Ao61 y245.length co61)) (fun _ hk => trivial)⟩, ⟨by (with_reducible repeat (first | refine blk_drewN ?_ _ | refine blk_drew ?_ | refine blk_alloc ?_ _)); refine blk_far ?_ NB232_237.out _; (with_reducible repeat (first | refine blk_drewN ?_ _ | refine blk_drew ?_ | refine blk_alloc ?_ _)); exact BK232.out⟩, ⟨by (with_reducible repeat (first | refine blk_drewN ?_ _ | refine blk_drew ?_ | refine blk_alloc ?_ _)); refine blk_far ?_ NB235_237.out _; (with_reducible repeat (first | refine blk_drewN ?_ _ | refine blk_drew ?_ | refine blk_alloc ?_ _)); exact BK235.out⟩, ⟨by (with_reducible repeat (first | refine blk_drewN ?_ _ | refine blk_drew ?_ | refine blk_alloc ?_ _)); refine blk_put (cs := #[.string (y5.extract 0 (x7_19 : Int).toNat), .int .i64 t238, u238002]) ?_ 2 _ rfl; (with_reducible repeat (first | refine blk_drewN ?_ _ | refine blk_drew ?_ | refine blk_alloc ?_ _)); exact BK237.out⟩, ⟨bel⟩⟩
                       ·rw [if_neg c53] at H
                        exact absurd H (by simp)
                      ·replace c52 := Bool.eq_false_iff.mpr c52
                       subst c52
                       have H1 : (some (0, ([] : List (S52)), false)) = some (r1, r2, r3) := by rw [if_neg (show ¬ (false = true) by decide)] at H; exact H
                       clear H
                       have H := H1
                       clear H1
                       simp only [Option.some.injEq, Prod.mk.injEq] at H
                       obtain ⟨rfl, rfl, rfl⟩ := H
                       try go_wp2
                       replace HO_236001 := Aside0.mk (Kd.R_drew HO_236001.out)
                       replace HO_238002 := Aside0.mk (Kd.S_drew HO_238002.out)
                       replace BK232 := Aside0.mk (blk_drew BK232.out)
                       replace BK235 := Aside0.mk (blk_drew BK235.out)
                       replace BK237 := Aside0.mk (blk_drew BK237.out)
                       replace HB := Aside0.mk (below_drew1 HB.out)
                       refine start_ (n := 12) (S := fun w' => w'.cell? ⟨gb237, 0, none⟩ = some (.string (y5.extract 0 (x7_19 : Int).toNat)) ∧ w'.cell? ⟨gb237, 1, none⟩ = some (.int .i64 t238) ∧ w'.cell? ⟨gb237, 2, none⟩ = some (u238002)) (ds := []) #[false, false, false, false, false, false, false, false, false, false, false, false] (by kernel_rfl) rfl rfl ⟨(blk_cell BK237.out 0).trans rfl, (blk_cell BK237.out 1).trans rfl, (blk_cell BK237.out 2).trans rfl⟩ (fun hHeld => ?_); refine with_tabW paraphrastref01_Parse.tab17 paraphrastref01_Parse.bits17 (fun HT_ HW_ => ?_)
                       generalize wc.drew = w63 at HO_236001 HO_238002 BK232 BK235 BK237 HB hHeld ⊢
                       refine sPu 0 (some 82) ?_
                       refine sPu 1 (some 83) ?_
                       refine sPu 2 (some 84) ?_
                       refine sTk 3 (some 85) ?_
                       refine sOn 4 (some 86) (fun K hK => ?_)
                       refine goes_ Tryz.func52 (by kernel_rfl) rfl #[.string (x5_4.extract 1 x5_4.size), .int .i64 t238] (by rfl) rfl rfl (by (try simp only [List.map_toArray, List.map_cons, List.map_nil]); first | done | rfl | (simp only [List.length_drop, List.length_take]; rfl)) ?_
                       with_reducible refine (paraphrastref01_tuple.calls kj44 (x5_4.extract 1 x5_4.size) t238 t240 t241 false _ A51.out).mono ?_
                       rintro e w64 ⟨v243, rfl, ho0, hb⟩
                       refine ⟨_, rfl, ?_⟩
                       have HO244 := Aside0.mk (Kd.R_lower ho0 (below_size bel))
                       replace HO_236001 := rE HO_236001 (Kd.R_base ho0) hb
                       replace HO_238002 := Aside0.mk (Kd.S_elder' (by (with_reducible repeat (first | apply Kd.S_alloc | apply Kd.S_drewN | apply Kd.S_drew)); exact HO_238002.out) (Kd.R_base ho0) hb)
                       replace BK232 := blB BK232 hb
                       replace BK235 := blB BK235 hb
                       replace BK237 := blB BK237 hb
                       replace HB := Aside0.mk (below_step bel hb)
                       (try clear hb)
                       (try clear hb2)
                       (try clear hk)
                       (try clear hi)
                       (try clear ho0)
                       refine hK.out _ _ ⟨(blk_cell BK237.out 0).trans rfl, (blk_cell BK237.out 1).trans rfl, (blk_cell BK237.out 2).trans rfl⟩ (fun hHeld => ?_)
                       clear hK K
                       refine norm_ (a' := ?_) ?_ ?_
                       rotate_left
                       ·show Act.put _ (some 86) _ = _
                        simp only [Act.put, List.setIfInBounds_toArray, List.set_cons_zero, List.set_cons_succ, i64_w, i32_w]
                        rfl
                       refine sPu 5 (some 81) ?_
                       refine sPu 6 (some 87) ?_
                       refine sPu 7 (some 88) ?_
                       refine sPu 8 (some 89) ?_
                       refine sPu 9 (some 9) ?_
                       refine sPu 10 (some 10) ?_
                       refine sPu 11 (some 11) ?_
                       refine done_ (done_of HT_.out (by kernel_rfl)) ?_
                       have hnb65 := NB232_235.out
                       have hnc65 := NB235_232.out
                       have hnb66 := NB232_237.out
                       have hnc66 := NB237_232.out
                       obtain ⟨hcz67_0, hcz67_1, hfz67_0, hfz67_1⟩ := bq2 BK232
                       try go_wp2
                       refine bodyPost_ret (results_ct rfl _ _ gb232 24 #[.int .i64 0, .slice none 0 0] (0, 0) _ rfl (by (with_reducible repeat (first | refine blk_drewN ?_ _ | refine blk_drew ?_ | refine blk_alloc ?_ _)); refine blk_put (cs := #[.int .i64 0, .slice none 0 0]) ?_ 1 _ rfl; (with_reducible repeat (first | refine blk_drewN ?_ _ | refine blk_drew ?_ | refine blk_alloc ?_ _)); refine blk_put (cs := #[.int .i64 x233000_4, .slice none 0 0]) ?_ 0 _ rfl; (with_reducible repeat (first | refine blk_drewN ?_ _ | refine blk_drew ?_ | refine blk_alloc ?_ _)); exact BK232.out) Tryz.underlying24 rfl (by kernel_rfl)) rfl ?_
                       exact ⟨_, by first | rfl | (simp [errW_none, errW_some] <;> rfl) | (simp only [← hji30]; first | rfl | (simp [errW_none, errW_some] <;> rfl)) | (simp [*, errW_none, errW_some] <;> rfl), by first | exact Kd.R_nil _ _ _ _ _ | exact Kd.N_nil _ _ _ _ _ | exact Kd.V_nil _ _ _ _ _ | exact Kd.Q_nil _ _ _ _ _ | exact Kd.S_nil _ _ _ _ _, bel⟩
                     ·rw [if_neg c50] at H
                      exact absurd H (by simp)
                    ·replace c49 := Bool.eq_false_iff.mpr c49
                     subst c49
                     have H1 : (if x236001_1.length < 2932031007402 then (paraphrastref01_Parse.l0 kj44 x5_4 t233 (x236001_1 ++ [(⟨(y5.extract 0 (x7_19 : Int).toNat), t238, x238002_4⟩ : S52)])) else (none)) = some (r1, r2, r3) := by rw [if_neg (show ¬ (false = true) by decide)] at H; exact H
                     clear H
                     have H := H1
                     clear H1
                     by_cases c68 : x236001_1.length < 2932031007402
                     ·rw [if_pos c68] at H
                      have LMc68 := Aside0.mk c68
                      clear c68
                      obtain ⟨y248, hy248⟩ : ∃ y_ : List (S52), y_ = (x236001_1 ++ [(⟨(y5.extract 0 (x7_19 : Int).toNat), t238, x238002_4⟩ : S52)]) := ⟨_, rfl⟩
                      replace H : (paraphrastref01_Parse.l0 kj44 x5_4 t233 y248) = some (r1, r2, r3) := by first | (rw [hy248]; with_reducible exact H) | (have H2_ := (Option.bind_some _ _).symm.trans H; rw [hy248]; with_reducible exact H2_) | (have H2_ := (Option.bind_some _ _).symm.trans H; with_reducible exact H2_) | with_reducible exact H | (rw [hy248]; exact H) | exact H
                      have Ny248 := Aside0.mk hy248
                      clear hy248
                      have H' := Aside0.mk H
                      clear H
                      have hnb69 := NB235_232.out
                      have hnc69 := NB232_235.out
                      have hnb70 := NB235_237.out
                      have hnc70 := NB237_235.out
                      obtain ⟨hcz71_0, hcz71_1, hfz71_0, hfz71_1⟩ := bq2 BK235
                      have hnb72 := NB237_232.out
                      have hnc72 := NB232_237.out
                      obtain ⟨hcz73_0, hcz73_1, hcz73_2, hfz73_0, hfz73_1, hfz73_2⟩ := bq3 BK237
                      obtain ⟨Ao75, co75, eo75⟩ := Kd.S_slice HO_238002.out
                      subst eo75
                      go_wp2_with (first | ((with_reducible refine gate_builtin (b := .append) (xs := #[.tmp 101, .tmp 103]) rfl ?_); (try (refine gate_guard (by rfl) ?_; dsimp only)); at_builtin; refine Kd.R_append k52 (w0 := w) w.heap.size rfl (.tmp 101) (.tmp 103) 22 52 (.agg #[(.string ⟨#[]⟩), (.int .i64 0), (.slice none 0 0)]) 48 rfl Tryz.underlying22 info52 rfl (by decide) (by omega) u236001 x236001_1 (⟨(y5.extract 0 (x7_19 : Int).toNat), t238, x238002_4⟩ : S52) [.string (y5.extract 0 (x7_19 : Int).toNat), .int .i64 t238, .slice Ao75 x238002_4.length co75] (fun k_ => k_ ≠ gb237) (fun k_ => ((fun k_ => k_ ≠ gb237)) k_ ∧ some k_ ≠ (u236001 : Value).ownBlock) rfl rfl ?aP (fun _ hk => hk) ?aF ?aO ?aB ?aS ?aL ?_; (case aP => exact k52_mkM _ _ _ (⟨(y5.extract 0 (x7_19 : Int).toNat), t238, x238002_4⟩ : S52) (Kd.R_mono (Kd.R_types (Kd.R_apart' ((Kd.S_R HO_238002.out)) (Kd.R_typed HO_236001.out) (by decide)) BK237.out (by decide)) (fun k_ hk => ⟨hk.2, hk.1.2⟩))); (case aB => exact bel); (case aF => exact (fun k_ hk => Kd.freshB (g := gb237) (o := .cells #[.string (y5.extract 0 (x7_19 : Int).toNat), .int .i64 t238, .slice Ao75 x238002_4.length co75] 52 (0, 0)) (bk BK237) k_ hk)); (case aO => exact (by (with_reducible repeat (first | apply Kd.R_alloc | apply Kd.R_drewN | apply Kd.R_drew)); exact Kd.R_mono HO_236001.out (fun _ hk => hk.2))); (case aS => exact (below_size bel)); (case aL => have := LMc68.out; omega); intro v249 w74 ho hb hg hat; rw [← Ny248.out] at ho; have HO250 := Aside0.mk (ho); replace BK232 := Aside0.mk (blk_grown (g := gb232) (o := .cells #[.int .i64 x233000_4, .slice none 0 0] 24 (0, 0)) (bk BK232) hg (Kd.R_ne HO_236001.out BK232.out (by decide))); replace BK235 := Aside0.mk (blk_grown (g := gb235) (o := .cells #[.int .i64 t233, u236001] 24 (0, 0)) (bk BK235) hg (Kd.R_ne HO_236001.out BK235.out (by decide))); replace BK237 := Aside0.mk (blk_grown (g := gb237) (o := .cells #[.string (y5.extract 0 (x7_19 : Int).toNat), .int .i64 t238, .slice Ao75 x238002_4.length co75] 52 (0, 0)) (bk BK237) hg (Kd.R_away HO_236001.out (fun _ hk => hk.2))); replace HB := Aside0.mk (hb); clear HO_236001 HO_238002; clear ho hb hg hat; obtain ⟨Ao76, co76, eo76⟩ := Kd.R_slice HO250.out; subst eo76; obtain ⟨hcz77_0, hcz77_1, hfz77_0, hfz77_1⟩ := bq2 BK235))
                      go_roundg kj44
                      case measure => have := HK1.out; have := HJ9.out; have := HJ19.out; have := HK4.out; have := HJ44.out; omega
                      case rel => exact ⟨(x5_4), (x233000_4), (y248), (.slice Ao76 y248.length co76), eS, H', ⟨by have := HK1.out; have := HJ9.out; have := HJ19.out; have := HK4.out; have := HJ44.out; omega⟩, ⟨by (with_reducible repeat (first | apply Kd.R_alloc | apply Kd.R_drewN | apply Kd.R_drew)); exact Kd.R_mono (Kd.R_far (p := ⟨gb235, 1, none⟩) (Kd.R_types HO250.out BK235.out (by decide)) (fun _ hk => hk.2) (.slice Ao76 y248.length co76)) (fun _ hk => trivial)⟩, ⟨by (with_reducible repeat (first | refine blk_drewN ?_ _ | refine blk_drew ?_ | refine blk_alloc ?_ _)); refine blk_far ?_ NB232_235.out _; (with_reducible repeat (first | refine blk_drewN ?_ _ | refine blk_drew ?_ | refine blk_alloc ?_ _)); exact BK232.out⟩, ⟨by (with_reducible repeat (first | refine blk_drewN ?_ _ | refine blk_drew ?_ | refine blk_alloc ?_ _)); refine blk_put (cs := #[.int .i64 t233, u236001]) ?_ 1 _ rfl; (with_reducible repeat (first | refine blk_drewN ?_ _ | refine blk_drew ?_ | refine blk_alloc ?_ _)); exact BK235.out⟩, ⟨bel⟩⟩
                     ·rw [if_neg c68] at H
                      exact absurd H (by simp)
              ·rw [if_neg c32] at H
               exact absurd H (by simp)
             ·rw [if_neg c31] at H
              exact absurd H (by simp)
            ·rw [if_neg c29] at H
             exact absurd H (by simp)
           ·rw [if_neg c28] at H
            exact absurd H (by simp)
       ·rw [if_neg c19] at H
        exact absurd H (by simp)
      ·replace c18 := Bool.eq_false_iff.mpr c18
       subst c18
       have H1 : (if x5_1.toList = ([] : List UInt8) then ((paraphrastref01_Valid.f kj9 t233 x236001_1).bind fun t236 => (if t236 = true then (some (t233, x236001_1, true)) else (some (0, ([] : List (S52)), false)))) else (some (0, ([] : List (S52)), false))) = some (r1, r2, r3) := by rw [if_neg (show ¬ (false = true) by decide)] at H; exact H
       clear H
       have H := H1
       clear H1
       by_cases c78 : x5_1.toList = ([] : List UInt8)
       ·rw [if_pos c78] at H
        have c78b0 : (x5_1.toList == ([] : List UInt8)) = true := beq_iff_eq.mpr c78
        have c78b1 : (x5_1.toList != ([] : List UInt8)) = false := bne_eq_false_iff_eq.mpr c78
        clear c78
        replace H := Option.bind_eq_some_iff.mp H
        obtain ⟨t236, A790, H⟩ := H
        replace H : (if t236 = true then (some (t233, x236001_1, true)) else (some (0, ([] : List (S52)), false))) = some (r1, r2, r3) := H
        have A79 := Aside0.mk A790
        clear A790
        by_cases c80 : t236 = true
        ·subst c80
         have H1 : (some (t233, x236001_1, true)) = some (r1, r2, r3) := by rw [if_pos rfl] at H; exact H
         clear H
         have H := H1
         clear H1
         simp only [Option.some.injEq, Prod.mk.injEq] at H
         obtain ⟨rfl, rfl, rfl⟩ := H
         have hnb81 := NB235_232.out
         have hnc81 := NB232_235.out
         obtain ⟨hcz82_0, hcz82_1, hfz82_0, hfz82_1⟩ := bq2 BK235
         obtain ⟨Ao83, co83, eo83⟩ := Kd.R_slice HO_236001.out
         subst eo83
         go_wp2_with (first | (go_at_call 12; (with_reducible refine (paraphrastref01_Valid.calls kj9 t233 _ _ x236001_1 true _ ?side1 ?side2 A79.out).mono ?_); (case side1 => exact cS (Kd.R_reads' HO_236001.out).2.2); (case side2 => exact (Kd.R_reads' HO_236001.out).2.1); rintro e w84 ⟨rfl, hb⟩; replace HO_236001 := rD HO_236001 hb; replace BK232 := blB BK232 hb; replace BK235 := blB BK235 hb; replace HB := Aside0.mk (below_step bel hb); (try clear hb); (try clear hb2); (try clear hk); (try clear hi); obtain ⟨hcz85_0, hcz85_1, hfz85_0, hfz85_1⟩ := bq2 BK235; obtain ⟨hcz86_0, hcz86_1, hfz86_0, hfz86_1⟩ := bq2 BK232))
         refine bodyPost_ret (results_ct rfl _ _ gb232 24 #[.int .i64 t233, .slice Ao83 x236001_1.length co83] (0, 0) _ rfl (by (with_reducible repeat (first | refine blk_drewN ?_ _ | refine blk_drew ?_ | refine blk_alloc ?_ _)); refine blk_put (cs := #[.int .i64 t233, .slice none 0 0]) ?_ 1 _ rfl; (with_reducible repeat (first | refine blk_drewN ?_ _ | refine blk_drew ?_ | refine blk_alloc ?_ _)); refine blk_put (cs := #[.int .i64 x233000_1, .slice none 0 0]) ?_ 0 _ rfl; (with_reducible repeat (first | refine blk_drewN ?_ _ | refine blk_drew ?_ | refine blk_alloc ?_ _)); exact BK232.out) Tryz.underlying24 rfl (by kernel_rfl)) rfl ?_
         exact ⟨_, eN, by (with_reducible repeat (first | apply Kd.R_alloc | apply Kd.R_drewN | apply Kd.R_drew)); exact Kd.R_mono (Kd.R_far (p := ⟨gb232, 1, none⟩) (Kd.R_far (p := ⟨gb232, 0, none⟩) (Kd.R_types HO_236001.out BK232.out (by decide)) (fun _ hk => hk.2) (.int .i64 t233)) (fun _ hk => hk.2) (.slice Ao83 x236001_1.length co83)) (fun _ hk => trivial), bel⟩
        ·replace c80 := Bool.eq_false_iff.mpr c80
         subst c80
         have H1 : (some (0, ([] : List (S52)), false)) = some (r1, r2, r3) := by rw [if_neg (show ¬ (false = true) by decide)] at H; exact H
         clear H
         have H := H1
         clear H1
         simp only [Option.some.injEq, Prod.mk.injEq] at H
         obtain ⟨rfl, rfl, rfl⟩ := H
         have hnb87 := NB235_232.out
         have hnc87 := NB232_235.out
         obtain ⟨hcz88_0, hcz88_1, hfz88_0, hfz88_1⟩ := bq2 BK235
         obtain ⟨Ao89, co89, eo89⟩ := Kd.R_slice HO_236001.out
         subst eo89
         go_wp2_with (first | (go_at_call 12; (with_reducible refine (paraphrastref01_Valid.calls kj9 t233 _ _ x236001_1 false _ ?side1 ?side2 A79.out).mono ?_); (case side1 => exact cS (Kd.R_reads' HO_236001.out).2.2); (case side2 => exact (Kd.R_reads' HO_236001.out).2.1); rintro e w90 ⟨rfl, hb⟩; replace HO_236001 := rD HO_236001 hb; replace BK232 := blB BK232 hb; replace BK235 := blB BK235 hb; replace HB := Aside0.mk (below_step bel hb); (try clear hb); (try clear hb2); (try clear hk); (try clear hi); obtain ⟨hcz91_0, hcz91_1, hfz91_0, hfz91_1⟩ := bq2 BK232))
         refine bodyPost_ret (results_ct rfl _ _ gb232 24 #[.int .i64 0, .slice none 0 0] (0, 0) _ rfl (by (with_reducible repeat (first | refine blk_drewN ?_ _ | refine blk_drew ?_ | refine blk_alloc ?_ _)); refine blk_put (cs := #[.int .i64 0, .slice none 0 0]) ?_ 1 _ rfl; (with_reducible repeat (first | refine blk_drewN ?_ _ | refine blk_drew ?_ | refine blk_alloc ?_ _)); refine blk_put (cs := #[.int .i64 x233000_1, .slice none 0 0]) ?_ 0 _ rfl; (with_reducible repeat (first | refine blk_drewN ?_ _ | refine blk_drew ?_ | refine blk_alloc ?_ _)); exact BK232.out) Tryz.underlying24 rfl (by kernel_rfl)) rfl ?_
         exact ⟨_, eN, by first | exact Kd.R_nil _ _ _ _ _ | exact Kd.N_nil _ _ _ _ _ | exact Kd.V_nil _ _ _ _ _ | exact Kd.Q_nil _ _ _ _ _ | exact Kd.S_nil _ _ _ _ _, bel⟩
       ·rw [if_neg c78] at H
        have c78b0 : (x5_1.toList == ([] : List UInt8)) = false := beq_eq_false_iff_ne.mpr c78
        have c78b1 : (x5_1.toList != ([] : List UInt8)) = true := bne_iff_ne.mpr c78
        simp only [Option.some.injEq, Prod.mk.injEq] at H
        obtain ⟨rfl, rfl, rfl⟩ := H
        have hnb92 := NB232_235.out
        have hnc92 := NB235_232.out
        obtain ⟨hcz93_0, hcz93_1, hfz93_0, hfz93_1⟩ := bq2 BK232
        go_wp2
        refine bodyPost_ret (results_ct rfl _ _ gb232 24 #[.int .i64 0, .slice none 0 0] (0, 0) _ rfl (by (with_reducible repeat (first | refine blk_drewN ?_ _ | refine blk_drew ?_ | refine blk_alloc ?_ _)); refine blk_put (cs := #[.int .i64 0, .slice none 0 0]) ?_ 1 _ rfl; (with_reducible repeat (first | refine blk_drewN ?_ _ | refine blk_drew ?_ | refine blk_alloc ?_ _)); refine blk_put (cs := #[.int .i64 x233000_1, .slice none 0 0]) ?_ 0 _ rfl; (with_reducible repeat (first | refine blk_drewN ?_ _ | refine blk_drew ?_ | refine blk_alloc ?_ _)); exact BK232.out) Tryz.underlying24 rfl (by kernel_rfl)) rfl ?_
        exact ⟨_, eN, by first | exact Kd.R_nil _ _ _ _ _ | exact Kd.N_nil _ _ _ _ _ | exact Kd.V_nil _ _ _ _ _ | exact Kd.Q_nil _ _ _ _ _ | exact Kd.S_nil _ _ _ _ _, bel⟩
end Go.Proofs.YtfmpaofbnjlniaaGreatDoor.F
/- ref.Parse: what it reads is a text of what it answers; and it reads every text of a valid structure. -/
namespace Go.Proofs.YtfmpaofbnjlniaaGreatDoor.F
open Go.RowKit Go.Proofs.YtfmpaofbnjlniaaGreatDoorW.PrintWords Go.Proofs.YtfmpaofbnjlniaaGreatDoorW.PrintLast Go.Proofs.YtfmpaofbnjlniaaGreatDoorW.PrintMore
set_option linter.unusedVariables false
set_option linter.unusedSimpArgs false
theorem mkB_list (l : List UInt8) : (mkB l).data.toList = l := by simp [mkB]
theorem mkB_toL (l : List UInt8) : (mkB l).toList = l := by rw [toList_data, mkB_list]
theorem mkB_ext {s : ByteArray} {l : List UInt8} (h : s.data.toList = l) : s = mkB l := by rw [← h, mkB_data]
theorem mkB_drop (l : List UInt8) (j : Nat) : (mkB l).extract j (mkB l).size = mkB (l.drop j) := mkB_ext (by rw [Lib.extract_to_end, mkB_list])
theorem mkB_take (l : List UInt8) (j : Nat) : (mkB l).extract 0 j = mkB (l.take j) := mkB_ext (by rw [Lib.extract_data, mkB_list]; simp)
theorem bt_mk (l : List UInt8) (i : Nat) (h : i < l.length) : bt (mkB l) (i : Int) = (l[i].toNat : Int) := by
  have hs : i < (mkB l).size := by rw [mkB_size]; exact h
  rw [← bt_at (mkB l) (i : Int) (by rw [Int.toNat_natCast]; exact hs)]
  simp only [Int.toNat_natCast]
  have : (mkB l)[i]'hs = l[i] := rfl
  exact congrArg (fun b : UInt8 => (b.toNat : Int)) this
theorem bt_mk0 (a : UInt8) (r : List UInt8) : bt (mkB (a :: r)) 0 = (a.toNat : Int) := bt_mk (a :: r) 0 (by simp)
theorem bt_mk1 (a b : UInt8) (r : List UInt8) : bt (mkB (a :: b :: r)) 1 = (b.toNat : Int) := bt_mk (a :: b :: r) 1 (by simp)
def isD (a : UInt8) : Bool := digB (a.toNat : Int)
def numL : List UInt8 → Int × List UInt8
  | [] => (-1, [])
  | [a] => if isD a = true then ((a.toNat : Int) - 48, []) else (-1, [a])
  | a :: b :: r => if isD a = true then (if a.toNat ≠ 48 ∧ isD b = true then (((a.toNat : Int) - 48) * 10 + ((b.toNat : Int) - 48), r) else ((a.toNat : Int) - 48, b :: r)) else (-1, a :: b :: r)
theorem isD_iff (a : UInt8) : isD a = true ↔ 48 ≤ a.toNat ∧ a.toNat ≤ 57 := by unfold isD digB; simp; omega
def numL1 : List UInt8 → Int × List UInt8
  | [] => (-1, [])
  | a :: r => if isD a = true then ((a.toNat : Int) - 48, r) else (-1, a :: r)
theorem number_j0 (k : Nat) (l : List UInt8) : paraphrastref01_number.j0 (k + 1) (mkB l) false = some ((numL1 l).1, mkB (numL1 l).2) := by
  rw [paraphrastref01_number.j0, if_neg (by simp), mkB_size]
  cases l with
  | nil => rfl
  | cons a r =>
    rw [if_pos (by simp only [List.length_cons]; omega), if_pos (by simp only [List.length_cons]; omega), bt_mk0, ref_digit_eq, Option.bind_some, numL1]
    have hd := isD_iff a
    cases h : isD a with
    | true =>
      have := hd.1 h
      rw [if_pos (show digB (a.toNat : Int) = true from h), if_pos (by simp only [List.length_cons]; omega), ← mkB_size, mkB_drop, if_pos rfl]
      simp only [List.drop_one, List.tail_cons]
      rw [show ((a.toNat : Int) - 48) % 256 = (a.toNat : Int) - 48 by omega]
    | false =>
      rw [if_neg (show ¬ digB (a.toNat : Int) = true from fun e => by rw [show digB (a.toNat : Int) = isD a from rfl, h] at e; cases e), if_neg (by simp)]
theorem number_eq (l : List UInt8) (k : Nat) (hk : 1 ≤ k) : paraphrastref01_number.f k (mkB l) = some ((numL l).1, mkB (numL l).2) := by
  obtain ⟨k, rfl⟩ : ∃ k', k = k' + 1 := ⟨k - 1, by omega⟩
  unfold paraphrastref01_number.f
  rw [mkB_size]
  match l with
  | [] => rfl
  | [a] =>
    rw [if_neg (by simp), number_j0, numL, numL1]
  | a :: b :: r =>
    rw [if_pos (by simp only [List.length_cons]; omega), if_pos (by simp only [List.length_cons]; omega), bt_mk0, bt_mk1, if_pos (show 1 < (((a :: b :: r).length : Nat) : Int) by simp only [List.length_cons]; omega), ref_digit_eq, Option.bind_some]
    have hd := isD_iff a
    have hb := isD_iff b
    rw [numL]
    by_cases h1 : (a.toNat : Int) ≥ 49
    · rw [if_pos h1]
      by_cases h2 : (a.toNat : Int) ≤ 57
      · rw [if_pos h2, if_pos (hd.2 (by omega))]
        by_cases h3 : isD b = true
        · have := hb.1 h3
          rw [show digB (b.toNat : Int) = true from h3, if_pos ⟨by omega, h3⟩]
          rw [paraphrastref01_number.j0, if_pos rfl, mkB_size, if_pos (by simp only [List.length_cons]; omega), if_pos (by simp only [List.length_cons]; omega), if_pos (by simp only [List.length_cons]; omega), bt_mk0, bt_mk1, ← mkB_size, mkB_drop]
          simp only [List.drop_succ_cons, List.drop_zero]
          rw [show ((a.toNat : Int) - 48) % 256 = (a.toNat : Int) - 48 by omega, show ((b.toNat : Int) - 48) % 256 = (b.toNat : Int) - 48 by omega]
        · rw [show digB (b.toNat : Int) = false from Bool.eq_false_iff.2 h3, if_neg (fun e => h3 e.2), number_j0, numL1, if_pos (hd.2 (by omega))]
      · rw [if_neg h2, if_neg (fun e => by have := hd.1 e; omega), number_j0, numL1, if_neg (fun e => by have := hd.1 e; omega)]
    · rw [if_neg h1]
      by_cases h2 : isD a = true
      · have := hd.1 h2
        rw [number_j0, numL1, if_pos h2, if_pos h2, if_neg (fun e => by omega)]
      · rw [number_j0, numL1, if_neg h2, if_neg h2]
theorem digs_one (a : UInt8) (h : 48 ≤ a.toNat ∧ a.toNat ≤ 57) : digs ((a.toNat : Int) - 48) = [a] := by
  rcases digs_cases ((a.toNat : Int) - 48) (by omega) (by omega) with ⟨i, hi, e⟩ | ⟨i, hi, e, _⟩
  · rw [e]
    congr 1
    rw [show 48 + i.val = a.toNat by omega]
    exact UInt8.ofNat_toNat
  · omega
theorem digs_two (a b : UInt8) (h : 49 ≤ a.toNat ∧ a.toNat ≤ 57) (hb : 48 ≤ b.toNat ∧ b.toNat ≤ 57) : digs (((a.toNat : Int) - 48) * 10 + ((b.toNat : Int) - 48)) = [a, b] := by
  rcases digs_cases (((a.toNat : Int) - 48) * 10 + ((b.toNat : Int) - 48)) (by omega) (by omega) with ⟨i, hi, e⟩ | ⟨i, hi, e, e2⟩
  · omega
  · rw [e2, show 48 + i.val / 10 = a.toNat by omega, show 48 + i.val % 10 = b.toNat by omega, UInt8.ofNat_toNat, UInt8.ofNat_toNat]
theorem numL_sound (l : List UInt8) : ((numL l).1 = -1 ∧ (numL l).2 = l) ∨ (0 ≤ (numL l).1 ∧ (numL l).1 < 100 ∧ l = digs (numL l).1 ++ (numL l).2) := by
  match l with
  | [] => exact .inl ⟨rfl, rfl⟩
  | [a] =>
    rw [numL]
    by_cases h : isD a = true
    · have := (isD_iff a).1 h
      rw [if_pos h]
      exact .inr ⟨by simp; omega, by simp; omega, by simp [digs_one a this]⟩
    · rw [if_neg h]; exact .inl ⟨rfl, rfl⟩
  | a :: b :: r =>
    rw [numL]
    by_cases h : isD a = true
    · have := (isD_iff a).1 h
      rw [if_pos h]
      by_cases h2 : a.toNat ≠ 48 ∧ isD b = true
      · have hb := (isD_iff b).1 h2.2
        rw [if_pos h2]
        exact .inr ⟨by simp; omega, by simp; omega, by simp [digs_two a b (by omega) hb]⟩
      · rw [if_neg h2]
        exact .inr ⟨by simp; omega, by simp; omega, by simp [digs_one a this]⟩
    · rw [if_neg h]; exact .inl ⟨rfl, rfl⟩
/-- The text does not begin with a digit. -/
def noD (l : List UInt8) : Prop := ∀ b r, l = b :: r → isD b = false
theorem numL_digs (x : Int) (h0 : 0 ≤ x) (h1 : x < 100) (l : List UInt8) (hl : noD l) : numL (digs x ++ l) = (x, l) := by
  rcases digs_cases x h0 h1 with ⟨i, hi, e⟩ | ⟨i, h10, hi, e⟩
  · rw [e]
    have hn : (UInt8.ofNat (48 + i.val)).toNat = 48 + i.val := by rw [UInt8.toNat_ofNat']; omega
    have hd : isD (UInt8.ofNat (48 + i.val)) = true := (isD_iff _).2 (by omega)
    cases l with
    | nil => simp only [List.append_nil]; rw [numL, if_pos hd, hn, hi]; congr 1; omega
    | cons b r =>
      have := hl b r rfl
      simp only [List.singleton_append]
      rw [numL]
      rw [if_pos hd, if_neg (by rw [this]; simp), hn, hi]
      congr 1; omega
  · rw [e]
    have hn : (UInt8.ofNat (48 + i.val / 10)).toNat = 48 + i.val / 10 := by rw [UInt8.toNat_ofNat']; omega
    have hn2 : (UInt8.ofNat (48 + i.val % 10)).toNat = 48 + i.val % 10 := by rw [UInt8.toNat_ofNat']; omega
    have hd : isD (UInt8.ofNat (48 + i.val / 10)) = true := (isD_iff _).2 (by omega)
    have hd2 : isD (UInt8.ofNat (48 + i.val % 10)) = true := (isD_iff _).2 (by omega)
    simp only [List.cons_append, List.nil_append]
    rw [numL]
    rw [if_pos hd, if_pos ⟨by omega, hd2⟩, hn, hn2, hi]
    congr 1; omega
/-! ### tuples -/
theorem tuple_j1 (k : Nat) (l : List UInt8) (a : Int) (acc : List Int) (i : Int) : paraphrastref01_tuple.j1 (k + 2) (mkB (44 :: l)) a acc i false = (if (numL l).1 < 0 then some ([], mkB (numL l).2, false) else if acc.length < 17592186044416 then paraphrastref01_tuple.l0 (k + 1) (mkB (numL l).2) a (acc ++ [(numL l).1]) (wrap64 (i + 1)) else none) := by
  rw [paraphrastref01_tuple.j1]
  rw [if_neg (by simp), mkB_size, if_pos (by simp only [List.length_cons]; omega), ← mkB_size, mkB_drop, List.drop_one, List.tail_cons, number_eq l (k + 1) (by omega)]
  rfl
theorem tup_sound (a : Nat) (ha : a ≤ 99) : ∀ (d i : Nat) (acc : List Int) (l : List UInt8) (k : Nat), i + d = a → acc.length = i → 2 * d + 3 ≤ k → ∃ t s b, paraphrastref01_tuple.l0 k (mkB l) (a : Int) acc (i : Int) = some (t, s, b) ∧
    (b = true → ∃ new rest, t = acc ++ new ∧ s = mkB rest ∧ new.length = d ∧ tupOk new ∧ l = (if i = 0 then tupJ new else tupRest new) ++ rest)
  | 0, i, acc, l, k + 1, h, hc, hk => by
    rw [paraphrastref01_tuple.l0, if_neg (by omega)]
    refine ⟨_, _, _, rfl, fun _ => ⟨[], l, by simp, rfl, rfl, (fun x hx => by cases hx), ?_⟩⟩
    split <;> rfl
  | d + 1, i, acc, l, k + 1, h, hc, hk => by
    have step : ∀ (l : List UInt8) (K : Nat), 2 * d + 3 ≤ K → ∃ t s b, (if (numL l).1 < 0 then some ([], mkB (numL l).2, false) else if acc.length < 17592186044416 then paraphrastref01_tuple.l0 K (mkB (numL l).2) (a : Int) (acc ++ [(numL l).1]) (wrap64 ((i : Int) + 1)) else none) = some (t, s, b) ∧
        (b = true → ∃ x new rest, t = acc ++ (x :: new) ∧ s = mkB rest ∧ new.length = d ∧ tupOk (x :: new) ∧ l = digs x ++ (tupRest new ++ rest)) := fun l K hK => by
      rcases numL_sound l with ⟨e1, e2⟩ | ⟨e1, e2, e3⟩
      · rw [e1, if_pos (by omega)]
        exact ⟨_, _, _, rfl, fun h => by cases h⟩
      · rw [if_neg (by omega), if_pos (by omega), w64 (by omega) (by omega), show (i : Int) + 1 = ((i + 1 : Nat) : Int) by omega]
        obtain ⟨t, s, b, g1, g2⟩ := tup_sound a ha d (i + 1) (acc ++ [(numL l).1]) (numL l).2 K (by omega) (by simp [hc]) hK
        refine ⟨t, s, b, g1, fun hb => ?_⟩
        obtain ⟨new, rest, q1, q2, q3, q4, q5⟩ := g2 hb
        rw [if_neg (by omega)] at q5
        refine ⟨(numL l).1, new, rest, by rw [q1]; simp, q2, q3, fun x hx => ?_, by rw [← q5]; exact e3⟩
        rcases List.mem_cons.1 hx with rfl | hx
        · exact ⟨e1, e2⟩
        · exact q4 x hx
    rw [paraphrastref01_tuple.l0, if_pos (by omega)]
    by_cases hi : i = 0
    · rw [if_neg (by omega), number_eq l k (by omega), Option.bind_some]
      obtain ⟨t, s, b, g1, g2⟩ := step l k (by omega)
      refine ⟨t, s, b, g1, fun hb => ?_⟩
      obtain ⟨x, new, rest, q1, q2, q3, q4, q5⟩ := g2 hb
      exact ⟨x :: new, rest, q1, q2, by simp [q3], q4, by rw [if_pos hi, q5]; simp [tupJ]⟩
    · rw [if_pos (by omega), mkB_toL]
      obtain ⟨k, rfl⟩ : ∃ k', k = k' + 2 := ⟨k - 2, by omega⟩
      have hbad : ∀ q, paraphrastref01_tuple.j1 (k + 2) (mkB q) (a : Int) acc (i : Int) true = some ([], mkB q, false) := fun q => by rw [paraphrastref01_tuple.j1, if_pos rfl]
      cases l with
      | nil =>
        rw [if_pos rfl, hbad]
        exact ⟨_, _, _, rfl, fun h => by cases h⟩
      | cons c r =>
        rw [if_neg (by simp), if_pos (by rw [mkB_size]; simp only [List.length_cons]; omega), bt_mk0]
        by_cases hc44 : c = 44
        · subst hc44
          rw [show (((44 : UInt8).toNat : Int) != 44) = false from rfl, tuple_j1]
          obtain ⟨t, s, b, g1, g2⟩ := step r (k + 1) (by omega)
          refine ⟨t, s, b, g1, fun hb => ?_⟩
          obtain ⟨x, new, rest, q1, q2, q3, q4, q5⟩ := g2 hb
          exact ⟨x :: new, rest, q1, q2, by simp [q3], q4, by rw [if_neg hi, q5]; simp [tupRest]⟩
        · rw [show ((c.toNat : Int) != 44) = true from bne_iff_ne.2 fun e => hc44 (UInt8.toNat_inj.1 (by have : (44 : UInt8).toNat = 44 := rfl; omega)), hbad]
          exact ⟨_, _, _, rfl, fun h => by cases h⟩
theorem noD_rest (xs : List Int) (rest : List UInt8) (h : noD rest) : noD (tupRest xs ++ rest) := by
  cases xs with
  | nil => exact h
  | cons x xs => intro b r e; simp only [tupRest, List.cons_append] at e; injection e with e _; subst e; rfl
theorem tup_full (a : Nat) (ha : a ≤ 99) : ∀ (new : List Int) (i : Nat) (acc : List Int) (rest : List UInt8) (k : Nat), i + new.length = a → acc.length = i → tupOk new → noD rest → 2 * new.length + 3 ≤ k →
    paraphrastref01_tuple.l0 k (mkB ((if i = 0 then tupJ new else tupRest new) ++ rest)) (a : Int) acc (i : Int) = some (acc ++ new, mkB rest, true)
  | [], i, acc, rest, k + 1, h, hc, ht, hr, hk => by
    rw [paraphrastref01_tuple.l0, if_neg (by simp at h; omega)]
    split <;> simp [tupJ, tupRest]
  | x :: new, i, acc, rest, k + 1, h, hc, ht, hr, hk => by
    simp only [List.length_cons] at h hk
    obtain ⟨hx0, hx1⟩ := ht x (by simp)
    have ih := tup_full a ha new (i + 1) (acc ++ [x]) rest
    rw [if_neg (by omega)] at ih
    have hnum := numL_digs x hx0 hx1 (tupRest new ++ rest) (noD_rest new rest hr)
    rw [paraphrastref01_tuple.l0, if_pos (by omega)]
    by_cases hi : i = 0
    · rw [if_neg (by omega), if_pos hi, number_eq _ k (by omega), Option.bind_some]
      simp only [tupJ, List.append_assoc, hnum]
      rw [if_neg (by omega), if_pos (by omega), w64 (by omega) (by omega), show (i : Int) + 1 = ((i + 1 : Nat) : Int) by omega, ih k (by omega) (by simp [hc]) (fun y hy => ht y (by simp [hy])) hr (by omega)]
      simp
    · rw [if_pos (by omega), if_neg hi, mkB_toL]
      obtain ⟨k, rfl⟩ : ∃ k', k = k' + 2 := ⟨k - 2, by omega⟩
      simp only [tupRest, List.cons_append, List.append_assoc]
      rw [if_neg (by simp), if_pos (by rw [mkB_size]; simp only [List.length_cons]; omega), bt_mk0, show (((44 : UInt8).toNat : Int) != 44) = false from rfl, tuple_j1, hnum]
      simp only
      rw [if_neg (by omega), if_pos (by omega), w64 (by omega) (by omega), show (i : Int) + 1 = ((i + 1 : Nat) : Int) by omega, ih (k + 1) (by omega) (by simp [hc]) (fun y hy => ht y (by simp [hy])) hr (by omega)]
      simp
theorem tuple_sound (a : Nat) (ha : a ≤ 99) (l : List UInt8) (k : Nat) (hk : 300 ≤ k) : ∃ t s b, paraphrastref01_tuple.f k (mkB l) (a : Int) = some (t, s, b) ∧ (b = true → ∃ rest, s = mkB rest ∧ l = tupT t ++ rest) := by
  unfold paraphrastref01_tuple.f
  by_cases h0 : a = 0
  · subst h0
    rw [if_pos (by simp), mkB_size]
    by_cases h2 : (l.length : Int) < 2
    · rw [if_pos h2]; exact ⟨_, _, _, rfl, fun h => by cases h⟩
    · rw [if_neg h2, if_pos (by omega), if_pos (by omega), mkB_take, mkB_toL]
      by_cases h3 : l.take 2 = [40, 41]
      · rw [if_pos h3, ← mkB_size, mkB_drop]
        refine ⟨_, _, _, rfl, fun _ => ⟨l.drop 2, rfl, ?_⟩⟩
        have := List.take_append_drop 2 l
        rw [h3] at this
        rw [← this]; rfl
      · rw [if_neg h3]; exact ⟨_, _, _, rfl, fun h => by cases h⟩
  · rw [if_neg (by omega)]
    obtain ⟨t, s, b, g1, g2⟩ := tup_sound a ha a 0 [] l k (by omega) rfl (by omega)
    refine ⟨t, s, b, g1, fun hb => ?_⟩
    obtain ⟨new, rest, q1, q2, q3, q4, q5⟩ := g2 hb
    rw [if_pos rfl] at q5
    refine ⟨rest, q2, ?_⟩
    rw [q1, q5, List.nil_append]
    cases new with
    | nil => exact absurd q3 (by simp; omega)
    | cons x xs => rfl
theorem tuple_full (t : List Int) (ht : tupOk t) (hl : t.length ≤ 99) (rest : List UInt8) (hr : noD rest) (k : Nat) (hk : 300 ≤ k) : paraphrastref01_tuple.f k (mkB (tupT t ++ rest)) (t.length : Int) = some (t, mkB rest, true) := by
  unfold paraphrastref01_tuple.f
  cases t with
  | nil =>
    rw [if_pos (by simp), mkB_size, if_neg (by simp [tupT, tupPre, tupJ]; omega), if_pos (by omega), if_pos (by simp [tupT, tupPre, tupJ]; omega), mkB_take, mkB_toL, ← mkB_size, mkB_drop]
    simp [tupT, tupPre, tupJ]
  | cons x xs =>
    rw [if_neg (by simp only [List.length_cons]; omega)]
    have := tup_full (x :: xs).length hl (x :: xs) 0 [] rest k (by simp) rfl ht hr (by omega)
    rw [if_pos rfl] at this
    simpa [tupT, tupPre] using this
end Go.Proofs.YtfmpaofbnjlniaaGreatDoor.F
/- ref.Parse, its loops. -/
namespace Go.Proofs.YtfmpaofbnjlniaaGreatDoor.F
open Go.RowKit Go.Proofs.YtfmpaofbnjlniaaGreatDoorW.PrintWords Go.Proofs.YtfmpaofbnjlniaaGreatDoorW.PrintLast Go.Proofs.YtfmpaofbnjlniaaGreatDoorW.PrintMore
set_option linter.unusedVariables false
set_option linter.unusedSimpArgs false
abbrev PR := Option (Int × List S52 × Bool)
/-- What ref.Parse answers on a text T0: nothing, or a valid structure whose text this is. -/
def Good (T0 : List UInt8) (x : PR) : Prop := x = some (0, [], false) ∨ ∃ n l, x = some (n, l, true) ∧ validB n l = true ∧ T0 = textL n l
/-- What holds of the relations read so far. -/
def Few8 (rels : List S52) : Prop := rels.length ≤ 9 ∧ ∀ r ∈ rels, r.f2.length ≤ 40000
theorem few8_valid (n : Int) (rels : List S52) (h : Few8 rels) (k : Nat) (hk : 40400 ≤ k) : paraphrastref01_Valid.f k n rels = some (validB n rels) := ref_valid_eq n rels 40000 (by omega) h.2 k (by omega)
section
variable (T0 : List UInt8) (n : Int)
/-- The text is what the relations and the rest say (where the number is one). -/
def Reads0 (rels : List S52) (l : List UInt8) : Prop := 0 ≤ n → T0 = digs n ++ relsT rels ++ l
theorem j1_end (k : Nat) (hk : 40500 ≤ k) (l : List UInt8) (rels : List S52) (h8 : Few8 rels) (hR : Reads0 T0 n rels l) : Good T0 (paraphrastref01_Parse.j1 k (mkB l) false n rels) := by
  obtain ⟨k, rfl⟩ : ∃ k', k = k' + 1 := ⟨k - 1, by omega⟩
  rw [paraphrastref01_Parse.j1, if_neg (by simp), mkB_toL]
  by_cases hl : l = []
  · rw [if_pos hl, few8_valid n rels h8 k (by omega), Option.bind_some]
    cases hv : validB n rels with
    | false => exact .inl rfl
    | true =>
      have hn := (valid_facts n rels hv).1
      refine .inr ⟨n, rels, rfl, hv, ?_⟩
      rw [hR (by omega), hl, List.append_nil]; rfl
  · rw [if_neg hl]; exact .inl rfl
/-- The loops at texts shorter than N. -/
def L0Good (N : Nat) : Prop := ∀ (l : List UInt8) (rels : List S52) (k : Nat), l.length < N → Few8 rels → Reads0 T0 n rels l → 6 * l.length + 50000 ≤ k → Good T0 (paraphrastref01_Parse.l0 k (mkB l) n rels)
theorem l2_good (N : Nat) (IH : L0Good T0 n N) (rels : List S52) (name : ByteArray) (a : Nat) (ha : a < 100) (h8 : rels.length ≤ 8) (hF : Few8 rels) : ∀ (M : Nat) (l : List UInt8) (ts : List (List Int)) (k : Nat), l.length ≤ M → l.length < N → ts.length + l.length ≤ 40000 → (0 ≤ n → T0 = digs n ++ relsT rels ++ (relHd ⟨name, a, []⟩ ++ tupsT ts ++ l)) → 6 * l.length + 50004 ≤ k →
    Good T0 (paraphrastref01_Parse.l2 k (mkB l) n rels name (a : Int) ts) := by
  intro M
  induction M with
  | zero =>
    intro l ts k hM hN hts hR hk
    obtain ⟨k, rfl⟩ : ∃ k', k = k' + 2 := ⟨k - 2, by omega⟩
    have : l = [] := List.eq_nil_of_length_eq_zero (by omega)
    subst this
    rw [paraphrastref01_Parse.l2, if_neg (by rw [mkB_size]; simp), paraphrastref01_Parse.j5, if_neg (by simp), if_pos (by omega)]
    refine IH [] _ k (by simpa using hN) ⟨by simp; omega, fun r hr => ?_⟩ (fun h0 => ?_) (by simp; omega)
    · rcases List.mem_append.1 hr with hr | hr
      · exact hF.2 r hr
      · rw [List.mem_singleton.1 hr]; simp only; omega
    · rw [hR h0, relsT_snoc]; simp [relHd]
  | succ M ih =>
    intro l ts k hM hN hts hR hk
    obtain ⟨k, rfl⟩ : ∃ k', k = k' + 2 := ⟨k - 2, by omega⟩
    have leave : Good T0 (paraphrastref01_Parse.j5 (k + 1) (mkB l) false n rels name (a : Int) ts) := by
      rw [paraphrastref01_Parse.j5, if_neg (by simp), if_pos (by omega)]
      refine IH l _ k hN ⟨by simp; omega, fun r hr => ?_⟩ (fun h0 => ?_) (by omega)
      · rcases List.mem_append.1 hr with hr | hr
        · exact hF.2 r hr
        · rw [List.mem_singleton.1 hr]; simp only; omega
      · rw [hR h0, relsT_snoc]; simp [relHd]
    rw [paraphrastref01_Parse.l2]
    cases l with
    | nil => rw [if_neg (by rw [mkB_size]; simp)]; exact leave
    | cons c l' =>
      rw [if_pos (by rw [mkB_size]; simp only [List.length_cons]; omega), if_pos (by rw [mkB_size]; simp only [List.length_cons]; omega), bt_mk0]
      by_cases hc : c = 32
      · subst hc
        rw [show (((32 : UInt8).toNat : Int) == 32) = true from rfl, paraphrastref01_Parse.j5, if_pos rfl, if_pos (by rw [mkB_size]; simp only [List.length_cons]; omega), mkB_drop, List.drop_one, List.tail_cons]
        obtain ⟨t, s, b, g1, g2⟩ := tuple_sound a (by omega) l' k (by omega)
        rw [g1, Option.bind_some]
        simp only
        cases b with
        | false => exact .inl rfl
        | true =>
          obtain ⟨rest, rfl, hl'⟩ := g2 rfl
          have hlen : rest.length ≤ l'.length := by rw [hl']; simp
          simp only [List.length_cons] at hM hN hts hk
          rw [if_pos rfl, if_pos (by omega)]
          refine ih rest (ts ++ [t]) k (by omega) (by omega) (by simp; omega) (fun h0 => ?_) (by omega)
          rw [hR h0, tupsT_snoc, hl']
          simp
      · rw [show ((c.toNat : Int) == 32) = false from beq_eq_false_iff_ne.2 fun e => hc (UInt8.toNat_inj.1 (by have : (32 : UInt8).toNat = 32 := rfl; omega))]
        exact leave
theorem j3_good (N : Nat) (IH : L0Good T0 n N) (rels : List S52) (h8 : rels.length ≤ 8) (hF : Few8 rels) (l : List UInt8) (j k : Nat) (hj : j ≤ l.length) (hN : l.length < N) (h4 : l.length ≤ 40000) (hj7 : ∀ h : j < l.length, l[j] = 47) (hR : 0 ≤ n → T0 = digs n ++ relsT rels ++ ([59, 32] ++ l)) (hk : 6 * (l.length - j) + 50003 ≤ k) :
    Good T0 (paraphrastref01_Parse.j3 k (mkB l) (j : Int) n rels) := by
  obtain ⟨k, rfl⟩ : ∃ k', k = k' + 1 := ⟨k - 1, by omega⟩
  rw [paraphrastref01_Parse.j3, mkB_size]
  by_cases he : j = l.length
  · rw [if_pos (by omega)]; exact .inl rfl
  · have hlt : j < l.length := by omega
    rw [if_neg (by omega), if_pos (by omega), if_pos (by omega), w64 (by omega) (by omega), if_pos (by omega), if_pos (by omega), show ((j : Int) + 1).toNat = j + 1 by omega, ← mkB_size, mkB_drop, number_eq _ k (by omega), Option.bind_some, Int.toNat_natCast, mkB_take]
    simp only
    have hsplit : l = l.take j ++ [47] ++ l.drop (j + 1) := by
      have := List.take_append_drop (j + 1) l
      rw [List.take_succ_eq_append_getElem hlt, hj7 hlt] at this
      exact this.symm
    have hdl : (l.drop (j + 1)).length = l.length - (j + 1) := by simp
    rcases numL_sound (l.drop (j + 1)) with ⟨e1, e2⟩ | ⟨e1, e2, e3⟩
    · rw [e1, if_pos (by omega)]; exact .inl rfl
    · have hlen : (numL (l.drop (j + 1))).2.length + 1 ≤ l.length - (j + 1) := by
        have := congrArg List.length e3
        rw [List.length_append, hdl] at this
        have := (digs_len _ e1 e2).1
        omega
      rw [if_neg (by omega)]
      have hq : ((numL (l.drop (j + 1))).1.toNat : Int) = (numL (l.drop (j + 1))).1 := Int.toNat_of_nonneg e1
      have := l2_good T0 n N IH rels (mkB (l.take j)) (numL (l.drop (j + 1))).1.toNat (by omega) h8 hF (numL (l.drop (j + 1))).2.length (numL (l.drop (j + 1))).2 [] k (Nat.le_refl _) (by omega) (by simp; omega)
      rw [hq] at this
      refine this (fun h0 => ?_) (by omega)
      rw [hR h0]
      congr 1
      conv => lhs; rw [hsplit, e3]
      simp [relHd, tupsT, mkB_list]
theorem l1_good (N : Nat) (IH : L0Good T0 n N) (rels : List S52) (h8 : rels.length ≤ 8) (hF : Few8 rels) (l : List UInt8) (hN : l.length < N) (h4 : l.length ≤ 40000) (hR : 0 ≤ n → T0 = digs n ++ relsT rels ++ ([59, 32] ++ l)) : ∀ (d j k : Nat), j + d = l.length → 6 * d + 50004 ≤ k →
    Good T0 (paraphrastref01_Parse.l1 k (mkB l) (j : Int) n rels)
  | 0, j, k + 1, h, hk => by
    rw [paraphrastref01_Parse.l1, mkB_size, if_neg (by omega)]
    exact j3_good T0 n N IH rels h8 hF l j k (by omega) hN h4 (fun h' => by omega) hR (by omega)
  | d + 1, j, k + 1, h, hk => by
    rw [paraphrastref01_Parse.l1, mkB_size, if_pos (by omega), if_pos (by omega), bt_mk l j (by omega)]
    by_cases h7 : (l[j].toNat : Int) = 47
    · rw [if_pos h7]
      exact j3_good T0 n N IH rels h8 hF l j k (by omega) hN h4 (fun h' => UInt8.toNat_inj.1 (by have : (47 : UInt8).toNat = 47 := rfl; omega)) hR (by omega)
    · rw [if_neg h7, w64 (by omega) (by omega), show (j : Int) + 1 = ((j + 1 : Nat) : Int) by omega]
      exact l1_good N IH rels h8 hF l hN h4 hR d (j + 1) k (by omega) (by omega)
theorem l0_good (hT : T0.length ≤ 40000) : ∀ N, N ≤ 40001 → L0Good T0 n N
  | 0, _ => fun l rels k h => by omega
  | N + 1, hN1 => by
    have IH := l0_good hT N (by omega)
    intro l rels k hl hF hR hk
    obtain ⟨k, rfl⟩ : ∃ k', k = k' + 2 := ⟨k - 2, by omega⟩
    rw [paraphrastref01_Parse.l0, mkB_size]
    by_cases h2 : (l.length : Int) > 2
    · rw [if_pos h2, if_pos (by omega), if_pos (by omega), mkB_take, mkB_toL]
      by_cases h3 : l.take 2 = [59, 32]
      · rw [if_pos h3]
        by_cases h8 : (rels.length : Int) ≤ 8
        · rw [decide_eq_true h8, paraphrastref01_Parse.j1, if_pos rfl, mkB_size, if_pos (by omega), ← mkB_size, mkB_drop]
          have hs := List.take_append_drop 2 l
          rw [h3] at hs
          have hdl : (l.drop 2).length = l.length - 2 := by simp
          have := l1_good T0 n N IH rels (by omega) hF (l.drop 2) (by omega) (by omega) (fun h0 => by rw [hR h0, hs]) (l.drop 2).length 0 k (by omega) (by omega)
          exact this
        · rw [decide_eq_false h8]
          exact j1_end T0 n (k + 1) (by omega) l rels hF hR
      · rw [if_neg h3]
        exact j1_end T0 n (k + 1) (by omega) l rels hF hR
    · rw [if_neg h2]
      exact j1_end T0 n (k + 1) (by omega) l rels hF hR
end
/-- Whatever ref.Parse accepts is the text of the valid structure that it answers. -/
theorem rparse_sound (s : ByteArray) (k : Nat) (hk : 300000 ≤ k) : Good s.data.toList (paraphrastref01_Parse.f k s) := by
  have hs : s = mkB s.data.toList := (mkB_data s).symm
  generalize s.data.toList = T0 at hs
  subst hs
  unfold paraphrastref01_Parse.f
  rw [mkB_size]
  by_cases h4 : (T0.length : Int) > 40000
  · rw [if_pos h4]; exact .inl rfl
  · rw [if_neg h4, number_eq T0 k (by omega), Option.bind_some]
    simp only
    have hlen : (numL T0).2.length ≤ T0.length := by
      rcases numL_sound T0 with ⟨_, e⟩ | ⟨_, _, e⟩
      · rw [e]; exact Nat.le_refl _
      · conv => rhs; rw [e]
        simp
    refine l0_good T0 (numL T0).1 (by omega) 40001 (Nat.le_refl _) (numL T0).2 [] k (by omega) ⟨by simp, fun r hr => by cases hr⟩ (fun h0 => ?_) (by omega)
    rcases numL_sound T0 with ⟨e, _⟩ | ⟨_, _, e⟩
    · omega
    · conv => lhs; rw [e]
      simp [relsT]
/-! ### every text of a valid structure is read -/
theorem l2_full (n : Int) (rels : List S52) (name : ByteArray) (a : Nat) (ha : a ≤ 99) (h9 : rels.length ≤ 9) (l : List UInt8) (hl : ∀ b r, l = b :: r → b = 59) : ∀ (new ts : List (List Int)) (k : Nat), (∀ t ∈ new, tupOk t ∧ t.length = a) → ts.length + new.length ≤ 40000 → 2 * new.length + 400 ≤ k →
    paraphrastref01_Parse.l2 k (mkB (tupsT new ++ l)) n rels name (a : Int) ts = paraphrastref01_Parse.l0 (k - 2 * new.length - 2) (mkB l) n (rels ++ [⟨name, a, ts ++ new⟩])
  | [], ts, k, hn, hts, hk => by
    obtain ⟨k, rfl⟩ : ∃ k', k = k' + 2 := ⟨k - 2, by omega⟩
    have hj : paraphrastref01_Parse.j5 (k + 1) (mkB l) false n rels name (a : Int) ts = paraphrastref01_Parse.l0 k (mkB l) n (rels ++ [⟨name, a, ts⟩]) := by
      rw [paraphrastref01_Parse.j5, if_neg (by simp), if_pos (by omega)]
    simp only [tupsT, List.nil_append, List.append_nil, List.length_nil]
    rw [paraphrastref01_Parse.l2, show k + 2 - 2 * 0 - 2 = k by omega, ← hj]
    cases l with
    | nil => rw [if_neg (by rw [mkB_size]; simp)]
    | cons c r =>
      have := hl c r rfl
      subst this
      rw [if_pos (by rw [mkB_size]; simp only [List.length_cons]; omega), if_pos (by rw [mkB_size]; simp only [List.length_cons]; omega), bt_mk0]
      rfl
  | t :: new, ts, k, hn, hts, hk => by
    simp only [List.length_cons] at hts hk
    obtain ⟨k, rfl⟩ : ∃ k', k = k' + 2 := ⟨k - 2, by omega⟩
    obtain ⟨ht1, ht2⟩ := hn t (by simp)
    have hnoD : noD (tupsT new ++ l) := by
      intro b r e
      cases new with
      | nil => have := hl b r (by simpa [tupsT] using e); subst this; rfl
      | cons x xs => simp only [tupsT, List.cons_append] at e; injection e with e _; subst e; rfl
    simp only [tupsT, List.cons_append, List.append_assoc]
    rw [paraphrastref01_Parse.l2, if_pos (by rw [mkB_size]; simp only [List.length_cons]; omega), if_pos (by rw [mkB_size]; simp only [List.length_cons]; omega), bt_mk0, show (((32 : UInt8).toNat : Int) == 32) = true from rfl, paraphrastref01_Parse.j5, if_pos rfl, if_pos (by rw [mkB_size]; simp only [List.length_cons]; omega), mkB_drop, List.drop_one, List.tail_cons, ← ht2, tuple_full t ht1 (by omega) _ hnoD k (by omega), Option.bind_some]
    simp only [if_true]
    rw [if_pos (by omega), ht2, l2_full n rels name a ha h9 l hl new (ts ++ [t]) k (fun x hx => hn x (by simp [hx])) (by simp; omega) (by omega)]
    simp only [List.append_assoc, List.singleton_append, List.length_cons]
    congr 1
    omega
theorem l1_full (n : Int) (rels : List S52) (nm rest : List UInt8) (hno : (47 : UInt8) ∉ nm) (hl : (nm ++ 47 :: rest).length ≤ 1000000) : ∀ (d j k : Nat), j + d = nm.length → d + 1 ≤ k →
    paraphrastref01_Parse.l1 k (mkB (nm ++ 47 :: rest)) (j : Int) n rels = paraphrastref01_Parse.j3 (k - d - 1) (mkB (nm ++ 47 :: rest)) (nm.length : Int) n rels
  | 0, j, k + 1, h, hk => by
    obtain rfl : j = nm.length := by omega
    rw [paraphrastref01_Parse.l1, mkB_size, if_pos (by simp only [List.length_append, List.length_cons]; omega), if_pos (by omega), bt_mk _ nm.length (by simp), if_pos (by simp)]
    rfl
  | d + 1, j, k + 1, h, hk => by
    have hj : j < nm.length := by omega
    rw [paraphrastref01_Parse.l1, mkB_size, if_pos (by simp only [List.length_append, List.length_cons]; omega), if_pos (by omega), bt_mk _ j (by simp; omega), List.getElem_append_left hj]
    rw [if_neg (fun e => hno (by have h7 : nm[j] = 47 := UInt8.toNat_inj.1 (by have : (47 : UInt8).toNat = 47 := rfl; omega); rw [← h7]; exact List.getElem_mem hj))]
    simp only [List.length_append, List.length_cons] at hl
    rw [w64 (by omega) (by omega), show (j : Int) + 1 = ((j + 1 : Nat) : Int) by omega, l1_full n rels nm rest hno (by simp; omega) d (j + 1) k (by omega) (by omega)]
    congr 1
    omega
theorem l0_full (n : Int) : ∀ (rs rels : List S52) (k : Nat), validB n (rels ++ rs) = true → (relsT rs).length ≤ 40000 → 60000 + 2 * (relsT rs).length ≤ k →
    paraphrastref01_Parse.l0 k (mkB (relsT rs)) n rels = some (n, rels ++ rs, true)
  | [], rels, k, hv, hl, hk => by
    obtain ⟨k, rfl⟩ : ∃ k', k = k' + 2 := ⟨k - 2, by omega⟩
    rw [List.append_nil] at hv
    obtain ⟨h1, h2, h3, h4⟩ := valid_facts n rels hv
    rw [paraphrastref01_Parse.l0, if_neg (by rw [mkB_size]; simp [relsT]), paraphrastref01_Parse.j1, if_neg (by simp), mkB_toL, if_pos (show relsT [] = [] from rfl), few8_valid n rels ⟨by omega, fun r hr => by have := (h4 r hr).2.2.2; omega⟩ k (by omega), hv]
    simp
  | r :: rs, rels, k, hv, hl, hk => by
    obtain ⟨h1, h2, h3, h4⟩ := valid_facts n _ hv
    obtain ⟨⟨hnm, ⟨ha0, ha1⟩, hto⟩, ⟨hb0, hb1⟩, htl, htn⟩ := h4 r (by simp)
    have hname := name_mem r.f0 hnm
    simp only [List.length_append, List.length_cons] at h3
    simp only [relsT, relT, relHd, List.length_append, List.length_cons, List.length_nil] at hl hk
    have hdl := digs_len r.f1 ha0 ha1
    have htt : r.f2.length ≤ (tupsT r.f2).length := by
      have : ∀ q : List (List Int), q.length ≤ (tupsT q).length := fun q => by
        induction q with
        | nil => exact Nat.le_refl _
        | cons x xs ih => simp only [tupsT, List.length_cons, List.length_append]; omega
      exact this r.f2
    obtain ⟨k, rfl⟩ : ∃ k', k = k' + 2 := ⟨k - 2, by omega⟩
    have ih := l0_full n rs (rels ++ [r])
    have htext : relsT (r :: rs) = 59 :: 32 :: (r.f0.data.toList ++ 47 :: (digs r.f1 ++ (tupsT r.f2 ++ relsT rs))) := by simp [relsT, relT, relHd]
    rw [htext]
    rw [paraphrastref01_Parse.l0, if_pos (by rw [mkB_size]; simp only [List.length_cons, List.length_append]; omega), if_pos (by omega), if_pos (by rw [mkB_size]; simp only [List.length_cons, List.length_append]; omega), mkB_take, mkB_toL, if_pos (by rfl), decide_eq_true (by omega), paraphrastref01_Parse.j1, if_pos rfl, if_pos (by rw [mkB_size]; simp only [List.length_cons, List.length_append]; omega), mkB_drop]
    simp only [List.drop_succ_cons, List.drop_zero]
    have h47 : (47 : UInt8) ∉ r.f0.data.toList := fun h => by have := hname.1 _ h; have e : (47 : UInt8).toNat = 47 := rfl; omega
    have := l1_full n rels r.f0.data.toList (digs r.f1 ++ (tupsT r.f2 ++ relsT rs)) h47 (by simp only [List.length_append, List.length_cons]; omega) r.f0.data.toList.length 0 k (by omega) (by omega)
    rw [show ((0 : Nat) : Int) = 0 from rfl] at this
    rw [this]
    obtain ⟨k3, hk3⟩ : ∃ k', k - r.f0.data.toList.length - 1 = k' + 1 := ⟨k - r.f0.data.toList.length - 2, by omega⟩
    have hhead : ∀ b q, relsT rs = b :: q → b = 59 := fun b q e => by
      cases rs with
      | nil => simp [relsT] at e
      | cons x xs => simp only [relsT, relT, relHd, List.cons_append] at e; injection e with e _; exact e.symm
    have hnoD : noD (tupsT r.f2 ++ relsT rs) := by
      intro b q e
      cases hq : r.f2 with
      | nil => rw [hq] at e; have := hhead b q (by simpa [tupsT] using e); subst this; rfl
      | cons x xs => rw [hq] at e; simp only [tupsT, List.cons_append] at e; injection e with e _; subst e; rfl
    rw [hk3, paraphrastref01_Parse.j3, mkB_size, if_neg (by simp only [List.length_append, List.length_cons]; omega), if_pos (by omega), if_pos (by simp only [List.length_append, List.length_cons]; omega), w64 (by omega) (by omega), if_pos (by omega), if_pos (by simp only [List.length_append, List.length_cons]; omega), show ((r.f0.data.toList.length : Int) + 1).toNat = r.f0.data.toList.length + 1 by omega, ← mkB_size (r.f0.data.toList ++ 47 :: (digs r.f1 ++ (tupsT r.f2 ++ relsT rs))), mkB_drop, Int.toNat_natCast, mkB_take]
    have d1 : (r.f0.data.toList ++ 47 :: (digs r.f1 ++ (tupsT r.f2 ++ relsT rs))).drop (r.f0.data.toList.length + 1) = digs r.f1 ++ (tupsT r.f2 ++ relsT rs) := by rw [List.drop_append]; simp
    have d2 : (r.f0.data.toList ++ 47 :: (digs r.f1 ++ (tupsT r.f2 ++ relsT rs))).take r.f0.data.toList.length = r.f0.data.toList := by simp
    rw [d1, d2, mkB_data, number_eq _ k3 (by omega), numL_digs r.f1 ha0 ha1 _ hnoD, Option.bind_some]
    simp only
    rw [if_neg (by omega)]
    have hq : (r.f1.toNat : Int) = r.f1 := Int.toNat_of_nonneg ha0
    have hstep := l2_full n rels r.f0 r.f1.toNat (by omega) (by omega) (relsT rs) hhead r.f2 [] k3 (fun t ht => ⟨hto t ht, by have := (htl t ht).1; omega⟩) (by simp; omega) (by omega)
    rw [hq, List.nil_append] at hstep
    rw [hstep, ih _ (by simpa using hv) (by omega) (by omega)]
    simp
theorem rparse_full (n : Int) (l : List S52) (hv : validB n l = true) (hs : (textL n l).length ≤ 40000) (k : Nat) (hk : 300000 ≤ k) : paraphrastref01_Parse.f k (mkB (textL n l)) = some (n, l, true) := by
  obtain ⟨h1, h2, h3, h4⟩ := valid_facts n l hv
  unfold paraphrastref01_Parse.f textL
  unfold textL at hs
  have hnoD : noD (relsT l) := by
    intro b q e
    cases l with
    | nil => simp [relsT] at e
    | cons x xs => simp only [relsT, relT, relHd, List.cons_append] at e; injection e with e _; subst e; rfl
  rw [List.length_append] at hs
  rw [mkB_size, if_neg (by simp only [List.length_append]; omega), number_eq _ k (by omega), numL_digs n (by omega) (by omega) _ hnoD, Option.bind_some]
  exact l0_full n l [] k hv (by omega) (by omega)
end Go.Proofs.YtfmpaofbnjlniaaGreatDoor.F
/- Rows of bytes that begin as []byte(string): no cell is frozen, the mark lies behind the row. -/
namespace Go.Proofs.YtfmpaofbnjlniaaGreatDoor.F
open Go.RowKit Go.Lib Go.Proofs.YtfmpaofbnjlniaaGreatDoorW.PrintWords Go.Proofs.YtfmpaofbnjlniaaGreatDoorW.PrintLast Go.Proofs.YtfmpaofbnjlniaaGreatDoorW.PrintMore
set_option linter.unusedVariables false
/-- None of the first m cells is frozen by this mark. -/
def Loose (fz : Nat × Nat) (m : Nat) : Prop := fz = (0, 0) ∨ m ≤ fz.1
theorem Loose.frozen {w : World} {g m j : Nat} {cur : Array Value} {e : TypeId} {fz : Nat × Nat} (hf : Loose fz m) (hg : w.heap[g]? = some (.cells cur e fz)) (hj : j < m) : w.frozen? ⟨g, j, none⟩ = false := by
  obtain ⟨lo, hi⟩ := fz
  simp only [World.frozen?, hg, Bool.and_eq_false_iff, decide_eq_false_iff_not]
  rcases hf with h | h
  · cases h
    right
    omega
  · left
    simp only at h
    omega
section
variable {P : Program}
theorem store_loose (g o : Nat) (t : TypeId) (fz : Nat × Nat) (m : Nat) (hf : Loose fz m) : ∀ (vs : List Value) (i : Nat) (cur : Array Value) (w : World), w.heap[g]? = some (.cells cur t fz) → o + i + vs.length ≤ cur.size → cur.size ≤ m → (∀ v ∈ vs, v.oneCell' = true) →
    (storeCells ⟨g, o, none⟩ vs i).run P w = .ok () (w.setRow g (cur.toList.take (o + i) ++ vs ++ cur.toList.drop (o + i + vs.length)).toArray)
  | [], i, cur, w, hg, _, _, _ => by
    simp only [storeCells, List.append_nil, List.length_nil, Nat.add_zero, List.take_append_drop, Array.toArray_toList]
    rw [setRow_self w g cur t fz hg]
    rfl
  | v :: rest, i, cur, w, hg, hl, hm, h1 => by
    have hi : o + i < cur.size := by simp at hl; omega
    have hadd : (⟨g, o, none⟩ : Addr).add i = ⟨g, o + i, none⟩ := by unfold Addr.add; split <;> simp_all
    have hcell : w.cell? ⟨g, o + i, none⟩ = some cur[o + i] := by simp [World.cell?, hg, hi]
    have hfro := hf.frozen hg (j := o + i) (by omega)
    have hst : (store ((⟨g, o, none⟩ : Addr).add i) v).run P w = .ok () (w.setRow g (cur.setIfInBounds (o + i) v)) := by
      rw [hadd, run_store P w _ v _ (h1 v (by simp)), hcell]
      simp [hfro, setCell_eq_setRow w g (o + i) cur t fz v hg]
    have ih := store_loose g o t fz m hf rest (i + 1) (cur.setIfInBounds (o + i) v) (w.setRow g (cur.setIfInBounds (o + i) v)) (setRow_heap w g cur _ t _ hg) (by simp at hl ⊢; omega) (by simpa using hm) (fun x hx => h1 x (by simp [hx]))
    simp only [storeCells, Sem.run_bind, hst, Result.andThen_ok, ih, setRow_setRow]
    congr 3
    have e := list_seg_step cur.toList (o + i) v rest (by simp at hl ⊢; omega)
    simpa [Array.toList_setIfInBounds, Nat.add_assoc] using e
end
/-- A row of bytes of one's own. -/
def RowB (w : World) (base : Nat) (e : TypeId) (v : Value) (xs : List Value) : Prop :=
  ∃ g cap cur fz, v = .slice (some ⟨g, 0, none⟩) xs.length cap ∧ base ≤ g ∧ w.heap[g]? = some (.cells cur e fz) ∧ Loose fz cur.size ∧ xs.length ≤ cap ∧ cap ≤ maxLen ∧ cur.size = cap ∧ cur.toList.take xs.length = xs
theorem RowB.made (w : World) (base : Nat) (hb : base ≤ w.heap.size) (e : TypeId) (s : ByteArray) (hs : s.size ≤ 140737488355328) : RowB (bytesWorld w e s) base e (.slice (some ⟨w.heap.size, 0, none⟩) s.size (grownCap w s.size 0 e)) (strCells s) := by
  have hge := grownCap_ge w s.size 0 e
  have hcm := grownCap_le_maxLen w s.size 0 e (by unfold maxLen; omega)
  have hds : s.data.size = s.size := rfl
  have hz : (bytesCells w e s).size = grownCap w s.size 0 e := by unfold bytesCells; rw [Array.size_append, Array.size_map, Array.size_replicate]; omega
  refine ⟨w.heap.size, _, bytesCells w e s, _, by rw [strCells_length], hb, bytesWorld_at_new w e s, .inr (Nat.le_refl _), by rw [strCells_length]; exact hge, hcm, hz, ?_⟩
  have e1 : (bytesCells w e s).toList = strCells s ++ List.replicate (grownCap w s.size 0 e - s.size) (.int .u8 0) := by
    unfold bytesCells strCells
    rw [Array.toList_append, Array.toList_map, Array.toList_replicate]
  rw [e1]
  exact List.take_left
theorem RowB.room {P : Program} {w : World} {base : Nat} {e : TypeId} {v : Value} {xs : List Value} (h : RowB w base e v xs) (t u ty : TypeId) (i : TypeInfo) (ht : P.underlying t = some (.slice e)) (hu : P.underlying u = some .string) (hi : P.info? e = some i) (hz : i.zero = some (.int .u8 0))
    (hsize : i.size = 1) (hby : i.bytes = 1) (s : ByteArray) (hl : xs.length + s.size ≤ 140737488355328) (hbase : base ≤ w.heap.size) :
    ∃ v' w', (Builtin.append_ #[t, u] ty #[v, .string s]).run P w = .ok v' w' ∧ RowB w' base e v' (xs ++ strCells s) ∧ w.grownBy w' v.ownBlock := by
  obtain ⟨g, cap, cur, fz, rfl, hbg, hg, hf, hnc, hcm, hcs, htake⟩ := h
  have hlen : (xs ++ strCells s).length = xs.length + s.size := by rw [List.length_append, strCells_length]
  have h63 : xs.length + s.size ≤ maxLen := by unfold maxLen; omega
  by_cases hroom : xs.length + s.size ≤ cap
  · have hfc := run_firstCells_string (P := P) w 1 s
    have hst := store_loose (P := P) g xs.length e fz cur.size hf (strCells s) 0 cur w hg (by rw [strCells_length]; omega) (Nat.le_refl _) (strCells_oneCell s)
    simp only [Nat.add_zero, strCells_length] at hst
    have hr : (Builtin.append_ #[t, u] ty #[.slice (some ⟨g, 0, none⟩) xs.length cap, .string s]).run P w = .ok (.slice (some ⟨g, 0, none⟩) (xs.length + s.size) cap) (w.setRow g (cur.toList.take xs.length ++ strCells s ++ cur.toList.drop (xs.length + s.size)).toArray) := by
      simp [Builtin.append_, run_underlying ht, run_underlying hu, sizeOf, typeInfo, hi, hsize, Builtin.lenOf, hroom, hfc, Addr.add_lit, hst]
    refine ⟨_, _, hr, ⟨g, cap, _, fz, by rw [hlen], hbg, setRow_heap w g cur _ e _ hg, ?_, by rw [hlen]; exact hroom, hcm, ?_, ?_⟩, ⟨rfl, rfl, rfl, by simp, fun k _ hk => setRow_other w g k _ (fun e => hk (by simp [Value.ownBlock, e]))⟩⟩
    · have : (cur.toList.take xs.length ++ strCells s ++ cur.toList.drop (xs.length + s.size)).toArray.size = cur.size := by
        simp only [List.size_toArray, List.length_append, List.length_take, List.length_drop, Array.length_toList, strCells_length]; omega
      rw [this]; exact hf
    · simp only [List.size_toArray, List.length_append, List.length_take, List.length_drop, Array.length_toList, strCells_length]
      omega
    · rw [htake]
      exact List.take_left
  · have holds : ∀ j u, xs[j]? = some u → w.cell? ((⟨g, 0, none⟩ : Addr).add j) = some u := fun j u hj => by
      have hjl := (List.getElem?_eq_some_iff.1 hj).1
      have : (⟨g, 0, none⟩ : Addr).add j = ⟨g, j, none⟩ := Go.Proofs.YtfmpaofbnjlniaaGreatDoorW.PrintWords.add_plain g j
      rw [this]
      have h2 : cur.toList[j]? = some u := by rw [← htake, List.getElem?_take] at hj; simpa [hjl] using hj
      simpa [World.cell?, hg] using h2
    have hr := run_append_grow_string (P := P) w t u ty e i (.int .u8 0) ht hu hi hz ⟨g, 0, none⟩ xs.length cap xs (by rw [hsize, Nat.mul_one]) holds s (by omega) (by omega) (by rw [hby]; exact growslice_fits (by omega) (by omega))
    have hge := grownCap_ge w (xs.length + s.size) cap e
    have hcm2 : grownCap w (xs.length + s.size) cap e ≤ maxLen := grownCap_le_maxLen w (xs.length + s.size) cap e h63
    refine ⟨_, _, hr, ⟨w.heap.size, _, _, (0, 0), by rw [hlen], hbase, heap_alloc_new w.drew _, .inl rfl, by rw [hlen]; exact hge, hcm2, ?_, ?_⟩, ⟨rfl, rfl, rfl, by simp, fun k hk _ => heap_alloc_old w.drew _ hk⟩⟩
    · have hz1 : (Value.int IntKind.u8 0).cells.size = 1 := rfl
      simp only [Array.size_append, List.size_toArray, size_zeroCells, hz1, strCells_length]
      omega
    · simp only [Array.toList_append, List.append_assoc]
      rw [← List.append_assoc]
      exact List.take_left
/-- append(out, x): the new byte lies in a row of its own. -/
theorem RowB.byte {P : Program} {w : World} {base : Nat} {e : TypeId} {v : Value} {xs : List Value} (h : RowB w base e v xs) (t ty : TypeId) (i : TypeInfo) (ht : P.underlying t = some (.slice e)) (hi : P.info? e = some i) (hz : i.zero = some (.int .u8 0))
    (hsize : i.size = 1) (hby : i.bytes = 1) (b : Nat) (x : Int) (hx : w.cell? ⟨b, 0, none⟩ = some (.int .u8 x)) (hl : xs.length + 1 ≤ 140737488355328) (hbase : base ≤ w.heap.size) :
    ∃ v' w', (Builtin.append_ #[t, t] ty #[v, .slice (some ⟨b, 0, none⟩) 1 1]).run P w = .ok v' w' ∧ RowB w' base e v' (xs ++ [.int .u8 x]) ∧ w.grownBy w' v.ownBlock := by
  obtain ⟨g, cap, cur, fz, rfl, hbg, hg, hf, hnc, hcm, hcs, htake⟩ := h
  have hlen : (xs ++ [Value.int .u8 x]).length = xs.length + 1 := by rw [List.length_append, List.length_singleton]
  have h63 : xs.length + 1 ≤ maxLen := by unfold maxLen; omega
  have hnew : ∀ j u, [Value.int .u8 x][j]? = some u → w.cell? ((⟨b, 0, none⟩ : Addr).add j) = some u := fun j u hj => by
    obtain ⟨hj1, hj2⟩ := List.getElem?_eq_some_iff.1 hj
    have : j = 0 := by simp at hj1; exact hj1
    subst this
    rw [Go.Proofs.YtfmpaofbnjlniaaGreatDoorW.PrintWords.add_plain]
    simp at hj2
    rw [← hj2]
    exact hx
  have hfc := run_firstCells_some (P := P) w 1 1 ⟨b, 0, none⟩ 1 1 [.int .u8 x] rfl hnew
  by_cases hroom : xs.length + 1 ≤ cap
  · have hst := store_loose (P := P) g xs.length e fz cur.size hf [Value.int .u8 x] 0 cur w hg (by rw [List.length_singleton]; omega) (Nat.le_refl _) (by simp [Value.oneCell'])
    simp only [Nat.add_zero, List.length_singleton] at hst
    have hr : (Builtin.append_ #[t, t] ty #[.slice (some ⟨g, 0, none⟩) xs.length cap, .slice (some ⟨b, 0, none⟩) 1 1]).run P w = .ok (.slice (some ⟨g, 0, none⟩) (xs.length + 1) cap) (w.setRow g (cur.toList.take xs.length ++ [Value.int .u8 x] ++ cur.toList.drop (xs.length + 1)).toArray) := by
      simp [Builtin.append_, run_underlying ht, sizeOf, typeInfo, hi, hsize, Builtin.lenOf, hroom, hfc, Addr.add_lit, hst]
    refine ⟨_, _, hr, ⟨g, cap, _, fz, by rw [hlen], hbg, setRow_heap w g cur _ e _ hg, ?_, by rw [hlen]; exact hroom, hcm, ?_, ?_⟩, ⟨rfl, rfl, rfl, by simp, fun k _ hk => setRow_other w g k _ (fun e => hk (by simp [Value.ownBlock, e]))⟩⟩
    · have : (cur.toList.take xs.length ++ [Value.int .u8 x] ++ cur.toList.drop (xs.length + 1)).toArray.size = cur.size := by
        simp only [List.size_toArray, List.length_append, List.length_take, List.length_drop, Array.length_toList, List.length_singleton]; omega
      rw [this]; exact hf
    · simp only [List.size_toArray, List.length_append, List.length_take, List.length_drop, Array.length_toList, List.length_singleton]
      omega
    · rw [htake]
      exact List.take_left
  · have holds : ∀ j u, xs[j]? = some u → w.cell? ((⟨g, 0, none⟩ : Addr).add j) = some u := fun j u hj => by
      have hjl := (List.getElem?_eq_some_iff.1 hj).1
      rw [Go.Proofs.YtfmpaofbnjlniaaGreatDoorW.PrintWords.add_plain]
      have h2 : cur.toList[j]? = some u := by rw [← htake, List.getElem?_take] at hj; simpa [hjl] using hj
      simpa [World.cell?, hg] using h2
    have hr := run_append_grow (P := P) w t ty e i (.int .u8 0) ht hi hz ⟨g, 0, none⟩ xs.length cap xs (by rw [hsize, Nat.mul_one]) holds ⟨b, 0, none⟩ 1 1 [.int .u8 x] (by rw [hsize]; rfl) hnew (by omega) (by omega) (by rw [hby]; exact growslice_fits (by omega) (by omega))
    have hge := grownCap_ge w (xs.length + 1) cap e
    have hcm2 : grownCap w (xs.length + 1) cap e ≤ maxLen := grownCap_le_maxLen w (xs.length + 1) cap e h63
    refine ⟨_, _, hr, ⟨w.heap.size, _, _, (0, 0), by rw [hlen], hbase, heap_alloc_new w.drew _, .inl rfl, by rw [hlen]; exact hge, hcm2, ?_, ?_⟩, ⟨rfl, rfl, rfl, by simp, fun k hk _ => heap_alloc_old w.drew _ hk⟩⟩
    · have hz1 : (Value.int IntKind.u8 0).cells.size = 1 := rfl
      simp only [Array.size_append, List.size_toArray, size_zeroCells, hz1, List.length_singleton]
      omega
    · simp only [Array.toList_append, List.append_assoc]
      rw [← List.append_assoc]
      exact List.take_left
end Go.Proofs.YtfmpaofbnjlniaaGreatDoor.F
/- Rows of bytes at the operations: []byte(s), append(out, s...), append(out, c), string(out). -/
namespace Go.Proofs.YtfmpaofbnjlniaaGreatDoor.F
open Go.RowKit Go.Lib Go.Proofs.YtfmpaofbnjlniaaGreatDoorW.PrintWords Go.Proofs.YtfmpaofbnjlniaaGreatDoorW.PrintLast Go.Proofs.YtfmpaofbnjlniaaGreatDoorW.PrintMore
set_option linter.unusedVariables false
theorem info8 : ∃ i, Tryz.prog.info? 5 = some i ∧ i.zero = some (.int .u8 0) ∧ i.size = 1 ∧ i.bytes = 1 := by
  have h : (Tryz.prog.info? 5).map (fun i => (i.zero, i.size, i.bytes)) = some (some (.int .u8 0), 1, 1) := by kernel_rfl
  exact info_parts h
/-- A row of bytes from base on that holds t. -/
def RB (w : World) (base : Nat) (v : Value) (t : List UInt8) : Prop := RowB w base 5 v (Lib.byteCells t)
theorem byteCells_len (t : List UInt8) : (Lib.byteCells t).length = t.length := by simp [Lib.byteCells]
theorem RowB.kept {w w' : World} {base : Nat} {e : TypeId} {v : Value} {xs : List Value} (h : RowB w base e v xs) (hb : ∀ k, k < w.heap.size → w'.heap[k]? = w.heap[k]?) : RowB w' base e v xs := by
  obtain ⟨g, cap, cur, fz, rfl, hbg, hg, hf, hnc, hcm, hcs, htake⟩ := h
  exact ⟨g, cap, cur, fz, rfl, hbg, (hb g (Array.getElem?_eq_some_iff.1 hg).1).trans hg, hf, hnc, hcm, hcs, htake⟩
theorem RB.alloc {w : World} {base : Nat} {v : Value} {t : List UInt8} (h : RB w base v t) (o : Obj) : RB (w.alloc o) base v t := RowB.kept h fun k hk => heap_alloc_old w o hk
theorem RB.drew {w : World} {base : Nat} {v : Value} {t : List UInt8} (h : RB w base v t) : RB w.drew base v t := h
theorem RowB.ne {w : World} {base : Nat} {e : TypeId} {v : Value} {xs : List Value} (h : RowB w base e v xs) {g : Nat} {cs : Array Value} {t : TypeId} {z : Nat × Nat} (hg : w.heap[g]? = some (.cells cs t z)) (ht : t ≠ e) : some g ≠ v.ownBlock := by
  obtain ⟨g', cap, cur, fz, rfl, hbg, hg', _⟩ := h
  intro e'
  have : g = g' := by simpa [Value.ownBlock] using e'
  subst this
  rw [hg] at hg'
  injection hg' with hg'
  injection hg' with _ e1 _
  exact ht e1
theorem RowB.base_le {w : World} {base : Nat} {e : TypeId} {v : Value} {xs : List Value} (h : RowB w base e v xs) : ∀ k, v.ownBlock = some k → base ≤ k := by
  obtain ⟨g', cap, cur, fz, rfl, hbg, _⟩ := h
  intro k hk
  have : g' = k := by simpa [Value.ownBlock] using hk
  omega
set_option maxRecDepth 100000
section
variable {ops : Array Oper} {rest : List Oper} {o : Oper} {a : Act} {w : World} {Q : Exit → Act → World → Prop}
theorem wpB_conv (hgd : o.guard = none) {x : Operand} (ho : o.op = .convert 9 63 x) {s : ByteArray} (hx : a.eval x = .string s) (base : Nat) (hb : base ≤ w.heap.size) (hs : s.size ≤ 140737488355328)
    (h : ∀ v' w', RB w' base v' s.data.toList → w.grownBy w' none → wpList Tryz.prog ops Q rest (a.put o.dst v') w') : wpList Tryz.prog ops Q (o :: rest) a w := by
  refine wpList_plain hgd fun K hK => ?_
  have hr := Go.Lib.run_convert_string_bytes (P := Tryz.prog) w 9 63 5 s Tryz.underlying9 Tryz.underlying63 Tryz.underlying5
  unfold Oper.wp execOp
  simp only [ho, Sem.run_bind, Sem.run_pure, hx]
  rw [hr]
  exact hK _ _ (h _ _ (RowB.made w base hb 5 s hs) ⟨rfl, rfl, rfl, by rw [bytesWorld_size]; omega, fun k hk _ => bytesWorld_at_old w _ s k hk⟩)
theorem wpB_str (hgd : o.guard = none) {sl x : Operand} (ho : o.op = .call { callee := .builtin .append, args := #[sl, x], argTypes := #[63, 9] }) {v : Value} {t : List UInt8} {base : Nat} (hs : a.eval sl = v) {s : ByteArray} (hx : a.eval x = .string s)
    (hrow : RB w base v t) (hl : t.length + s.size ≤ 140737488355328) (hb : base ≤ w.heap.size)
    (h : ∀ v' w', RB w' base v' (t ++ s.data.toList) → w.grownBy w' v.ownBlock → wpList Tryz.prog ops Q rest (a.put o.dst v') w') : wpList Tryz.prog ops Q (o :: rest) a w := by
  refine wpList_plain hgd fun K hK => ?_
  obtain ⟨i, hi, hz, h1, h2⟩ := info8
  obtain ⟨v', w', hr, hrow', hg⟩ := RowB.room (P := Tryz.prog) hrow 63 9 o.type i Tryz.underlying63 Tryz.underlying9 hi hz h1 h2 s (by rw [byteCells_len]; exact hl) hb
  unfold Oper.wp execOp
  simp only [ho, resolve, invoke, builtin, Sem.run_bind, Sem.run_pure, Result.andThen_ok, List.map_toArray, List.map_cons, List.map_nil, hs, hx, hr]
  exact hK _ _ (h v' w' (by unfold RB; rw [show Lib.byteCells (t ++ s.data.toList) = Lib.byteCells t ++ strCells s by simp [Lib.byteCells, strCells]]; exact hrow') hg)
theorem wpB_byte (hgd : o.guard = none) {sl x : Operand} (ho : o.op = .call { callee := .builtin .append, args := #[sl, x], argTypes := #[63, 63] }) {v : Value} {t : List UInt8} {base b : Nat} (hs : a.eval sl = v) (hx : a.eval x = .slice (some ⟨b, 0, none⟩) 1 1) (c : UInt8) (hc : w.cell? ⟨b, 0, none⟩ = some (.int .u8 c.toNat))
    (hrow : RB w base v t) (hl : t.length + 1 ≤ 140737488355328) (hb : base ≤ w.heap.size)
    (h : ∀ v' w', RB w' base v' (t ++ [c]) → w.grownBy w' v.ownBlock → wpList Tryz.prog ops Q rest (a.put o.dst v') w') : wpList Tryz.prog ops Q (o :: rest) a w := by
  refine wpList_plain hgd fun K hK => ?_
  obtain ⟨i, hi, hz, h1, h2⟩ := info8
  obtain ⟨v', w', hr, hrow', hg⟩ := RowB.byte (P := Tryz.prog) hrow 63 o.type i Tryz.underlying63 hi hz h1 h2 b c.toNat hc (by rw [byteCells_len]; exact hl) hb
  unfold Oper.wp execOp
  simp only [ho, resolve, invoke, builtin, Sem.run_bind, Sem.run_pure, Result.andThen_ok, List.map_toArray, List.map_cons, List.map_nil, hs, hx, hr]
  exact hK _ _ (h v' w' (by unfold RB; rw [show Lib.byteCells (t ++ [c]) = Lib.byteCells t ++ [.int .u8 c.toNat] by simp [Lib.byteCells]]; exact hrow') hg)
theorem foldl_push (l : List UInt8) : ∀ s : ByteArray, ((l.map fun b => (b.toNat : Int)).foldl (fun r n => r.push (UInt8.ofNat n.toNat)) s) = ⟨s.data ++ l.toArray⟩ := by
  induction l with
  | nil => intro s; simp
  | cons b bs ih =>
    intro s
    simp only [List.map_cons, List.foldl_cons]
    rw [ih]
    simp [ByteArray.push]
theorem wpB_toStr (hgd : o.guard = none) {x : Operand} (ho : o.op = .convert 63 9 x) {v : Value} {t : List UInt8} {base : Nat} (hx : a.eval x = v) (hrow : RB w base v t)
    (h : wpList Tryz.prog ops Q rest (a.put o.dst (.string ⟨t.toArray⟩)) w) : wpList Tryz.prog ops Q (o :: rest) a w := by
  refine wpList_plain hgd fun K hK => ?_
  obtain ⟨g, cap, cur, fz, rfl, hbg, hg, hf, hnc, hcm, hcs, htake⟩ := hrow
  have h0 := run_convert_bytes_string (P := Tryz.prog) w 63 9 5 (some ⟨g, 0, none⟩) (Lib.byteCells t).length cap Tryz.underlying63 Tryz.underlying5 Tryz.underlying9
  have hlc := run_loadCells_list (P := Tryz.prog) w ⟨g, 0, none⟩ (Lib.byteCells t) (fun j u hj => by
    have hjl := (List.getElem?_eq_some_iff.1 hj).1
    rw [Go.Proofs.YtfmpaofbnjlniaaGreatDoorW.PrintWords.add_plain]
    have h2 : cur.toList[j]? = some u := by rw [← htake, List.getElem?_take] at hj; simpa [hjl] using hj
    simpa [World.cell?, hg] using h2)
  have h1 := run_bytesToString (P := Tryz.prog) w ⟨g, 0, none⟩ (Lib.byteCells t).length cap (t.map fun b => (b.toNat : Int)) (by rw [hlc]; simp only [Lib.byteCells, List.map_map]; rfl)
  have h2 : ((t.map fun b => (b.toNat : Int)).foldl (fun r n => r.push (UInt8.ofNat n.toNat)) ByteArray.empty) = ⟨t.toArray⟩ := by rw [foldl_push]; simp [ByteArray.empty, ByteArray.emptyWithCapacity]; rfl
  have hr := h0.trans h1
  rw [h2] at hr
  unfold Oper.wp execOp
  simp only [ho, Sem.run_bind, Sem.run_pure, hx]
  rw [hr]
  exact hK _ _ h
end
end Go.Proofs.YtfmpaofbnjlniaaGreatDoor.F
/- ref.Text, by hand: a row of bytes that is appended to in three nested loops. -/
namespace Go.Proofs.YtfmpaofbnjlniaaGreatDoor.F
open Go.RowKit Go.Proofs.YtfmpaofbnjlniaaGreatDoorW.PrintWords Go.Proofs.YtfmpaofbnjlniaaGreatDoorW.PrintLast Go.Proofs.YtfmpaofbnjlniaaGreatDoorW.PrintMore
set_option linter.unusedVariables false
set_option linter.unusedSimpArgs false
def okX (n : Int) (l : List S52) : Prop := okW n l ∧ ∀ r ∈ l, ∀ t ∈ r.f2, (t.length : Int) = r.f1
open Classical in
noncomputable def paraphrastref01_Text.f (n : Int) (l : List S52) : Option ByteArray := if okX n l then some ⟨(textL n l).toArray⟩ else none
theorem rtext_ok {n : Int} {l : List S52} {r : ByteArray} (h : paraphrastref01_Text.f n l = some r) : okX n l ∧ r = ⟨(textL n l).toArray⟩ := by
  unfold paraphrastref01_Text.f at h
  split at h
  · rename_i h1
    exact ⟨h1, (Option.some.inj h).symm⟩
  · cases h
/-- The row of bytes, old memory and the boxes of one's own. -/
structure TxI (w w' : World) (bx : List (Nat × Array Value × Nat)) (v : Value) (t : List UInt8) : Prop where
  row : RB w' w.heap.size v t
  below : Below w.heap.size w w'
  box : ∀ p ∈ bx, w'.heap[p.1]? = some (.cells p.2.1 p.2.2 (0, 0)) ∧ p.2.2 ≠ 5
theorem TxI.alloc {w w' : World} {bx : List (Nat × Array Value × Nat)} {v : Value} {t : List UInt8} (h : TxI w w' bx v t) (o : Obj) : TxI w (w'.alloc o) bx v t :=
  ⟨h.row.alloc o, h.below.alloc h.below.size o, fun p hp => ⟨(heap_alloc_old w' o (Array.getElem?_eq_some_iff.1 (h.box p hp).1).1).trans (h.box p hp).1, (h.box p hp).2⟩⟩
theorem TxI.drew {w w' : World} {bx : List (Nat × Array Value × Nat)} {v : Value} {t : List UInt8} (h : TxI w w' bx v t) : TxI w w'.drew bx v t := ⟨h.row, h.below.drew, h.box⟩
theorem TxI.grow {w w1 w2 : World} {bx : List (Nat × Array Value × Nat)} {v v' : Value} {t t' : List UInt8} (h : TxI w w1 bx v t) (hr : RB w2 w.heap.size v' t') (hg : w1.grownBy w2 v.ownBlock) : TxI w w2 bx v' t' :=
  ⟨hr, h.below.grown hg h.below.size (RowB.base_le h.row), fun p hp => ⟨(hg.block _ (Array.getElem?_eq_some_iff.1 (h.box p hp).1).1 (RowB.ne h.row (h.box p hp).1 (h.box p hp).2)).trans (h.box p hp).1, (h.box p hp).2⟩⟩
theorem TxI.fewer {w w' : World} {bx bx' : List (Nat × Array Value × Nat)} {v : Value} {t : List UInt8} (h : TxI w w' bx v t) (hb : ∀ p ∈ bx', p ∈ bx) : TxI w w' bx' v t := ⟨h.row, h.below, fun p hp => h.box p (hb p hp)⟩
theorem TxI.cell {w w' : World} {bx : List (Nat × Array Value × Nat)} {v : Value} {t : List UInt8} (h : TxI w w' bx v t) {g : Nat} {cs : Array Value} {ty : Nat} (hp : (g, cs, ty) ∈ bx) {j : Nat} {u : Value} (hj : cs[j]? = some u) : w'.cell? ⟨g, j, none⟩ = some u := by
  have := (h.box _ hp).1
  simp only at this
  simp [World.cell?, this, hj]
theorem TxI.add {w w' : World} {bx : List (Nat × Array Value × Nat)} {v : Value} {t : List UInt8} (h : TxI w w' bx v t) {g ty : Nat} {cs : Array Value} (hg : w'.heap[g]? = some (.cells cs ty (0, 0))) (ht : ty ≠ 5) : TxI w w' ((g, cs, ty) :: bx) v t :=
  ⟨h.row, h.below, fun p hp => (List.mem_cons.1 hp).elim (fun e => by subst e; exact ⟨hg, ht⟩) (h.box p)⟩
theorem TxI.text {w w' : World} {bx : List (Nat × Array Value × Nat)} {v : Value} {t t' : List UInt8} (h : TxI w w' bx v t) (e : t = t') : TxI w w' bx v t' := e ▸ h
theorem TxI.len {w w' : World} {bx : List (Nat × Array Value × Nat)} {v : Value} {t : List UInt8} (h : TxI w w' bx v t) : w.heap.size ≤ w'.heap.size := h.below.size
theorem cell_new1 (w : World) (x : Value) (t : TypeId) : (w.alloc (.cells #[x] t)).cell? ⟨w.heap.size, 0, none⟩ = some x := by simp
set_option maxHeartbeats 4000000 in
set_option maxRecDepth 100000 in
theorem paraphrastref01_Text.calls (a0_0 : Int) (A0_1 : Option Addr) (c0_1 : Nat) (l0_1 : List S52) (r : ByteArray) (w : World) (hr0_1 : Kd.C k52 w A0_1 l0_1.length l0_1) (hc0_1 : l0_1.length ≤ c0_1) (h : paraphrastref01_Text.f a0_0 l0_1 = some r) :
    Calls Tryz.prog 13 #[.agg #[.int .i64 a0_0, .slice A0_1 l0_1.length c0_1]] w fun e w' => e = .returned (.string r) ∧ Below w.heap.size w w' := by
  obtain ⟨⟨⟨⟨hn0, hn1⟩, hall, hlen⟩, hwid⟩, hr⟩ := rtext_ok h
  clear h
  have HWID := Aside0.mk hwid
  have HALL := Aside0.mk hall
  have HR := Aside0.mk hr0_1
  have HX := Aside0.mk hr
  have hm := Kd.C_max hr0_1
  have HL2 := Aside0.mk (show (digs a0_0).length + (relsT l0_1).length ≤ 140737488355328 by have := hlen; unfold textL at this; simpa using this)
  clear hlen hall hr0_1 hr hwid
  go_enter Tryz.func13, Tryz.ntmps13
  go_wp2_with (first | (go_at_call 46; refine (itoa_small _ hn0 hn1 _).mono ?_; rintro e w' ⟨rfl, rfl⟩) | (refine wpB_conv rfl rfl rfl w.heap.size ?hb1 ?hs1 ?_; (case hb1 => simp); (case hs1 => have := HL2.out; show (digs a0_0).toArray.size ≤ _; simp; omega); intro v1 w1 hrow1 hg1))
  have HI := Aside0.mk (show TxI w w1 [(w.heap.size, #[.int .i64 a0_0, .slice A0_1 l0_1.length c0_1], 24)] v1 (digs a0_0) from ⟨by simpa using hrow1, ((Below.refl _ _).alloc (Nat.le_refl _) _).grown hg1 (by simp) (fun _ h => by cases h), fun p hp => by
    obtain rfl := List.mem_singleton.1 hp
    refine ⟨(hg1.block _ (by simp) (by simp)).trans (heap_alloc_new w _), show 24 ≠ 5 by decide⟩⟩)
  clear hrow1 hg1
  go_loopw [3, 4] (fun v3 v4 wr => ∃ (k : Nat), v4 = .int .i64 k ∧ k ≤ l0_1.length ∧ Aside0 (TxI w wr [(w.heap.size, #[.int .i64 a0_0, .slice A0_1 l0_1.length c0_1], 24)] v3 (digs a0_0 ++ relsT (l0_1.take k)))) (fun _ v4 _ => l0_1.length - (intOf v4).toNat)
  case atStart => exact ⟨0, rfl, Nat.zero_le _, ⟨by simpa [relsT] using HI.out⟩⟩
  case round =>
    clear HI
    obtain ⟨k, rfl, hk, HI⟩ := hrel
    have hbx1 : wr.cell? ⟨w.heap.size, 1, none⟩ = some (.slice A0_1 l0_1.length c0_1) := HI.out.cell List.mem_cons_self rfl
    by_cases hlt : k < l0_1.length
    · obtain ⟨ad, A2, c2, hA, hcell0, hcell1, hcell2, hl2, hC2⟩ := at_T52 HR.out (k : Int) (by omega) (by omega)
      subst hA
      have hx : l0_1[k]? = some (rd_T52 l0_1 (k : Int)) := by unfold rd_T52; rw [List.getElem?_eq_getElem hlt, List.getD_eq_getElem?_getD, Int.toNat_natCast, List.getElem?_eq_getElem hlt]; rfl
      obtain ⟨⟨hf0, hf1⟩, hel⟩ := HALL.out _ (List.mem_of_getElem? hx)
      have HX1 := Aside0.mk hx
      have HEL := Aside0.mk hel
      have HWD := Aside0.mk (HWID.out _ (List.mem_of_getElem? hx))
      have HC2 := Aside0.mk hC2
      have HT := Aside0.mk (relsT_len hx)
      have hm2 := Kd.C_max hC2
      replace hcell0 := pw_cell_below HI.out.below hcell0
      replace hcell1 := pw_cell_below HI.out.below hcell1
      replace hcell2 := pw_cell_below HI.out.below hcell2
      clear hx hel hC2
      simp only [Int.toNat_natCast] at hcell0 hcell1 hcell2
      generalize rd_T52 l0_1 (k : Int) = rel at *
      obtain ⟨f0, f1, f2⟩ := rel
      simp only at hcell0 hcell1 hcell2 hl2 hf0 hf1 HEL HC2 hm2 HWD
      go_wp2
      have HI1 := Aside0.mk (HI.out.alloc (.cells #[.string f0, .int .i64 f1, .slice A2 f2.length c2] 52))
      have hc0 : (wr.alloc (.cells #[.string f0, .int .i64 f1, .slice A2 f2.length c2] 52)).cell? ⟨wr.heap.size, 0, none⟩ = some (.string f0) := by simp
      have hc1 : (wr.alloc (.cells #[.string f0, .int .i64 f1, .slice A2 f2.length c2] 52)).cell? ⟨wr.heap.size, 1, none⟩ = some (.int .i64 f1) := by simp
      have HN := Aside0.mk (show (wr.alloc (.cells #[.string f0, .int .i64 f1, .slice A2 f2.length c2] 52)).heap[wr.heap.size]? = some (.cells #[.string f0, .int .i64 f1, .slice A2 f2.length c2] 52 (0, 0)) from heap_alloc_new wr _)
      generalize wr.alloc (.cells #[.string f0, .int .i64 f1, .slice A2 f2.length c2] 52) = W at *
      clear HI hcell0 hcell1 hcell2 hbx1
      generalize wr.heap.size = nb at *
      have hd0 : ({ W with drawn := W.drawn + 1 } : World).cell? ⟨nb, 0, none⟩ = some (.string f0) := hc0
      have hd1 : ({ W with drawn := W.drawn + 1 } : World).cell? ⟨nb, 1, none⟩ = some (.int .i64 f1) := hc1
      have HZ := Aside0.mk (show (digs a0_0).length + (relsT (List.take k l0_1)).length + (2 + f0.size + 1 + (digs f1).length) + (tupsT f2).length ≤ 140737488355328 by have h1 := HL2.out; have h2 := HT.out; simp [relHd, data_length] at h2; omega)
      have hz1 : ¬ 9223372036854775807 < 2 + f0.size := by have := HZ.out; omega
      have hz2 : ¬ 9223372036854775807 < 2 + f0.size + 1 := by have := HZ.out; omega
      have hz3 : ¬ 9223372036854775807 < 2 + f0.size + 1 + (digs f1).length := by have := HZ.out; omega
      go_still_tail 9, (by kernel_rfl)
      still_call (itoa_small _ hf0 hf1 _)
      repeat still_step
      refine wpStill_nil ?_
      change wpList _ _ _ _ _ W.drew
      go_wp2_with (refine wpB_str rfl rfl rfl rfl HI1.out.drew.row ?hl1 HI1.out.drew.len ?_; (case hl1 => have := HZ.out; simp only [List.length_append, ByteArray.size_append]; show _ + (2 + f0.size + 1 + (digs f1).toArray.size) ≤ _; simp only [List.size_toArray]; omega); intro v1 w1 hrow1 hg1)
      have HI2 := Aside0.mk (((HI1.out.drew.add (g := nb) HN.out (show 52 ≠ 5 by decide)).grow hrow1 hg1).text (t' := digs a0_0 ++ relsT (l0_1.take k) ++ relHd ⟨f0, f1, f2⟩ ++ tupsT (f2.take 0)) (by simp [relHd, tupsT]))
      clear hz1 hz2 hz3 hd0 hd1 hc0 hc1 HI1 HN hrow1 hg1
      go_loopw [3, 6] (fun v3 v6 wm => ∃ j : Nat, v6 = .int .i64 j ∧ j ≤ f2.length ∧ Aside0 (TxI w wm [(nb, #[.string f0, .int .i64 f1, .slice A2 f2.length c2], 52), (w.heap.size, #[.int .i64 a0_0, .slice (some ad) l0_1.length c0_1], 24)] v3 (digs a0_0 ++ relsT (l0_1.take k) ++ relHd ⟨f0, f1, f2⟩ ++ tupsT (f2.take j)))) (fun _ v6 _ => f2.length - (intOf v6).toNat)
      case atStart => exact ⟨0, rfl, Nat.zero_le _, HI2⟩
      case round =>
        clear HI2
        obtain ⟨j, rfl, hj, HI⟩ := hrel
        have hbn1 : wr.cell? ⟨nb, 1, none⟩ = some (.int .i64 f1) := HI.out.cell List.mem_cons_self rfl
        have hbn2 : wr.cell? ⟨nb, 2, none⟩ = some (.slice A2 f2.length c2) := HI.out.cell List.mem_cons_self rfl
        by_cases hlj : j < f2.length
        · obtain ⟨ad2, A0, c0, t, hA2, htx, htcell, htl, hC4⟩ := at_rows HC2.out j hlj
          subst hA2
          have HTC := Aside0.mk htcell
          clear htcell
          have hm4 := Kd.C_max hC4
          have HT2 := Aside0.mk (tupsT_len htx)
          have HM := Aside0.mk (HEL.out t (List.mem_of_getElem? htx))
          obtain rfl : f1 = (t.length : Int) := (HWD.out t (List.mem_of_getElem? htx)).symm
          have HTX := Aside0.mk htx
          have HC4 := Aside0.mk hC4
          clear htx hC4
          have HZ2 := Aside0.mk (show (digs a0_0 ++ relsT (l0_1.take k) ++ relHd ⟨f0, (t.length : Int), f2⟩ ++ tupsT (f2.take j)).length + 1 + (tupPre t).length + (tupJ t).length ≤ 140737488355328 by have h1 := HZ.out; have h2 := HT2.out; simp [relHd, data_length]; omega)
          generalize hQ : digs a0_0 ++ relsT (l0_1.take k) ++ relHd ⟨f0, (t.length : Int), f2⟩ ++ tupsT (f2.take j) = Q at HI HZ2
          have HQE := Aside0.mk hQ
          clear hQ
          go_upto_if 46 with (first | (refine wpB_byte rfl rfl rfl rfl 32 ?hc ((HI.out.alloc (.cells #[.int .u8 32] 5)).row) ?hl1 (HI.out.alloc _).len ?_; (case hc => exact cell_new1 _ _ _); (case hl1 => have := HZ2.out; omega); intro v1 w1 hrow1 hg1; have HI3 := Aside0.mk ((HI.out.alloc (.cells #[.int .u8 32] 5)).grow hrow1 hg1); have hbm1 : w1.cell? ⟨nb, 1, none⟩ = some (.int .i64 (t.length : Int)) := HI3.out.cell List.mem_cons_self rfl; have hbm2 : w1.cell? ⟨nb, 2, none⟩ = some (.slice (some ad2) f2.length c2) := HI3.out.cell List.mem_cons_self rfl; clear hrow1 hg1))
          clear HI hbn1 hbn2
          go_cut [3] (fun v3 wc => Aside0 (TxI w wc [(nb, #[.string f0, .int .i64 (t.length : Int), .slice (some ad2) f2.length c2], 52), (w.heap.size, #[.int .i64 a0_0, .slice (some ad) l0_1.length c0_1], 24)] v3 (Q ++ [32] ++ tupPre t)))
          case first =>
            by_cases ht : t = []
            · have h1 : ((t.length : Int) == 0) = true := by subst ht; rfl
              have h2 : (t.length == 0) = true := by subst ht; rfl
              have hp : tupPre t = [40, 41] := by subst ht; rfl
              have HP := Aside0.mk hp
              clear ht hp
              go_wp2_with (refine wpB_str (s := ⟨#[40, 41]⟩) rfl rfl rfl rfl HI3.out.row ?hl1 HI3.out.len ?_; (case hl1 => have := HZ2.out; rw [HP.out] at this; simp at this ⊢; show _ + 1 + 2 ≤ _; omega); intro v1 w1 hrow1 hg1)
              go_meet
              case rel => exact ⟨(HI3.out.grow hrow1 hg1).text (by rw [HP.out])⟩
            · have h1 : ((t.length : Int) == 0) = false := by rw [beq_eq_false_iff_ne]; intro e; exact ht (List.eq_nil_of_length_eq_zero (by omega))
              have h2 : (t.length == 0) = false := by rw [beq_eq_false_iff_ne]; intro e; exact ht (List.eq_nil_of_length_eq_zero e)
              have h3 : ¬ (t = []) := ht
              have hp : tupPre t = [] := by cases t with | nil => exact absurd rfl ht | cons a b => rfl
              have HP := Aside0.mk hp
              clear hp ht
              go_wp2
              go_meet
              case rel => exact ⟨HI3.out.text (by rw [HP.out, List.append_nil])⟩
          case rest =>
            clear HI3 hbm1 hbm2
            have HI5 := hcut
            clear hcut
            have HZ3 := Aside0.mk (show (Q ++ [32] ++ tupPre t).length + (tupJ t).length ≤ 140737488355328 by have h2 := HZ2.out; simp; omega)
            have HTT := Aside0.mk (show Q ++ [32] ++ tupPre t ++ tupJ t = Q ++ [32] ++ tupT t by simp [tupT])
            generalize Q ++ [32] ++ tupPre t = R at HI5 HZ3 HTT
            go_wp2
            go_loopw [3, 7] (fun v3 v7 wi => ∃ i : Nat, v7 = .int .i64 i ∧ i ≤ t.length ∧ Aside0 (TxI w wi [(nb, #[.string f0, .int .i64 (t.length : Int), .slice (some ad2) f2.length c2], 52), (w.heap.size, #[.int .i64 a0_0, .slice (some ad) l0_1.length c0_1], 24)] v3 (R ++ tupJ (t.take i)))) (fun _ v7 _ => t.length - (intOf v7).toNat)
            case atStart => exact ⟨0, rfl, Nat.zero_le _, ⟨HI5.out.text (by simp [tupJ])⟩⟩
            case round =>
              clear HI5
              obtain ⟨i, rfl, hi, HI⟩ := hrel
              have hbi1 : wr.cell? ⟨nb, 1, none⟩ = some (.int .i64 (t.length : Int)) := HI.out.cell List.mem_cons_self rfl
              have hbi2 : wr.cell? ⟨nb, 2, none⟩ = some (.slice (some ad2) f2.length c2) := HI.out.cell List.mem_cons_self rfl
              by_cases hli : i < t.length
              · obtain ⟨ad3, hA3, hicell⟩ := Kd.at_int HC4.out (i : Int) (by omega) (by omega)
                subst hA3
                have htcell := pw_cell_below HI.out.below HTC.out
                simp only [Int.toNat_natCast] at hicell
                have HIC0 := Aside0.mk hicell
                replace hicell := pw_cell_below HI.out.below hicell
                have hix : t[i]? = some (rd t (i : Int)) := by unfold rd; rw [List.getElem?_eq_getElem hli, List.getD_eq_getElem?_getD, Int.toNat_natCast, List.getElem?_eq_getElem hli]; rfl
                obtain ⟨hx0, hx1⟩ := HM.out _ (List.mem_of_getElem? hix)
                have HT3 := Aside0.mk (tupJ_len hix)
                have HIX := Aside0.mk hix
                clear hix
                generalize rd t (i : Int) = x at *
                have HIC := HIC0
                have HZ4 := Aside0.mk (show (R ++ tupJ (t.take i)).length + (if t.take i = [] then [] else [(44 : UInt8)]).length + (digs x).length ≤ 140737488355328 by have h1 := HZ3.out; have h2 := HT3.out; rw [List.length_append]; omega)
                have HN1 := Aside0.mk (show R ++ tupJ (t.take (i + 1)) = R ++ tupJ (t.take i) ++ (if t.take i = [] then [] else [44]) ++ digs x by rw [take_snoc' HIX.out, tupJ_snoc]; simp)
                by_cases h0 : i = 0
                · have hp : (if t.take i = [] then ([] : List UInt8) else [44]) = [] := by subst h0; simp
                  rw [hp] at HZ4 HN1
                  have hg : decide (0 < (i : Int)) = false := by subst h0; rfl
                  have hg2 : decide (0 < i) = false := by subst h0; rfl
                  clear hp h0
                  go_wp2_with (first | (go_at_call 46; refine (itoa_small _ hx0 hx1 _).mono ?_; rintro e w' ⟨rfl, rfl⟩) | (refine wpB_str rfl rfl rfl rfl HI.out.row ?hl1 HI.out.len ?_; (case hl1 => have := HZ4.out; simp only [List.length_nil, Nat.add_zero] at this; show _ + (digs x).toArray.size ≤ _; simp only [List.size_toArray]; omega); intro v1 w1 hrow1 hg1))
                  go_roundw
                  case rel => exact ⟨i + 1, by go_num, by omega, ⟨(HI.out.grow hrow1 hg1).text (by rw [HN1.out]; simp)⟩⟩
                  case measure => simp [intOf]; omega
                · have hp : (if t.take i = [] then ([] : List UInt8) else [44]) = [44] := by rw [if_neg]; intro e; have := congrArg List.length e; rw [List.length_take, List.length_nil] at this; omega
                  rw [hp] at HZ4 HN1
                  have hg : decide (0 < (i : Int)) = true := decide_eq_true (by omega)
                  have hg2 : decide (0 < i) = true := decide_eq_true (by omega)
                  clear hp h0
                  generalize R ++ tupJ (t.take i) = S at HI HZ4 HN1
                  go_wp2_with (first | (go_at_call 46; refine (itoa_small _ hx0 hx1 _).mono ?_; rintro e w' ⟨rfl, rfl⟩) | (refine wpB_byte rfl rfl rfl rfl 44 ?hc ((HI.out.alloc (.cells #[.int .u8 44] 5)).row) ?hl1 (HI.out.alloc _).len ?_; (case hc => exact cell_new1 _ _ _); (case hl1 => have := HZ4.out; simp only [List.length_singleton] at this; omega); intro v1 w1 hrow1 hg1; have HI3 := Aside0.mk ((HI.out.alloc (.cells #[.int .u8 44] 5)).grow hrow1 hg1); have hbm1 : w1.cell? ⟨nb, 1, none⟩ = some (.int .i64 (t.length : Int)) := HI3.out.cell List.mem_cons_self rfl; have hbm2 : w1.cell? ⟨nb, 2, none⟩ = some (.slice (some ad2) f2.length c2) := HI3.out.cell List.mem_cons_self rfl; have htc2 := pw_cell_below HI3.out.below HTC.out; have hic2 := (HI3.out.below.cell (World.block_lt_of_cell? w _ HIC.out)).trans HIC.out; clear hrow1 hg1) | (refine wpB_str rfl rfl rfl rfl HI3.out.row ?hl2 HI3.out.len ?_; (case hl2 => have := HZ4.out; simp only [List.length_append, List.length_singleton] at this ⊢; show _ + 1 + (digs x).toArray.size ≤ _; simp only [List.size_toArray]; omega); intro v2 w2 hrow2 hg2))
                  go_roundw
                  case rel => exact ⟨i + 1, by go_num, by omega, ⟨(HI3.out.grow hrow2 hg2).text (by rw [HN1.out])⟩⟩
                  case measure => simp [intOf]; omega
              · obtain rfl : i = t.length := by omega
                rw [List.take_length] at HI
                go_wp2
                go_roundw
                case rel => exact ⟨j + 1, by go_num, by omega, ⟨HI.out.text (by rw [take_snoc' HTX.out, tupsT_snoc, ← List.append_assoc, ← List.append_assoc, HQE.out, ← HTT.out])⟩⟩
                case measure => simp [intOf]; omega
        · obtain rfl : j = f2.length := by omega
          rw [List.take_length] at HI
          go_wp2
          go_roundw
          case rel => exact ⟨k + 1, by go_num, by omega, ⟨(HI.out.fewer (fun p hp => List.mem_cons_of_mem _ hp)).text (by rw [take_snoc' HX1.out, relsT_snoc]; simp)⟩⟩
          case measure => simp [intOf]; omega
    · obtain rfl : k = l0_1.length := by omega
      rw [List.take_length] at HI
      go_wp2_with (refine wpB_toStr rfl rfl rfl HI.out.row ?_)
      go_ret
      exact ⟨by rw [HX.out]; rfl, HI.out.below⟩
end Go.Proofs.YtfmpaofbnjlniaaGreatDoor.F
namespace Go.Proofs.YtfmpaofbnjlniaaGreatDoor.F
open Go.RowKit Go.Proofs.YtfmpaofbnjlniaaGreatDoorW.PrintWords Go.Proofs.YtfmpaofbnjlniaaGreatDoorW.PrintLast Go.Proofs.YtfmpaofbnjlniaaGreatDoorW.PrintMore
attribute [local go_sem] max2_int min2_int max_two min_two max_three min_three max_four min_four
set_option linter.unusedVariables false
set_option linter.unusedSimpArgs false
/-! ### paraphrastlaw01_is: function 16 -/
def paraphrastlaw01_is.f (k : Nat) (a0_0 : Int) (l0_1 : List (S52)) (a1 : Int) (a2_0 : Int) (l2_1 : List (S52)) (a3 : Int) : Option (Bool) := if a3 = 0 then (if a1 = 0 then ((paraphrastref01_Same.f k a0_0 l0_1 a2_0 l2_1).bind fun t263 => (some t263)) else (some false)) else (if a1 = a3 then ((paraphrastref01_Same.f k a0_0 l0_1 0 ([] : List (S52))).bind fun t264 => (some t264)) else (some false))
set_option maxHeartbeats 8000000 in
set_option maxRecDepth 100000 in
theorem paraphrastlaw01_is.calls (k : Nat) (a0_0 : Int) (A0_1 : Option Addr) (c0_1 : Nat) (l0_1 : List (S52)) (a1 : Int) (a2_0 : Int) (A2_1 : Option Addr) (c2_1 : Nat) (l2_1 : List (S52)) (a3 : Int) (r : Bool) (w : World) (hr0_1 : Kd.C k52 w A0_1 l0_1.length l0_1) (hc0_1 : l0_1.length ≤ c0_1) (hr2_1 : Kd.C k52 w A2_1 l2_1.length l2_1) (hc2_1 : l2_1.length ≤ c2_1) (h : paraphrastlaw01_is.f k a0_0 l0_1 a1 a2_0 l2_1 a3 = some r) :
  Calls Tryz.prog 16 #[.agg #[.int .i64 a0_0, .slice A0_1 l0_1.length c0_1], .int .i64 a1, .agg #[.int .i64 a2_0, .slice A2_1 l2_1.length c2_1], .int .i64 a3] w fun e w' => e = .returned (.bool r) ∧ Below w.heap.size w w' := by
 have hu24 := Tryz.underlying24
 have HR0_1 := Aside0.mk hr0_1
 have HC0_1 := Aside0.mk hc0_1
 clear hr0_1 hc0_1
 have HR2_1 := Aside0.mk hr2_1
 have HC2_1 := Aside0.mk hc2_1
 clear hr2_1 hc2_1
 have HB := Aside0.mk (Below.refl w.heap.size w)
 have H : (if a3 = 0 then (if a1 = 0 then ((paraphrastref01_Same.f k a0_0 l0_1 a2_0 l2_1).bind fun t263 => (some t263)) else (some false)) else (if a1 = a3 then ((paraphrastref01_Same.f k a0_0 l0_1 0 ([] : List (S52))).bind fun t264 => (some t264)) else (some false))) = some r := h
 clear h
 by_cases c5 : a3 = 0
 ·rw [if_pos c5] at H
  have c5b0 : (a3 == 0) = true := beq_iff_eq.mpr c5
  have c5b1 : (a3 != 0) = false := bne_eq_false_iff_eq.mpr c5
  clear c5
  by_cases c6 : a1 = 0
  ·rw [if_pos c6] at H
   have c6b0 : (a1 == 0) = true := beq_iff_eq.mpr c6
   have c6b1 : (a1 != 0) = false := bne_eq_false_iff_eq.mpr c6
   clear c6
   replace H := Option.bind_eq_some_iff.mp H
   obtain ⟨t263, A70, H⟩ := H
   replace H : (some t263) = some r := H
   have A7 := Aside0.mk A70
   clear A70
   obtain rfl := Option.some.inj H
   go_enter Tryz.func16, Tryz.ntmps16
   go_wp2_with (first | ((with_reducible refine gate_dst (N := 4) rfl ?_); refine box_event ?hg (N := 4) ?hd (cs := #[.int .i64 a0_0, .slice A0_1 l0_1.length c0_1]) (t := 24) ?hr ?_; (case hd => rfl); (case hg => rfl); (case hr => first | (go_simp; done) | (go_simp; rfl)); intro gb261 hg w8 hbox hb; have BK261 := Aside0.mk (hbox); have GW261 := geB w hg; have GE261 := geB w hg; replace HB := Aside0.mk (below_step bel hb); clear hb hbox hg) | ((with_reducible refine gate_dst (N := 6) rfl ?_); refine box_event ?hg (N := 6) ?hd (cs := #[.int .i64 a2_0, .slice A2_1 l2_1.length c2_1]) (t := 24) ?hr ?_; (case hd => rfl); (case hg => rfl); (case hr => first | (go_simp; done) | (go_simp; rfl)); intro gb262 hg w9 hbox hb; have BK262 := Aside0.mk (hbox); have GW262 := geB w hg; have GE262 := geB w hg; have NB261_262 := neL BK261 hg; have NB262_261 := neG BK261 hg; replace BK261 := blB BK261 hb; replace HB := Aside0.mk (below_step bel hb); clear hb hbox hg; have hnb10 := NB261_262.out; have hnc10 := NB262_261.out; obtain ⟨hcz11_0, hcz11_1, hfz11_0, hfz11_1⟩ := bq2 BK261; obtain ⟨hcz12_0, hcz12_1, hfz12_0, hfz12_1⟩ := bq2 BK262) | (go_at_call 34; (with_reducible refine (paraphrastref01_Same.calls k a0_0 _ _ l0_1 a2_0 _ _ l2_1 t263 _ ?side1 ?side2 ?side3 ?side4 A7.out).mono ?_); (case side1 => exact cS (Kd.C_below HR0_1.out HB.out)); (case side2 => exact HC0_1.out); (case side3 => exact cS (Kd.C_below HR2_1.out HB.out)); (case side4 => exact HC2_1.out); rintro e w13 ⟨rfl, hb⟩; replace BK261 := blB BK261 hb; replace BK262 := blB BK262 hb; replace HB := Aside0.mk (below_step bel hb); (try clear hb); (try clear hb2); (try clear hk); (try clear hi)))
   go_ret
   exact ⟨eN, bel⟩
  ·rw [if_neg c6] at H
   have c6b0 : (a1 == 0) = false := beq_eq_false_iff_ne.mpr c6
   have c6b1 : (a1 != 0) = true := bne_iff_ne.mpr c6
   obtain rfl := Option.some.inj H
   go_enter Tryz.func16, Tryz.ntmps16
   go_wp2_with (first | ((with_reducible refine gate_dst (N := 4) rfl ?_); refine box_event ?hg (N := 4) ?hd (cs := #[.int .i64 a0_0, .slice A0_1 l0_1.length c0_1]) (t := 24) ?hr ?_; (case hd => rfl); (case hg => rfl); (case hr => first | (go_simp; done) | (go_simp; rfl)); intro gb261 hg w14 hbox hb; have BK261 := Aside0.mk (hbox); have GW261 := geB w hg; have GE261 := geB w hg; replace HB := Aside0.mk (below_step bel hb); clear hb hbox hg) | ((with_reducible refine gate_dst (N := 6) rfl ?_); refine box_event ?hg (N := 6) ?hd (cs := #[.int .i64 a2_0, .slice A2_1 l2_1.length c2_1]) (t := 24) ?hr ?_; (case hd => rfl); (case hg => rfl); (case hr => first | (go_simp; done) | (go_simp; rfl)); intro gb262 hg w15 hbox hb; have BK262 := Aside0.mk (hbox); have GW262 := geB w hg; have GE262 := geB w hg; have NB261_262 := neL BK261 hg; have NB262_261 := neG BK261 hg; replace BK261 := blB BK261 hb; replace HB := Aside0.mk (below_step bel hb); clear hb hbox hg))
   go_ret
   exact ⟨eN, bel⟩
 ·rw [if_neg c5] at H
  have c5b0 : (a3 == 0) = false := beq_eq_false_iff_ne.mpr c5
  have c5b1 : (a3 != 0) = true := bne_iff_ne.mpr c5
  by_cases c16 : a1 = a3
  ·rw [if_pos c16] at H
   have c16b0 : (a1 == a3) = true := beq_iff_eq.mpr c16
   have c16b1 : (a1 != a3) = false := bne_eq_false_iff_eq.mpr c16
   clear c16
   replace H := Option.bind_eq_some_iff.mp H
   obtain ⟨t264, A170, H⟩ := H
   replace H : (some t264) = some r := H
   have A17 := Aside0.mk A170
   clear A170
   obtain rfl := Option.some.inj H
   go_enter Tryz.func16, Tryz.ntmps16
   go_wp2_with (first | ((with_reducible refine gate_dst (N := 4) rfl ?_); refine box_event ?hg (N := 4) ?hd (cs := #[.int .i64 a0_0, .slice A0_1 l0_1.length c0_1]) (t := 24) ?hr ?_; (case hd => rfl); (case hg => rfl); (case hr => first | (go_simp; done) | (go_simp; rfl)); intro gb261 hg w18 hbox hb; have BK261 := Aside0.mk (hbox); have GW261 := geB w hg; have GE261 := geB w hg; replace HB := Aside0.mk (below_step bel hb); clear hb hbox hg) | ((with_reducible refine gate_dst (N := 6) rfl ?_); refine box_event ?hg (N := 6) ?hd (cs := #[.int .i64 a2_0, .slice A2_1 l2_1.length c2_1]) (t := 24) ?hr ?_; (case hd => rfl); (case hg => rfl); (case hr => first | (go_simp; done) | (go_simp; rfl)); intro gb262 hg w19 hbox hb; have BK262 := Aside0.mk (hbox); have GW262 := geB w hg; have GE262 := geB w hg; have NB261_262 := neL BK261 hg; have NB262_261 := neG BK261 hg; replace BK261 := blB BK261 hb; replace HB := Aside0.mk (below_step bel hb); clear hb hbox hg; have hnb20 := NB261_262.out; have hnc20 := NB262_261.out; obtain ⟨hcz21_0, hcz21_1, hfz21_0, hfz21_1⟩ := bq2 BK261) | (go_at_call 34; (refine (paraphrastref01_Same.calls k a0_0 _ _ l0_1 0 _ _ ([] : List (S52)) t264 _ ?side1 ?side2 ?side3 ?side4 A17.out).mono ?_); (case side1 => exact cS (Kd.C_below HR0_1.out HB.out)); (case side2 => exact HC0_1.out); (case side3 => exact Kd.C_nil _ _); (case side4 => exact Nat.le_refl _); rintro e w22 ⟨rfl, hb⟩; replace BK261 := blB BK261 hb; replace BK262 := blB BK262 hb; replace HB := Aside0.mk (below_step bel hb); (try clear hb); (try clear hb2); (try clear hk); (try clear hi)))
   go_ret
   exact ⟨eN, bel⟩
  ·rw [if_neg c16] at H
   have c16b0 : (a1 == a3) = false := beq_eq_false_iff_ne.mpr c16
   have c16b1 : (a1 != a3) = true := bne_iff_ne.mpr c16
   obtain rfl := Option.some.inj H
   go_enter Tryz.func16, Tryz.ntmps16
   go_wp2_with (first | ((with_reducible refine gate_dst (N := 4) rfl ?_); refine box_event ?hg (N := 4) ?hd (cs := #[.int .i64 a0_0, .slice A0_1 l0_1.length c0_1]) (t := 24) ?hr ?_; (case hd => rfl); (case hg => rfl); (case hr => first | (go_simp; done) | (go_simp; rfl)); intro gb261 hg w23 hbox hb; have BK261 := Aside0.mk (hbox); have GW261 := geB w hg; have GE261 := geB w hg; replace HB := Aside0.mk (below_step bel hb); clear hb hbox hg) | ((with_reducible refine gate_dst (N := 6) rfl ?_); refine box_event ?hg (N := 6) ?hd (cs := #[.int .i64 a2_0, .slice A2_1 l2_1.length c2_1]) (t := 24) ?hr ?_; (case hd => rfl); (case hg => rfl); (case hr => first | (go_simp; done) | (go_simp; rfl)); intro gb262 hg w24 hbox hb; have BK262 := Aside0.mk (hbox); have GW262 := geB w hg; have GE262 := geB w hg; have NB261_262 := neL BK261 hg; have NB262_261 := neG BK261 hg; replace BK261 := blB BK261 hb; replace HB := Aside0.mk (below_step bel hb); clear hb hbox hg))
   go_ret
   exact ⟨eN, bel⟩
end Go.Proofs.YtfmpaofbnjlniaaGreatDoor.F
namespace Go.Proofs.YtfmpaofbnjlniaaGreatDoor.F
open Go.RowKit Go.Proofs.YtfmpaofbnjlniaaGreatDoorW.PrintWords Go.Proofs.YtfmpaofbnjlniaaGreatDoorW.PrintLast Go.Proofs.YtfmpaofbnjlniaaGreatDoorW.PrintMore
attribute [local go_sem] max2_int min2_int max_two min_two max_three min_three max_four min_four
set_option linter.unusedVariables false
set_option linter.unusedSimpArgs false
/-! ### paraphrastlaw01_ShapeTexts: function 3 -/
mutual
noncomputable def paraphrastlaw01_ShapeTexts.j0 : Nat → ByteArray → Bool → Int → List (S52) → Option (Bool)
 | 0, _, _, _, _ => none
 | k + 1, x1, x21, x266000, x266001 => if x21 = true then ((paraphrastlaw01_alive.f k).bind fun t270 => (some t270)) else ((shape_Text.f k x266000 x266001).bind fun bt271 => ((paraphrastref01_Valid.f k x266000 x266001).bind fun t273 => (if t273 = true then ((paraphrastref01_Text.f x266000 x266001).bind fun t274 => (if (t274.size : Int) > 40000 then (paraphrastlaw01_ShapeTexts.j1 k x1 bt271.1 bt271.2 (⟨#[]⟩ : ByteArray) 5) else (paraphrastlaw01_ShapeTexts.j1 k x1 bt271.1 bt271.2 t274 0))) else (paraphrastlaw01_ShapeTexts.j1 k x1 bt271.1 bt271.2 (⟨#[]⟩ : ByteArray) 1))))
noncomputable def paraphrastlaw01_ShapeTexts.j1 : Nat → ByteArray → ByteArray → Int → ByteArray → Int → Option (Bool)
 | 0, _, _, _, _, _ => none
 | k + 1, x1, x5, x6, x7, x8 => if x5.toList = x7.toList then (paraphrastlaw01_ShapeTexts.j2 k x1 (x6 != x8)) else (paraphrastlaw01_ShapeTexts.j2 k x1 true)
noncomputable def paraphrastlaw01_ShapeTexts.j2 : Nat → ByteArray → Bool → Option (Bool)
 | 0, _, _ => none
 | k + 1, x1, x42 => if x42 = true then (some false) else ((shape_Parse.f k x1).bind fun bt275 => ((paraphrastref01_Parse.f k x1).bind fun bt281 => (if bt281.2.2 = true then ((paraphrastlaw01_is.f k bt275.1 bt275.2.1 bt275.2.2 bt281.1 bt281.2.1 0).bind fun t287 => (if t287 = true then ((paraphrastlaw01_alive.f k).bind fun t288 => (some t288)) else (some false))) else ((paraphrastlaw01_is.f k bt275.1 bt275.2.1 bt275.2.2 bt281.1 bt281.2.1 3).bind fun t289 => (if t289 = true then ((paraphrastlaw01_alive.f k).bind fun t290 => (some t290)) else (some false))))))
end
noncomputable def paraphrastlaw01_ShapeTexts.f (k : Nat) (a0_0 : Int) (l0_1 : List (S52)) (a1 : ByteArray) : Option (Bool) := (paraphrastlaw01_Few.f k (([(⟨a0_0, l0_1⟩ : S24)] : List (S24)))).bind fun t269 => (if t269 = true then (paraphrastlaw01_ShapeTexts.j0 k a1 (decide ((a1.size : Int) > 45000)) a0_0 l0_1) else (paraphrastlaw01_ShapeTexts.j0 k a1 true a0_0 l0_1))
set_option maxHeartbeats 8000000 in
set_option maxRecDepth 100000 in
theorem paraphrastlaw01_ShapeTexts.calls (k : Nat) (a0_0 : Int) (P0_1_ : Nat → Prop) (A0_1 : Option Addr) (c0_1 : Nat) (l0_1 : List (S52)) (a1 : ByteArray) (r : Bool) (w : World) (hG : Glob w) (hs0_1 : Kd.V k52 52 w w.heap.size (fun k_ => P0_1_ k_) (.slice A0_1 l0_1.length c0_1) l0_1) (h : paraphrastlaw01_ShapeTexts.f k a0_0 l0_1 a1 = some r) :
  Calls Tryz.prog 3 #[.agg #[.int .i64 a0_0, .slice A0_1 l0_1.length c0_1], .string a1] w fun e w' => e = .returned (.bool r) ∧ Below w.heap.size w w' := by
 have hu24 := Tryz.underlying24
 have HO0_1 := Aside0.mk (show Kd.V k52 52 w w.heap.size (fun k_ => (P0_1_ k_ ∨ w.heap.size ≤ k_)) (.slice A0_1 l0_1.length c0_1) l0_1 from Kd.V_mono hs0_1 (fun k_ hk => .inl hk))
 have HG := Aside0.mk hG
 clear hG
 have HB := Aside0.mk (Below.refl w.heap.size w)
 have H : ((paraphrastlaw01_Few.f k (([(⟨a0_0, l0_1⟩ : S24)] : List (S24)))).bind fun t269 => (if t269 = true then (paraphrastlaw01_ShapeTexts.j0 k a1 (decide ((a1.size : Int) > 45000)) a0_0 l0_1) else (paraphrastlaw01_ShapeTexts.j0 k a1 true a0_0 l0_1))) = some r := h
 clear h
 have HC3 := Aside0.mk H
 clear H
 go_enter Tryz.func3, Tryz.ntmps3
 go_upto_region 1 with (first | ((with_reducible refine gate_dst (N := 2) rfl ?_); (try (refine gate_guard (by rfl) ?_; dsimp only)); refine box_event ?hg (N := 2) ?hd (cs := #[.int .i64 a0_0, .slice A0_1 l0_1.length c0_1]) (t := 24) ?hr ?_; (case hd => rfl); (case hg => rfl); (case hr => first | (go_simp; done) | (go_simp; rfl)); intro gb265 hg w4 hbox hb; have BK265 := Aside0.mk (hbox); have GW265 := geB w hg; have GE265 := geB w hg; replace HO0_1 := vB HO0_1 hg hb; replace HB := Aside0.mk (below_step bel hb); clear hb hbox hg))
 (try simp only [Act.put, List.setIfInBounds_toArray, List.set_cons_zero, List.set_cons_succ])
 go_cut [21] (fun v21 wc => ∃ (kq : Nat) (x21_2 : Bool), v21 = .bool x21_2 ∧ Aside0 (paraphrastlaw01_ShapeTexts.j0 kq a1 x21_2 a0_0 l0_1 = some r) ∧ Aside0 (kq ≤ k) ∧ Aside0 (Kd.V k52 52 wc w.heap.size (fun k_ => (P0_1_ k_ ∨ w.heap.size ≤ k_) ∧ k_ ≠ gb265) (.slice A0_1 l0_1.length c0_1) l0_1) ∧ Aside0 (wc.heap[gb265]? = some (.cells #[.int .i64 a0_0, (.slice A0_1 l0_1.length c0_1)] 24 (0, 0))) ∧ Aside0 (Below w.heap.size w wc))
 case first =>
  have H := HC3.out
  clear HC3
  obtain ⟨y266, hy266⟩ : ∃ y_ : List (S24), y_ = (([(⟨a0_0, l0_1⟩ : S24)] : List (S24))) := ⟨_, rfl⟩
  replace H : ((paraphrastlaw01_Few.f k y266).bind fun t269 => (if t269 = true then (paraphrastlaw01_ShapeTexts.j0 k a1 (decide ((a1.size : Int) > 45000)) a0_0 l0_1) else (paraphrastlaw01_ShapeTexts.j0 k a1 true a0_0 l0_1))) = some r := by first | (rw [hy266]; with_reducible exact H) | (have H2_ := (Option.bind_some _ _).symm.trans H; rw [hy266]; with_reducible exact H2_) | (have H2_ := (Option.bind_some _ _).symm.trans H; with_reducible exact H2_) | with_reducible exact H | (rw [hy266]; exact H) | exact H
  have Ny266 := Aside0.mk hy266
  clear hy266
  replace H := Option.bind_eq_some_iff.mp H
  obtain ⟨t269, A50, H⟩ := H
  replace H : (if t269 = true then (paraphrastlaw01_ShapeTexts.j0 k a1 (decide ((a1.size : Int) > 45000)) a0_0 l0_1) else (paraphrastlaw01_ShapeTexts.j0 k a1 true a0_0 l0_1)) = some r := H
  have A5 := Aside0.mk A50
  clear A50
  by_cases c6 : t269 = true
  ·subst c6
   have H1 : (paraphrastlaw01_ShapeTexts.j0 k a1 (decide ((a1.size : Int) > 45000)) a0_0 l0_1) = some r := by rw [if_pos rfl] at H; exact H
   clear H
   have H := H1
   clear H1
   have H' := Aside0.mk H
   clear H
   obtain ⟨hcz7_0, hcz7_1, hfz7_0, hfz7_1⟩ := bq2 BK265
   go_wp2_with (first | ((with_reducible refine gate_dst (N := 14) rfl ?_); (try (refine gate_guard (by rfl) ?_; dsimp only)); refine Kd.N_lit k24 _ 24 ?hg (N' := 14) ?hd (xs := ([(⟨a0_0, l0_1⟩ : S24)] : List (S24))) (inner := [.int .i64 a0_0, .slice A0_1 l0_1.length c0_1]) (ok := (fun k_ => (P0_1_ k_ ∨ w.heap.size ≤ k_) ∧ k_ ≠ gb265)) (okp := (fun k_ => (P0_1_ k_ ∨ w.heap.size ≤ k_) ∧ k_ ≠ gb265)) ?hr ?hp (fun _ hk => hk) ((show ∀ k_, w4.heap.size ≤ k_ → (fun k_ => (P0_1_ k_ ∨ w.heap.size ≤ k_) ∧ k_ ≠ gb265) k_ from fun k_ hk => ⟨(.inr (Nat.le_trans (below_size bel) hk)), Kd.freshB (g := gb265) (o := .cells #[.int .i64 a0_0, .slice A0_1 l0_1.length c0_1] 24 (0, 0)) (bk BK265) k_ hk⟩) _ (Nat.le_refl _)) (Below.refl _ _) (Nat.le_refl _) (by simp) ?_; (case hd => rfl); (case hg => rfl); (case hr => first | (go_simp; done) | (go_simp; rfl)); (case hp => exact (Reps.c2 (show Kd.FK k24 _ _ (⟨a0_0, l0_1⟩ : S24) [.int .i64 a0_0, .slice A0_1 l0_1.length c0_1] from (k24_mkF _ _ (⟨a0_0, l0_1⟩ : S24) (Kd.V_reads' (Kd.V_mono (ok' := (fun k_ => (P0_1_ k_ ∨ w.heap.size ≤ k_) ∧ k_ ≠ gb265)) (HO0_1.out) (fun k_ hk => ⟨hk.1, hk.2⟩))).2.1 (Kd.V_F (Kd.V_mono (ok' := (fun k_ => (P0_1_ k_ ∨ w.heap.size ≤ k_) ∧ k_ ≠ gb265)) (HO0_1.out) (fun k_ hk => ⟨hk.1, hk.2⟩))))) (Reps.none _ _))); intro v267 w8 ho9 hb hg_ hnew_; clear hg_ hnew_; (first | rw [← Ny266.out] at ho9 | (simp only [Int.reduceToNat] at ho9; rw [← Ny266.out] at ho9)); have HO268 := Aside0.mk (Kd.N_lower ho9 (below_size bel)); replace HO0_1 := Aside0.mk (Kd.V_elder' (tw HO0_1.out) (Kd.N_base ho9) hb); replace BK265 := blB BK265 hb; replace HB := Aside0.mk (below_step bel hb); clear hb ho9; obtain ⟨Ao10, co10, eo10⟩ := Kd.N_slice HO268.out; subst eo10) | ((with_reducible refine gate_callee (f := 9) rfl ?_); refine gL (some 15) Tryz.func9 #[.slice Ao10 y266.length co10] ?_; (with_reducible refine (paraphrastlaw01_Few.calls k _ _ y266 true _ ?side1 ?side2 A5.out).mono ?_); (case side1 => exact cS (Kd.N_reads' HO268.out).2.2); (case side2 => exact (Kd.N_reads' HO268.out).2.1); rintro e w' ⟨rfl, ⟨nd, rfl⟩⟩; refine ⟨_, rfl, ?_⟩))
   go_meet
   case rel => exact ⟨_, (decide ((a1.size : Int) > 45000)), eS, H', ⟨kle⟩, ⟨by (with_reducible repeat (first | apply Kd.V_alloc | apply Kd.V_drewN | apply Kd.V_drew)); exact Kd.V_mono HO0_1.out (fun _ hk => ⟨hk.1.1, hk.1.2⟩)⟩, ⟨bk BK265⟩, ⟨bel⟩⟩
  ·replace c6 := Bool.eq_false_iff.mpr c6
   subst c6
   have H1 : (paraphrastlaw01_ShapeTexts.j0 k a1 true a0_0 l0_1) = some r := by rw [if_neg (show ¬ (false = true) by decide)] at H; exact H
   clear H
   have H := H1
   clear H1
   have H' := Aside0.mk H
   clear H
   obtain ⟨hcz11_0, hcz11_1, hfz11_0, hfz11_1⟩ := bq2 BK265
   go_wp2_with (first | ((with_reducible refine gate_dst (N := 14) rfl ?_); (try (refine gate_guard (by rfl) ?_; dsimp only)); refine Kd.N_lit k24 _ 24 ?hg (N' := 14) ?hd (xs := ([(⟨a0_0, l0_1⟩ : S24)] : List (S24))) (inner := [.int .i64 a0_0, .slice A0_1 l0_1.length c0_1]) (ok := (fun k_ => (P0_1_ k_ ∨ w.heap.size ≤ k_) ∧ k_ ≠ gb265)) (okp := (fun k_ => (P0_1_ k_ ∨ w.heap.size ≤ k_) ∧ k_ ≠ gb265)) ?hr ?hp (fun _ hk => hk) ((show ∀ k_, w4.heap.size ≤ k_ → (fun k_ => (P0_1_ k_ ∨ w.heap.size ≤ k_) ∧ k_ ≠ gb265) k_ from fun k_ hk => ⟨(.inr (Nat.le_trans (below_size bel) hk)), Kd.freshB (g := gb265) (o := .cells #[.int .i64 a0_0, .slice A0_1 l0_1.length c0_1] 24 (0, 0)) (bk BK265) k_ hk⟩) _ (Nat.le_refl _)) (Below.refl _ _) (Nat.le_refl _) (by simp) ?_; (case hd => rfl); (case hg => rfl); (case hr => first | (go_simp; done) | (go_simp; rfl)); (case hp => exact (Reps.c2 (show Kd.FK k24 _ _ (⟨a0_0, l0_1⟩ : S24) [.int .i64 a0_0, .slice A0_1 l0_1.length c0_1] from (k24_mkF _ _ (⟨a0_0, l0_1⟩ : S24) (Kd.V_reads' (Kd.V_mono (ok' := (fun k_ => (P0_1_ k_ ∨ w.heap.size ≤ k_) ∧ k_ ≠ gb265)) (HO0_1.out) (fun k_ hk => ⟨hk.1, hk.2⟩))).2.1 (Kd.V_F (Kd.V_mono (ok' := (fun k_ => (P0_1_ k_ ∨ w.heap.size ≤ k_) ∧ k_ ≠ gb265)) (HO0_1.out) (fun k_ hk => ⟨hk.1, hk.2⟩))))) (Reps.none _ _))); intro v267 w12 ho13 hb hg_ hnew_; clear hg_ hnew_; (first | rw [← Ny266.out] at ho13 | (simp only [Int.reduceToNat] at ho13; rw [← Ny266.out] at ho13)); have HO268 := Aside0.mk (Kd.N_lower ho13 (below_size bel)); replace HO0_1 := Aside0.mk (Kd.V_elder' (tw HO0_1.out) (Kd.N_base ho13) hb); replace BK265 := blB BK265 hb; replace HB := Aside0.mk (below_step bel hb); clear hb ho13; obtain ⟨Ao14, co14, eo14⟩ := Kd.N_slice HO268.out; subst eo14) | ((with_reducible refine gate_callee (f := 9) rfl ?_); refine gL (some 15) Tryz.func9 #[.slice Ao14 y266.length co14] ?_; (with_reducible refine (paraphrastlaw01_Few.calls k _ _ y266 false _ ?side1 ?side2 A5.out).mono ?_); (case side1 => exact cS (Kd.N_reads' HO268.out).2.2); (case side2 => exact (Kd.N_reads' HO268.out).2.1); rintro e w' ⟨rfl, ⟨nd, rfl⟩⟩; refine ⟨_, rfl, ?_⟩))
   go_meet
   case rel => exact ⟨_, (true), eS, H', ⟨kle⟩, ⟨by (with_reducible repeat (first | apply Kd.V_alloc | apply Kd.V_drewN | apply Kd.V_drew)); exact Kd.V_mono HO0_1.out (fun _ hk => ⟨hk.1.1, hk.1.2⟩)⟩, ⟨bk BK265⟩, ⟨bel⟩⟩
 case rest =>
  clear HC3
  obtain ⟨kq, x21_2, rfl, HA, HJ2, HO_266001, BK265, HB⟩ := hcut
  cases kq with
  | zero => exact absurd HA.out (by simp [paraphrastlaw01_ShapeTexts.j0])
  | succ kj2 =>
   have H := HA.out
   clear HA
   simp only [paraphrastlaw01_ShapeTexts.j0] at H
   by_cases c15 : x21_2 = true
   ·subst c15
    have H1 : ((paraphrastlaw01_alive.f kj2).bind fun t270 => (some t270)) = some r := by rw [if_pos rfl] at H; exact H
    clear H
    have H := H1
    clear H1
    replace H := Option.bind_eq_some_iff.mp H
    obtain ⟨t270, A160, H⟩ := H
    replace H : (some t270) = some r := H
    have A16 := Aside0.mk A160
    clear A160
    obtain rfl := Option.some.inj H
    go_wp2_with (first | ((with_reducible refine gate_callee (f := 10) rfl ?_); refine gL (some 22) Tryz.func10 #[] ?_; (with_reducible refine (paraphrastlaw01_alive.calls kj2  t270 _ ?side1 A16.out).mono ?_); (case side1 => first | exact HG.out | exact Glob.below HG.out bel); rintro e w17 ⟨rfl, hb⟩; refine ⟨_, rfl, ?_⟩; replace HO_266001 := vD HO_266001 hb; replace BK265 := blB BK265 hb; replace HB := Aside0.mk (below_step bel hb); (try clear hb); (try clear hb2); (try clear hk); (try clear hi)))
    go_ret
    exact ⟨eN, bel⟩
   ·replace c15 := Bool.eq_false_iff.mpr c15
    subst c15
    have H1 : ((shape_Text.f kj2 a0_0 l0_1).bind fun bt271 => ((paraphrastref01_Valid.f kj2 a0_0 l0_1).bind fun t273 => (if t273 = true then ((paraphrastref01_Text.f a0_0 l0_1).bind fun t274 => (if (t274.size : Int) > 40000 then (paraphrastlaw01_ShapeTexts.j1 kj2 a1 bt271.1 bt271.2 (⟨#[]⟩ : ByteArray) 5) else (paraphrastlaw01_ShapeTexts.j1 kj2 a1 bt271.1 bt271.2 t274 0))) else (paraphrastlaw01_ShapeTexts.j1 kj2 a1 bt271.1 bt271.2 (⟨#[]⟩ : ByteArray) 1)))) = some r := by rw [if_neg (show ¬ (false = true) by decide)] at H; exact H
    clear H
    have H := H1
    clear H1
    replace H := Option.bind_eq_some_iff.mp H
    obtain ⟨⟨t271, t272⟩, A180, H⟩ := H
    replace H : ((paraphrastref01_Valid.f kj2 a0_0 l0_1).bind fun t273 => (if t273 = true then ((paraphrastref01_Text.f a0_0 l0_1).bind fun t274 => (if (t274.size : Int) > 40000 then (paraphrastlaw01_ShapeTexts.j1 kj2 a1 t271 t272 (⟨#[]⟩ : ByteArray) 5) else (paraphrastlaw01_ShapeTexts.j1 kj2 a1 t271 t272 t274 0))) else (paraphrastlaw01_ShapeTexts.j1 kj2 a1 t271 t272 (⟨#[]⟩ : ByteArray) 1))) = some r := H
    have A18 := Aside0.mk A180
    clear A180
    replace H := Option.bind_eq_some_iff.mp H
    obtain ⟨t273, A190, H⟩ := H
    replace H : (if t273 = true then ((paraphrastref01_Text.f a0_0 l0_1).bind fun t274 => (if (t274.size : Int) > 40000 then (paraphrastlaw01_ShapeTexts.j1 kj2 a1 t271 t272 (⟨#[]⟩ : ByteArray) 5) else (paraphrastlaw01_ShapeTexts.j1 kj2 a1 t271 t272 t274 0))) else (paraphrastlaw01_ShapeTexts.j1 kj2 a1 t271 t272 (⟨#[]⟩ : ByteArray) 1)) = some r := H
    have A19 := Aside0.mk A190
    clear A190
    have HC20 := Aside0.mk H
    clear H
    obtain ⟨hcz21_0, hcz21_1, hfz21_0, hfz21_1⟩ := bq2 BK265
    go_upto_if 29 with (first | ((with_reducible refine gate_callee (f := 11) rfl ?_); refine gL (some 25) Tryz.func11 #[.agg #[.int .i64 a0_0, .slice A0_1 l0_1.length c0_1]] ?_; (with_reducible refine (shape_Text.calls kj2 a0_0 _ _ l0_1 t271 t272 _ ?side1 ?side2 A18.out).mono ?_); (case side1 => exact cS (Kd.V_reads' HO_266001.out).2.2); (case side2 => exact (Kd.V_reads' HO_266001.out).2.1); rintro e w22 ⟨rfl, hb⟩; refine ⟨_, rfl, ?_⟩; replace HO_266001 := vD HO_266001 hb; replace BK265 := blB BK265 hb; replace HB := Aside0.mk (below_step bel hb); (try clear hb); (try clear hb2); (try clear hk); (try clear hi); obtain ⟨hcz23_0, hcz23_1, hfz23_0, hfz23_1⟩ := bq2 BK265) | ((with_reducible refine gate_callee (f := 12) rfl ?_); refine gL (some 29) Tryz.func12 #[.agg #[.int .i64 a0_0, .slice A0_1 l0_1.length c0_1]] ?_; (with_reducible refine (paraphrastref01_Valid.calls kj2 a0_0 _ _ l0_1 t273 _ ?side1 ?side2 A19.out).mono ?_); (case side1 => exact cS (Kd.V_reads' HO_266001.out).2.2); (case side2 => exact (Kd.V_reads' HO_266001.out).2.1); rintro e w24 ⟨rfl, hb⟩; refine ⟨_, rfl, ?_⟩; replace HO_266001 := vD HO_266001 hb; replace BK265 := blB BK265 hb; replace HB := Aside0.mk (below_step bel hb); (try clear hb); (try clear hb2); (try clear hk); (try clear hi)))
    (try simp only [Act.put, List.setIfInBounds_toArray, List.set_cons_zero, List.set_cons_succ])
    go_cut [7, 8] (fun v7 v8 wc => ∃ (kq : Nat) (x7_19 : ByteArray) (x8_19 : Int), v7 = .string x7_19 ∧ v8 = .int .i64 x8_19 ∧ Aside0 (paraphrastlaw01_ShapeTexts.j1 kq a1 t271 t272 x7_19 x8_19 = some r) ∧ Aside0 (kq ≤ kj2) ∧ Aside0 (Kd.V k52 52 wc w.heap.size (fun k_ => (P0_1_ k_ ∨ w.heap.size ≤ k_) ∧ k_ ≠ gb265) (.slice A0_1 l0_1.length c0_1) l0_1) ∧ Aside0 (wc.heap[gb265]? = some (.cells #[.int .i64 a0_0, (.slice A0_1 l0_1.length c0_1)] 24 (0, 0))) ∧ Aside0 (Below w.heap.size w wc))
    case first =>
     have H := HC20.out
     clear HC20
     by_cases c25 : t273 = true
     ·subst c25
      have H1 : ((paraphrastref01_Text.f a0_0 l0_1).bind fun t274 => (if (t274.size : Int) > 40000 then (paraphrastlaw01_ShapeTexts.j1 kj2 a1 t271 t272 (⟨#[]⟩ : ByteArray) 5) else (paraphrastlaw01_ShapeTexts.j1 kj2 a1 t271 t272 t274 0))) = some r := by rw [if_pos rfl] at H; exact H
      clear H
      have H := H1
      clear H1
      replace H := Option.bind_eq_some_iff.mp H
      obtain ⟨t274, A260, H⟩ := H
      replace H : (if (t274.size : Int) > 40000 then (paraphrastlaw01_ShapeTexts.j1 kj2 a1 t271 t272 (⟨#[]⟩ : ByteArray) 5) else (paraphrastlaw01_ShapeTexts.j1 kj2 a1 t271 t272 t274 0)) = some r := H
      have A26 := Aside0.mk A260
      clear A260
      by_cases c27 : (t274.size : Int) > 40000
      ·rw [if_pos c27] at H
       have c27b0 : decide (40000 < (t274.size : Int)) = true := decide_eq_true c27
       have c27b1 : decide (40000 < t274.size) = true := decide_eq_true (by omega)
       clear c27
       (first | rw [c27b0] | (simp only [i64_w, i32_w]; rw [c27b0]) | skip)
       have H' := Aside0.mk H
       clear H
       obtain ⟨hcz28_0, hcz28_1, hfz28_0, hfz28_1⟩ := bq2 BK265
       go_wp2_with (first | ((with_reducible refine gate_callee (f := 13) rfl ?_); refine gL (some 31) Tryz.func13 #[.agg #[.int .i64 a0_0, .slice A0_1 l0_1.length c0_1]] ?_; (with_reducible refine (paraphrastref01_Text.calls a0_0 _ _ l0_1 t274 _ ?side1 ?side2 A26.out).mono ?_); (case side1 => exact cS (Kd.V_reads' HO_266001.out).2.2); (case side2 => exact (Kd.V_reads' HO_266001.out).2.1); rintro e w29 ⟨rfl, hb⟩; refine ⟨_, rfl, ?_⟩; replace HO_266001 := vD HO_266001 hb; replace BK265 := blB BK265 hb; replace HB := Aside0.mk (below_step bel hb); (try clear hb); (try clear hb2); (try clear hk); (try clear hi)))
       go_meet
       case rel => exact ⟨_, ((⟨#[]⟩ : ByteArray)), (5), eS, eS, H', ⟨by have := HJ2.out; first | omega | exact Nat.le_refl _⟩, ⟨by (with_reducible repeat (first | apply Kd.V_alloc | apply Kd.V_drewN | apply Kd.V_drew)); exact HO_266001.out⟩, ⟨bk BK265⟩, ⟨bel⟩⟩
      ·rw [if_neg c27] at H
       have c27b0 : decide (40000 < (t274.size : Int)) = false := decide_eq_false c27
       have c27b1 : decide (40000 < t274.size) = false := decide_eq_false (by omega)
       clear c27
       (first | rw [c27b0] | (simp only [i64_w, i32_w]; rw [c27b0]) | skip)
       have H' := Aside0.mk H
       clear H
       obtain ⟨hcz30_0, hcz30_1, hfz30_0, hfz30_1⟩ := bq2 BK265
       go_wp2_with (first | ((with_reducible refine gate_callee (f := 13) rfl ?_); refine gL (some 31) Tryz.func13 #[.agg #[.int .i64 a0_0, .slice A0_1 l0_1.length c0_1]] ?_; (with_reducible refine (paraphrastref01_Text.calls a0_0 _ _ l0_1 t274 _ ?side1 ?side2 A26.out).mono ?_); (case side1 => exact cS (Kd.V_reads' HO_266001.out).2.2); (case side2 => exact (Kd.V_reads' HO_266001.out).2.1); rintro e w31 ⟨rfl, hb⟩; refine ⟨_, rfl, ?_⟩; replace HO_266001 := vD HO_266001 hb; replace BK265 := blB BK265 hb; replace HB := Aside0.mk (below_step bel hb); (try clear hb); (try clear hb2); (try clear hk); (try clear hi)))
       go_meet
       case rel => exact ⟨_, (t274), (0), eS, eS, H', ⟨by have := HJ2.out; first | omega | exact Nat.le_refl _⟩, ⟨by (with_reducible repeat (first | apply Kd.V_alloc | apply Kd.V_drewN | apply Kd.V_drew)); exact HO_266001.out⟩, ⟨bk BK265⟩, ⟨bel⟩⟩
     ·replace c25 := Bool.eq_false_iff.mpr c25
      subst c25
      have H1 : (paraphrastlaw01_ShapeTexts.j1 kj2 a1 t271 t272 (⟨#[]⟩ : ByteArray) 1) = some r := by rw [if_neg (show ¬ (false = true) by decide)] at H; exact H
      clear H
      have H := H1
      clear H1
      have H' := Aside0.mk H
      clear H
      go_wp2
      go_meet
      case rel => exact ⟨_, ((⟨#[]⟩ : ByteArray)), (1), eS, eS, H', ⟨by have := HJ2.out; first | omega | exact Nat.le_refl _⟩, ⟨by (with_reducible repeat (first | apply Kd.V_alloc | apply Kd.V_drewN | apply Kd.V_drew)); exact HO_266001.out⟩, ⟨bk BK265⟩, ⟨bel⟩⟩
    case rest =>
     clear HC20
     (try clear c15); (try clear hcz21_0); (try clear hcz21_1); (try clear hcz23_0); (try clear hcz23_1); (try clear hfz21_0); (try clear hfz21_1); (try clear hfz23_0); (try clear hfz23_1)
     obtain ⟨kq, x7_19, x8_19, rfl, rfl, HA, HJ19, HO_266001, BK265, HB⟩ := hcut
     cases kq with
     | zero => exact absurd HA.out (by simp [paraphrastlaw01_ShapeTexts.j1])
     | succ kj19 =>
      have H := HA.out
      clear HA
      simp only [paraphrastlaw01_ShapeTexts.j1] at H
      have HC32 := Aside0.mk H
      clear H
      go_upto_region 10 with (fail)
      go_cut [42] (fun v42 wc => ∃ (kq : Nat) (x42_31 : Bool), v42 = .bool x42_31 ∧ Aside0 (paraphrastlaw01_ShapeTexts.j2 kq a1 x42_31 = some r) ∧ Aside0 (kq ≤ kj19) ∧ Aside0 (Kd.V k52 52 wc w.heap.size (fun k_ => (P0_1_ k_ ∨ w.heap.size ≤ k_) ∧ k_ ≠ gb265) (.slice A0_1 l0_1.length c0_1) l0_1) ∧ Aside0 (wc.heap[gb265]? = some (.cells #[.int .i64 a0_0, (.slice A0_1 l0_1.length c0_1)] 24 (0, 0))) ∧ Aside0 (Below w.heap.size w wc))
      case first =>
       have H := HC32.out
       clear HC32
       by_cases c33 : t271.toList = x7_19.toList
       ·rw [if_pos c33] at H
        have c33b0 : (t271.toList == x7_19.toList) = true := beq_iff_eq.mpr c33
        have c33b1 : (t271.toList != x7_19.toList) = false := bne_eq_false_iff_eq.mpr c33
        clear c33
        (first | rw [c33b0] | (simp only [i64_w, i32_w]; rw [c33b0]) | skip)
        have H' := Aside0.mk H
        clear H
        go_wp2
        go_meet
        case rel => exact ⟨_, ((t272 != x8_19)), eS, H', ⟨by have := HJ2.out; have := HJ19.out; first | omega | exact Nat.le_refl _⟩, ⟨by (with_reducible repeat (first | apply Kd.V_alloc | apply Kd.V_drewN | apply Kd.V_drew)); exact HO_266001.out⟩, ⟨bk BK265⟩, ⟨bel⟩⟩
       ·rw [if_neg c33] at H
        have c33b0 : (t271.toList == x7_19.toList) = false := beq_eq_false_iff_ne.mpr c33
        have c33b1 : (t271.toList != x7_19.toList) = true := bne_iff_ne.mpr c33
        (first | rw [c33b0] | (simp only [i64_w, i32_w]; rw [c33b0]) | skip)
        have H' := Aside0.mk H
        clear H
        go_wp2
        go_meet
        case rel => exact ⟨_, (true), eS, H', ⟨by have := HJ2.out; have := HJ19.out; first | omega | exact Nat.le_refl _⟩, ⟨by (with_reducible repeat (first | apply Kd.V_alloc | apply Kd.V_drewN | apply Kd.V_drew)); exact HO_266001.out⟩, ⟨bk BK265⟩, ⟨bel⟩⟩
      case rest =>
       clear HC32
       (try clear c15); (try clear hcz21_0); (try clear hcz21_1); (try clear hcz23_0); (try clear hcz23_1); (try clear hfz21_0); (try clear hfz21_1); (try clear hfz23_0); (try clear hfz23_1)
       obtain ⟨kq, x42_31, rfl, HA, HJ31, HO_266001, BK265, HB⟩ := hcut
       cases kq with
       | zero => exact absurd HA.out (by simp [paraphrastlaw01_ShapeTexts.j2])
       | succ kj31 =>
        have H := HA.out
        clear HA
        simp only [paraphrastlaw01_ShapeTexts.j2] at H
        by_cases c34 : x42_31 = true
        ·subst c34
         have H1 : (some false) = some r := by rw [if_pos rfl] at H; exact H
         clear H
         have H := H1
         clear H1
         obtain rfl := Option.some.inj H
         go_wp2
         go_ret
         exact ⟨eN, bel⟩
        ·replace c34 := Bool.eq_false_iff.mpr c34
         subst c34
         have H1 : ((shape_Parse.f kj31 a1).bind fun bt275 => ((paraphrastref01_Parse.f kj31 a1).bind fun bt281 => (if bt281.2.2 = true then ((paraphrastlaw01_is.f kj31 bt275.1 bt275.2.1 bt275.2.2 bt281.1 bt281.2.1 0).bind fun t287 => (if t287 = true then ((paraphrastlaw01_alive.f kj31).bind fun t288 => (some t288)) else (some false))) else ((paraphrastlaw01_is.f kj31 bt275.1 bt275.2.1 bt275.2.2 bt281.1 bt281.2.1 3).bind fun t289 => (if t289 = true then ((paraphrastlaw01_alive.f kj31).bind fun t290 => (some t290)) else (some false)))))) = some r := by rw [if_neg (show ¬ (false = true) by decide)] at H; exact H
         clear H
         have H := H1
         clear H1
         replace H := Option.bind_eq_some_iff.mp H
         obtain ⟨⟨t275, t276, t279⟩, A350, H⟩ := H
         replace H : ((paraphrastref01_Parse.f kj31 a1).bind fun bt281 => (if bt281.2.2 = true then ((paraphrastlaw01_is.f kj31 t275 t276 t279 bt281.1 bt281.2.1 0).bind fun t287 => (if t287 = true then ((paraphrastlaw01_alive.f kj31).bind fun t288 => (some t288)) else (some false))) else ((paraphrastlaw01_is.f kj31 t275 t276 t279 bt281.1 bt281.2.1 3).bind fun t289 => (if t289 = true then ((paraphrastlaw01_alive.f kj31).bind fun t290 => (some t290)) else (some false))))) = some r := H
         have A35 := Aside0.mk A350
         clear A350
         replace H := Option.bind_eq_some_iff.mp H
         obtain ⟨⟨t281, t282, t285⟩, A360, H⟩ := H
         replace H : (if t285 = true then ((paraphrastlaw01_is.f kj31 t275 t276 t279 t281 t282 0).bind fun t287 => (if t287 = true then ((paraphrastlaw01_alive.f kj31).bind fun t288 => (some t288)) else (some false))) else ((paraphrastlaw01_is.f kj31 t275 t276 t279 t281 t282 3).bind fun t289 => (if t289 = true then ((paraphrastlaw01_alive.f kj31).bind fun t290 => (some t290)) else (some false)))) = some r := H
         have A36 := Aside0.mk A360
         clear A360
         by_cases c37 : t285 = true
         ·subst c37
          have H1 : ((paraphrastlaw01_is.f kj31 t275 t276 t279 t281 t282 0).bind fun t287 => (if t287 = true then ((paraphrastlaw01_alive.f kj31).bind fun t288 => (some t288)) else (some false))) = some r := by rw [if_pos rfl] at H; exact H
          clear H
          have H := H1
          clear H1
          replace H := Option.bind_eq_some_iff.mp H
          obtain ⟨t287, A380, H⟩ := H
          replace H : (if t287 = true then ((paraphrastlaw01_alive.f kj31).bind fun t288 => (some t288)) else (some false)) = some r := H
          have A38 := Aside0.mk A380
          clear A380
          by_cases c39 : t287 = true
          ·subst c39
           have H1 : ((paraphrastlaw01_alive.f kj31).bind fun t288 => (some t288)) = some r := by rw [if_pos rfl] at H; exact H
           clear H
           have H := H1
           clear H1
           replace H := Option.bind_eq_some_iff.mp H
           obtain ⟨t288, A400, H⟩ := H
           replace H : (some t288) = some r := H
           have A40 := Aside0.mk A400
           clear A400
           obtain rfl := Option.some.inj H
           go_wp2_with (first | ((with_reducible refine gate_callee (f := 14) rfl ?_); refine gL (some 45) Tryz.func14 #[.string a1] ?_; (with_reducible refine (shape_Parse.calls kj31 a1 t275 t276 t279 _ ?side1 A35.out).mono ?_); (case side1 => first | exact HG.out | exact Glob.below HG.out bel); rintro e w41 ⟨v277, rfl, ho0, hb⟩; refine ⟨_, rfl, ?_⟩; have HO278 := Aside0.mk (Kd.N_lower (Kd.N_mono (ok' := fun k_ => (P0_1_ k_ ∨ w.heap.size ≤ k_) ∧ k_ ≠ gb265) (Kd.R_N (Kd.R_bound ho0)) (fun k_ hk_ => ⟨(.inr (Nat.le_trans (below_size bel) hk_.2.1)), (Kd.freshB (g := gb265) (o := .cells #[.int .i64 a0_0, .slice A0_1 l0_1.length c0_1] 24 (0, 0)) (bk BK265) k_ hk_.2.1)⟩)) (below_size bel)); replace HO_266001 := vE HO_266001 (by first | exact Kd.N_base ho0 | exact Kd.R_base ho0) hb; replace BK265 := blB BK265 hb; replace HB := Aside0.mk (below_step bel hb); (try clear hb); (try clear hb2); (try clear hk); (try clear hi); (try clear ho0)) | ((with_reducible refine gate_dst (N := 9) rfl ?_); (try (refine gate_guard (by rfl) ?_; dsimp only)); refine box_event ?hg (N := 9) ?hd (cs := #[.int .i64 0, .slice none 0 0]) (t := 24) ?hr ?_; (case hd => rfl); (case hg => rfl); (case hr => first | (go_simp; done) | (go_simp; rfl)); intro gb280 hg w42 hbox hb; have BK280 := Aside0.mk (hbox); have GW280 := geB w hg; have GE280 := geB w hg; have NB265_280 := neL BK265 hg; have NB280_265 := neG BK265 hg; replace HO_266001 := vB HO_266001 hg hb; replace HO278 := nB HO278 hg hb; replace BK265 := blB BK265 hb; replace HB := Aside0.mk (below_step bel hb); clear hb hbox hg; have hnb43 := NB280_265.out; have hnc43 := NB265_280.out; obtain ⟨hcz44_0, hcz44_1, hfz44_0, hfz44_1⟩ := bq2 BK280; obtain ⟨Ao45, co45, eo45⟩ := Kd.N_slice HO278.out; subst eo45) | ((with_reducible refine gate_callee (f := 15) rfl ?_); refine gL (some 50) Tryz.func15 #[.string a1] ?_; (with_reducible refine (paraphrastref01_Parse.calls kj31 a1 t281 t282 true _ A36.out).mono ?_); rintro e w46 ⟨v283, rfl, ho0, hb⟩; refine ⟨_, rfl, ?_⟩; have HO284 := Aside0.mk (Kd.N_lower (Kd.N_mono (ok' := fun k_ => (P0_1_ k_ ∨ w.heap.size ≤ k_) ∧ some k_ ≠ (.slice Ao45 t276.length co45 : Value).ownBlock ∧ k_ ≠ gb265 ∧ k_ ≠ gb280) (Kd.R_N (Kd.R_bound ho0)) (fun k_ hk_ => ⟨(.inr (Nat.le_trans (below_size bel) hk_.2.1)), (Kd.fresh' (Kd.N_lt (by (with_reducible repeat (first | apply Kd.N_alloc | apply Kd.N_drewN | apply Kd.N_drew)); exact (Kd.N_mono (Kd.N_far (p := ⟨gb280, 1, none⟩) (Kd.N_far (p := ⟨gb280, 0, none⟩) (Kd.N_mono HO278.out (fun k_ hk => (⟨hk, hk.2⟩ : _ ∧ k_ ≠ gb280))) (fun _ hk => hk.2) (.int .i64 t275)) (fun _ hk => hk.2) (.slice Ao45 t276.length co45)) (fun _ h_ => h_.1)))) k_ hk_.2.1), (Kd.freshB (g := gb265) (o := .cells #[.int .i64 a0_0, .slice A0_1 l0_1.length c0_1] 24 (0, 0)) (by (with_reducible repeat (first | refine blk_drewN ?_ _ | refine blk_drew ?_ | refine blk_alloc ?_ _)); refine blk_far ?_ NB265_280.out _; (with_reducible repeat (first | refine blk_drewN ?_ _ | refine blk_drew ?_ | refine blk_alloc ?_ _)); refine blk_far ?_ NB265_280.out _; (with_reducible repeat (first | refine blk_drewN ?_ _ | refine blk_drew ?_ | refine blk_alloc ?_ _)); exact BK265.out) k_ hk_.2.1), (Kd.freshB (g := gb280) (o := .cells #[.int .i64 t275, .slice Ao45 t276.length co45] 24 (0, 0)) (by (with_reducible repeat (first | refine blk_drewN ?_ _ | refine blk_drew ?_ | refine blk_alloc ?_ _)); refine blk_put (cs := #[.int .i64 t275, .slice none 0 0]) ?_ 1 _ rfl; (with_reducible repeat (first | refine blk_drewN ?_ _ | refine blk_drew ?_ | refine blk_alloc ?_ _)); refine blk_put (cs := #[.int .i64 0, .slice none 0 0]) ?_ 0 _ rfl; (with_reducible repeat (first | refine blk_drewN ?_ _ | refine blk_drew ?_ | refine blk_alloc ?_ _)); exact BK280.out) k_ hk_.2.1)⟩)) (below_size bel)); replace HO_266001 := Aside0.mk (Kd.V_elder' (by (with_reducible repeat (first | apply Kd.V_alloc | apply Kd.V_drewN | apply Kd.V_drew)); exact (Kd.V_mono (Kd.V_far (p := ⟨gb280, 1, none⟩) (Kd.V_far (p := ⟨gb280, 0, none⟩) (Kd.V_mono HO_266001.out (fun k_ hk => (⟨hk, hk.2⟩ : _ ∧ k_ ≠ gb280))) (fun _ hk => hk.2) (.int .i64 t275)) (fun _ hk => hk.2) (.slice Ao45 t276.length co45)) (fun _ h_ => h_.1))) (by first | exact Kd.N_base ho0 | exact Kd.R_base ho0) hb); replace HO278 := Aside0.mk (Kd.N_elder' (by (with_reducible repeat (first | apply Kd.N_alloc | apply Kd.N_drewN | apply Kd.N_drew)); exact (Kd.N_mono (Kd.N_far (p := ⟨gb280, 1, none⟩) (Kd.N_far (p := ⟨gb280, 0, none⟩) (Kd.N_mono HO278.out (fun k_ hk => (⟨hk, hk.2⟩ : _ ∧ k_ ≠ gb280))) (fun _ hk => hk.2) (.int .i64 t275)) (fun _ hk => hk.2) (.slice Ao45 t276.length co45)) (fun _ h_ => h_.1))) (by first | exact Kd.N_base ho0 | exact Kd.R_base ho0) hb); replace BK265 := Aside0.mk (blk_below (g := gb265) (o := .cells #[.int .i64 a0_0, .slice A0_1 l0_1.length c0_1] 24 (0, 0)) (by (with_reducible repeat (first | refine blk_drewN ?_ _ | refine blk_drew ?_ | refine blk_alloc ?_ _)); refine blk_far ?_ NB265_280.out _; (with_reducible repeat (first | refine blk_drewN ?_ _ | refine blk_drew ?_ | refine blk_alloc ?_ _)); refine blk_far ?_ NB265_280.out _; (with_reducible repeat (first | refine blk_drewN ?_ _ | refine blk_drew ?_ | refine blk_alloc ?_ _)); exact BK265.out) hb); replace BK280 := Aside0.mk (blk_below (g := gb280) (o := .cells #[.int .i64 t275, .slice Ao45 t276.length co45] 24 (0, 0)) (by (with_reducible repeat (first | refine blk_drewN ?_ _ | refine blk_drew ?_ | refine blk_alloc ?_ _)); refine blk_put (cs := #[.int .i64 t275, .slice none 0 0]) ?_ 1 _ rfl; (with_reducible repeat (first | refine blk_drewN ?_ _ | refine blk_drew ?_ | refine blk_alloc ?_ _)); refine blk_put (cs := #[.int .i64 0, .slice none 0 0]) ?_ 0 _ rfl; (with_reducible repeat (first | refine blk_drewN ?_ _ | refine blk_drew ?_ | refine blk_alloc ?_ _)); exact BK280.out) hb); replace HB := Aside0.mk (below_step bel hb); (try clear hb); (try clear hb2); (try clear hk); (try clear hi); (try clear ho0)) | ((with_reducible refine gate_dst (N := 11) rfl ?_); (try (refine gate_guard (by rfl) ?_; dsimp only)); refine box_event ?hg (N := 11) ?hd (cs := #[.int .i64 0, .slice none 0 0]) (t := 24) ?hr ?_; (case hd => rfl); (case hg => rfl); (case hr => first | (go_simp; done) | (go_simp; rfl)); intro gb286 hg w47 hbox hb; have BK286 := Aside0.mk (hbox); have GW286 := geB w hg; have GE286 := geB w hg; have NB265_286 := neL BK265 hg; have NB286_265 := neG BK265 hg; have NB280_286 := neL BK280 hg; have NB286_280 := neG BK280 hg; replace HO_266001 := vB HO_266001 hg hb; replace HO278 := nB HO278 hg hb; replace HO284 := nB HO284 hg hb; replace BK265 := blB BK265 hb; replace BK280 := blB BK280 hb; replace HB := Aside0.mk (below_step bel hb); clear hb hbox hg; have hnb48 := NB286_265.out; have hnc48 := NB265_286.out; have hnb49 := NB286_280.out; have hnc49 := NB280_286.out; obtain ⟨hcz50_0, hcz50_1, hfz50_0, hfz50_1⟩ := bq2 BK286; obtain ⟨Ao51, co51, eo51⟩ := Kd.N_slice HO284.out; subst eo51; obtain ⟨hcz52_0, hcz52_1, hfz52_0, hfz52_1⟩ := bq2 BK280) | ((with_reducible refine gate_callee (f := 16) rfl ?_); refine gL (some 59) Tryz.func16 #[.agg #[.int .i64 t275, .slice Ao45 t276.length co45], .int .i64 t279, .agg #[.int .i64 t281, .slice Ao51 t282.length co51], .int .i64 0] ?_; (with_reducible refine (paraphrastlaw01_is.calls kj31 t275 _ _ t276 t279 t281 _ _ t282 0 true _ ?side1 ?side2 ?side3 ?side4 A38.out).mono ?_); (case side1 => refine (Kd.N_reads' (e := 52) (base := w.heap.size) (ok := fun k_ => (((((P0_1_ k_ ∨ w.heap.size ≤ k_) ∧ k_ ≠ gb265) ∧ k_ ≠ gb280) ∧ some k_ ≠ (.slice Ao51 t282.length co51 : Value).ownBlock) ∧ k_ ≠ gb286)) (n := t276.length) (c := co45) ?_).2.2; exact (by (with_reducible repeat (first | apply Kd.N_alloc | apply Kd.N_drewN | apply Kd.N_drew)); exact (Kd.N_mono (Kd.N_far (p := ⟨gb286, 1, none⟩) (Kd.N_far (p := ⟨gb286, 0, none⟩) (Kd.N_mono HO278.out (fun k_ hk => (⟨hk, hk.2⟩ : _ ∧ k_ ≠ gb286))) (fun _ hk => hk.2) (.int .i64 t281)) (fun _ hk => hk.2) (.slice Ao51 t282.length co51)) (fun _ h_ => h_.1)))); (case side2 => exact (Kd.N_reads' HO278.out).2.1); (case side3 => refine (Kd.N_reads' (e := 52) (base := w.heap.size) (ok := fun k_ => (((P0_1_ k_ ∨ w.heap.size ≤ k_) ∧ (some k_ ≠ (.slice Ao45 t276.length co45 : Value).ownBlock ∧ (k_ ≠ gb265 ∧ k_ ≠ gb280))) ∧ k_ ≠ gb286)) (n := t282.length) (c := co51) ?_).2.2; exact (by (with_reducible repeat (first | apply Kd.N_alloc | apply Kd.N_drewN | apply Kd.N_drew)); exact (Kd.N_mono (Kd.N_far (p := ⟨gb286, 1, none⟩) (Kd.N_far (p := ⟨gb286, 0, none⟩) (Kd.N_mono HO284.out (fun k_ hk => (⟨hk, hk.2⟩ : _ ∧ k_ ≠ gb286))) (fun _ hk => hk.2) (.int .i64 t281)) (fun _ hk => hk.2) (.slice Ao51 t282.length co51)) (fun _ h_ => h_.1)))); (case side4 => exact (Kd.N_reads' HO284.out).2.1); rintro e w53 ⟨rfl, hb⟩; refine ⟨_, rfl, ?_⟩; replace HO_266001 := Aside0.mk (Kd.V_below (by (with_reducible repeat (first | apply Kd.V_alloc | apply Kd.V_drewN | apply Kd.V_drew)); exact (Kd.V_mono (Kd.V_far (p := ⟨gb286, 1, none⟩) (Kd.V_far (p := ⟨gb286, 0, none⟩) (Kd.V_mono HO_266001.out (fun k_ hk => (⟨hk, hk.2⟩ : _ ∧ k_ ≠ gb286))) (fun _ hk => hk.2) (.int .i64 t281)) (fun _ hk => hk.2) (.slice Ao51 t282.length co51)) (fun _ h_ => h_.1))) hb); replace HO278 := Aside0.mk (Kd.N_below (by (with_reducible repeat (first | apply Kd.N_alloc | apply Kd.N_drewN | apply Kd.N_drew)); exact (Kd.N_mono (Kd.N_far (p := ⟨gb286, 1, none⟩) (Kd.N_far (p := ⟨gb286, 0, none⟩) (Kd.N_mono HO278.out (fun k_ hk => (⟨hk, hk.2⟩ : _ ∧ k_ ≠ gb286))) (fun _ hk => hk.2) (.int .i64 t281)) (fun _ hk => hk.2) (.slice Ao51 t282.length co51)) (fun _ h_ => h_.1))) hb); replace HO284 := Aside0.mk (Kd.N_below (by (with_reducible repeat (first | apply Kd.N_alloc | apply Kd.N_drewN | apply Kd.N_drew)); exact (Kd.N_mono (Kd.N_far (p := ⟨gb286, 1, none⟩) (Kd.N_far (p := ⟨gb286, 0, none⟩) (Kd.N_mono HO284.out (fun k_ hk => (⟨hk, hk.2⟩ : _ ∧ k_ ≠ gb286))) (fun _ hk => hk.2) (.int .i64 t281)) (fun _ hk => hk.2) (.slice Ao51 t282.length co51)) (fun _ h_ => h_.1))) hb); replace BK265 := Aside0.mk (blk_below (g := gb265) (o := .cells #[.int .i64 a0_0, .slice A0_1 l0_1.length c0_1] 24 (0, 0)) (by (with_reducible repeat (first | refine blk_drewN ?_ _ | refine blk_drew ?_ | refine blk_alloc ?_ _)); refine blk_far ?_ NB265_286.out _; (with_reducible repeat (first | refine blk_drewN ?_ _ | refine blk_drew ?_ | refine blk_alloc ?_ _)); refine blk_far ?_ NB265_286.out _; (with_reducible repeat (first | refine blk_drewN ?_ _ | refine blk_drew ?_ | refine blk_alloc ?_ _)); exact BK265.out) hb); replace BK280 := Aside0.mk (blk_below (g := gb280) (o := .cells #[.int .i64 t275, .slice Ao45 t276.length co45] 24 (0, 0)) (by (with_reducible repeat (first | refine blk_drewN ?_ _ | refine blk_drew ?_ | refine blk_alloc ?_ _)); refine blk_far ?_ NB280_286.out _; (with_reducible repeat (first | refine blk_drewN ?_ _ | refine blk_drew ?_ | refine blk_alloc ?_ _)); refine blk_far ?_ NB280_286.out _; (with_reducible repeat (first | refine blk_drewN ?_ _ | refine blk_drew ?_ | refine blk_alloc ?_ _)); exact BK280.out) hb); replace BK286 := Aside0.mk (blk_below (g := gb286) (o := .cells #[.int .i64 t281, .slice Ao51 t282.length co51] 24 (0, 0)) (by (with_reducible repeat (first | refine blk_drewN ?_ _ | refine blk_drew ?_ | refine blk_alloc ?_ _)); refine blk_put (cs := #[.int .i64 t281, .slice none 0 0]) ?_ 1 _ rfl; (with_reducible repeat (first | refine blk_drewN ?_ _ | refine blk_drew ?_ | refine blk_alloc ?_ _)); refine blk_put (cs := #[.int .i64 0, .slice none 0 0]) ?_ 0 _ rfl; (with_reducible repeat (first | refine blk_drewN ?_ _ | refine blk_drew ?_ | refine blk_alloc ?_ _)); exact BK286.out) hb); replace HB := Aside0.mk (below_step bel hb); (try clear hb); (try clear hb2); (try clear hk); (try clear hi)) | (go_at_call 10; (with_reducible refine (paraphrastlaw01_alive.calls kj31  t288 _ ?side1 A40.out).mono ?_); (case side1 => first | exact HG.out | exact Glob.below HG.out bel); rintro e w54 ⟨rfl, hb⟩; replace HO_266001 := vD HO_266001 hb; replace HO278 := nD HO278 hb; replace HO284 := nD HO284 hb; replace BK265 := blB BK265 hb; replace BK280 := blB BK280 hb; replace BK286 := blB BK286 hb; replace HB := Aside0.mk (below_step bel hb); (try clear hb); (try clear hb2); (try clear hk); (try clear hi)))
           go_ret
           exact ⟨eN, bel⟩
          ·replace c39 := Bool.eq_false_iff.mpr c39
           subst c39
           have H1 : (some false) = some r := by rw [if_neg (show ¬ (false = true) by decide)] at H; exact H
           clear H
           have H := H1
           clear H1
           obtain rfl := Option.some.inj H
           go_wp2_with (first | ((with_reducible refine gate_callee (f := 14) rfl ?_); refine gL (some 45) Tryz.func14 #[.string a1] ?_; (with_reducible refine (shape_Parse.calls kj31 a1 t275 t276 t279 _ ?side1 A35.out).mono ?_); (case side1 => first | exact HG.out | exact Glob.below HG.out bel); rintro e w55 ⟨v277, rfl, ho0, hb⟩; refine ⟨_, rfl, ?_⟩; have HO278 := Aside0.mk (Kd.N_lower (Kd.N_mono (ok' := fun k_ => (P0_1_ k_ ∨ w.heap.size ≤ k_) ∧ k_ ≠ gb265) (Kd.R_N (Kd.R_bound ho0)) (fun k_ hk_ => ⟨(.inr (Nat.le_trans (below_size bel) hk_.2.1)), (Kd.freshB (g := gb265) (o := .cells #[.int .i64 a0_0, .slice A0_1 l0_1.length c0_1] 24 (0, 0)) (bk BK265) k_ hk_.2.1)⟩)) (below_size bel)); replace HO_266001 := vE HO_266001 (by first | exact Kd.N_base ho0 | exact Kd.R_base ho0) hb; replace BK265 := blB BK265 hb; replace HB := Aside0.mk (below_step bel hb); (try clear hb); (try clear hb2); (try clear hk); (try clear hi); (try clear ho0)) | ((with_reducible refine gate_dst (N := 9) rfl ?_); (try (refine gate_guard (by rfl) ?_; dsimp only)); refine box_event ?hg (N := 9) ?hd (cs := #[.int .i64 0, .slice none 0 0]) (t := 24) ?hr ?_; (case hd => rfl); (case hg => rfl); (case hr => first | (go_simp; done) | (go_simp; rfl)); intro gb280 hg w56 hbox hb; have BK280 := Aside0.mk (hbox); have GW280 := geB w hg; have GE280 := geB w hg; have NB265_280 := neL BK265 hg; have NB280_265 := neG BK265 hg; replace HO_266001 := vB HO_266001 hg hb; replace HO278 := nB HO278 hg hb; replace BK265 := blB BK265 hb; replace HB := Aside0.mk (below_step bel hb); clear hb hbox hg; have hnb57 := NB280_265.out; have hnc57 := NB265_280.out; obtain ⟨hcz58_0, hcz58_1, hfz58_0, hfz58_1⟩ := bq2 BK280; obtain ⟨Ao59, co59, eo59⟩ := Kd.N_slice HO278.out; subst eo59) | ((with_reducible refine gate_callee (f := 15) rfl ?_); refine gL (some 50) Tryz.func15 #[.string a1] ?_; (with_reducible refine (paraphrastref01_Parse.calls kj31 a1 t281 t282 true _ A36.out).mono ?_); rintro e w60 ⟨v283, rfl, ho0, hb⟩; refine ⟨_, rfl, ?_⟩; have HO284 := Aside0.mk (Kd.N_lower (Kd.N_mono (ok' := fun k_ => (P0_1_ k_ ∨ w.heap.size ≤ k_) ∧ some k_ ≠ (.slice Ao59 t276.length co59 : Value).ownBlock ∧ k_ ≠ gb265 ∧ k_ ≠ gb280) (Kd.R_N (Kd.R_bound ho0)) (fun k_ hk_ => ⟨(.inr (Nat.le_trans (below_size bel) hk_.2.1)), (Kd.fresh' (Kd.N_lt (by (with_reducible repeat (first | apply Kd.N_alloc | apply Kd.N_drewN | apply Kd.N_drew)); exact (Kd.N_mono (Kd.N_far (p := ⟨gb280, 1, none⟩) (Kd.N_far (p := ⟨gb280, 0, none⟩) (Kd.N_mono HO278.out (fun k_ hk => (⟨hk, hk.2⟩ : _ ∧ k_ ≠ gb280))) (fun _ hk => hk.2) (.int .i64 t275)) (fun _ hk => hk.2) (.slice Ao59 t276.length co59)) (fun _ h_ => h_.1)))) k_ hk_.2.1), (Kd.freshB (g := gb265) (o := .cells #[.int .i64 a0_0, .slice A0_1 l0_1.length c0_1] 24 (0, 0)) (by (with_reducible repeat (first | refine blk_drewN ?_ _ | refine blk_drew ?_ | refine blk_alloc ?_ _)); refine blk_far ?_ NB265_280.out _; (with_reducible repeat (first | refine blk_drewN ?_ _ | refine blk_drew ?_ | refine blk_alloc ?_ _)); refine blk_far ?_ NB265_280.out _; (with_reducible repeat (first | refine blk_drewN ?_ _ | refine blk_drew ?_ | refine blk_alloc ?_ _)); exact BK265.out) k_ hk_.2.1), (Kd.freshB (g := gb280) (o := .cells #[.int .i64 t275, .slice Ao59 t276.length co59] 24 (0, 0)) (by (with_reducible repeat (first | refine blk_drewN ?_ _ | refine blk_drew ?_ | refine blk_alloc ?_ _)); refine blk_put (cs := #[.int .i64 t275, .slice none 0 0]) ?_ 1 _ rfl; (with_reducible repeat (first | refine blk_drewN ?_ _ | refine blk_drew ?_ | refine blk_alloc ?_ _)); refine blk_put (cs := #[.int .i64 0, .slice none 0 0]) ?_ 0 _ rfl; (with_reducible repeat (first | refine blk_drewN ?_ _ | refine blk_drew ?_ | refine blk_alloc ?_ _)); exact BK280.out) k_ hk_.2.1)⟩)) (below_size bel)); replace HO_266001 := Aside0.mk (Kd.V_elder' (by (with_reducible repeat (first | apply Kd.V_alloc | apply Kd.V_drewN | apply Kd.V_drew)); exact (Kd.V_mono (Kd.V_far (p := ⟨gb280, 1, none⟩) (Kd.V_far (p := ⟨gb280, 0, none⟩) (Kd.V_mono HO_266001.out (fun k_ hk => (⟨hk, hk.2⟩ : _ ∧ k_ ≠ gb280))) (fun _ hk => hk.2) (.int .i64 t275)) (fun _ hk => hk.2) (.slice Ao59 t276.length co59)) (fun _ h_ => h_.1))) (by first | exact Kd.N_base ho0 | exact Kd.R_base ho0) hb); replace HO278 := Aside0.mk (Kd.N_elder' (by (with_reducible repeat (first | apply Kd.N_alloc | apply Kd.N_drewN | apply Kd.N_drew)); exact (Kd.N_mono (Kd.N_far (p := ⟨gb280, 1, none⟩) (Kd.N_far (p := ⟨gb280, 0, none⟩) (Kd.N_mono HO278.out (fun k_ hk => (⟨hk, hk.2⟩ : _ ∧ k_ ≠ gb280))) (fun _ hk => hk.2) (.int .i64 t275)) (fun _ hk => hk.2) (.slice Ao59 t276.length co59)) (fun _ h_ => h_.1))) (by first | exact Kd.N_base ho0 | exact Kd.R_base ho0) hb); replace BK265 := Aside0.mk (blk_below (g := gb265) (o := .cells #[.int .i64 a0_0, .slice A0_1 l0_1.length c0_1] 24 (0, 0)) (by (with_reducible repeat (first | refine blk_drewN ?_ _ | refine blk_drew ?_ | refine blk_alloc ?_ _)); refine blk_far ?_ NB265_280.out _; (with_reducible repeat (first | refine blk_drewN ?_ _ | refine blk_drew ?_ | refine blk_alloc ?_ _)); refine blk_far ?_ NB265_280.out _; (with_reducible repeat (first | refine blk_drewN ?_ _ | refine blk_drew ?_ | refine blk_alloc ?_ _)); exact BK265.out) hb); replace BK280 := Aside0.mk (blk_below (g := gb280) (o := .cells #[.int .i64 t275, .slice Ao59 t276.length co59] 24 (0, 0)) (by (with_reducible repeat (first | refine blk_drewN ?_ _ | refine blk_drew ?_ | refine blk_alloc ?_ _)); refine blk_put (cs := #[.int .i64 t275, .slice none 0 0]) ?_ 1 _ rfl; (with_reducible repeat (first | refine blk_drewN ?_ _ | refine blk_drew ?_ | refine blk_alloc ?_ _)); refine blk_put (cs := #[.int .i64 0, .slice none 0 0]) ?_ 0 _ rfl; (with_reducible repeat (first | refine blk_drewN ?_ _ | refine blk_drew ?_ | refine blk_alloc ?_ _)); exact BK280.out) hb); replace HB := Aside0.mk (below_step bel hb); (try clear hb); (try clear hb2); (try clear hk); (try clear hi); (try clear ho0)) | ((with_reducible refine gate_dst (N := 11) rfl ?_); (try (refine gate_guard (by rfl) ?_; dsimp only)); refine box_event ?hg (N := 11) ?hd (cs := #[.int .i64 0, .slice none 0 0]) (t := 24) ?hr ?_; (case hd => rfl); (case hg => rfl); (case hr => first | (go_simp; done) | (go_simp; rfl)); intro gb286 hg w61 hbox hb; have BK286 := Aside0.mk (hbox); have GW286 := geB w hg; have GE286 := geB w hg; have NB265_286 := neL BK265 hg; have NB286_265 := neG BK265 hg; have NB280_286 := neL BK280 hg; have NB286_280 := neG BK280 hg; replace HO_266001 := vB HO_266001 hg hb; replace HO278 := nB HO278 hg hb; replace HO284 := nB HO284 hg hb; replace BK265 := blB BK265 hb; replace BK280 := blB BK280 hb; replace HB := Aside0.mk (below_step bel hb); clear hb hbox hg; have hnb62 := NB286_265.out; have hnc62 := NB265_286.out; have hnb63 := NB286_280.out; have hnc63 := NB280_286.out; obtain ⟨hcz64_0, hcz64_1, hfz64_0, hfz64_1⟩ := bq2 BK286; obtain ⟨Ao65, co65, eo65⟩ := Kd.N_slice HO284.out; subst eo65; obtain ⟨hcz66_0, hcz66_1, hfz66_0, hfz66_1⟩ := bq2 BK280) | ((with_reducible refine gate_callee (f := 16) rfl ?_); refine gL (some 59) Tryz.func16 #[.agg #[.int .i64 t275, .slice Ao59 t276.length co59], .int .i64 t279, .agg #[.int .i64 t281, .slice Ao65 t282.length co65], .int .i64 0] ?_; (with_reducible refine (paraphrastlaw01_is.calls kj31 t275 _ _ t276 t279 t281 _ _ t282 0 false _ ?side1 ?side2 ?side3 ?side4 A38.out).mono ?_); (case side1 => refine (Kd.N_reads' (e := 52) (base := w.heap.size) (ok := fun k_ => (((((P0_1_ k_ ∨ w.heap.size ≤ k_) ∧ k_ ≠ gb265) ∧ k_ ≠ gb280) ∧ some k_ ≠ (.slice Ao65 t282.length co65 : Value).ownBlock) ∧ k_ ≠ gb286)) (n := t276.length) (c := co59) ?_).2.2; exact (by (with_reducible repeat (first | apply Kd.N_alloc | apply Kd.N_drewN | apply Kd.N_drew)); exact (Kd.N_mono (Kd.N_far (p := ⟨gb286, 1, none⟩) (Kd.N_far (p := ⟨gb286, 0, none⟩) (Kd.N_mono HO278.out (fun k_ hk => (⟨hk, hk.2⟩ : _ ∧ k_ ≠ gb286))) (fun _ hk => hk.2) (.int .i64 t281)) (fun _ hk => hk.2) (.slice Ao65 t282.length co65)) (fun _ h_ => h_.1)))); (case side2 => exact (Kd.N_reads' HO278.out).2.1); (case side3 => refine (Kd.N_reads' (e := 52) (base := w.heap.size) (ok := fun k_ => (((P0_1_ k_ ∨ w.heap.size ≤ k_) ∧ (some k_ ≠ (.slice Ao59 t276.length co59 : Value).ownBlock ∧ (k_ ≠ gb265 ∧ k_ ≠ gb280))) ∧ k_ ≠ gb286)) (n := t282.length) (c := co65) ?_).2.2; exact (by (with_reducible repeat (first | apply Kd.N_alloc | apply Kd.N_drewN | apply Kd.N_drew)); exact (Kd.N_mono (Kd.N_far (p := ⟨gb286, 1, none⟩) (Kd.N_far (p := ⟨gb286, 0, none⟩) (Kd.N_mono HO284.out (fun k_ hk => (⟨hk, hk.2⟩ : _ ∧ k_ ≠ gb286))) (fun _ hk => hk.2) (.int .i64 t281)) (fun _ hk => hk.2) (.slice Ao65 t282.length co65)) (fun _ h_ => h_.1)))); (case side4 => exact (Kd.N_reads' HO284.out).2.1); rintro e w67 ⟨rfl, hb⟩; refine ⟨_, rfl, ?_⟩; replace HO_266001 := Aside0.mk (Kd.V_below (by (with_reducible repeat (first | apply Kd.V_alloc | apply Kd.V_drewN | apply Kd.V_drew)); exact (Kd.V_mono (Kd.V_far (p := ⟨gb286, 1, none⟩) (Kd.V_far (p := ⟨gb286, 0, none⟩) (Kd.V_mono HO_266001.out (fun k_ hk => (⟨hk, hk.2⟩ : _ ∧ k_ ≠ gb286))) (fun _ hk => hk.2) (.int .i64 t281)) (fun _ hk => hk.2) (.slice Ao65 t282.length co65)) (fun _ h_ => h_.1))) hb); replace HO278 := Aside0.mk (Kd.N_below (by (with_reducible repeat (first | apply Kd.N_alloc | apply Kd.N_drewN | apply Kd.N_drew)); exact (Kd.N_mono (Kd.N_far (p := ⟨gb286, 1, none⟩) (Kd.N_far (p := ⟨gb286, 0, none⟩) (Kd.N_mono HO278.out (fun k_ hk => (⟨hk, hk.2⟩ : _ ∧ k_ ≠ gb286))) (fun _ hk => hk.2) (.int .i64 t281)) (fun _ hk => hk.2) (.slice Ao65 t282.length co65)) (fun _ h_ => h_.1))) hb); replace HO284 := Aside0.mk (Kd.N_below (by (with_reducible repeat (first | apply Kd.N_alloc | apply Kd.N_drewN | apply Kd.N_drew)); exact (Kd.N_mono (Kd.N_far (p := ⟨gb286, 1, none⟩) (Kd.N_far (p := ⟨gb286, 0, none⟩) (Kd.N_mono HO284.out (fun k_ hk => (⟨hk, hk.2⟩ : _ ∧ k_ ≠ gb286))) (fun _ hk => hk.2) (.int .i64 t281)) (fun _ hk => hk.2) (.slice Ao65 t282.length co65)) (fun _ h_ => h_.1))) hb); replace BK265 := Aside0.mk (blk_below (g := gb265) (o := .cells #[.int .i64 a0_0, .slice A0_1 l0_1.length c0_1] 24 (0, 0)) (by (with_reducible repeat (first | refine blk_drewN ?_ _ | refine blk_drew ?_ | refine blk_alloc ?_ _)); refine blk_far ?_ NB265_286.out _; (with_reducible repeat (first | refine blk_drewN ?_ _ | refine blk_drew ?_ | refine blk_alloc ?_ _)); refine blk_far ?_ NB265_286.out _; (with_reducible repeat (first | refine blk_drewN ?_ _ | refine blk_drew ?_ | refine blk_alloc ?_ _)); exact BK265.out) hb); replace BK280 := Aside0.mk (blk_below (g := gb280) (o := .cells #[.int .i64 t275, .slice Ao59 t276.length co59] 24 (0, 0)) (by (with_reducible repeat (first | refine blk_drewN ?_ _ | refine blk_drew ?_ | refine blk_alloc ?_ _)); refine blk_far ?_ NB280_286.out _; (with_reducible repeat (first | refine blk_drewN ?_ _ | refine blk_drew ?_ | refine blk_alloc ?_ _)); refine blk_far ?_ NB280_286.out _; (with_reducible repeat (first | refine blk_drewN ?_ _ | refine blk_drew ?_ | refine blk_alloc ?_ _)); exact BK280.out) hb); replace BK286 := Aside0.mk (blk_below (g := gb286) (o := .cells #[.int .i64 t281, .slice Ao65 t282.length co65] 24 (0, 0)) (by (with_reducible repeat (first | refine blk_drewN ?_ _ | refine blk_drew ?_ | refine blk_alloc ?_ _)); refine blk_put (cs := #[.int .i64 t281, .slice none 0 0]) ?_ 1 _ rfl; (with_reducible repeat (first | refine blk_drewN ?_ _ | refine blk_drew ?_ | refine blk_alloc ?_ _)); refine blk_put (cs := #[.int .i64 0, .slice none 0 0]) ?_ 0 _ rfl; (with_reducible repeat (first | refine blk_drewN ?_ _ | refine blk_drew ?_ | refine blk_alloc ?_ _)); exact BK286.out) hb); replace HB := Aside0.mk (below_step bel hb); (try clear hb); (try clear hb2); (try clear hk); (try clear hi)))
           go_ret
           exact ⟨eN, bel⟩
         ·replace c37 := Bool.eq_false_iff.mpr c37
          subst c37
          have H1 : ((paraphrastlaw01_is.f kj31 t275 t276 t279 t281 t282 3).bind fun t289 => (if t289 = true then ((paraphrastlaw01_alive.f kj31).bind fun t290 => (some t290)) else (some false))) = some r := by rw [if_neg (show ¬ (false = true) by decide)] at H; exact H
          clear H
          have H := H1
          clear H1
          replace H := Option.bind_eq_some_iff.mp H
          obtain ⟨t289, A680, H⟩ := H
          replace H : (if t289 = true then ((paraphrastlaw01_alive.f kj31).bind fun t290 => (some t290)) else (some false)) = some r := H
          have A68 := Aside0.mk A680
          clear A680
          by_cases c69 : t289 = true
          ·subst c69
           have H1 : ((paraphrastlaw01_alive.f kj31).bind fun t290 => (some t290)) = some r := by rw [if_pos rfl] at H; exact H
           clear H
           have H := H1
           clear H1
           replace H := Option.bind_eq_some_iff.mp H
           obtain ⟨t290, A700, H⟩ := H
           replace H : (some t290) = some r := H
           have A70 := Aside0.mk A700
           clear A700
           obtain rfl := Option.some.inj H
           go_wp2_with (first | ((with_reducible refine gate_callee (f := 14) rfl ?_); refine gL (some 45) Tryz.func14 #[.string a1] ?_; (with_reducible refine (shape_Parse.calls kj31 a1 t275 t276 t279 _ ?side1 A35.out).mono ?_); (case side1 => first | exact HG.out | exact Glob.below HG.out bel); rintro e w71 ⟨v277, rfl, ho0, hb⟩; refine ⟨_, rfl, ?_⟩; have HO278 := Aside0.mk (Kd.N_lower (Kd.N_mono (ok' := fun k_ => (P0_1_ k_ ∨ w.heap.size ≤ k_) ∧ k_ ≠ gb265) (Kd.R_N (Kd.R_bound ho0)) (fun k_ hk_ => ⟨(.inr (Nat.le_trans (below_size bel) hk_.2.1)), (Kd.freshB (g := gb265) (o := .cells #[.int .i64 a0_0, .slice A0_1 l0_1.length c0_1] 24 (0, 0)) (bk BK265) k_ hk_.2.1)⟩)) (below_size bel)); replace HO_266001 := vE HO_266001 (by first | exact Kd.N_base ho0 | exact Kd.R_base ho0) hb; replace BK265 := blB BK265 hb; replace HB := Aside0.mk (below_step bel hb); (try clear hb); (try clear hb2); (try clear hk); (try clear hi); (try clear ho0)) | ((with_reducible refine gate_dst (N := 9) rfl ?_); (try (refine gate_guard (by rfl) ?_; dsimp only)); refine box_event ?hg (N := 9) ?hd (cs := #[.int .i64 0, .slice none 0 0]) (t := 24) ?hr ?_; (case hd => rfl); (case hg => rfl); (case hr => first | (go_simp; done) | (go_simp; rfl)); intro gb280 hg w72 hbox hb; have BK280 := Aside0.mk (hbox); have GW280 := geB w hg; have GE280 := geB w hg; have NB265_280 := neL BK265 hg; have NB280_265 := neG BK265 hg; replace HO_266001 := vB HO_266001 hg hb; replace HO278 := nB HO278 hg hb; replace BK265 := blB BK265 hb; replace HB := Aside0.mk (below_step bel hb); clear hb hbox hg; have hnb73 := NB280_265.out; have hnc73 := NB265_280.out; obtain ⟨hcz74_0, hcz74_1, hfz74_0, hfz74_1⟩ := bq2 BK280; obtain ⟨Ao75, co75, eo75⟩ := Kd.N_slice HO278.out; subst eo75) | ((with_reducible refine gate_callee (f := 15) rfl ?_); refine gL (some 50) Tryz.func15 #[.string a1] ?_; (with_reducible refine (paraphrastref01_Parse.calls kj31 a1 t281 t282 false _ A36.out).mono ?_); rintro e w76 ⟨v283, rfl, ho0, hb⟩; refine ⟨_, rfl, ?_⟩; have HO284 := Aside0.mk (Kd.N_lower (Kd.N_mono (ok' := fun k_ => (P0_1_ k_ ∨ w.heap.size ≤ k_) ∧ some k_ ≠ (.slice Ao75 t276.length co75 : Value).ownBlock ∧ k_ ≠ gb265 ∧ k_ ≠ gb280) (Kd.R_N (Kd.R_bound ho0)) (fun k_ hk_ => ⟨(.inr (Nat.le_trans (below_size bel) hk_.2.1)), (Kd.fresh' (Kd.N_lt (by (with_reducible repeat (first | apply Kd.N_alloc | apply Kd.N_drewN | apply Kd.N_drew)); exact (Kd.N_mono (Kd.N_far (p := ⟨gb280, 1, none⟩) (Kd.N_far (p := ⟨gb280, 0, none⟩) (Kd.N_mono HO278.out (fun k_ hk => (⟨hk, hk.2⟩ : _ ∧ k_ ≠ gb280))) (fun _ hk => hk.2) (.int .i64 t275)) (fun _ hk => hk.2) (.slice Ao75 t276.length co75)) (fun _ h_ => h_.1)))) k_ hk_.2.1), (Kd.freshB (g := gb265) (o := .cells #[.int .i64 a0_0, .slice A0_1 l0_1.length c0_1] 24 (0, 0)) (by (with_reducible repeat (first | refine blk_drewN ?_ _ | refine blk_drew ?_ | refine blk_alloc ?_ _)); refine blk_far ?_ NB265_280.out _; (with_reducible repeat (first | refine blk_drewN ?_ _ | refine blk_drew ?_ | refine blk_alloc ?_ _)); refine blk_far ?_ NB265_280.out _; (with_reducible repeat (first | refine blk_drewN ?_ _ | refine blk_drew ?_ | refine blk_alloc ?_ _)); exact BK265.out) k_ hk_.2.1), (Kd.freshB (g := gb280) (o := .cells #[.int .i64 t275, .slice Ao75 t276.length co75] 24 (0, 0)) (by (with_reducible repeat (first | refine blk_drewN ?_ _ | refine blk_drew ?_ | refine blk_alloc ?_ _)); refine blk_put (cs := #[.int .i64 t275, .slice none 0 0]) ?_ 1 _ rfl; (with_reducible repeat (first | refine blk_drewN ?_ _ | refine blk_drew ?_ | refine blk_alloc ?_ _)); refine blk_put (cs := #[.int .i64 0, .slice none 0 0]) ?_ 0 _ rfl; (with_reducible repeat (first | refine blk_drewN ?_ _ | refine blk_drew ?_ | refine blk_alloc ?_ _)); exact BK280.out) k_ hk_.2.1)⟩)) (below_size bel)); replace HO_266001 := Aside0.mk (Kd.V_elder' (by (with_reducible repeat (first | apply Kd.V_alloc | apply Kd.V_drewN | apply Kd.V_drew)); exact (Kd.V_mono (Kd.V_far (p := ⟨gb280, 1, none⟩) (Kd.V_far (p := ⟨gb280, 0, none⟩) (Kd.V_mono HO_266001.out (fun k_ hk => (⟨hk, hk.2⟩ : _ ∧ k_ ≠ gb280))) (fun _ hk => hk.2) (.int .i64 t275)) (fun _ hk => hk.2) (.slice Ao75 t276.length co75)) (fun _ h_ => h_.1))) (by first | exact Kd.N_base ho0 | exact Kd.R_base ho0) hb); replace HO278 := Aside0.mk (Kd.N_elder' (by (with_reducible repeat (first | apply Kd.N_alloc | apply Kd.N_drewN | apply Kd.N_drew)); exact (Kd.N_mono (Kd.N_far (p := ⟨gb280, 1, none⟩) (Kd.N_far (p := ⟨gb280, 0, none⟩) (Kd.N_mono HO278.out (fun k_ hk => (⟨hk, hk.2⟩ : _ ∧ k_ ≠ gb280))) (fun _ hk => hk.2) (.int .i64 t275)) (fun _ hk => hk.2) (.slice Ao75 t276.length co75)) (fun _ h_ => h_.1))) (by first | exact Kd.N_base ho0 | exact Kd.R_base ho0) hb); replace BK265 := Aside0.mk (blk_below (g := gb265) (o := .cells #[.int .i64 a0_0, .slice A0_1 l0_1.length c0_1] 24 (0, 0)) (by (with_reducible repeat (first | refine blk_drewN ?_ _ | refine blk_drew ?_ | refine blk_alloc ?_ _)); refine blk_far ?_ NB265_280.out _; (with_reducible repeat (first | refine blk_drewN ?_ _ | refine blk_drew ?_ | refine blk_alloc ?_ _)); refine blk_far ?_ NB265_280.out _; (with_reducible repeat (first | refine blk_drewN ?_ _ | refine blk_drew ?_ | refine blk_alloc ?_ _)); exact BK265.out) hb); replace BK280 := Aside0.mk (blk_below (g := gb280) (o := .cells #[.int .i64 t275, .slice Ao75 t276.length co75] 24 (0, 0)) (by (with_reducible repeat (first | refine blk_drewN ?_ _ | refine blk_drew ?_ | refine blk_alloc ?_ _)); refine blk_put (cs := #[.int .i64 t275, .slice none 0 0]) ?_ 1 _ rfl; (with_reducible repeat (first | refine blk_drewN ?_ _ | refine blk_drew ?_ | refine blk_alloc ?_ _)); refine blk_put (cs := #[.int .i64 0, .slice none 0 0]) ?_ 0 _ rfl; (with_reducible repeat (first | refine blk_drewN ?_ _ | refine blk_drew ?_ | refine blk_alloc ?_ _)); exact BK280.out) hb); replace HB := Aside0.mk (below_step bel hb); (try clear hb); (try clear hb2); (try clear hk); (try clear hi); (try clear ho0)) | ((with_reducible refine gate_dst (N := 11) rfl ?_); (try (refine gate_guard (by rfl) ?_; dsimp only)); refine box_event ?hg (N := 11) ?hd (cs := #[.int .i64 0, .slice none 0 0]) (t := 24) ?hr ?_; (case hd => rfl); (case hg => rfl); (case hr => first | (go_simp; done) | (go_simp; rfl)); intro gb286 hg w77 hbox hb; have BK286 := Aside0.mk (hbox); have GW286 := geB w hg; have GE286 := geB w hg; have NB265_286 := neL BK265 hg; have NB286_265 := neG BK265 hg; have NB280_286 := neL BK280 hg; have NB286_280 := neG BK280 hg; replace HO_266001 := vB HO_266001 hg hb; replace HO278 := nB HO278 hg hb; replace HO284 := nB HO284 hg hb; replace BK265 := blB BK265 hb; replace BK280 := blB BK280 hb; replace HB := Aside0.mk (below_step bel hb); clear hb hbox hg; have hnb78 := NB286_265.out; have hnc78 := NB265_286.out; have hnb79 := NB286_280.out; have hnc79 := NB280_286.out; obtain ⟨hcz80_0, hcz80_1, hfz80_0, hfz80_1⟩ := bq2 BK286; obtain ⟨Ao81, co81, eo81⟩ := Kd.N_slice HO284.out; subst eo81; obtain ⟨hcz82_0, hcz82_1, hfz82_0, hfz82_1⟩ := bq2 BK280) | ((with_reducible refine gate_callee (f := 16) rfl ?_); refine gL (some 59) Tryz.func16 #[.agg #[.int .i64 t275, .slice Ao75 t276.length co75], .int .i64 t279, .agg #[.int .i64 t281, .slice Ao81 t282.length co81], .int .i64 3] ?_; (with_reducible refine (paraphrastlaw01_is.calls kj31 t275 _ _ t276 t279 t281 _ _ t282 3 true _ ?side1 ?side2 ?side3 ?side4 A68.out).mono ?_); (case side1 => refine (Kd.N_reads' (e := 52) (base := w.heap.size) (ok := fun k_ => (((((P0_1_ k_ ∨ w.heap.size ≤ k_) ∧ k_ ≠ gb265) ∧ k_ ≠ gb280) ∧ some k_ ≠ (.slice Ao81 t282.length co81 : Value).ownBlock) ∧ k_ ≠ gb286)) (n := t276.length) (c := co75) ?_).2.2; exact (by (with_reducible repeat (first | apply Kd.N_alloc | apply Kd.N_drewN | apply Kd.N_drew)); exact (Kd.N_mono (Kd.N_far (p := ⟨gb286, 1, none⟩) (Kd.N_far (p := ⟨gb286, 0, none⟩) (Kd.N_mono HO278.out (fun k_ hk => (⟨hk, hk.2⟩ : _ ∧ k_ ≠ gb286))) (fun _ hk => hk.2) (.int .i64 t281)) (fun _ hk => hk.2) (.slice Ao81 t282.length co81)) (fun _ h_ => h_.1)))); (case side2 => exact (Kd.N_reads' HO278.out).2.1); (case side3 => refine (Kd.N_reads' (e := 52) (base := w.heap.size) (ok := fun k_ => (((P0_1_ k_ ∨ w.heap.size ≤ k_) ∧ (some k_ ≠ (.slice Ao75 t276.length co75 : Value).ownBlock ∧ (k_ ≠ gb265 ∧ k_ ≠ gb280))) ∧ k_ ≠ gb286)) (n := t282.length) (c := co81) ?_).2.2; exact (by (with_reducible repeat (first | apply Kd.N_alloc | apply Kd.N_drewN | apply Kd.N_drew)); exact (Kd.N_mono (Kd.N_far (p := ⟨gb286, 1, none⟩) (Kd.N_far (p := ⟨gb286, 0, none⟩) (Kd.N_mono HO284.out (fun k_ hk => (⟨hk, hk.2⟩ : _ ∧ k_ ≠ gb286))) (fun _ hk => hk.2) (.int .i64 t281)) (fun _ hk => hk.2) (.slice Ao81 t282.length co81)) (fun _ h_ => h_.1)))); (case side4 => exact (Kd.N_reads' HO284.out).2.1); rintro e w83 ⟨rfl, hb⟩; refine ⟨_, rfl, ?_⟩; replace HO_266001 := Aside0.mk (Kd.V_below (by (with_reducible repeat (first | apply Kd.V_alloc | apply Kd.V_drewN | apply Kd.V_drew)); exact (Kd.V_mono (Kd.V_far (p := ⟨gb286, 1, none⟩) (Kd.V_far (p := ⟨gb286, 0, none⟩) (Kd.V_mono HO_266001.out (fun k_ hk => (⟨hk, hk.2⟩ : _ ∧ k_ ≠ gb286))) (fun _ hk => hk.2) (.int .i64 t281)) (fun _ hk => hk.2) (.slice Ao81 t282.length co81)) (fun _ h_ => h_.1))) hb); replace HO278 := Aside0.mk (Kd.N_below (by (with_reducible repeat (first | apply Kd.N_alloc | apply Kd.N_drewN | apply Kd.N_drew)); exact (Kd.N_mono (Kd.N_far (p := ⟨gb286, 1, none⟩) (Kd.N_far (p := ⟨gb286, 0, none⟩) (Kd.N_mono HO278.out (fun k_ hk => (⟨hk, hk.2⟩ : _ ∧ k_ ≠ gb286))) (fun _ hk => hk.2) (.int .i64 t281)) (fun _ hk => hk.2) (.slice Ao81 t282.length co81)) (fun _ h_ => h_.1))) hb); replace HO284 := Aside0.mk (Kd.N_below (by (with_reducible repeat (first | apply Kd.N_alloc | apply Kd.N_drewN | apply Kd.N_drew)); exact (Kd.N_mono (Kd.N_far (p := ⟨gb286, 1, none⟩) (Kd.N_far (p := ⟨gb286, 0, none⟩) (Kd.N_mono HO284.out (fun k_ hk => (⟨hk, hk.2⟩ : _ ∧ k_ ≠ gb286))) (fun _ hk => hk.2) (.int .i64 t281)) (fun _ hk => hk.2) (.slice Ao81 t282.length co81)) (fun _ h_ => h_.1))) hb); replace BK265 := Aside0.mk (blk_below (g := gb265) (o := .cells #[.int .i64 a0_0, .slice A0_1 l0_1.length c0_1] 24 (0, 0)) (by (with_reducible repeat (first | refine blk_drewN ?_ _ | refine blk_drew ?_ | refine blk_alloc ?_ _)); refine blk_far ?_ NB265_286.out _; (with_reducible repeat (first | refine blk_drewN ?_ _ | refine blk_drew ?_ | refine blk_alloc ?_ _)); refine blk_far ?_ NB265_286.out _; (with_reducible repeat (first | refine blk_drewN ?_ _ | refine blk_drew ?_ | refine blk_alloc ?_ _)); exact BK265.out) hb); replace BK280 := Aside0.mk (blk_below (g := gb280) (o := .cells #[.int .i64 t275, .slice Ao75 t276.length co75] 24 (0, 0)) (by (with_reducible repeat (first | refine blk_drewN ?_ _ | refine blk_drew ?_ | refine blk_alloc ?_ _)); refine blk_far ?_ NB280_286.out _; (with_reducible repeat (first | refine blk_drewN ?_ _ | refine blk_drew ?_ | refine blk_alloc ?_ _)); refine blk_far ?_ NB280_286.out _; (with_reducible repeat (first | refine blk_drewN ?_ _ | refine blk_drew ?_ | refine blk_alloc ?_ _)); exact BK280.out) hb); replace BK286 := Aside0.mk (blk_below (g := gb286) (o := .cells #[.int .i64 t281, .slice Ao81 t282.length co81] 24 (0, 0)) (by (with_reducible repeat (first | refine blk_drewN ?_ _ | refine blk_drew ?_ | refine blk_alloc ?_ _)); refine blk_put (cs := #[.int .i64 t281, .slice none 0 0]) ?_ 1 _ rfl; (with_reducible repeat (first | refine blk_drewN ?_ _ | refine blk_drew ?_ | refine blk_alloc ?_ _)); refine blk_put (cs := #[.int .i64 0, .slice none 0 0]) ?_ 0 _ rfl; (with_reducible repeat (first | refine blk_drewN ?_ _ | refine blk_drew ?_ | refine blk_alloc ?_ _)); exact BK286.out) hb); replace HB := Aside0.mk (below_step bel hb); (try clear hb); (try clear hb2); (try clear hk); (try clear hi)) | (go_at_call 10; (with_reducible refine (paraphrastlaw01_alive.calls kj31  t290 _ ?side1 A70.out).mono ?_); (case side1 => first | exact HG.out | exact Glob.below HG.out bel); rintro e w84 ⟨rfl, hb⟩; replace HO_266001 := vD HO_266001 hb; replace HO278 := nD HO278 hb; replace HO284 := nD HO284 hb; replace BK265 := blB BK265 hb; replace BK280 := blB BK280 hb; replace BK286 := blB BK286 hb; replace HB := Aside0.mk (below_step bel hb); (try clear hb); (try clear hb2); (try clear hk); (try clear hi)))
           go_ret
           exact ⟨eN, bel⟩
          ·replace c69 := Bool.eq_false_iff.mpr c69
           subst c69
           have H1 : (some false) = some r := by rw [if_neg (show ¬ (false = true) by decide)] at H; exact H
           clear H
           have H := H1
           clear H1
           obtain rfl := Option.some.inj H
           go_wp2_with (first | ((with_reducible refine gate_callee (f := 14) rfl ?_); refine gL (some 45) Tryz.func14 #[.string a1] ?_; (with_reducible refine (shape_Parse.calls kj31 a1 t275 t276 t279 _ ?side1 A35.out).mono ?_); (case side1 => first | exact HG.out | exact Glob.below HG.out bel); rintro e w85 ⟨v277, rfl, ho0, hb⟩; refine ⟨_, rfl, ?_⟩; have HO278 := Aside0.mk (Kd.N_lower (Kd.N_mono (ok' := fun k_ => (P0_1_ k_ ∨ w.heap.size ≤ k_) ∧ k_ ≠ gb265) (Kd.R_N (Kd.R_bound ho0)) (fun k_ hk_ => ⟨(.inr (Nat.le_trans (below_size bel) hk_.2.1)), (Kd.freshB (g := gb265) (o := .cells #[.int .i64 a0_0, .slice A0_1 l0_1.length c0_1] 24 (0, 0)) (bk BK265) k_ hk_.2.1)⟩)) (below_size bel)); replace HO_266001 := vE HO_266001 (by first | exact Kd.N_base ho0 | exact Kd.R_base ho0) hb; replace BK265 := blB BK265 hb; replace HB := Aside0.mk (below_step bel hb); (try clear hb); (try clear hb2); (try clear hk); (try clear hi); (try clear ho0)) | ((with_reducible refine gate_dst (N := 9) rfl ?_); (try (refine gate_guard (by rfl) ?_; dsimp only)); refine box_event ?hg (N := 9) ?hd (cs := #[.int .i64 0, .slice none 0 0]) (t := 24) ?hr ?_; (case hd => rfl); (case hg => rfl); (case hr => first | (go_simp; done) | (go_simp; rfl)); intro gb280 hg w86 hbox hb; have BK280 := Aside0.mk (hbox); have GW280 := geB w hg; have GE280 := geB w hg; have NB265_280 := neL BK265 hg; have NB280_265 := neG BK265 hg; replace HO_266001 := vB HO_266001 hg hb; replace HO278 := nB HO278 hg hb; replace BK265 := blB BK265 hb; replace HB := Aside0.mk (below_step bel hb); clear hb hbox hg; have hnb87 := NB280_265.out; have hnc87 := NB265_280.out; obtain ⟨hcz88_0, hcz88_1, hfz88_0, hfz88_1⟩ := bq2 BK280; obtain ⟨Ao89, co89, eo89⟩ := Kd.N_slice HO278.out; subst eo89) | ((with_reducible refine gate_callee (f := 15) rfl ?_); refine gL (some 50) Tryz.func15 #[.string a1] ?_; (with_reducible refine (paraphrastref01_Parse.calls kj31 a1 t281 t282 false _ A36.out).mono ?_); rintro e w90 ⟨v283, rfl, ho0, hb⟩; refine ⟨_, rfl, ?_⟩; have HO284 := Aside0.mk (Kd.N_lower (Kd.N_mono (ok' := fun k_ => (P0_1_ k_ ∨ w.heap.size ≤ k_) ∧ some k_ ≠ (.slice Ao89 t276.length co89 : Value).ownBlock ∧ k_ ≠ gb265 ∧ k_ ≠ gb280) (Kd.R_N (Kd.R_bound ho0)) (fun k_ hk_ => ⟨(.inr (Nat.le_trans (below_size bel) hk_.2.1)), (Kd.fresh' (Kd.N_lt (by (with_reducible repeat (first | apply Kd.N_alloc | apply Kd.N_drewN | apply Kd.N_drew)); exact (Kd.N_mono (Kd.N_far (p := ⟨gb280, 1, none⟩) (Kd.N_far (p := ⟨gb280, 0, none⟩) (Kd.N_mono HO278.out (fun k_ hk => (⟨hk, hk.2⟩ : _ ∧ k_ ≠ gb280))) (fun _ hk => hk.2) (.int .i64 t275)) (fun _ hk => hk.2) (.slice Ao89 t276.length co89)) (fun _ h_ => h_.1)))) k_ hk_.2.1), (Kd.freshB (g := gb265) (o := .cells #[.int .i64 a0_0, .slice A0_1 l0_1.length c0_1] 24 (0, 0)) (by (with_reducible repeat (first | refine blk_drewN ?_ _ | refine blk_drew ?_ | refine blk_alloc ?_ _)); refine blk_far ?_ NB265_280.out _; (with_reducible repeat (first | refine blk_drewN ?_ _ | refine blk_drew ?_ | refine blk_alloc ?_ _)); refine blk_far ?_ NB265_280.out _; (with_reducible repeat (first | refine blk_drewN ?_ _ | refine blk_drew ?_ | refine blk_alloc ?_ _)); exact BK265.out) k_ hk_.2.1), (Kd.freshB (g := gb280) (o := .cells #[.int .i64 t275, .slice Ao89 t276.length co89] 24 (0, 0)) (by (with_reducible repeat (first | refine blk_drewN ?_ _ | refine blk_drew ?_ | refine blk_alloc ?_ _)); refine blk_put (cs := #[.int .i64 t275, .slice none 0 0]) ?_ 1 _ rfl; (with_reducible repeat (first | refine blk_drewN ?_ _ | refine blk_drew ?_ | refine blk_alloc ?_ _)); refine blk_put (cs := #[.int .i64 0, .slice none 0 0]) ?_ 0 _ rfl; (with_reducible repeat (first | refine blk_drewN ?_ _ | refine blk_drew ?_ | refine blk_alloc ?_ _)); exact BK280.out) k_ hk_.2.1)⟩)) (below_size bel)); replace HO_266001 := Aside0.mk (Kd.V_elder' (by (with_reducible repeat (first | apply Kd.V_alloc | apply Kd.V_drewN | apply Kd.V_drew)); exact (Kd.V_mono (Kd.V_far (p := ⟨gb280, 1, none⟩) (Kd.V_far (p := ⟨gb280, 0, none⟩) (Kd.V_mono HO_266001.out (fun k_ hk => (⟨hk, hk.2⟩ : _ ∧ k_ ≠ gb280))) (fun _ hk => hk.2) (.int .i64 t275)) (fun _ hk => hk.2) (.slice Ao89 t276.length co89)) (fun _ h_ => h_.1))) (by first | exact Kd.N_base ho0 | exact Kd.R_base ho0) hb); replace HO278 := Aside0.mk (Kd.N_elder' (by (with_reducible repeat (first | apply Kd.N_alloc | apply Kd.N_drewN | apply Kd.N_drew)); exact (Kd.N_mono (Kd.N_far (p := ⟨gb280, 1, none⟩) (Kd.N_far (p := ⟨gb280, 0, none⟩) (Kd.N_mono HO278.out (fun k_ hk => (⟨hk, hk.2⟩ : _ ∧ k_ ≠ gb280))) (fun _ hk => hk.2) (.int .i64 t275)) (fun _ hk => hk.2) (.slice Ao89 t276.length co89)) (fun _ h_ => h_.1))) (by first | exact Kd.N_base ho0 | exact Kd.R_base ho0) hb); replace BK265 := Aside0.mk (blk_below (g := gb265) (o := .cells #[.int .i64 a0_0, .slice A0_1 l0_1.length c0_1] 24 (0, 0)) (by (with_reducible repeat (first | refine blk_drewN ?_ _ | refine blk_drew ?_ | refine blk_alloc ?_ _)); refine blk_far ?_ NB265_280.out _; (with_reducible repeat (first | refine blk_drewN ?_ _ | refine blk_drew ?_ | refine blk_alloc ?_ _)); refine blk_far ?_ NB265_280.out _; (with_reducible repeat (first | refine blk_drewN ?_ _ | refine blk_drew ?_ | refine blk_alloc ?_ _)); exact BK265.out) hb); replace BK280 := Aside0.mk (blk_below (g := gb280) (o := .cells #[.int .i64 t275, .slice Ao89 t276.length co89] 24 (0, 0)) (by (with_reducible repeat (first | refine blk_drewN ?_ _ | refine blk_drew ?_ | refine blk_alloc ?_ _)); refine blk_put (cs := #[.int .i64 t275, .slice none 0 0]) ?_ 1 _ rfl; (with_reducible repeat (first | refine blk_drewN ?_ _ | refine blk_drew ?_ | refine blk_alloc ?_ _)); refine blk_put (cs := #[.int .i64 0, .slice none 0 0]) ?_ 0 _ rfl; (with_reducible repeat (first | refine blk_drewN ?_ _ | refine blk_drew ?_ | refine blk_alloc ?_ _)); exact BK280.out) hb); replace HB := Aside0.mk (below_step bel hb); (try clear hb); (try clear hb2); (try clear hk); (try clear hi); (try clear ho0)) | ((with_reducible refine gate_dst (N := 11) rfl ?_); (try (refine gate_guard (by rfl) ?_; dsimp only)); refine box_event ?hg (N := 11) ?hd (cs := #[.int .i64 0, .slice none 0 0]) (t := 24) ?hr ?_; (case hd => rfl); (case hg => rfl); (case hr => first | (go_simp; done) | (go_simp; rfl)); intro gb286 hg w91 hbox hb; have BK286 := Aside0.mk (hbox); have GW286 := geB w hg; have GE286 := geB w hg; have NB265_286 := neL BK265 hg; have NB286_265 := neG BK265 hg; have NB280_286 := neL BK280 hg; have NB286_280 := neG BK280 hg; replace HO_266001 := vB HO_266001 hg hb; replace HO278 := nB HO278 hg hb; replace HO284 := nB HO284 hg hb; replace BK265 := blB BK265 hb; replace BK280 := blB BK280 hb; replace HB := Aside0.mk (below_step bel hb); clear hb hbox hg; have hnb92 := NB286_265.out; have hnc92 := NB265_286.out; have hnb93 := NB286_280.out; have hnc93 := NB280_286.out; obtain ⟨hcz94_0, hcz94_1, hfz94_0, hfz94_1⟩ := bq2 BK286; obtain ⟨Ao95, co95, eo95⟩ := Kd.N_slice HO284.out; subst eo95; obtain ⟨hcz96_0, hcz96_1, hfz96_0, hfz96_1⟩ := bq2 BK280) | ((with_reducible refine gate_callee (f := 16) rfl ?_); refine gL (some 59) Tryz.func16 #[.agg #[.int .i64 t275, .slice Ao89 t276.length co89], .int .i64 t279, .agg #[.int .i64 t281, .slice Ao95 t282.length co95], .int .i64 3] ?_; (with_reducible refine (paraphrastlaw01_is.calls kj31 t275 _ _ t276 t279 t281 _ _ t282 3 false _ ?side1 ?side2 ?side3 ?side4 A68.out).mono ?_); (case side1 => refine (Kd.N_reads' (e := 52) (base := w.heap.size) (ok := fun k_ => (((((P0_1_ k_ ∨ w.heap.size ≤ k_) ∧ k_ ≠ gb265) ∧ k_ ≠ gb280) ∧ some k_ ≠ (.slice Ao95 t282.length co95 : Value).ownBlock) ∧ k_ ≠ gb286)) (n := t276.length) (c := co89) ?_).2.2; exact (by (with_reducible repeat (first | apply Kd.N_alloc | apply Kd.N_drewN | apply Kd.N_drew)); exact (Kd.N_mono (Kd.N_far (p := ⟨gb286, 1, none⟩) (Kd.N_far (p := ⟨gb286, 0, none⟩) (Kd.N_mono HO278.out (fun k_ hk => (⟨hk, hk.2⟩ : _ ∧ k_ ≠ gb286))) (fun _ hk => hk.2) (.int .i64 t281)) (fun _ hk => hk.2) (.slice Ao95 t282.length co95)) (fun _ h_ => h_.1)))); (case side2 => exact (Kd.N_reads' HO278.out).2.1); (case side3 => refine (Kd.N_reads' (e := 52) (base := w.heap.size) (ok := fun k_ => (((P0_1_ k_ ∨ w.heap.size ≤ k_) ∧ (some k_ ≠ (.slice Ao89 t276.length co89 : Value).ownBlock ∧ (k_ ≠ gb265 ∧ k_ ≠ gb280))) ∧ k_ ≠ gb286)) (n := t282.length) (c := co95) ?_).2.2; exact (by (with_reducible repeat (first | apply Kd.N_alloc | apply Kd.N_drewN | apply Kd.N_drew)); exact (Kd.N_mono (Kd.N_far (p := ⟨gb286, 1, none⟩) (Kd.N_far (p := ⟨gb286, 0, none⟩) (Kd.N_mono HO284.out (fun k_ hk => (⟨hk, hk.2⟩ : _ ∧ k_ ≠ gb286))) (fun _ hk => hk.2) (.int .i64 t281)) (fun _ hk => hk.2) (.slice Ao95 t282.length co95)) (fun _ h_ => h_.1)))); (case side4 => exact (Kd.N_reads' HO284.out).2.1); rintro e w97 ⟨rfl, hb⟩; refine ⟨_, rfl, ?_⟩; replace HO_266001 := Aside0.mk (Kd.V_below (by (with_reducible repeat (first | apply Kd.V_alloc | apply Kd.V_drewN | apply Kd.V_drew)); exact (Kd.V_mono (Kd.V_far (p := ⟨gb286, 1, none⟩) (Kd.V_far (p := ⟨gb286, 0, none⟩) (Kd.V_mono HO_266001.out (fun k_ hk => (⟨hk, hk.2⟩ : _ ∧ k_ ≠ gb286))) (fun _ hk => hk.2) (.int .i64 t281)) (fun _ hk => hk.2) (.slice Ao95 t282.length co95)) (fun _ h_ => h_.1))) hb); replace HO278 := Aside0.mk (Kd.N_below (by (with_reducible repeat (first | apply Kd.N_alloc | apply Kd.N_drewN | apply Kd.N_drew)); exact (Kd.N_mono (Kd.N_far (p := ⟨gb286, 1, none⟩) (Kd.N_far (p := ⟨gb286, 0, none⟩) (Kd.N_mono HO278.out (fun k_ hk => (⟨hk, hk.2⟩ : _ ∧ k_ ≠ gb286))) (fun _ hk => hk.2) (.int .i64 t281)) (fun _ hk => hk.2) (.slice Ao95 t282.length co95)) (fun _ h_ => h_.1))) hb); replace HO284 := Aside0.mk (Kd.N_below (by (with_reducible repeat (first | apply Kd.N_alloc | apply Kd.N_drewN | apply Kd.N_drew)); exact (Kd.N_mono (Kd.N_far (p := ⟨gb286, 1, none⟩) (Kd.N_far (p := ⟨gb286, 0, none⟩) (Kd.N_mono HO284.out (fun k_ hk => (⟨hk, hk.2⟩ : _ ∧ k_ ≠ gb286))) (fun _ hk => hk.2) (.int .i64 t281)) (fun _ hk => hk.2) (.slice Ao95 t282.length co95)) (fun _ h_ => h_.1))) hb); replace BK265 := Aside0.mk (blk_below (g := gb265) (o := .cells #[.int .i64 a0_0, .slice A0_1 l0_1.length c0_1] 24 (0, 0)) (by (with_reducible repeat (first | refine blk_drewN ?_ _ | refine blk_drew ?_ | refine blk_alloc ?_ _)); refine blk_far ?_ NB265_286.out _; (with_reducible repeat (first | refine blk_drewN ?_ _ | refine blk_drew ?_ | refine blk_alloc ?_ _)); refine blk_far ?_ NB265_286.out _; (with_reducible repeat (first | refine blk_drewN ?_ _ | refine blk_drew ?_ | refine blk_alloc ?_ _)); exact BK265.out) hb); replace BK280 := Aside0.mk (blk_below (g := gb280) (o := .cells #[.int .i64 t275, .slice Ao89 t276.length co89] 24 (0, 0)) (by (with_reducible repeat (first | refine blk_drewN ?_ _ | refine blk_drew ?_ | refine blk_alloc ?_ _)); refine blk_far ?_ NB280_286.out _; (with_reducible repeat (first | refine blk_drewN ?_ _ | refine blk_drew ?_ | refine blk_alloc ?_ _)); refine blk_far ?_ NB280_286.out _; (with_reducible repeat (first | refine blk_drewN ?_ _ | refine blk_drew ?_ | refine blk_alloc ?_ _)); exact BK280.out) hb); replace BK286 := Aside0.mk (blk_below (g := gb286) (o := .cells #[.int .i64 t281, .slice Ao95 t282.length co95] 24 (0, 0)) (by (with_reducible repeat (first | refine blk_drewN ?_ _ | refine blk_drew ?_ | refine blk_alloc ?_ _)); refine blk_put (cs := #[.int .i64 t281, .slice none 0 0]) ?_ 1 _ rfl; (with_reducible repeat (first | refine blk_drewN ?_ _ | refine blk_drew ?_ | refine blk_alloc ?_ _)); refine blk_put (cs := #[.int .i64 0, .slice none 0 0]) ?_ 0 _ rfl; (with_reducible repeat (first | refine blk_drewN ?_ _ | refine blk_drew ?_ | refine blk_alloc ?_ _)); exact BK286.out) hb); replace HB := Aside0.mk (below_step bel hb); (try clear hb); (try clear hb2); (try clear hk); (try clear hi)))
           go_ret
           exact ⟨eN, bel⟩
end Go.Proofs.YtfmpaofbnjlniaaGreatDoor.F
/- ShapeTexts, the plain law. -/
namespace Go.Proofs.YtfmpaofbnjlniaaGreatDoor.F
open Go.RowKit Go.Proofs.YtfmpaofbnjlniaaGreatDoorW.PrintWords Go.Proofs.YtfmpaofbnjlniaaGreatDoorW.PrintLast Go.Proofs.YtfmpaofbnjlniaaGreatDoorW.PrintMore
set_option linter.unusedVariables false
theorem rtext_valid (n : Int) (l : List S52) (h : validB n l = true) : paraphrastref01_Text.f n l = some (mkB (textL n l)) := by
  obtain ⟨_, _, _, h4⟩ := valid_facts n l h
  unfold paraphrastref01_Text.f
  rw [if_pos ⟨okW_valid n l h, fun r hr t ht => ((h4 r hr).2.2.1 t ht).1⟩]
  rfl
theorem is_zero (k : Nat) (hk : 102300 ≤ k) : paraphrastlaw01_is.f k 0 [] 3 0 [] 3 = some true := by
  unfold paraphrastlaw01_is.f
  rw [if_neg (by omega), if_pos rfl, same_refl 0 [] (by simp) (fun r hr => by cases hr) k hk]
  rfl
theorem is_valid (n : Int) (l : List S52) (h : validB n l = true) (k : Nat) (hk : 102300 ≤ k) : paraphrastlaw01_is.f k n l 0 n l 0 = some true := by
  unfold paraphrastlaw01_is.f
  rw [if_pos rfl, if_pos rfl, same_valid n l h k hk]
  rfl
theorem texts_j2 (s : ByteArray) : ∃ K, ∀ k, K ≤ k → paraphrastlaw01_ShapeTexts.j2 k s false = some true := by
  obtain ⟨K, hA⟩ := alive_true
  refine ⟨K + 400000, fun k hk => ?_⟩
  obtain ⟨k, rfl⟩ : ∃ k', k = k' + 1 := ⟨k - 1, by omega⟩
  rw [paraphrastlaw01_ShapeTexts.j2, if_neg (by simp), hA k (by omega)]
  rcases parse_cases s with h | ⟨n, l, hv, hl, hs, hb, h⟩
  · have hr : paraphrastref01_Parse.f k s = some (0, [], false) := by
      rcases rparse_sound s k (by omega) with e | ⟨n, l, e, hv, ht⟩
      · exact e
      · by_cases h4 : (s.size : Int) > 40000
        · unfold paraphrastref01_Parse.f; rw [if_pos h4]
        · have hs : s = mkB (textL n l) := mkB_ext ht
          obtain ⟨_, _, _, h5⟩ := valid_facts n l hv
          have := parse_back n l 40000 (by omega) (fun r hr => by have := (h5 r hr).2.2.2; omega) hv (by rw [← mkB_size, ← hs]; omega) k (by omega)
          rw [← hs, h k (by omega)] at this
          injection this with this
          injection this with _ this
          injection this with _ this
          omega
    rw [h k (by omega), hr]
    simp only [Option.bind_some]
    rw [if_neg (by simp), is_zero k (by omega)]
    rfl
  · rw [h k (by omega), hs, rparse_full n l hv hl k (by omega)]
    simp only [Option.bind_some]
    rw [if_pos trivial, is_valid n l hv k (by omega)]
    rfl
theorem texts_law (n : Int) (l : List S52) (s : ByteArray) (T : Nat) (hT : T ≤ 9223372036854775807) (hall : ∀ r ∈ l, r.f2.length ≤ T) : ∃ k, paraphrastlaw01_ShapeTexts.f k n l s = some true := by
  obtain ⟨K, hA⟩ := alive_true
  obtain ⟨K1, hJ⟩ := texts_j2 s
  obtain ⟨kf, b, hf⟩ := few_ex n l (fun r hr => Nat.le_trans (hall r hr) hT)
  refine ⟨kf + K + K1 + T + 200003, ?_⟩
  unfold paraphrastlaw01_ShapeTexts.f
  rw [at_rounds (paraphrastlaw01_Few.mono _) (show kf ≤ kf + K + K1 + T + 200003 by omega) hf]
  simp only [Option.bind_some]
  generalize hk : kf + K + K1 + T + 200000 = k
  rw [show kf + K + K1 + T + 200003 = k + 3 by omega]
  have hj : paraphrastlaw01_ShapeTexts.j0 (k + 3) s true n l = some true := by
    rw [paraphrastlaw01_ShapeTexts.j0, if_pos rfl, hA (k + 2) (by omega)]; rfl
  have hj1 : ∀ (x : ByteArray) (e : Int), paraphrastlaw01_ShapeTexts.j1 (k + 2) s x e x e = some true := fun x e => by
    rw [paraphrastlaw01_ShapeTexts.j1, if_pos rfl, bne_self_eq_false]
    exact hJ (k + 1) (by omega)
  cases b with
  | false => rw [if_neg (by simp)]; exact hj
  | true =>
    rw [if_pos rfl]
    by_cases h1 : (s.size : Int) > 45000
    · rw [decide_eq_true h1]; exact hj
    · rw [decide_eq_false h1, paraphrastlaw01_ShapeTexts.j0, if_neg (by simp), text_eq n l T hT hall (k + 2) (by omega), ref_valid_eq n l T hT hall (k + 2) (by omega)]
      simp only [Option.bind_some]
      cases hv : validB n l with
      | false =>
        rw [if_neg (show ¬ (false = true) by simp), if_neg (show ¬ (false = true) by simp)]
        exact hj1 _ _
      | true =>
        rw [if_pos rfl, if_pos rfl, rtext_valid n l hv, Option.bind_some, mkB_size]
        by_cases h2 : 40000 < (textL n l).length
        · rw [if_pos h2, if_pos (by omega)]
          exact hj1 _ _
        · rw [if_neg h2, if_neg (by omega)]
          exact hj1 _ _
end Go.Proofs.YtfmpaofbnjlniaaGreatDoor.F
/- ShapeTexts: the row and its card. -/
namespace Go.Proofs.YtfmpaofbnjlniaaGreatDoor.F
open Go.RowKit Go.WideShapes Go.ChangeShapes Go.ChangeAt Go.Proofs.YtfmpaofbnjlniaaGreatDoorW.PrintWords Go.Proofs.YtfmpaofbnjlniaaGreatDoorW.PrintLast Go.Proofs.YtfmpaofbnjlniaaGreatDoorW.PrintMore
open Go.ChangeMaps (open_string shut_string)
set_option linter.unusedVariables false
set_option linter.unusedSimpArgs false
set_option maxHeartbeats 1000000 in
set_option maxRecDepth 100000 in
theorem shapeTexts_lifted (os : Os) (started : os.Started) (H : Type) (enc : TypeId × Value → H) :
    ReturnsInHanded {} Tryz.checked os 3 .any (fun w args => (Rows.shapeTextsSpec.pre enc Tryz.prog Tryz.f3 Rows.shapeTextsRow.domain false w args ∧ laidMetH Tryz.prog laidL w) ∧ sizedMet enc Tryz.prog Tryz.f3 (OpenSpec.ofChange Rows.shapeTextsSpec) false w args)
      (Rows.shapeTextsSpec.post enc Tryz.prog Tryz.f3 false true false false) := by
  refine returns_and_shaped (C := Tryz.checked) (X := fun w _ => laidMetH Tryz.prog laidL w) (fun _ _ _ hh h => h.of_heap hh) own started (by kernel_rfl) Tryz.func3
    (ChangeSpec.witness_shaped (enc := enc) (C := Tryz.checked) (os := os) (X := fun w _ => laidMetH Tryz.prog laidL w) false (World.laidAll Tryz.prog os laidL) #[.agg #[.int .i64 0, .slice none 0 0], .string ByteArray.empty] 8 (World.laidAll_os _ _ _)
      (World.shaped_of_ZipB (by kernel_rfl) (by kernel_rfl)) (by kernel_rfl) (by kernel_rfl) (by kernel_rfl)
      (by rw [MakeChecks.laidMetH_plain _ _ _ (by kernel_rfl)]; exact laidMet_laidAll _ (by kernel_rfl) (by kernel_rfl))) ?_
  intro W base args ds gs before hval0 hW hsh hL
  have hval : ∀ (j : Nat) t v, Tryz.f3.params[j]? = some t → args[j]? = some v → Value.okWide Tryz.prog W .any base t v := hval0
  have hW' := hW
  obtain ⟨p, q, hA0, hV, rfl, hfz, hnd⟩ := hW
  have hA : DataW.TrodAll enc Tryz.prog W 0 (fun _ => true) true Tryz.f3.params.toList args.toList ds p := hA0
  rw [Tryz.params3] at hA hval
  obtain ⟨v0, vs0, d0, ds0, p0, q0, hargs, rfl, rfl, h0, r0⟩ := trodAll_cons hA
  obtain ⟨v1, vs1, d1, ds1, p1, q1, rfl, rfl, rfl, h1, r1⟩ := trodAll_cons r0
  obtain ⟨rfl, rfl, rfl⟩ := trodAll_nil r1
  obtain rfl : args = #[v0, v1] := by cases args; simp_all
  obtain ⟨rfl, rfl⟩ := trodVars_none hV
  have k0 := h0
  have lt0 : ∀ x ∈ p0, x.block < W.heap.size := by obtain ⟨m, hm⟩ := k0; exact DataW.trod_lt m _ _ _ hm
  obtain ⟨cs0, rfl, _⟩ := okWide_struct Tryz.underlying24 (hval 0 24 v0 rfl rfl)
  obtain ⟨m0, e0⟩ := h0
  obtain ⟨⟨x0, l0⟩, hK0⟩ := opens_structure enc _ _ _ e0
  obtain ⟨A0, c0, ec0, hlc0, hC0⟩ := k24_open hK0
  obtain rfl : cs0 = #[.int .i64 x0, .slice A0 l0.length c0] := Array.ext' (by simpa [Value.cells] using ec0)
  obtain ⟨a1, rfl, rfl, rfl, y1⟩ := open_string Tryz.underlying9 (hval 1 9 v1 rfl rfl) h1
  obtain ⟨k, hk⟩ := texts_law x0 l0 a1 9223372036854775807 (Nat.le_refl _) (rels_max hC0)
  refine (paraphrastlaw01_ShapeTexts.calls k x0 (fun k => k < W.heap.size) A0 c0 l0 a1 true W (glob_of_laid hsh hL) (Kd.V_mk hlc0 (Kd.C_F k52_heap hC0)) hk).mono fun e W' he => ?_
  obtain ⟨he, bel⟩ := he
  subst he
  exact ⟨_, rfl, _, _, _, [], _, [], hW', trodAll_mk1 (shut_bool Tryz.underlying4 _), (trodAll_cons_mk (Below.trod laidOut (by kernel_rfl) (of_decide_eq_true (by kernel_rfl)) k0 bel lt0) (trodAll_cons_mk (shut_string Tryz.underlying9 y1) trodAll_mk0)), rfl, bel.frame _, fun h => by cases h⟩
theorem shapeTexts_holds : Rows.ShapeTextsSaid :=
  OpenClaim.holds_of_wide 3 Tryz.f3 rfl rfl rfl rfl rfl rfl rfl ⟨rfl, rfl, rfl, rfl, rfl⟩ rfl rfl rfl rfl rfl (by kernel_rfl) Tryz.func3 (by kernel_rfl)
    (of_decide_eq_true (by kernel_rfl)) (by unfold Func.isWrapper; first | (rw [if_pos (by decide +kernel)]; kernel_rfl) | (rw [if_neg (by decide +kernel)]; exact ⟨rfl, rfl⟩))
    (fun os started H enc _ => shapeTexts_lifted os started H enc)
end Go.Proofs.YtfmpaofbnjlniaaGreatDoor.F
namespace Go.Proofs.YtfmpaofbnjlniaaGreatDoor
open F
theorem shapeTexts_card : Rows.ShapeTextsCardSaid :=
  Claim7.holds_tied_plain_at .later [] [.data, .data, .data, .data, .sentinel, .sentinel, .pinned] true (true, "0b2e56867fdebc6e4a4706954466a18a4e5a5153ee6e2b3ed723d8acf71f299f") true shapeTexts_holds (fun _ h => by cases h) (by kernel_rfl) (fun _ h => by cases h) shapeTexts_row_tie rfl ⟨rfl, rfl⟩ (by kernel_rfl) rfl
    (fun f fn hf hfn => by
      obtain rfl : f = 3 := Option.some.inj ((show Tryz.prog.funcNamed "paraphrast/paraphrastlaw01.ShapeTexts" = some 3 by kernel_rfl).symm.trans hf) |>.symm
      obtain rfl : fn = Tryz.f3 := (Option.some.inj (Tryz.func3.symm.trans hfn)).symm
      exact ⟨by kernel_rfl, fun j t ht => by
        rw [Tryz.params3] at ht
        have hm : t ∈ [24, 9] := by simpa using Array.mem_of_getElem? ht
        have hall : ([24, 9].all fun u => !Tryz.prog.wantsStandIn u) = true := by kernel_rfl
        exact (show Tryz.prog.wantsStandIn t = false by simpa using List.all_eq_true.1 hall t hm)⟩)
    (by kernel_rfl)
#print axioms shapeTexts_card
end Go.Proofs.YtfmpaofbnjlniaaGreatDoor
