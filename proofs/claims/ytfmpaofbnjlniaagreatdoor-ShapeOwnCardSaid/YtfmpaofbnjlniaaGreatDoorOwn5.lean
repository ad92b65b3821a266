/- Part 5 of the proof: ShapeOwn: no function modifies its arguments, and results share memory neither with arguments nor with other results; for every structure, change, list of numbers and list of symbols. -/
import Derived.Test.YtfmpaofbnjlniaaGreatDoorOwn4
import Derived.Maps.OwnSet
import Derived.Shelf.SlSortCmp.Kit1
import Derived.Shelf.SlLaysF
import Derived.Ground.SlsfProg
import Derived.Test.YtfmpaofbnjlniaaGreatDoorProg
import Derived.Shelf.SlSortCmp.NoneTotal
import Derived.Orders
import Derived.Laws.AppendOwn
import Derived.Maps.AppendAt
import Derived.Deep.LoopGhost
import Derived.WalkKit
namespace Go.Proofs.YtfmpaofbnjlniaaGreatDoor.F
open Go.RowKit Go.Proofs.YtfmpaofbnjlniaaGreatDoorW.PrintWords Go.Proofs.YtfmpaofbnjlniaaGreatDoorW.PrintLast Go.Proofs.YtfmpaofbnjlniaaGreatDoorW.PrintMore
attribute [local go_sem] max2_int min2_int max_two min_two max_three min_three max_four min_four
set_option linter.unusedVariables false
set_option linter.unusedSimpArgs false
/-! ### paraphrastref01_Copy: function 36 -/
def paraphrastref01_Copy.l0 : Nat → Int → Int → List (S52) → Int → List (S52) → Option (Int × (List (S52)))
 | 0, _, _, _, _, _ => none
 | k + 1, x4, x401000, x401001, x403000, x403001 => if x4 < (x401001.length : Int) then (if 0 ≤ x4 then ((paraphrastref01_copied.f k ((rd_T52 x401001 x4).f2)).bind fun t406 => (if x403001.length < 2932031007402 then (paraphrastref01_Copy.l0 k (wrap64 (x4 + 1)) x401000 x401001 x403000 (x403001 ++ [(⟨(rd_T52 x401001 x4).f0, (rd_T52 x401001 x4).f1, t406⟩ : S52)])) else (none))) else (none)) else (some (x403000, x403001))
def paraphrastref01_Copy.f (k : Nat) (a0_0 : Int) (l0_1 : List (S52)) : Option (Int × (List (S52))) := paraphrastref01_Copy.l0 k 0 a0_0 l0_1 a0_0 ([] : List (S52))
def paraphrastref01_Copy.T5 : Bool × List (List Nat × List Nat) := (true, [([], []), ([0], [0]), ([], []), ([2], [2]), ([], []), ([3, 4], [3, 4]), ([5], [5]), ([6], [6]), ([], []), ([8], [8]), ([], []), ([9, 10], [9, 10]), ([11], [11]), ([12], [12]), ([], []), ([14], [14]), ([], []), ([15, 16], [15, 16]), ([17], [17]), ([18], [18]), ([19], [19]), ([7, 13, 20], [7, 13, 20]), ([21], [21]), ([1, 22, 20], [1, 22]), ([0, 1, 2, 3, 4, 5, 6, 7, 8, 9, 10, 11, 12, 13, 14, 15, 16, 17, 18, 19, 20, 21, 22, 23], []), ([24, 23, 23, 0, 1, 2, 3, 4, 5, 6, 7, 8, 9, 10, 11, 12, 13, 14, 15, 16, 17, 18, 19, 20, 21, 22, 23], [23, 24])])
def paraphrastref01_Copy.B5 : List Nat := [0, 1, 0, 4, 0, 28, 60, 124, 0, 256, 0, 1792, 3840, 7936, 0, 16384, 0, 114688, 245760, 507904, 1032192, 2097148, 4194300, 8388607, 16777215, 33554431]
theorem paraphrastref01_Copy.tab5 : rtab .any (opsOf Tryz.f36 5) = paraphrastref01_Copy.T5 := by kernel_rfl
theorem paraphrastref01_Copy.bits5 : waitsOk paraphrastref01_Copy.T5.2 paraphrastref01_Copy.B5 = true := by kernel_rfl
set_option maxHeartbeats 8000000 in
set_option maxRecDepth 100000 in
theorem paraphrastref01_Copy.calls (k : Nat) (a0_0 : Int) (A0_1 : Option Addr) (c0_1 : Nat) (l0_1 : List (S52)) (r1 : Int) (r2 : List (S52)) (w : World) (hr0_1 : Kd.C k52 w A0_1 l0_1.length l0_1) (hc0_1 : l0_1.length ≤ c0_1) (h : paraphrastref01_Copy.f k a0_0 l0_1 = some (r1, r2)) :
  Calls Tryz.prog 36 #[.agg #[.int .i64 a0_0, .slice A0_1 l0_1.length c0_1]] w fun e w' => ∃ v1_ : Value, e = .returned (.agg #[.int .i64 r1, v1_]) ∧ Kd.R k52 52 w' w.heap.size (fun _ => True) v1_ r2 ∧ Below w.heap.size w w' := by
 have hu24 := Tryz.underlying24
 have hu52 := Tryz.underlying52
 have HR0_1 := Aside0.mk hr0_1
 have HC0_1 := Aside0.mk hc0_1
 clear hr0_1 hc0_1
 have HB := Aside0.mk (Below.refl w.heap.size w)
 have H : (paraphrastref01_Copy.l0 k 0 a0_0 l0_1 a0_0 ([] : List (S52))) = some (r1, r2) := h
 clear h
 have H' := Aside0.mk H
 clear H
 go_enter Tryz.func36, Tryz.ntmps36
 go_wp2_with (first | ((with_reducible refine gate_dst (N := 1) rfl ?_); refine box_event ?hg (N := 1) ?hd (cs := #[.int .i64 a0_0, .slice A0_1 l0_1.length c0_1]) (t := 24) ?hr ?_; (case hd => rfl); (case hg => rfl); (case hr => first | (go_simp; done) | (go_simp; rfl)); intro gb400 hg w2 hbox hb; have BK400 := Aside0.mk (hbox); have GW400 := geB w hg; have GE400 := geB w hg; replace HB := Aside0.mk (below_step bel hb); clear hb hbox hg) | ((with_reducible refine gate_dst (N := 2) rfl ?_); refine box_event ?hg (N := 2) ?hd (cs := #[.int .i64 0, .slice none 0 0]) (t := 24) ?hr ?_; (case hd => rfl); (case hg => rfl); (case hr => first | (go_simp; done) | (go_simp; rfl)); intro gb401 hg w3 hbox hb; have BK401 := Aside0.mk (hbox); have GW401 := geB w hg; have GE401 := geB w hg; have NB400_401 := neL BK400 hg; have NB401_400 := neG BK400 hg; replace BK400 := blB BK400 hb; replace HB := Aside0.mk (below_step bel hb); clear hb hbox hg; have hnb4 := NB400_401.out; have hnc4 := NB401_400.out; obtain ⟨hcz5_0, hcz5_1, hfz5_0, hfz5_1⟩ := bq2 BK400) | ((with_reducible refine gate_dst (N := 3) rfl ?_); refine box_event ?hg (N := 3) ?hd (cs := #[.int .i64 0, .slice none 0 0]) (t := 24) ?hr ?_; (case hd => rfl); (case hg => rfl); (case hr => first | (go_simp; done) | (go_simp; rfl)); intro gb402 hg w6 hbox hb; have BK402 := Aside0.mk (hbox); have GW402 := geB w hg; have GE402 := geB w hg; have NB400_402 := neL BK400 hg; have NB402_400 := neG BK400 hg; have NB401_402 := neL BK401 hg; have NB402_401 := neG BK401 hg; replace BK400 := blB BK400 hb; replace BK401 := blB BK401 hb; replace HB := Aside0.mk (below_step bel hb); clear hb hbox hg; have hnb7 := NB402_400.out; have hnc7 := NB400_402.out; have hnb8 := NB402_401.out; have hnc8 := NB401_402.out; obtain ⟨hcz9_0, hcz9_1, hfz9_0, hfz9_1⟩ := bq2 BK402))
 go_loopg [4] k (fun kq v4 w' => ∃ (x4_1 : Int) (x403001_1 : List (S52)) (u403001 : Value), v4 = .int .i64 x4_1 ∧ Aside0 (paraphrastref01_Copy.l0 kq x4_1 a0_0 l0_1 a0_0 x403001_1 = some (r1, r2)) ∧ Aside0 (kq ≤ k) ∧ Aside0 (Kd.R k52 52 w' w.heap.size (fun _ => True) u403001 x403001_1) ∧ Aside0 (w'.heap[gb400]? = some (.cells #[.int .i64 a0_0, (.slice A0_1 l0_1.length c0_1)] 24 (0, 0))) ∧ Aside0 (w'.heap[gb401]? = some (.cells #[.int .i64 0, (.slice none 0 0)] 24 (0, 0))) ∧ Aside0 (w'.heap[gb402]? = some (.cells #[.int .i64 a0_0, u403001] 24 (0, 0))) ∧ Aside0 (Below w.heap.size w w'))
 case atStart => exact ⟨(0), (([] : List (S52))), (.slice none 0 0), eS, H', ⟨Nat.le_refl _⟩, ⟨by first | exact Kd.R_nil _ _ _ _ _ | exact Kd.N_nil _ _ _ _ _ | exact Kd.V_nil _ _ _ _ _ | exact Kd.Q_nil _ _ _ _ _ | exact Kd.S_nil _ _ _ _ _⟩, ⟨by (with_reducible repeat (first | refine blk_drewN ?_ _ | refine blk_drew ?_ | refine blk_alloc ?_ _)); refine blk_far ?_ NB400_402.out _; (with_reducible repeat (first | refine blk_drewN ?_ _ | refine blk_drew ?_ | refine blk_alloc ?_ _)); refine blk_far ?_ NB400_402.out _; (with_reducible repeat (first | refine blk_drewN ?_ _ | refine blk_drew ?_ | refine blk_alloc ?_ _)); exact BK400.out⟩, ⟨by (with_reducible repeat (first | refine blk_drewN ?_ _ | refine blk_drew ?_ | refine blk_alloc ?_ _)); refine blk_far ?_ NB401_402.out _; (with_reducible repeat (first | refine blk_drewN ?_ _ | refine blk_drew ?_ | refine blk_alloc ?_ _)); refine blk_far ?_ NB401_402.out _; (with_reducible repeat (first | refine blk_drewN ?_ _ | refine blk_drew ?_ | refine blk_alloc ?_ _)); exact BK401.out⟩, ⟨by (with_reducible repeat (first | refine blk_drewN ?_ _ | refine blk_drew ?_ | refine blk_alloc ?_ _)); refine blk_put (cs := #[.int .i64 a0_0, .slice none 0 0]) ?_ 1 _ rfl; (with_reducible repeat (first | refine blk_drewN ?_ _ | refine blk_drew ?_ | refine blk_alloc ?_ _)); refine blk_put (cs := #[.int .i64 0, .slice none 0 0]) ?_ 0 _ rfl; (with_reducible repeat (first | refine blk_drewN ?_ _ | refine blk_drew ?_ | refine blk_alloc ?_ _)); exact BK402.out⟩, ⟨bel⟩⟩
 case round =>
  clear H'
  (try clear hcz5_0); (try clear hcz5_1); (try clear hcz9_0); (try clear hcz9_1); (try clear hfz5_0); (try clear hfz5_1); (try clear hfz9_0); (try clear hfz9_1)
  obtain ⟨x4_1, x403001_1, u403001, rfl, HA, HK1, HO_403001, BK400, BK401, BK402, HB⟩ := hrel
  cases gk with
  | zero => exact absurd HA.out (by simp [paraphrastref01_Copy.l0])
  | succ k1 =>
   have H := HA.out
   clear HA
   simp only [paraphrastref01_Copy.l0] at H
   by_cases c10 : x4_1 < (l0_1.length : Int)
   ·rw [if_pos c10] at H
    have c10b0 : decide (x4_1 < (l0_1.length : Int)) = true := decide_eq_true c10
    clear c10
    by_cases c11 : 0 ≤ x4_1
    ·rw [if_pos c11] at H
     have c11b0 : decide (0 ≤ x4_1) = true := decide_eq_true c11
     clear c11
     replace H := Option.bind_eq_some_iff.mp H
     obtain ⟨t406, A120, H⟩ := H
     replace H : (if x403001_1.length < 2932031007402 then (paraphrastref01_Copy.l0 k1 (wrap64 (x4_1 + 1)) a0_0 l0_1 a0_0 (x403001_1 ++ [(⟨(rd_T52 l0_1 x4_1).f0, (rd_T52 l0_1 x4_1).f1, t406⟩ : S52)])) else (none)) = some (r1, r2) := H
     have A12 := Aside0.mk A120
     clear A120
     by_cases c13 : x403001_1.length < 2932031007402
     ·rw [if_pos c13] at H
      have LMc13 := Aside0.mk c13
      clear c13
      obtain ⟨y409, hy409⟩ : ∃ y_ : List (S52), y_ = (x403001_1 ++ [(⟨(rd_T52 l0_1 x4_1).f0, (rd_T52 l0_1 x4_1).f1, t406⟩ : S52)]) := ⟨_, rfl⟩
      replace H : (paraphrastref01_Copy.l0 k1 (wrap64 (x4_1 + 1)) a0_0 l0_1 a0_0 y409) = some (r1, r2) := by first | (rw [hy409]; with_reducible exact H) | (have H2_ := (Option.bind_some _ _).symm.trans H; rw [hy409]; with_reducible exact H2_) | (have H2_ := (Option.bind_some _ _).symm.trans H; with_reducible exact H2_) | with_reducible exact H | (rw [hy409]; exact H) | exact H
      have Ny409 := Aside0.mk hy409
      clear hy409
      have H' := Aside0.mk H
      clear H
      have hnb14 := NB400_401.out
      have hnc14 := NB401_400.out
      have hnb15 := NB400_402.out
      have hnc15 := NB402_400.out
      obtain ⟨hcz16_0, hcz16_1, hfz16_0, hfz16_1⟩ := bq2 BK400
      try go_wp2
      replace HO_403001 := Aside0.mk (Kd.R_drew HO_403001.out)
      replace BK400 := Aside0.mk (blk_drew BK400.out)
      replace BK401 := Aside0.mk (blk_drew BK401.out)
      replace BK402 := Aside0.mk (blk_drew BK402.out)
      replace HB := Aside0.mk (below_drew1 HB.out)
      have p403 : 0 ≤ (x4_1 : Int) := dtr
      have q403 : x4_1 < (l0_1.length : Int) := dtr
      obtain ⟨ad403, A403_2, c403_2, e403, hx403_0, hx403_1, hx403_2, hl403_2, hi403_2⟩ := at_T52 HR0_1.out x4_1 p403 q403
      have hw403_2 := hx403_2
      have hw403_1 := hx403_1
      have hw403_0 := hx403_0
      cases e403
      replace hx403_0 := oc hx403_0
      replace hx403_1 := oc hx403_1
      replace hx403_2 := oc hx403_2
      have HR403_2 := Aside0.mk hi403_2
      have HC403_2 := Aside0.mk hl403_2
      clear hi403_2 hl403_2
      replace p403 := eq_true p403
      replace q403 := eq_true q403
      have p404 : 0 ≤ (x4_1 : Int) := dtr
      have q404 : x4_1 < (l0_1.length : Int) := dtr
      obtain ⟨ad404, A404_2, c404_2, e404, hx404_0, hx404_1, hx404_2, hl404_2, hi404_2⟩ := at_T52 HR0_1.out x4_1 p404 q404
      have hw404_2 := hx404_2
      have hw404_1 := hx404_1
      have hw404_0 := hx404_0
      obtain rfl : ad403 = ad404 := (by injection e404)
      replace hx404_0 := oc hx404_0
      replace hx404_1 := oc hx404_1
      replace hx404_2 := oc hx404_2
      have HR404_2 := Aside0.mk hi404_2
      have HC404_2 := Aside0.mk hl404_2
      clear hi404_2 hl404_2
      replace p404 := eq_true p404
      replace q404 := eq_true q404
      have ea_ := Option.some.inj (hx403_2.symm.trans hx404_2)
      injection ea_ with ea_ en_ ec_
      subst ea_
      subst ec_
      clear en_
      have p405 : 0 ≤ (x4_1 : Int) := dtr
      have q405 : x4_1 < (l0_1.length : Int) := dtr
      obtain ⟨ad405, A405_2, c405_2, e405, hx405_0, hx405_1, hx405_2, hl405_2, hi405_2⟩ := at_T52 HR0_1.out x4_1 p405 q405
      have hw405_2 := hx405_2
      have hw405_1 := hx405_1
      have hw405_0 := hx405_0
      obtain rfl : ad403 = ad405 := (by injection e405)
      replace hx405_0 := oc hx405_0
      replace hx405_1 := oc hx405_1
      replace hx405_2 := oc hx405_2
      have HR405_2 := Aside0.mk hi405_2
      have HC405_2 := Aside0.mk hl405_2
      clear hi405_2 hl405_2
      replace p405 := eq_true p405
      replace q405 := eq_true q405
      have ea_ := Option.some.inj (hx403_2.symm.trans hx405_2)
      injection ea_ with ea_ en_ ec_
      subst ea_
      subst ec_
      clear en_
      refine start_ (n := 26) (S := fun w' => w'.cell? ⟨gb402, 0, none⟩ = some (.int .i64 a0_0) ∧ w'.cell? ⟨gb402, 1, none⟩ = some (u403001) ∧ w'.cell? ⟨gb400, 0, none⟩ = some (.int .i64 a0_0) ∧ w'.cell? ⟨gb400, 1, none⟩ = some (.slice (some ad403) l0_1.length c0_1) ∧ w'.cell? (ad403.add ((x4_1).toNat * 3)) = some (.string ((rd_T52 l0_1 x4_1).f0)) ∧ w'.cell? ⟨(ad403.add ((x4_1).toNat * 3)).block, (ad403.add ((x4_1).toNat * 3)).off + 1, none⟩ = some (.int .i64 ((rd_T52 l0_1 x4_1).f1)) ∧ w'.cell? ⟨(ad403.add ((x4_1).toNat * 3)).block, (ad403.add ((x4_1).toNat * 3)).off + 2, none⟩ = some (.slice A403_2 ((rd_T52 l0_1 x4_1).f2).length c403_2) ∧ w'.cell? (ad403.add ((x4_1).toNat * 3)) = some (.string ((rd_T52 l0_1 x4_1).f0)) ∧ w'.cell? ⟨(ad403.add ((x4_1).toNat * 3)).block, (ad403.add ((x4_1).toNat * 3)).off + 1, none⟩ = some (.int .i64 ((rd_T52 l0_1 x4_1).f1)) ∧ w'.cell? ⟨(ad403.add ((x4_1).toNat * 3)).block, (ad403.add ((x4_1).toNat * 3)).off + 2, none⟩ = some (.slice A403_2 ((rd_T52 l0_1 x4_1).f2).length c403_2) ∧ w'.cell? (ad403.add ((x4_1).toNat * 3)) = some (.string ((rd_T52 l0_1 x4_1).f0)) ∧ w'.cell? ⟨(ad403.add ((x4_1).toNat * 3)).block, (ad403.add ((x4_1).toNat * 3)).off + 1, none⟩ = some (.int .i64 ((rd_T52 l0_1 x4_1).f1)) ∧ w'.cell? ⟨(ad403.add ((x4_1).toNat * 3)).block, (ad403.add ((x4_1).toNat * 3)).off + 2, none⟩ = some (.slice A403_2 ((rd_T52 l0_1 x4_1).f2).length c403_2)) (ds := [25]) #[false, false, false, false, false, false, false, false, false, false, false, false, false, false, false, false, false, false, false, false, false, false, false, false, false, false] (by kernel_rfl) rfl rfl ⟨(blk_cell BK402.out 0).trans rfl, (blk_cell BK402.out 1).trans rfl, (blk_cell BK400.out 0).trans rfl, (blk_cell BK400.out 1).trans rfl, (oc hw403_0), (oc hw403_1), (oc hw403_2), (oc hw404_0), (oc hw404_1), (oc hw404_2), (oc hw405_0), (oc hw405_1), (oc hw405_2)⟩ (fun hHeld => ?_); refine with_tabW paraphrastref01_Copy.tab5 paraphrastref01_Copy.bits5 (fun HT_ HW_ => ?_)
      generalize wr.drew = w17 at HO_403001 BK400 BK401 BK402 HB HR403_2 HR404_2 HR405_2 hx403_0 hx403_1 hx403_2 hx404_0 hx404_1 hx404_2 hx405_0 hx405_1 hx405_2 hHeld ⊢
      refine sPu 0 (some 15) ?_
      refine sPu 2 (some 17) ?_
      refine sPu 4 (some 19) ?_
      refine sPu 8 (some 23) ?_
      refine sPu 10 (some 25) ?_
      refine sPu 14 (some 29) ?_
      refine sPu 16 (some 31) ?_
      refine sTk 1 (some 16) ?_
      refine sTk 3 (some 18) ?_
      refine sPu 5 (some 20) ?_
      refine sPu 6 (some 21) ?_
      refine sTk 7 (some 22) ?_
      refine sTk 9 (some 24) ?_
      refine sPu 11 (some 26) ?_
      refine sPu 12 (some 27) ?_
      refine sTk 13 (some 28) ?_
      refine sTk 15 (some 30) ?_
      refine sPu 17 (some 32) ?_
      refine sPu 18 (some 33) ?_
      refine sTk 19 (some 34) ?_
      refine sOn 20 (some 35) (fun K hK => ?_)
      refine goes_ Tryz.func53 (by kernel_rfl) rfl #[.slice A403_2 ((rd_T52 l0_1 x4_1).f2).length c403_2] (by rfl) rfl rfl (by (try simp only [List.map_toArray, List.map_cons, List.map_nil]); first | done | rfl | (simp only [List.length_drop, List.length_take]; rfl)) ?_
      with_reducible refine (paraphrastref01_copied.calls k1 _ _ ((rd_T52 l0_1 x4_1).f2) t406 _ ?side1 ?side2 A12.out).mono ?_
      (case side1 => exact cS (Kd.C_below HR405_2.out HB.out))
      (case side2 => exact HC405_2.out)
      rintro e w18 ⟨v407, rfl, ho0, hb⟩
      refine ⟨_, rfl, ?_⟩
      have HO408 := Aside0.mk (Kd.S_lower ho0 (below_size bel))
      replace HO_403001 := rE HO_403001 (Kd.S_base ho0) hb
      replace BK400 := blB BK400 hb
      replace BK401 := blB BK401 hb
      replace BK402 := blB BK402 hb
      replace HB := Aside0.mk (below_step bel hb)
      (try clear hb)
      (try clear hb2)
      (try clear hk)
      (try clear hi)
      (try clear ho0)
      obtain ⟨Ao19, co19, eo19⟩ := Kd.S_slice HO408.out
      (first | subst eo19 | (injection eo19 with f1_ f2_ f3_; have f4_ := f1_.symm; have f5_ := f3_.symm; clear f1_ f2_ f3_; subst f4_; subst f5_))
      refine hK.out _ _ ⟨(blk_cell BK402.out 0).trans rfl, (blk_cell BK402.out 1).trans rfl, (blk_cell BK400.out 0).trans rfl, (blk_cell BK400.out 1).trans rfl, (oc hw403_0), (oc hw403_1), (oc hw403_2), (oc hw404_0), (oc hw404_1), (oc hw404_2), (oc hw405_0), (oc hw405_1), (oc hw405_2)⟩ (fun hHeld => ?_)
      clear hK K
      refine norm_ (a' := ?_) ?_ ?_
      rotate_left
      ·show Act.put _ (some 35) _ = _
       simp only [Act.put, List.setIfInBounds_toArray, List.set_cons_zero, List.set_cons_succ, i64_w, i32_w]
       rfl
      refine sPu 21 (some 36) ?_
      refine sOn 22 (some 37) (fun K hK => ?_)
      refine value_ (w1 := ?_) (v := ?_) (by rfl) rfl ?_ ?_
      rotate_left 2
      ·go_simp
       constructor
       ·rfl
       ·rfl
      refine hK.out _ _ ⟨(blk_cell (blk_alloc BK402.out _) 0).trans rfl, (blk_cell (blk_alloc BK402.out _) 1).trans rfl, (blk_cell (blk_alloc BK400.out _) 0).trans rfl, (blk_cell (blk_alloc BK400.out _) 1).trans rfl, (World.cell?_alloc_lt _ _ _ (World.block_lt_of_cell? _ _ ((oc hw403_0)))).trans ((oc hw403_0)), (World.cell?_alloc_lt _ _ _ (World.block_lt_of_cell? _ _ ((oc hw403_1)))).trans ((oc hw403_1)), (World.cell?_alloc_lt _ _ _ (World.block_lt_of_cell? _ _ ((oc hw403_2)))).trans ((oc hw403_2)), (World.cell?_alloc_lt _ _ _ (World.block_lt_of_cell? _ _ ((oc hw404_0)))).trans ((oc hw404_0)), (World.cell?_alloc_lt _ _ _ (World.block_lt_of_cell? _ _ ((oc hw404_1)))).trans ((oc hw404_1)), (World.cell?_alloc_lt _ _ _ (World.block_lt_of_cell? _ _ ((oc hw404_2)))).trans ((oc hw404_2)), (World.cell?_alloc_lt _ _ _ (World.block_lt_of_cell? _ _ ((oc hw405_0)))).trans ((oc hw405_0)), (World.cell?_alloc_lt _ _ _ (World.block_lt_of_cell? _ _ ((oc hw405_1)))).trans ((oc hw405_1)), (World.cell?_alloc_lt _ _ _ (World.block_lt_of_cell? _ _ ((oc hw405_2)))).trans ((oc hw405_2))⟩ (fun hHeld => ?_)
      clear hK K
      refine norm_ (a' := ?_) ?_ ?_
      rotate_left
      ·show Act.put _ (some 37) _ = _
       simp only [Act.put, List.setIfInBounds_toArray, List.set_cons_zero, List.set_cons_succ, i64_w, i32_w]
       rfl
      refine sOn 23 (some 38) (fun K hK => ?_)
      refine Kd.R_append_step k52 (w0 := w) w.heap.size (by rfl) (.tmp 16) (.tmp 37) 22 52 (.agg #[(.string ⟨#[]⟩), (.int .i64 0), (.slice none 0 0)]) 48 rfl Tryz.underlying22 info52 rfl (by decide) (by omega) u403001 x403001_1 (⟨(rd_T52 l0_1 x4_1).f0, (rd_T52 l0_1 x4_1).f1, t406⟩ : S52) [.string ((rd_T52 l0_1 x4_1).f0), .int .i64 ((rd_T52 l0_1 x4_1).f1), .slice Ao19 t406.length co19] (fun _ => True) (fun k_ => ((fun _ => True)) k_ ∧ some k_ ≠ (u403001 : Value).ownBlock) rfl rfl ?aP (fun _ hk => hk) ?aF ?aO ?aB ?aS ?aL ?_
      (case aP => exact k52_mkM _ _ _ (⟨(rd_T52 l0_1 x4_1).f0, (rd_T52 l0_1 x4_1).f1, t406⟩ : S52) (Kd.R_mono (Kd.R_apart' ((Kd.S_R HO408.out)) (Kd.R_typed HO_403001.out) (by decide)) (fun k_ hk => ⟨trivial, hk.2⟩)))
      (case aB => exact bel)
      (case aF => exact (fun _ _ => trivial))
      (case aO => exact (by (with_reducible repeat (first | apply Kd.R_alloc | apply Kd.R_drewN | apply Kd.R_drew)); exact Kd.R_mono HO_403001.out (fun _ hk => trivial)))
      (case aS => exact (below_size bel))
      (case aL => have := LMc13.out; omega)
      intro v410 w20 ho hb hg hat
      rw [← Ny409.out] at ho
      have HO411 := Aside0.mk (ho)
      replace BK400 := Aside0.mk (blk_grown (g := gb400) (o := .cells #[.int .i64 a0_0, .slice (some ad403) l0_1.length c0_1] 24 (0, 0)) (bk BK400) hg (Kd.R_ne HO_403001.out BK400.out (by decide)))
      replace BK401 := Aside0.mk (blk_grown (g := gb401) (o := .cells #[.int .i64 0, .slice none 0 0] 24 (0, 0)) (bk BK401) hg (Kd.R_ne HO_403001.out BK401.out (by decide)))
      replace BK402 := Aside0.mk (blk_grown (g := gb402) (o := .cells #[.int .i64 a0_0, u403001] 24 (0, 0)) (bk BK402) hg (Kd.R_ne HO_403001.out BK402.out (by decide)))
      replace HB := Aside0.mk (hb)
      clear HO_403001 HO408
      clear ho hb hg hat
      obtain ⟨Ao21, co21, eo21⟩ := Kd.R_slice HO411.out
      (first | subst eo21 | (injection eo21 with f1_ f2_ f3_; have f4_ := f1_.symm; have f5_ := f3_.symm; clear f1_ f2_ f3_; subst f4_; subst f5_))
      refine hK.out _ _ ⟨(blk_cell BK402.out 0).trans rfl, (blk_cell BK402.out 1).trans rfl, (blk_cell BK400.out 0).trans rfl, (blk_cell BK400.out 1).trans rfl, (oc hw403_0), (oc hw403_1), (oc hw403_2), (oc hw404_0), (oc hw404_1), (oc hw404_2), (oc hw405_0), (oc hw405_1), (oc hw405_2)⟩ (fun hHeld => ?_)
      clear hK K
      refine norm_ (a' := ?_) ?_ ?_
      rotate_left
      ·show Act.put _ (some 38) _ = _
       simp only [Act.put, List.setIfInBounds_toArray, List.set_cons_zero, List.set_cons_succ, i64_w, i32_w]
       rfl
      refine sPu 24 (some 39) ?_
      refine last_ (i := 25) (N := none) #[true, true, true, true, true, true, true, true, true, true, true, true, true, true, true, true, true, true, true, true, true, true, true, true, true, true] rfl rfl (one_of HT_.out (by kernel_rfl)) (by decide) (fun K hK => ?_)
      have hs22 : w20.cell? ⟨gb402, 1, none⟩ = some (u403001) := (blk_cell BK402.out 1).trans rfl
      have hfs22 := blk_frozen BK402.out 1
      have hns22_0 := NB400_402.out
      have hns22_1 := NB401_402.out
      have hms22_0 := NB402_400.out
      have hms22_1 := NB402_401.out
      refine skip_ (w1 := ?_) (by rfl) rfl ?_ ?_
      rotate_left
      ·go_simp
       rfl
      refine hK.out _ _ ?_
      clear hK K
      refine done_ (done_of HT_.out (by kernel_rfl)) ?_
      try go_wp2
      go_roundg k1
      case measure => have := HK1.out; omega
      case rel => exact ⟨(wrap64 (x4_1 + 1)), (y409), (.slice Ao21 y409.length co21), eS, H', ⟨by have := HK1.out; omega⟩, ⟨by (with_reducible repeat (first | apply Kd.R_alloc | apply Kd.R_drewN | apply Kd.R_drew)); exact Kd.R_mono (Kd.R_far (p := ⟨gb402, 1, none⟩) (Kd.R_types HO411.out BK402.out (by decide)) (fun _ hk => hk.2) (.slice Ao21 y409.length co21)) (fun _ hk => trivial)⟩, ⟨by (with_reducible repeat (first | refine blk_drewN ?_ _ | refine blk_drew ?_ | refine blk_alloc ?_ _)); refine blk_far ?_ NB400_402.out _; (with_reducible repeat (first | refine blk_drewN ?_ _ | refine blk_drew ?_ | refine blk_alloc ?_ _)); exact BK400.out⟩, ⟨by (with_reducible repeat (first | refine blk_drewN ?_ _ | refine blk_drew ?_ | refine blk_alloc ?_ _)); refine blk_far ?_ NB401_402.out _; (with_reducible repeat (first | refine blk_drewN ?_ _ | refine blk_drew ?_ | refine blk_alloc ?_ _)); exact BK401.out⟩, ⟨by (with_reducible repeat (first | refine blk_drewN ?_ _ | refine blk_drew ?_ | refine blk_alloc ?_ _)); refine blk_put (cs := #[.int .i64 a0_0, u403001]) ?_ 1 _ rfl; (with_reducible repeat (first | refine blk_drewN ?_ _ | refine blk_drew ?_ | refine blk_alloc ?_ _)); exact BK402.out⟩, ⟨bel⟩⟩
     ·rw [if_neg c13] at H
      exact absurd H (by simp)
    ·rw [if_neg c11] at H
     exact absurd H (by simp)
   ·rw [if_neg c10] at H
    have c10b0 : decide (x4_1 < (l0_1.length : Int)) = false := decide_eq_false c10
    clear c10
    simp only [Option.some.injEq, Prod.mk.injEq] at H
    obtain ⟨rfl, rfl⟩ := H
    have hnb23 := NB400_401.out
    have hnc23 := NB401_400.out
    have hnb24 := NB400_402.out
    have hnc24 := NB402_400.out
    obtain ⟨hcz25_0, hcz25_1, hfz25_0, hfz25_1⟩ := bq2 BK400
    have hnb26 := NB402_401.out
    have hnc26 := NB401_402.out
    obtain ⟨hcz27_0, hcz27_1, hfz27_0, hfz27_1⟩ := bq2 BK402
    obtain ⟨hcz28_0, hcz28_1, hfz28_0, hfz28_1⟩ := bq2 BK401
    obtain ⟨Ao29, co29, eo29⟩ := Kd.R_slice HO_403001.out
    subst eo29
    go_wp2
    refine bodyPost_ret (results_cell_row rfl _ _ gb401 24 #[.int .i64 a0_0, .slice Ao29 x403001_1.length co29] (0, 0) _ rfl (by (with_reducible repeat (first | refine blk_drewN ?_ _ | refine blk_drew ?_ | refine blk_alloc ?_ _)); refine blk_put (cs := #[.int .i64 a0_0, .slice none 0 0]) ?_ 1 _ rfl; (with_reducible repeat (first | refine blk_drewN ?_ _ | refine blk_drew ?_ | refine blk_alloc ?_ _)); refine blk_put (cs := #[.int .i64 0, .slice none 0 0]) ?_ 0 _ rfl; (with_reducible repeat (first | refine blk_drewN ?_ _ | refine blk_drew ?_ | refine blk_alloc ?_ _)); exact BK401.out) Tryz.underlying24 rfl (by kernel_rfl)) rfl ?_
    exact ⟨_, eN, by (with_reducible repeat (first | apply Kd.R_alloc | apply Kd.R_drewN | apply Kd.R_drew)); exact Kd.R_mono (Kd.R_far (p := ⟨gb401, 1, none⟩) (Kd.R_far (p := ⟨gb401, 0, none⟩) (Kd.R_types HO_403001.out BK401.out (by decide)) (fun _ hk => hk.2) (.int .i64 a0_0)) (fun _ hk => hk.2) (.slice Ao29 x403001_1.length co29)) (fun _ hk => trivial), bel⟩
end Go.Proofs.YtfmpaofbnjlniaaGreatDoor.F
/- ShapePuts, the plain law. -/
namespace Go.Proofs.YtfmpaofbnjlniaaGreatDoor.F
open Go.RowKit Go.Proofs.YtfmpaofbnjlniaaGreatDoorW.PrintWords Go.Proofs.YtfmpaofbnjlniaaGreatDoorW.PrintLast Go.Proofs.YtfmpaofbnjlniaaGreatDoorW.PrintMore
set_option linter.unusedVariables false
theorem has_bad (n : Int) (l : List S52) (T : Nat) (hT : T ≤ 9223372036854775807) (hall : ∀ r ∈ l, r.f2.length ≤ T) (h : validB n l = false) (nm : ByteArray) (t : List Int) (k : Nat) (hk : T + 300 ≤ k) : shape_Has.f k n l nm t = some (false, 1) := by
  unfold shape_Has.f
  rw [valid_eq n l T hT hall k hk, h, Option.bind_some]
  rfl
end Go.Proofs.YtfmpaofbnjlniaaGreatDoor.F
/- Short words for the proofs by hand: a region's steps without a table. -/
namespace Go.Proofs.YtfmpaofbnjlniaaGreatDoor.F
open Go.RowKit Go.Proofs.YtfmpaofbnjlniaaGreatDoorW.PrintWords Go.Proofs.YtfmpaofbnjlniaaGreatDoorW.PrintLast Go.Proofs.YtfmpaofbnjlniaaGreatDoorW.PrintMore
set_option linter.unusedVariables false
section
variable {P : Program} {ops : Array Oper} {Q : Exit → Act → World → Prop} {md : Region.Mode} {S : World → Prop} {ds : List Nat}
theorem hPu (i : Nat) (N : Option Tmp) {oi : Oper} {v : Value} {fuel : Nat} {l : Array Bool} {a : Act} {w : World} {a' : Act} (h : wpAnyLast P md ops Q S ds fuel (l.setIfInBounds i true) a' w)
    (hi : ops[i]? = some oi := by rfl) (hN : oi.dst = N := by rfl) (hc : (Region.noSelect ops && Region.free md ops l i && (Region.ready md ops l).contains i) = true := by kernel_rfl) (hq : ∀ c a w, Q (.panic c) (a.put oi.dst v) w → Q (.panic c) a w := by exact fun _ _ _ h => h)
    (hw : Region.wanted oi (yielded ops a.tmps) = true := by rfl) (hy : ∀ w, (execOp a.eval oi).run P w = .ok (.value v) w := by (intro w'; go_simp; with_reducible rfl)) (ha : a.put N v = a' := by (simp only [Act.put, List.setIfInBounds_toArray, List.set_cons_zero, List.set_cons_succ, i64_w, i32_w]; rfl)) : wpAnyLast P md ops Q S ds (fuel + 1) l a w :=
  pure_ (l.setIfInBounds i true) hi hN (by unfold anyB; rw [hc]; simp) hq (Or.inl ⟨hw, hy⟩) ha h
theorem hTk (i : Nat) (N : Option Tmp) {oi : Oper} {v : Value} {fuel : Nat} {l : Array Bool} {a : Act} {w : World} {a' : Act} (h : wpAnyLast P md ops Q S ds fuel (l.setIfInBounds i true) a' w)
    (hi : ops[i]? = some oi := by rfl) (hN : oi.dst = N := by rfl) (hc : (Region.noSelect ops && Region.free md ops l i && (Region.ready md ops l).contains i && Region.closedB md ops l && Region.lastB md ops l ds i) = true := by kernel_rfl) (hq : ∀ c a w, Q (.panic c) (a.put oi.dst v) w → Q (.panic c) a w := by exact fun _ _ _ h => h)
    (hw : Region.wanted oi (yielded ops a.tmps) = true := by rfl) (hy : ∀ w, S w → (execOp a.eval oi).run P w = .ok (.value v) w := by (intro w' s0; go_simp; with_reducible rfl)) (hS : S w := by exact hHeld) (ha : a.put N v = a' := by (simp only [Act.put, List.setIfInBounds_toArray, List.set_cons_zero, List.set_cons_succ, i64_w, i32_w]; rfl)) : wpAnyLast P md ops Q S ds (fuel + 1) l a w :=
  take_ (l.setIfInBounds i true) hi hN (by unfold takeB; rw [hc]; simp) hq (Or.inl ⟨hw, hy⟩) hS ha h
theorem hOn (i : Nat) (N : Option Tmp) {oi : Oper} {fuel : Nat} {l : Array Bool} {a : Act} {w : World} (h : ∀ K : Act → World → Prop, Shut (∀ a' w', S w' → (S w' → wpAnyLast P md ops Q S ds fuel (l.setIfInBounds i true) a' w') → K a' w') → if Region.wanted oi (yielded ops a.tmps) = true then Oper.wp P oi a w K Q else K (a.put N undef) w)
    (hi : ops[i]? = some oi := by rfl) (hN : oi.dst = N := by rfl) (hc : (Region.ready md ops l == [i]) = true := by kernel_rfl) (hd : i ∉ ds := by decide) :
    wpAnyLast P md ops Q S ds (fuel + 1) l a w := one_ (l.setIfInBounds i true) hi hN (by unfold readyB; rw [hc]; simp) hd h
theorem hLa (i : Nat) (N : Option Tmp) {oi : Oper} {fuel : Nat} {l : Array Bool} {a : Act} {w : World} (h : ∀ K : Act → World → Prop, Shut (∀ a' w', wpAnyLast P md ops Q S ds fuel (l.setIfInBounds i true) a' w' → K a' w') → if Region.wanted oi (yielded ops a.tmps) = true then Oper.wp P oi a w K Q else K (a.put N undef) w)
    (hi : ops[i]? = some oi := by rfl) (hN : oi.dst = N := by rfl) (hc : (Region.ready md ops l == [i]) = true := by kernel_rfl) (hd : i ∈ ds := by decide) :
    wpAnyLast P md ops Q S ds (fuel + 1) l a w := last_ (l.setIfInBounds i true) hi hN (by unfold readyB; rw [hc]; simp) hd h
theorem hSt {id : Nat} (n : Nat) {a : Act} {w : World} (h : S w.drew → wpAnyLast P .any ops Q S ds n (Array.replicate n false) a w.drew) (hS : S w.drew) (hm : P.follows .mixedOrders = true := by kernel_rfl) (hn : ops.size = n := by rfl) : (Code.region id ops true).wp P Q a w :=
  start_ (Array.replicate n false) hm hn rfl hS h
theorem hNo (N : Option Tmp) {fuel : Nat} {l : Array Bool} {a a' : Act} {v : Value} {w : World} (h : wpAnyLast P md ops Q S ds fuel l a' w) (ha : a.put N v = a' := by (simp only [Act.put, List.setIfInBounds_toArray, List.set_cons_zero, List.set_cons_succ, i64_w, i32_w]; rfl)) : wpAnyLast P md ops Q S ds fuel l (a.put N v) w := norm_ ha h
end
end Go.Proofs.YtfmpaofbnjlniaaGreatDoor.F
/- shape.Keep, by hand. -/
namespace Go.Proofs.YtfmpaofbnjlniaaGreatDoor.F
open Go.RowKit Go.Maps Go.WideMaps Go.Proofs.YtfmpaofbnjlniaaGreatDoorW.PrintWords Go.Proofs.YtfmpaofbnjlniaaGreatDoorW.PrintLast Go.Proofs.YtfmpaofbnjlniaaGreatDoorW.PrintMore
set_option linter.unusedVariables false
set_option linter.unusedSimpArgs false
def keepAt (l : List S52) (x : S96) : Int := fidx (symIs x.f0 x.f1) l
def keyS (x : S96) : Lit := .string x.f0.data.toList
def keepSet {H : Type} (sy : List S96) : DataW H := setOf (.lit (.bool true)) (sy.map keyS)
def keepCount (sy : List S96) : Nat := Maps.size (keepSet (H := Unit) sy)
def keepOk (sy : List S96) : Prop := sy.length ≤ 1000 ∧ ∀ x ∈ sy, x.f0.size ≤ 1000
instance (sy : List S96) : Decidable (keepOk sy) := by unfold keepOk; infer_instance
def keepRels (l : List S52) (sy : List S96) : List S52 := sy.map fun x => rd_T52 l (keepAt l x)
def keepRes (n : Int) (l : List S52) (sy : List S96) : Int × List S52 × Int :=
  if sy.all (fun x => decide (0 ≤ keepAt l x)) = true then (if keepCount sy = sy.length then (n, keepRels l sy, 0) else (0, [], 2)) else (0, [], 4)
def shape_Keep.f (k : Nat) (n : Int) (l : List S52) (sy : List S96) : Option (Int × List S52 × Int) :=
  (shape_Valid.f k n l).bind fun b => if b = true then (if copyOk l ∧ keepOk sy then some (keepRes n l sy) else none) else some (0, [], 1)
theorem results_keep (tmps : Array Value) (W : World) (g8 : Nat) (a b : Int) (v : Value) (hp8 : tmps.getD 4 undef = .pointer (some ⟨g8, 0, none⟩)) (hp9 : tmps.getD 5 undef = .int .i64 b)
    (h8 : W.heap[g8]? = some (.cells #[.int .i64 a, v] 24 (0, 0))) :
    (results Tryz.f23 tmps).run Tryz.prog W = .ok (.tuple #[.agg #[.int .i64 a, v], .int .i64 b]) W := by
  have hp8' : tmps[4]?.getD undef = .pointer (some ⟨g8, 0, none⟩) := by simpa using hp8
  have hp9' : tmps[5]?.getD undef = .int .i64 b := by simpa using hp9
  have hr := run_loadVar_row (P := Tryz.prog) W g8 24 24 #[.int .i64 a, v] (0, 0) _ h8 Tryz.underlying24 rfl (by kernel_rfl)
  simp [results, Tryz.results23, hp8', hp9', asAddr, hr]
section
variable {H : Type} {P : Program} {kt : TypeId} {Rr : Value → Option (DataW H × List MemPlace)} {w w1 : World} {b n g : Nat} {D : DataW H} {α : Type} {d : Kd α} {e base : Nat} {ok : Nat → Prop} {v : Value} {xs : List α}
theorem map_same (h : w.ownsMap P kt Rr b n D) (hs : w1.heap[b]? = w.heap[b]?) : w1.ownsMap P kt Rr b n D := by
  obtain ⟨es, clock, hb, F, hn, hD⟩ := h
  exact ⟨es, clock, hs.trans hb, F, hn, hD⟩
theorem map_below (h : w.ownsMap P kt Rr b n D) (hb : Below w.heap.size w w1) : w1.ownsMap P kt Rr b n D := map_same h (hb.block b h.lt)
theorem map_blk (h : w.ownsMap P kt Rr b n D) : ∃ es clock, w.heap[b]? = some (.map es clock) := by
  obtain ⟨es, clock, hb, _⟩ := h
  exact ⟨es, clock, hb⟩
theorem map_ne {cs : Array Value} {t : TypeId} {z : Nat × Nat} (h : w.ownsMap P kt Rr b n D) (hg : w.heap[g]? = some (.cells cs t z)) : g ≠ b := by
  obtain ⟨es, clock, hb⟩ := map_blk h
  intro e
  subst e
  rw [hb] at hg
  cases hg
theorem R_mapped (h : d.R e w base ok v xs) (hm : w.ownsMap P kt Rr b n D) (hg : w.grownBy w1 (some b)) : d.R e w1 base ok v xs :=
  Kd.R_mono (Kd.R_step (Kd.R_bound h) (fun k hk hlt => hg.block k hlt (fun e => by
    obtain ⟨_, _, _, q, _, cells, hc⟩ := hk
    injection e with e
    exact map_ne hm hc e))) (fun k hk => hk.1)
theorem map_ne_own (h : d.R e w base ok v xs) (hm : w.ownsMap P kt Rr b n D) : some b ≠ v.ownBlock := fun he => by
  obtain ⟨cells, hc⟩ := Kd.R_typed h b he.symm
  exact map_ne hm hc rfl
end
theorem keys_snoc {H : Type} {sy : List S96} {j : Nat} {x : S96} (h : sy[j]? = some x) : keepSet (H := H) (sy.take (j + 1)) = (keepSet (sy.take j)).put (keyS x) (.lit (.bool true)) := by
  unfold keepSet
  rw [take_snoc' h, List.map_append]
  exact setOf_snoc _ _ _
theorem law_str : Keyed Tryz.prog 9 := string_keyed Tryz.underlying9
theorem infoRelK : (Tryz.prog.info? 52).map (fun i => (i.zero, i.size, i.bytes)) = some (some (.agg #[.string ⟨#[]⟩, .int .i64 0, .slice none 0 0]), 3, 48) := by kernel_rfl
theorem fidx_lt {α : Type} (p : α → Bool) (l : List α) : fidx p l < (l.length : Int) := by
  unfold fidx
  cases h : l.findIdx? p with
  | none => simp only; omega
  | some i =>
    obtain ⟨hi, _⟩ := List.findIdx?_eq_some_iff_getElem.1 h
    simp only; omega
theorem keepRels_snoc {l : List S52} {sy : List S96} {j : Nat} {x : S96} (h : sy[j]? = some x) : keepRels l (sy.take (j + 1)) = keepRels l (sy.take j) ++ [rd_T52 l (keepAt l x)] := by
  unfold keepRels
  rw [take_snoc' h, List.map_append]
  rfl
set_option maxHeartbeats 4000000 in
set_option maxRecDepth 100000 in
theorem keep_calls (k : Nat) (n : Int) (A : Option Addr) (c : Nat) (l : List S52) (A2 : Option Addr) (c2 : Nat) (sy : List S96) (r : Int × List S52 × Int) (w : World)
    (hC : Kd.C k52 w A l.length l) (hlc : l.length ≤ c) (hC2 : Kd.C k96 w A2 sy.length sy) (hlc2 : sy.length ≤ c2) (h : shape_Keep.f k n l sy = some r) :
    Calls Tryz.prog 23 #[.agg #[.int .i64 n, .slice A l.length c], .slice A2 sy.length c2] w (PutEnds w r) := by
  have hu38 := Tryz.underlying24
  have hu54 := Tryz.underlying52
  have hu96 := Tryz.underlying96
  have hmm := @run_makeMap Tryz.prog
  unfold shape_Keep.f at h
  obtain ⟨vb, hh, h⟩ := Option.bind_eq_some_iff.1 h
  have hB1 := below_alloc (below_alloc (Below.refl w.heap.size w) (.cells #[.int .i64 n, .slice A l.length c] 24)) (.cells #[.int .i64 0, .slice none 0 0] 24)
  have HC1 := Aside0.mk (Kd.C_below hC hB1)
  have HT1 := Aside0.mk (Kd.C_below hC2 hB1)
  have HB1 := Aside0.mk hB1
  have HC0 := Aside0.mk hC
  have HT0 := Aside0.mk hC2
  have HLC := Aside0.mk hlc
  have HLC2 := Aside0.mk hlc2
  have HH := Aside0.mk hh
  have H := Aside0.mk h
  have K4 := Aside0.mk (show ((w.alloc (.cells #[.int .i64 n, .slice A l.length c] 24)).alloc (.cells #[.int .i64 0, .slice none 0 0] 24)).heap[w.heap.size]? = some (.cells #[.int .i64 n, .slice A l.length c] 24 (0, 0)) from (heap_alloc_old _ _ (by simp)).trans (heap_alloc_new w _))
  have K8 := Aside0.mk (show ((w.alloc (.cells #[.int .i64 n, .slice A l.length c] 24)).alloc (.cells #[.int .i64 0, .slice none 0 0] 24)).heap[w.heap.size + 1]? = some (.cells #[.int .i64 0, .slice none 0 0] 24 (0, 0)) from by have := heap_alloc_new (w.alloc (.cells #[.int .i64 n, .slice A l.length c] 24)) (.cells #[.int .i64 0, .slice none 0 0] 24); simpa using this)
  clear hB1 hC hlc hC2 hlc2 hh h
  go_enter Tryz.func23, Tryz.ntmps23
  go_wp2_with (fail)
  refine (shape_Valid.calls k n A c l vb _ HC1.out HLC.out HH.out).mono ?_
  rintro e w1 ⟨rfl, hb1⟩
  generalize hg8 : w.heap.size + 1 = g8 at *
  have hg8w : w.heap.size ≤ g8 := by omega
  have K4' := Aside0.mk ((hb1.block w.heap.size (Array.getElem?_eq_some_iff.1 K4.out).1).trans K4.out)
  have K8' := Aside0.mk ((hb1.block g8 (Array.getElem?_eq_some_iff.1 K8.out).1).trans K8.out)
  have HB2 := Aside0.mk (below_step HB1.out hb1)
  have HC2 := Aside0.mk (Kd.C_below HC1.out hb1)
  have HT2 := Aside0.mk (Kd.C_below HT1.out hb1)
  clear hb1 K4 K8 HB1 HC1 HT1
  obtain ⟨c8_0, c8_1, f8_0, f8_1⟩ := bq2 K8'
  obtain ⟨c4_0, c4_1, _, _⟩ := bq2 K4'
  cases vb with
  | false =>
    have h2 := H.out
    rw [if_neg (by simp)] at h2
    obtain rfl := Option.some.inj h2
    clear h2 H
    go_wp2
    have HX := blk_put (cs' := #[.int .i64 0, .slice none 0 0]) (blk_put (cs' := #[.int .i64 0, .slice none 0 0]) K8'.out 0 (.int .i64 0) rfl) 1 (.slice none 0 0) rfl
    have HBX := below_set (j := 1) (v := .slice none 0 0) (below_set (j := 0) (v := .int .i64 0) HB2.out hg8w) hg8w
    refine bodyPost_ret (results_keep _ _ g8 0 1 _ rfl rfl HX) rfl ?_
    exact ⟨_, rfl, Kd.R_nil _ _ _ _ _, HBX⟩
  | true =>
    have h2 := H.out
    rw [if_pos rfl] at h2
    by_cases hcp : copyOk l ∧ keepOk sy
    case neg => rw [if_neg hcp] at h2; cases h2
    rw [if_pos hcp] at h2
    have hres := (Option.some.inj h2).symm
    subst hres
    have HCP := Aside0.mk hcp.1
    have HKO := Aside0.mk hcp.2
    have hsl := hcp.2.1
    clear h2 H hcp
    go_wp2_with (fail)
    refine (copy_calls n A c l _ HC2.out HLC.out HCP.out).mono ?_
    rintro e w3 ⟨v3, rfl, hS, hb3⟩
    have K4 := Aside0.mk ((hb3.block w.heap.size (Array.getElem?_eq_some_iff.1 K4'.out).1).trans K4'.out)
    have K8 := Aside0.mk ((hb3.block g8 (Array.getElem?_eq_some_iff.1 K8'.out).1).trans K8'.out)
    have HB4 := Aside0.mk (below_step HB2.out hb3)
    have HC4 := Aside0.mk (Kd.C_below HC2.out hb3)
    have HT4 := Aside0.mk (Kd.C_below HT2.out hb3)
    have HS4 := Aside0.mk (Kd.R_lower (Kd.R_mono (Kd.R_bound (Kd.S_R hS)) (fun k_ hk => (hk.2.2.1 : k_ < w3.heap.size))) HB2.out.size)
    obtain ⟨A3, c3, hv3⟩ := Kd.S_slice hS
    subst hv3
    clear hb3 hS K4' K8' HB2 HC2 HT2 c8_0 c8_1 f8_0 f8_1 c4_0 c4_1
    go_upto_region 4 with (fail)
    have K6 := Aside0.mk (heap_alloc_new w3 (.cells #[.int .i64 n, .slice A3 l.length c3] 24))
    have hba := below_alloc (Below.refl w3.heap.size w3) (.cells #[.int .i64 n, .slice A3 l.length c3] 24)
    have K4' := blB K4 hba
    have K8' := blB K8 hba
    have HC5 := Aside0.mk (Kd.C_below HC4.out hba)
    have HT5 := Aside0.mk (Kd.C_below HT4.out hba)
    have HS5 := Aside0.mk (Kd.R_below HS4.out hba)
    have HB5 := Aside0.mk (below_step HB4.out hba)
    have hN0 := HB4.out.size
    have hN4 : w.heap.size < w3.heap.size := blk_lt K4.out
    have hN8 : g8 < w3.heap.size := blk_lt K8.out
    have hN6 : w3.heap.size < (w3.alloc (.cells #[.int .i64 n, .slice A3 l.length c3] 24)).heap.size := blk_lt K6.out
    generalize w3.alloc (.cells #[.int .i64 n, .slice A3 l.length c3] 24) = w4 at *
    generalize w3.heap.size = N at *
    clear hba K4 K8 HC4 HT4 HS4 HB4
    obtain ⟨c4_0, c4_1, _, _⟩ := bq2 K4'
    go_upto_region 5 with (fail)
    have K7 := Aside0.mk (heap_alloc_new w4 (.cells #[.int .i64 n, .slice none 0 0] 24))
    have hba := below_alloc (Below.refl w4.heap.size w4) (.cells #[.int .i64 n, .slice none 0 0] 24)
    replace K4 := blB K4' hba
    replace K8 := blB K8' hba
    replace K6 := blB K6 hba
    have HC6 := Aside0.mk (Kd.C_below HC5.out hba)
    have HT6 := Aside0.mk (Kd.C_below HT5.out hba)
    have HS6 := Aside0.mk (Kd.R_below HS5.out hba)
    have HB6 := Aside0.mk (below_step HB5.out hba)
    have hN7 : w4.heap.size < (w4.alloc (.cells #[.int .i64 n, .slice none 0 0] 24)).heap.size := blk_lt K7.out
    generalize w4.alloc (.cells #[.int .i64 n, .slice none 0 0] 24) = w5 at *
    generalize hg7 : w4.heap.size = g7 at *
    clear hba K4' K8' HC5 HT5 HS5 HB5 c4_0 c4_1
    go_wp2
    have HM := Aside0.mk (World.ownsMap_made w5 Tryz.prog 9 (plainElem (H := Unit) Tryz.prog 4))
    have hba := below_alloc (Below.refl w5.heap.size w5) (.map #[] 0)
    have K4' := blB K4 hba
    have K8' := blB K8 hba
    have K6' := blB K6 hba
    have K7' := blB K7 hba
    have HC7 := Aside0.mk (Kd.C_below HC6.out hba)
    have HT7 := Aside0.mk (Kd.C_below HT6.out hba)
    have HS7 := Aside0.mk (Kd.R_below HS6.out hba)
    have HB7 := Aside0.mk (below_step HB6.out hba)
    generalize w5.alloc (.map #[] 0) = w6 at *
    generalize hgm : w5.heap.size = gm at *
    clear hba K4 K8 K6 K7 HC6 HT6 HS6 HB6
    have hgN : N ≤ gm := by omega
    have hgw : w.heap.size ≤ gm := by omega
    go_loopw [24] (fun v24 wr => ∃ (j : Nat) (vo : Value), v24 = .int .i64 j ∧ j ≤ sy.length ∧ Aside0 (∀ x ∈ sy.take j, 0 ≤ keepAt l x) ∧ Aside0 (wr.heap[w.heap.size]? = some (.cells #[.int .i64 n, .slice A l.length c] 24 (0, 0))) ∧ Aside0 (wr.heap[g8]? = some (.cells #[.int .i64 0, .slice none 0 0] 24 (0, 0))) ∧ Aside0 (wr.heap[N]? = some (.cells #[.int .i64 n, .slice A3 l.length c3] 24 (0, 0))) ∧ Aside0 (wr.heap[g7]? = some (.cells #[.int .i64 n, vo] 24 (0, 0)))
      ∧ Aside0 (Kd.R k52 52 wr w.heap.size (fun k_ => k_ < N) (.slice A3 l.length c3) l) ∧ Aside0 (Kd.R k52 52 wr w.heap.size (fun _ => True) vo (keepRels l (sy.take j))) ∧ Aside0 (∀ k_, vo.ownBlock = some k_ → N ≤ k_) ∧ Aside0 (wr.ownsMap Tryz.prog 9 (plainElem (H := Unit) Tryz.prog 4) gm j (keepSet (sy.take j))) ∧ Aside0 (Below w.heap.size w wr)) (fun v24 _ => sy.length - (intOf v24).toNat)
    case atStart => exact ⟨0, .slice none 0 0, rfl, Nat.zero_le _, ⟨fun x hx => by simp at hx⟩, K4', K8', K6', K7', HS7, ⟨Kd.R_nil _ _ _ _ _⟩, ⟨fun k_ hk => by simp [Value.ownBlock] at hk⟩, ⟨by simpa [keepSet, setOf] using HM.out⟩, HB7⟩
    case round =>
      clear K4' K8' K6' K7' HS7 HM HB7 HC7 HT7
      obtain ⟨j, vo, rfl, hj, HA, K4, K8, K6, K7, HF, HO, HV, HM, HB⟩ := hrel
      generalize wr = wq at *
      obtain ⟨c4_0, c4_1, _, _⟩ := bq2 K4
      by_cases hlt : j < sy.length
      · obtain ⟨ad, hA, hx0, hx1⟩ := at_T96 (Kd.C_below HT0.out HB.out) (j : Int) (by omega) (by omega)
        subst hA
        simp only [Int.toNat_natCast] at hx0 hx1
        have hrj : rd_T96 sy (j : Int) = sy[j] := by unfold rd_T96; rw [Int.toNat_natCast, List.getD_eq_getElem?_getD, List.getElem?_eq_getElem hlt]; rfl
        rw [hrj] at hx0 hx1
        have HXJ := Aside0.mk (show sy[j]? = some sy[j] from List.getElem?_eq_getElem hlt)
        have HXS := Aside0.mk (HKO.out.2 _ (List.getElem_mem hlt))
        generalize sy[j] = x at *
        clear hrj
        go_upto_region 9 with (fail)
        have hNx : N < wq.heap.size := blk_lt K6.out
        have h7x : g7 < wq.heap.size := blk_lt K7.out
        have KX := Aside0.mk (heap_alloc_new wq (.cells #[.string x.f0, .int .i64 x.f1] 96))
        have hba := below_alloc (Below.refl wq.heap.size wq) (.cells #[.string x.f0, .int .i64 x.f1] 96)
        replace K4 := blB K4 hba
        replace K8 := blB K8 hba
        replace K6 := blB K6 hba
        replace K7 := blB K7 hba
        replace HF := rD HF hba
        replace HO := rD HO hba
        replace HM := Aside0.mk (map_below HM.out hba)
        replace HB := Aside0.mk (below_step HB.out hba)
        generalize wq.alloc (.cells #[.string x.f0, .int .i64 x.f1] 96) = wa at *
        generalize wq.heap.size = gx at *
        clear hba c4_0 c4_1 hx0 hx1
        obtain ⟨c4_0, c4_1, _, _⟩ := bq2 K4
        obtain ⟨cx0, cx1, _, _⟩ := bq2 KX
        go_wp2_with (fail)
        refine (shape_Find.calls n A c l x.f0 x.f1 (keepAt l x) _ (Kd.C_below HC0.out HB.out) HLC.out rfl).mono ?_
        rintro e wf ⟨rfl, hbf⟩
        replace K4 := blB K4 hbf
        replace K8 := blB K8 hbf
        replace K6 := blB K6 hbf
        replace K7 := blB K7 hbf
        replace KX := blB KX hbf
        replace HF := rD HF hbf
        replace HO := rD HO hbf
        replace HM := Aside0.mk (map_below HM.out hbf)
        replace HB := Aside0.mk (below_step HB.out hbf)
        clear hbf c4_0 c4_1 cx0 cx1
        by_cases hq : 0 ≤ keepAt l x
        · have hql : keepAt l x < (l.length : Int) := fidx_lt _ _
          have HKR := Aside0.mk (keepRels_snoc (l := l) HXJ.out)
          have HA2 := Aside0.mk (show ∀ y ∈ sy.take (j + 1), 0 ≤ keepAt l y from fun y hy => by
            rw [take_snoc' HXJ.out] at hy
            rcases List.mem_append.1 hy with hy | hy
            · exact HA.out y hy
            · rw [List.mem_singleton.1 hy]; exact hq)
          generalize keepAt l x = q at *
          obtain ⟨gf, capf, eA, _, _, _, _⟩ := Kd.R_form HF.out (by omega)
          obtain ⟨rfl, rfl⟩ : A3 = some ⟨gf, 0, none⟩ ∧ c3 = capf := by injection eA with h2 h3 h4; exact ⟨h2, h4⟩
          obtain ⟨ce, hcl, hMe, hce, _⟩ := Kd.R_elem HF.out z52 q hq hql
          have hMe2 : k52.M wf w.heap.size (fun k_ => k_ < N) (rd_T52 l q) ce := k52.M_mono (fun k_ hk => hk.1) hMe
          generalize rd_T52 l q = rr at *
          obtain ⟨v2, rfl, hR2⟩ := k52_openM hMe2
          obtain ⟨At, ct, ev2⟩ := Kd.R_slice hR2
          subst ev2
          have hz0 : wf.cell? ⟨gf, q.toNat * 3, none⟩ = some (.string rr.f0) := hce 0 _ rfl
          have hz1 : wf.cell? ⟨gf, q.toNat * 3 + 1, none⟩ = some (.int .i64 rr.f1) := hce 1 _ rfl
          have hz2 : wf.cell? ⟨gf, q.toNat * 3 + 2, none⟩ = some (.slice At rr.f2.length ct) := hce 2 _ rfl
          clear hcl hMe hce hMe2 eA
          have hlen : (keepRels l (sy.take j)).length ≤ 1000 := by unfold keepRels; rw [List.length_map, List.length_take]; omega
          have q0 : decide (q < 0) = false := decide_eq_false (by omega)
          go_upto_region 12 with (fail)
          have c7 : wf.drew.cell? ⟨g7, 1, none⟩ = some vo := (blk_cell K7.out 1).trans rfl
          have c6 : wf.drew.cell? ⟨N, 1, none⟩ = some (.slice (some ⟨gf, 0, none⟩) l.length c3) := (blk_cell K6.out 1).trans rfl
          refine wp_region_noPanic ?_
          refine hSt 11 (S := fun w' => w'.cell? ⟨g7, 1, none⟩ = some vo ∧ w'.cell? ⟨N, 1, none⟩ = some (.slice (some ⟨gf, 0, none⟩) l.length c3) ∧ w'.cell? ⟨gf, q.toNat * 3, none⟩ = some (.string rr.f0) ∧ w'.cell? ⟨gf, q.toNat * 3 + 1, none⟩ = some (.int .i64 rr.f1) ∧ w'.cell? ⟨gf, q.toNat * 3 + 2, none⟩ = some (.slice At rr.f2.length ct)) (ds := [8, 10]) (fun hHeld => ?_) ⟨c7, c6, hz0, hz1, hz2⟩
          replace K4 := Aside0.mk (blk_drew K4.out)
          replace K8 := Aside0.mk (blk_drew K8.out)
          replace K6 := Aside0.mk (blk_drew K6.out)
          replace K7 := Aside0.mk (blk_drew K7.out)
          replace KX := Aside0.mk (blk_drew KX.out)
          replace HF := Aside0.mk (Kd.R_drew HF.out)
          replace HO := Aside0.mk (Kd.R_drew HO.out)
          have HR2 := Aside0.mk (Kd.R_drew hR2)
          replace HM := Aside0.mk (HM.out.drew)
          replace HB := Aside0.mk (below_drew HB.out)
          clear hR2 hz0 hz1 hz2 c6 c7
          generalize wf.drew = wd at *
          have hq1 := eq_true hq
          have hq2 := eq_true hql
          refine hPu 0 (some 37) ?_
          refine hPu 2 (some 39) ?_
          refine hPu 4 (some 41) ?_
          refine hTk 1 (some 38) ?_
          refine hTk 3 (some 40) ?_
          refine hPu 5 (some 42) ?_
          refine hTk 6 (some 43) ?_
          refine hOn 7 (some 44) (fun K hK => ?_)
          refine value_ (w1 := ?_) (v := ?_) (by rfl) rfl ?_ ?_
          rotate_left 2
          · go_simp
            constructor
            · rfl
            · rfl
          have hba := below_alloc (Below.refl wd.heap.size wd) (.cells #[.string rr.f0, .int .i64 rr.f1, .slice At rr.f2.length ct] 52)
          refine hK.out _ _ ⟨pw_cell_below hba hHeld.1, pw_cell_below hba hHeld.2.1, pw_cell_below hba hHeld.2.2.1, pw_cell_below hba hHeld.2.2.2.1, pw_cell_below hba hHeld.2.2.2.2⟩ (fun _ => ?_)
          clear hK K hba
          refine hNo (some 44) ?_
          refine hLa 8 (some 45) (fun K hK => ?_)
          refine Kd.R_append_step k52 (w0 := w) w.heap.size (by rfl) (.tmp 38) (.tmp 44) 22 52 (.agg #[.string ⟨#[]⟩, .int .i64 0, .slice none 0 0]) 48 rfl Tryz.underlying22 infoRelK rfl (by decide) (by omega) vo (keepRels l (sy.take j)) rr [.string rr.f0, .int .i64 rr.f1, .slice At rr.f2.length ct] (fun _ => True) (fun k_ => k_ < N) rfl rfl ?aP ?aK ?aF ?aO ?aB ?aS ?aL ?_
          (case aP => exact k52_mkM _ _ _ rr HR2.out)
          (case aK => exact fun k_ hk => ⟨trivial, fun e => by have := HV.out k_ e.symm; omega⟩)
          (case aF => exact fun _ _ => trivial)
          (case aO => exact HO.out)
          (case aB => exact HB.out)
          (case aS => exact HB.out.size)
          (case aL => omega)
          intro v7 w7 ho hb hg hat
          replace K4 := Aside0.mk (blk_grown K4.out hg (Kd.R_ne HO.out K4.out (by decide)))
          replace K8 := Aside0.mk (blk_grown K8.out hg (Kd.R_ne HO.out K8.out (by decide)))
          replace K6 := Aside0.mk (blk_grown K6.out hg (Kd.R_ne HO.out K6.out (by decide)))
          replace K7 := Aside0.mk (blk_grown K7.out hg (Kd.R_ne HO.out K7.out (by decide)))
          replace KX := Aside0.mk (blk_grown KX.out hg (Kd.R_ne HO.out KX.out (by decide)))
          replace HF := Aside0.mk (Kd.R_grown HF.out hg (fun k_ hk e => by have := HV.out k_ e.symm; omega))
          have hNd : N < wd.heap.size := by have := HM.out.lt; omega
          replace HV := Aside0.mk (show ∀ k_, v7.ownBlock = some k_ → N ≤ k_ from fun k_ hk => by
            rcases hat with e | ⟨b, e, hb2⟩
            · exact HV.out k_ (e ▸ hk)
            · rw [e] at hk; injection hk with hk; omega)
          replace HM := Aside0.mk (HM.out.kept hg (map_ne_own HO.out HM.out))
          replace HO := Aside0.mk ho
          replace HB := Aside0.mk hb
          rw [← HKR.out] at HO
          obtain ⟨A7, c7, e7⟩ := Kd.R_slice HO.out
          subst e7
          clear ho hb hg hat hHeld
          refine hK.out _ _ ?_
          clear hK K
          refine hNo (some 45) ?_
          refine hPu 9 (some 46) ?_
          obtain ⟨_, c7_1, _, f7_1⟩ := bq2 K7
          refine hLa 10 none (fun K hK => ?_)
          refine skip_ (w1 := ?_) (by rfl) rfl ?_ ?_
          rotate_left
          · go_simp
            rfl
          refine hK.out _ _ ?_
          clear hK K
          refine done_ (by kernel_rfl) ?_
          refine NoPanic.normal ?_
          have hg7w : w.heap.size ≤ g7 := by omega
          replace K4 := Aside0.mk (blk_far K4.out (p := ⟨g7, 1, none⟩) (by show w.heap.size ≠ g7; omega) (.slice A7 (keepRels l (sy.take (j + 1))).length c7))
          replace K8 := Aside0.mk (blk_far K8.out (p := ⟨g7, 1, none⟩) (by show g8 ≠ g7; omega) (.slice A7 (keepRels l (sy.take (j + 1))).length c7))
          replace K6 := Aside0.mk (blk_far K6.out (p := ⟨g7, 1, none⟩) (by show N ≠ g7; omega) (.slice A7 (keepRels l (sy.take (j + 1))).length c7))
          replace KX := Aside0.mk (blk_far KX.out (p := ⟨g7, 1, none⟩) (by show gx ≠ g7; omega) (.slice A7 (keepRels l (sy.take (j + 1))).length c7))
          replace HF := Aside0.mk (Kd.R_set HF.out K7.out (by decide) 1 (.slice A7 (keepRels l (sy.take (j + 1))).length c7))
          replace HO := Aside0.mk (Kd.R_set HO.out K7.out (by decide) 1 (.slice A7 (keepRels l (sy.take (j + 1))).length c7))
          replace HM := Aside0.mk (HM.out.setCell (a := ⟨g7, 1, none⟩) (by show gm ≠ g7; omega) (.slice A7 (keepRels l (sy.take (j + 1))).length c7))
          replace HB := Aside0.mk (below_set (j := 1) (v := .slice A7 (keepRels l (sy.take (j + 1))).length c7) HB.out hg7w)
          replace K7 := Aside0.mk (blk_put (cs' := #[.int .i64 n, .slice A7 (keepRels l (sy.take (j + 1))).length c7]) K7.out 1 (.slice A7 (keepRels l (sy.take (j + 1))).length c7) rfl)
          clear c7_1 f7_1
          generalize w7.setCell ⟨g7, 1, none⟩ (.slice A7 (keepRels l (sy.take (j + 1))).length c7) = wz at *
          obtain ⟨cx0, cx1, _, _⟩ := bq2 KX
          have hkey : keyOf Tryz.prog 9 (.string x.f0) = some (keyS x) := keyOf_string_mk Tryz.underlying9 (by have := HXS.out; unfold maxLen; omega)
          go_wp2_with (first | (at_mapUpdate; refine wpList_mapUpdate_own _ rfl _ _ _ 98 rfl 9 4 law_str Tryz.underlying98 (plainElem (H := Unit) Tryz.prog 4) gm j _ rfl HM.out (by unfold maxLen; omega) _ _ _ rfl rfl hkey _ [] (plainElem_bool Tryz.underlying4 true) ?_; intro w1 hown1 hgrow1))
          replace K4 := Aside0.mk (blk_grown K4.out hgrow1 (by intro e; injection e with e; omega))
          replace K8 := Aside0.mk (blk_grown K8.out hgrow1 (by intro e; injection e with e; omega))
          replace K6 := Aside0.mk (blk_grown K6.out hgrow1 (by intro e; injection e with e; omega))
          replace K7 := Aside0.mk (blk_grown K7.out hgrow1 (by intro e; injection e with e; omega))
          replace HF := Aside0.mk (R_mapped HF.out HM.out hgrow1)
          replace HO := Aside0.mk (R_mapped HO.out HM.out hgrow1)
          replace HB := Aside0.mk (HB.out.grown hgrow1 HB.out.size (fun i hi => by cases hi; exact hgw))
          rw [← keys_snoc HXJ.out] at hown1
          go_roundw
          · exact ⟨j + 1, _, by simp, hlt, HA2, K4, K8, K6, K7, HF, HO, HV, ⟨hown1⟩, HB⟩
          · simp [intOf]; omega
        · have hr : keepRes n l sy = (0, [], 4) := if_neg (fun e => hq (by simpa using List.all_eq_true.1 e x (List.mem_of_getElem? HXJ.out)))
          have hq0 : decide (keepAt l x < 0) = true := decide_eq_true (by omega)
          obtain ⟨c8_0, c8_1, f8_0, f8_1⟩ := bq2 K8
          go_wp2
          have HX := blk_put (cs' := #[.int .i64 0, .slice none 0 0]) (blk_put (cs' := #[.int .i64 0, .slice none 0 0]) K8.out 0 (.int .i64 0) rfl) 1 (.slice none 0 0) rfl
          have HBX := below_set (j := 1) (v := .slice none 0 0) (below_set (j := 0) (v := .int .i64 0) HB.out hg8w) hg8w
          refine bodyPost_ret (results_keep _ _ g8 0 4 _ rfl rfl HX) rfl ?_
          rw [hr]
          exact ⟨_, rfl, Kd.R_nil _ _ _ _ _, HBX⟩
      · obtain rfl : j = sy.length := by omega
        rw [List.take_length] at HA HO HM
        have hall : sy.all (fun x => decide (0 ≤ keepAt l x)) = true := List.all_eq_true.2 (fun x hx => by simpa using HA.out x hx)
        have hr : keepRes n l sy = if keepCount sy = sy.length then (n, keepRels l sy, 0) else (0, [], 2) := if_pos hall
        have hm0 : Maps.size (keepSet (H := Unit) sy) = keepCount sy := rfl
        generalize keepCount sy = m at *
        obtain ⟨c8_0, c8_1, f8_0, f8_1⟩ := bq2 K8
        by_cases hm : m = sy.length
        · subst hm
          rw [if_pos rfl] at hr
          have HR := Aside0.mk hr
          clear hr hall
          obtain ⟨Ao, co, hvo⟩ := Kd.R_slice HO.out
          subst hvo
          obtain ⟨c7_0, c7_1, _, _⟩ := bq2 K7
          go_wp2_with (first | (at_len; refine wpList_len_own _ rfl _ 98 rfl 9 4 Tryz.underlying98 (plainElem (H := Unit) Tryz.prog 4) gm sy.length _ rfl HM.out ?_; rw [hm0]))
          have HX := blk_put (cs' := #[.int .i64 n, .slice Ao (keepRels l sy).length co]) (blk_put (cs' := #[.int .i64 n, .slice none 0 0]) K8.out 0 (.int .i64 n) rfl) 1 (.slice Ao (keepRels l sy).length co) rfl
          have HV1 := Kd.R_set HO.out K8.out (by decide) 0 (.int .i64 n)
          have HV2 := Kd.R_set HV1 (blk_put (cs' := #[.int .i64 n, .slice none 0 0]) K8.out 0 (.int .i64 n) rfl) (by decide) 1 (.slice Ao (keepRels l sy).length co)
          have HBX := below_set (j := 1) (v := .slice Ao (keepRels l sy).length co) (below_set (j := 0) (v := .int .i64 n) HB.out hg8w) hg8w
          refine bodyPost_ret (results_keep _ _ g8 n 0 _ rfl rfl HX) rfl ?_
          rw [HR.out]
          exact ⟨_, rfl, HV2, HBX⟩
        · rw [if_neg hm] at hr
          have HR := Aside0.mk hr
          have h1 : (m != sy.length) = true := bne_iff_ne.2 hm
          have h2 : ((m : Int) != (sy.length : Int)) = true := bne_iff_ne.2 (by omega)
          clear hr hall hm
          go_wp2_with (first | (at_len; refine wpList_len_own _ rfl _ 98 rfl 9 4 Tryz.underlying98 (plainElem (H := Unit) Tryz.prog 4) gm sy.length _ rfl HM.out ?_; rw [hm0]))
          have HX := blk_put (cs' := #[.int .i64 0, .slice none 0 0]) (blk_put (cs' := #[.int .i64 0, .slice none 0 0]) K8.out 0 (.int .i64 0) rfl) 1 (.slice none 0 0) rfl
          have HBX := below_set (j := 1) (v := .slice none 0 0) (below_set (j := 0) (v := .int .i64 0) HB.out hg8w) hg8w
          refine bodyPost_ret (results_keep _ _ g8 0 2 _ rfl rfl HX) rfl ?_
          rw [HR.out]
          exact ⟨_, rfl, Kd.R_nil _ _ _ _ _, HBX⟩
theorem shape_Keep.calls (k : Nat) (a0_0 : Int) (A0_1 : Option Addr) (c0_1 : Nat) (l0_1 : List S52) (A1 : Option Addr) (c1 : Nat) (l1 : List S96) (r1 : Int) (r2 : List S52) (r3 : Int) (w : World) (hr0_1 : Kd.C k52 w A0_1 l0_1.length l0_1) (hc0_1 : l0_1.length ≤ c0_1) (hr1 : Kd.C k96 w A1 l1.length l1) (hc1 : l1.length ≤ c1) (h : shape_Keep.f k a0_0 l0_1 l1 = some (r1, r2, r3)) :
    Calls Tryz.prog 23 #[.agg #[.int .i64 a0_0, .slice A0_1 l0_1.length c0_1], .slice A1 l1.length c1] w fun e w' => ∃ v1_ : Value, e = .returned (.tuple #[.agg #[.int .i64 r1, v1_], .int .i64 r3]) ∧ Kd.R k52 52 w' w.heap.size (fun _ => True) v1_ r2 ∧ Below w.heap.size w w' :=
  keep_calls k a0_0 A0_1 c0_1 l0_1 A1 c1 l1 (r1, r2, r3) w hr0_1 hc0_1 hr1 hc1 h
end Go.Proofs.YtfmpaofbnjlniaaGreatDoor.F
/- shape.Copy, by hand: the copy's relations lie apart from each other, and so do the tuples of each. -/
namespace Go.Proofs.YtfmpaofbnjlniaaGreatDoor.F
open Go.RowKit Go.Proofs.YtfmpaofbnjlniaaGreatDoorW.PrintWords Go.Proofs.YtfmpaofbnjlniaaGreatDoorW.PrintLast Go.Proofs.YtfmpaofbnjlniaaGreatDoorW.PrintMore
set_option linter.unusedVariables false
set_option linter.unusedSimpArgs false
/-- A slice whose elements lie apart. -/
def sliceS {α : Type} (e : Nat) (d : Kd α) : Kd (List α) where
  sz := 1
  E := e :: d.E
  K := fun w xs cs => ∃ A c, cs = [.slice A xs.length c] ∧ xs.length ≤ c ∧ d.C w A xs.length xs
  M := fun w base ok xs cs => ∃ v, cs = [v] ∧ Kd.S d e w base ok v xs
  K_len := by
    rintro w x cs ⟨A, c, rfl, _⟩
    rfl
  K_one := by
    rintro w x cs ⟨A, c, rfl, _⟩ u hu
    rw [List.mem_singleton.1 hu]
    rfl
  K_below := by
    rintro w w1 x cs hb ⟨A, c, rfl, hl, hr⟩
    exact ⟨A, c, rfl, hl, Kd.C_below hr hb⟩
  K_of_M := by
    rintro w base ok x cs ⟨v, rfl, h⟩
    obtain ⟨A, c, rfl, hl, hr⟩ := Kd.S_reads h
    exact ⟨A, c, rfl, hl, hr⟩
  M_mono := by
    rintro w base ok ok' x cs hok ⟨v, rfl, h⟩
    exact ⟨v, rfl, Kd.S_mono h hok⟩
  M_bound := by
    rintro w base ok x cs ⟨v, rfl, h⟩
    exact ⟨v, rfl, Kd.S_bound h⟩
  M_move := by
    rintro w w1 base ok x cs hm ⟨v, rfl, h⟩
    exact ⟨v, rfl, Kd.S_move h hm⟩
  M_lower := by
    rintro w base base' ok x cs hb ⟨v, rfl, h⟩
    exact ⟨v, rfl, Kd.S_lower h hb⟩
def kP : Kd S52 := Kd.iso (Kd.pair Kd.string (Kd.pair (Kd.int .i64) (sliceS 46 (Kd.slice 3 (Kd.int .i64))))) (fun x : S52 => (x.f0, x.f1, x.f2))
theorem kP_openM {w : World} {base : Nat} {ok : Nat → Prop} {x : S52} {cs : List Value} (h : kP.M w base ok x cs) : ∃ v2, cs = [.string x.f0, .int .i64 x.f1, v2] ∧ Kd.S (Kd.slice 3 (Kd.int .i64)) 46 w base ok v2 x.f2 := by
  obtain ⟨_, _, rfl, rfl, ⟨_, _, rfl, rfl, ⟨v2, rfl, g2⟩⟩⟩ := h
  exact ⟨v2, rfl, g2⟩
theorem kP_mkM (w : World) (base : Nat) (ok : Nat → Prop) (x : S52) {v2 : Value} (g2 : Kd.S (Kd.slice 3 (Kd.int .i64)) 46 w base ok v2 x.f2) : kP.M w base ok x [.string x.f0, .int .i64 x.f1, v2] := ⟨[.string x.f0], [.int .i64 x.f1, v2], rfl, rfl, ⟨[.int .i64 x.f1], [v2], rfl, rfl, ⟨v2, rfl, g2⟩⟩⟩
set_option maxHeartbeats 4000000 in
set_option maxRecDepth 100000 in
theorem copy2_calls (n : Int) (A : Option Addr) (c : Nat) (l : List S52) (w : World) (hC : Kd.C k52 w A l.length l) (hlc : l.length ≤ c) (hok : copyOk l) :
    Calls Tryz.prog 54 #[.agg #[.int .i64 n, .slice A l.length c]] w fun e w' => ∃ v, e = .returned (.agg #[.int .i64 n, v]) ∧ Kd.S kP 52 w' w.heap.size (fun _ => True) v l ∧ Below w.heap.size w w' := by
  have hu38 := Tryz.underlying24
  have hu54 := Tryz.underlying52
  have HC := Aside0.mk hC
  have HL := Aside0.mk hlc
  have HOK := Aside0.mk hok
  have hl0 := hok.1
  clear hC hlc hok
  go_enter Tryz.func54, Tryz.ntmps54
  go_wp2
  have HB3 := Aside0.mk (below_alloc (below_alloc (below_alloc (Below.refl w.heap.size w) (.cells #[.int .i64 n, .slice A l.length c] 24)) (.cells #[.int .i64 0, .slice none 0 0] 24)) (.cells #[.int .i64 n, .slice none 0 0] 24))
  have H2 := Aside0.mk (show (((w.alloc (.cells #[.int .i64 n, .slice A l.length c] 24)).alloc (.cells #[.int .i64 0, .slice none 0 0] 24)).alloc (.cells #[.int .i64 n, .slice none 0 0] 24)).heap[w.heap.size + 1]? = some (.cells #[.int .i64 0, .slice none 0 0] 24 (0, 0)) from (heap_alloc_old _ _ (by simp)).trans (by have := heap_alloc_new (w.alloc (.cells #[.int .i64 n, .slice A l.length c] 24)) (.cells #[.int .i64 0, .slice none 0 0] 24); simpa using this))
  have H3 := Aside0.mk (show (((w.alloc (.cells #[.int .i64 n, .slice A l.length c] 24)).alloc (.cells #[.int .i64 0, .slice none 0 0] 24)).alloc (.cells #[.int .i64 n, .slice none 0 0] 24)).heap[w.heap.size + 1 + 1]? = some (.cells #[.int .i64 n, .slice none 0 0] 24 (0, 0)) from by have := heap_alloc_new ((w.alloc (.cells #[.int .i64 n, .slice A l.length c] 24)).alloc (.cells #[.int .i64 0, .slice none 0 0] 24)) (.cells #[.int .i64 n, .slice none 0 0] 24); simpa using this)
  generalize hW3 : ((w.alloc (.cells #[.int .i64 n, .slice A l.length c] 24)).alloc (.cells #[.int .i64 0, .slice none 0 0] 24)).alloc (.cells #[.int .i64 n, .slice none 0 0] 24) = W3 at *
  clear hW3
  generalize hg2 : w.heap.size + 1 = g2 at *
  generalize hg3 : g2 + 1 = g3 at *
  have hg2w : w.heap.size ≤ g2 := by omega
  have hg3w : w.heap.size ≤ g3 := by omega
  go_loopw [15] (fun v15 wr => ∃ (j : Nat) (v : Value), v15 = .int .i64 j ∧ j ≤ l.length ∧ Aside0 (wr.heap[g2]? = some (.cells #[.int .i64 0, .slice none 0 0] 24 (0, 0))) ∧ Aside0 (wr.heap[g3]? = some (.cells #[.int .i64 n, v] 24 (0, 0))) ∧ Aside0 (Kd.S kP 52 wr w.heap.size (fun _ => True) v (l.take j)) ∧ Aside0 (Below w.heap.size w wr)) (fun v15 _ => l.length - (intOf v15).toNat)
  case atStart => exact ⟨0, .slice none 0 0, rfl, Nat.zero_le _, H2, H3, ⟨Kd.S_nil _ _ _ _ _⟩, HB3⟩
  case round =>
    clear H2 H3 HB3
    obtain ⟨j, v, rfl, hj, H2, H3, HV, HB⟩ := hrel
    generalize wr = wq at *
    by_cases hlt : j < l.length
    · obtain ⟨ad, A2, c2, hA, hx0, hx1, hx2, hl2, hi2⟩ := at_T52 HC.out (j : Int) (by omega) (by omega)
      subst hA
      simp only [Int.toNat_natCast] at hx0 hx1 hx2
      have hrj : rd_T52 l (j : Int) = l[j] := by unfold rd_T52; rw [Int.toNat_natCast, List.getD_eq_getElem?_getD, List.getElem?_eq_getElem hlt]; rfl
      rw [hrj] at hx0 hx1 hx2 hl2 hi2
      have HRJ := Aside0.mk (show l[j]? = some l[j] from List.getElem?_eq_getElem hlt)
      have hrok := HOK.out.2 l[j] (List.getElem_mem hlt)
      generalize l[j] = r at *
      replace hx0 := (HB.out.cell (World.block_lt_of_cell? w _ hx0)).trans hx0
      replace hx1 := (HB.out.cell (World.block_lt_of_cell? w _ hx1)).trans hx1
      replace hx2 := (HB.out.cell (World.block_lt_of_cell? w _ hx2)).trans hx2
      have HT := Aside0.mk hi2
      have HL2 := Aside0.mk hl2
      have hr2 := hrok.1
      have HRT := Aside0.mk hrok.2
      clear hi2 hl2 hrj hrok
      have hlt2' : g2 < wq.heap.size := (Array.getElem?_eq_some_iff.1 H2.out).1
      have hlt3 : g3 < wq.heap.size := (Array.getElem?_eq_some_iff.1 H3.out).1
      go_wp2
      have HBa := Aside0.mk (below_alloc (below_alloc (Below.refl wq.heap.size wq) (.cells #[.string r.f0, .int .i64 r.f1, .slice A2 r.f2.length c2] 52)) (.cells #[.string r.f0, .int .i64 r.f1, .slice none 0 0] 52))
      have H6 := Aside0.mk (show ((wq.alloc (.cells #[.string r.f0, .int .i64 r.f1, .slice A2 r.f2.length c2] 52)).alloc (.cells #[.string r.f0, .int .i64 r.f1, .slice none 0 0] 52)).heap[wq.heap.size + 1]? = some (.cells #[.string r.f0, .int .i64 r.f1, .slice none 0 0] 52 (0, 0)) from by have := heap_alloc_new (wq.alloc (.cells #[.string r.f0, .int .i64 r.f1, .slice A2 r.f2.length c2] 52)) (.cells #[.string r.f0, .int .i64 r.f1, .slice none 0 0] 52); simpa using this)
      generalize hW5 : (wq.alloc (.cells #[.string r.f0, .int .i64 r.f1, .slice A2 r.f2.length c2] 52)).alloc (.cells #[.string r.f0, .int .i64 r.f1, .slice none 0 0] 52) = W5 at *
      clear hW5
      generalize hg6 : wq.heap.size + 1 = g6 at *
      have hg6w : wq.heap.size ≤ g6 := by omega
      clear hx0 hx1 hx2
      go_loopw [27] (fun v27 wl => ∃ (i : Nat) (vt : Value), v27 = .int .i64 i ∧ i ≤ r.f2.length ∧ Aside0 (wl.heap[g6]? = some (.cells #[.string r.f0, .int .i64 r.f1, vt] 52 (0, 0))) ∧ Aside0 (Kd.S (Kd.slice 3 (Kd.int .i64)) 46 wl wq.heap.size (fun _ => True) vt (r.f2.take i)) ∧ Aside0 (Below wq.heap.size wq wl)) (fun v27 _ => r.f2.length - (intOf v27).toNat)
      case atStart => exact ⟨0, .slice none 0 0, rfl, Nat.zero_le _, H6, ⟨Kd.S_nil _ _ _ _ _⟩, HBa⟩
      case round =>
        clear H6 HBa
        obtain ⟨i, vt, rfl, hi, H6, HR, HBl⟩ := hrel
        by_cases hlt2 : i < r.f2.length
        · obtain ⟨ad3, A4, c4, hA3, hy0, hl4, hi4⟩ := at_L2 HT.out (i : Int) (by omega) (by omega)
          subst hA3
          simp only [Int.toNat_natCast] at hy0
          have hrt : rd_L2 r.f2 (i : Int) = r.f2[i] := by unfold rd_L2; rw [Int.toNat_natCast, List.getD_eq_getElem?_getD, List.getElem?_eq_getElem hlt2]; rfl
          rw [hrt] at hy0 hl4 hi4
          have HTI := Aside0.mk (show r.f2[i]? = some r.f2[i] from List.getElem?_eq_getElem hlt2)
          have htl := HRT.out r.f2[i] (List.getElem_mem hlt2)
          generalize r.f2[i] = t at *
          have hb2 := below_step HB.out HBl.out
          replace hy0 := (hb2.cell (World.block_lt_of_cell? w _ hy0)).trans hy0
          have HC4 := Aside0.mk (Kd.C_below hi4 (hb2.mono (Nat.le_refl _)))
          have HL4 := Aside0.mk hl4
          clear hi4 hl4 hrt hb2
          have hc6 : wr.cell? ⟨g6, 2, none⟩ = some vt := (blk_cell H6.out 2).trans rfl
          have hf6 := blk_frozen H6.out 2
          go_upto_region 9 with (fail)
          have HBd := Aside0.mk (below_drew HBl.out)
          have H6d := Aside0.mk (show wr.drew.heap[g6]? = some (.cells #[.string r.f0, .int .i64 r.f1, vt] 52 (0, 0)) from H6.out)
          have HRd := Aside0.mk (Kd.S_drew HR.out)
          have HCd := Aside0.mk (Kd.C_drew HC4.out)
          have hg6d : g6 < wr.drew.heap.size := (Array.getElem?_eq_some_iff.1 H6d.out).1
          have hcd : wr.drew.cell? ⟨g6, 2, none⟩ = some vt := hc6
          refine wp_region_noPanic ?_
          refine start_ (n := 8) (S := fun w' => w'.cell? ⟨g6, 2, none⟩ = some vt) (ds := [7]) #[false, false, false, false, false, false, false, false] (by kernel_rfl) rfl rfl hcd (fun hHeld => ?_)
          generalize wr.drew = wd at *
          refine pure_ (i := 0) (N := some 31) (v := ?_) (a' := ?_) #[true, false, false, false, false, false, false, false] rfl rfl (by kernel_rfl) (fun _ _ _ h => h) (Or.inl ⟨by rfl, ?_⟩) ?_ ?_
          rotate_left
          · intro w'
            go_simp
            with_reducible rfl
          rotate_left
          · simp only [Act.put, List.setIfInBounds_toArray, List.set_cons_zero, List.set_cons_succ, i64_w, i32_w]
            rfl
          refine pure_ (i := 2) (N := some 33) (v := ?_) (a' := ?_) #[true, false, true, false, false, false, false, false] rfl rfl (by kernel_rfl) (fun _ _ _ h => h) (Or.inl ⟨by rfl, ?_⟩) ?_ ?_
          rotate_left
          · intro w'
            go_simp
            with_reducible rfl
          rotate_left
          · simp only [Act.put, List.setIfInBounds_toArray, List.set_cons_zero, List.set_cons_succ, i64_w, i32_w]
            rfl
          refine take_ (i := 1) (N := some 32) (v := ?_) (a' := ?_) #[true, true, true, false, false, false, false, false] rfl rfl (by kernel_rfl) (fun _ _ _ h => h) (Or.inl ⟨by rfl, ?_⟩) hHeld ?_ ?_
          rotate_left
          · intro w' s0
            go_simp
            with_reducible rfl
          rotate_left
          · simp only [Act.put, List.setIfInBounds_toArray, List.set_cons_zero, List.set_cons_succ, i64_w, i32_w]
            rfl
          refine one_ (i := 3) (N := some 34) #[true, true, true, true, false, false, false, false] rfl rfl (by kernel_rfl) (by decide) (fun K hK => ?_)
          refine callE_ 60 #[.slice A4 t.length c4] (by rfl) rfl (by go_simp) ?_
          refine (slices_Clone_int_int.calls A4 c4 t t _ HCd.out HL4.out (if_pos htl)).mono ?_
          rintro e w6 ⟨va, rfl, hRa, hb6⟩
          obtain ⟨Aa, ca, ea⟩ := Kd.R_slice hRa
          subst ea
          left
          refine ⟨_, rfl, ?_⟩
          have HB6 := Aside0.mk (below_step HBd.out hb6)
          have H66 := Aside0.mk ((hb6.block g6 hg6d).trans H6d.out)
          have HR6 := Aside0.mk (Kd.S_mono (ok' := fun k_ => True ∧ ¬ wd.heap.size ≤ k_) (Kd.S_below (Kd.S_bound HRd.out) hb6) (fun k_ hk => ⟨trivial, by have := hk.2.2.1; omega⟩))
          have HRN := Aside0.mk (Kd.S_lt HRd.out)
          have HRa := Aside0.mk (Kd.R_lower (Kd.R_mono (Kd.R_bound hRa) (fun k_ hk => (hk.2.1 : wd.heap.size ≤ k_))) HBd.out.size)
          have hwd6 := hb6.size
          refine hK.out _ _ (pw_cell_below hb6 hcd) (fun hHeld2 => ?_)
          clear hK K hb6 hRa HRd HR H6 H6d HBd HBl
          refine norm_ (a' := ?_) ?_ ?_
          rotate_left
          · show Act.put _ (some 34) _ = _
            simp only [Act.put, List.setIfInBounds_toArray, List.set_cons_zero, List.set_cons_succ, i64_w, i32_w]
            rfl
          refine one_ (i := 4) (N := some 35) #[true, true, true, true, true, false, false, false] rfl rfl (by kernel_rfl) (by decide) (fun K hK => ?_)
          refine value_ (w1 := ?_) (v := ?_) (by rfl) rfl ?_ ?_
          rotate_left 2
          · go_simp
            constructor
            · rfl
            · rfl
          refine hK.out _ _ ((blk_cell (blk_alloc H66.out _) 2).trans rfl) (fun hHeld => ?_)
          clear hK K
          refine norm_ (a' := ?_) ?_ ?_
          rotate_left
          · show Act.put _ (some 35) _ = _
            simp only [Act.put, List.setIfInBounds_toArray, List.set_cons_zero, List.set_cons_succ, i64_w, i32_w]
            rfl
          refine one_ (i := 5) (N := some 36) #[true, true, true, true, true, true, false, false] rfl rfl (by kernel_rfl) (by decide) (fun K hK => ?_)
          refine Kd.S_append_step (Kd.slice 3 (Kd.int .i64)) (w0 := wq) wq.heap.size (by rfl) (.tmp 32) (.tmp 35) 50 46 (.slice none 0 0) 24 rfl Tryz.underlying50 infoInts rfl (by decide) (by omega) vt (r.f2.take i) t [.slice Aa t.length ca] (fun _ => True) (fun k_ => wd.heap.size ≤ k_) rfl rfl ?aP (fun k_ hk => ⟨trivial, fun e => by have := HRN.out k_ e.symm; omega⟩) ?aF ?aO ?aB ?aS ?aL ?_
          (case aP => exact Kd.M_row HRa.out)
          (case aB => exact HB6.out)
          (case aF => exact (fun _ _ => trivial))
          (case aO => exact HR6.out)
          (case aS => exact HB6.out.size)
          (case aL => rw [List.length_take]; omega)
          intro v7 w7 ho hb hg hat
          have n0_ := Aside0.mk hb
          have n1_ := Aside0.mk ho
          have n2_ := Aside0.mk (blk_grown H66.out hg (Kd.S_ne HR6.out H66.out (by decide)))
          clear ho hb hg hat HB6 HR6 HRa
          obtain ⟨A7, c7, e7⟩ := Kd.S_slice n1_.out
          subst e7
          rw [show (r.f2.take i ++ [t]).length = i + 1 from by rw [List.length_append, List.length_singleton, List.length_take]; omega] at n1_ ⊢
          refine hK.out _ _ ((blk_cell n2_.out 2).trans rfl) (fun hHeld => ?_)
          clear hK K
          refine norm_ (a' := ?_) ?_ ?_
          rotate_left
          · show Act.put _ (some 36) _ = _
            simp only [Act.put, List.setIfInBounds_toArray, List.set_cons_zero, List.set_cons_succ, i64_w, i32_w]
            rfl
          refine pure_ (i := 6) (N := some 37) (v := ?_) (a' := ?_) #[true, true, true, true, true, true, true, false] rfl rfl (by kernel_rfl) (fun _ _ _ h => h) (Or.inl ⟨by rfl, ?_⟩) ?_ ?_
          rotate_left
          · intro w'
            go_simp
            with_reducible rfl
          rotate_left
          · simp only [Act.put, List.setIfInBounds_toArray, List.set_cons_zero, List.set_cons_succ, i64_w, i32_w]
            rfl
          refine last_ (i := 7) (N := none) #[true, true, true, true, true, true, true, true] rfl rfl (by kernel_rfl) (by decide) (fun K hK => ?_)
          have hs7 : w7.cell? ⟨g6, 2, none⟩ = some vt := (blk_cell n2_.out 2).trans rfl
          have hf7 := blk_frozen n2_.out 2
          refine skip_ (w1 := ?_) (by rfl) rfl ?_ ?_
          rotate_left
          · go_simp
            rfl
          refine hK.out _ _ ?_
          clear hK K
          refine done_ (by kernel_rfl) ?_
          refine NoPanic.normal ?_
          have n3_ := Aside0.mk (Kd.S_set n1_.out n2_.out (by decide) 2 (.slice A7 (i + 1) c7))
          have n4_ := Aside0.mk (blk_put (cs' := #[.string r.f0, .int .i64 r.f1, .slice A7 (i + 1) c7]) n2_.out 2 (.slice A7 (i + 1) c7) rfl)
          have n5_ := Aside0.mk (below_set (j := 2) (v := .slice A7 (i + 1) c7) n0_.out hg6w)
          rw [← take_snoc' HTI.out] at n3_
          try go_wp2
          go_roundw
          · exact ⟨i + 1, _, (by simp), hlt2, n4_, n3_, n5_⟩
          · simp [intOf]; omega
        · obtain rfl : i = r.f2.length := by omega
          rw [List.take_length] at HR
          have H3l := Aside0.mk ((HBl.out.block g3 hlt3).trans H3.out)
          have H2l := Aside0.mk ((HBl.out.block g2 hlt2').trans H2.out)
          obtain ⟨At, ct, hvt⟩ := Kd.S_slice HR.out
          subst hvt
          have hc3 : wr.cell? ⟨g3, 1, none⟩ = some v := (blk_cell H3l.out 1).trans rfl
          have hc6_0 : wr.cell? ⟨g6, 0, none⟩ = some (.string r.f0) := (blk_cell H6.out 0).trans rfl
          have hc6_1 : wr.cell? ⟨g6, 1, none⟩ = some (.int .i64 r.f1) := (blk_cell H6.out 1).trans rfl
          have hc6_2 : wr.cell? ⟨g6, 2, none⟩ = some (.slice At r.f2.length ct) := (blk_cell H6.out 2).trans rfl
          have HRb := Aside0.mk (Kd.S_lower (Kd.S_mono (Kd.S_bound HR.out) (fun k_ hk => (hk.2.1 : wq.heap.size ≤ k_))) HB.out.size)
          have HVl := Aside0.mk (Kd.S_mono (ok' := fun k_ => True ∧ ¬ wq.heap.size ≤ k_) (Kd.S_below (Kd.S_bound HV.out) HBl.out) (fun k_ hk => ⟨trivial, by have := hk.2.2.1; omega⟩))
          have HVN := Aside0.mk (Kd.S_lt HV.out)
          have HBw := Aside0.mk (below_step HB.out HBl.out)
          have hjl : (l.take j).length ≤ 100000 := by rw [List.length_take]; omega
          go_wp2_with (first | ((with_reducible refine gate_builtin (b := .append) (xs := #[.tmp 40, .tmp 42]) rfl ?_); at_builtin; refine Kd.S_append kP (w0 := w) w.heap.size rfl (.tmp 40) (.tmp 42) 22 52 (.agg #[.string ⟨#[]⟩, .int .i64 0, .slice none 0 0]) 48 rfl Tryz.underlying22 infoRel' rfl (by decide) (by omega) v (l.take j) r [.string r.f0, .int .i64 r.f1, .slice At r.f2.length ct] (fun _ => True) (fun k_ => wq.heap.size ≤ k_) rfl rfl ?aP ?aK ?aF ?aO ?aB ?aS ?aL ?_; (case aP => exact kP_mkM _ _ _ r HRb.out); (case aK => exact fun k_ hk => ⟨trivial, fun e => by have := HVN.out k_ e.symm; omega⟩); (case aF => exact fun _ _ => trivial); (case aO => exact HVl.out); (case aB => exact HBw.out); (case aS => exact HBw.out.size); (case aL => omega); intro v7 w7 ho hb hg hat; have n0_ := Aside0.mk hb; have n1_ := Aside0.mk ho; have n2_ := Aside0.mk (blk_grown H3l.out hg (Kd.S_ne HVl.out H3l.out (by decide))); have n3_ := Aside0.mk (blk_grown H2l.out hg (Kd.S_ne HVl.out H2l.out (by decide))); clear ho hb hg hat; obtain ⟨A7, c7, e7⟩ := Kd.S_slice n1_.out; subst e7; have hc9 : w7.cell? ⟨g3, 1, none⟩ = some v := (blk_cell n2_.out 1).trans rfl; have hf9 := blk_frozen n2_.out 1))
          rw [show (l.take j ++ [r]).length = j + 1 from by rw [List.length_append, List.length_singleton, List.length_take]; omega] at n1_
          have n4_ := Aside0.mk (Kd.S_set n1_.out n2_.out (by decide) 1 (.slice A7 (j + 1) c7))
          have n5_ := Aside0.mk (blk_put (cs' := #[.int .i64 n, .slice A7 (j + 1) c7]) n2_.out 1 (.slice A7 (j + 1) c7) rfl)
          have n6_ := Aside0.mk ((Below.heap_setCell w7 ⟨g3, 1, none⟩ (.slice A7 (j + 1) c7) g2 (by show g2 ≠ g3; omega)).trans n3_.out)
          have n7_ := Aside0.mk (below_set (j := 1) (v := .slice A7 (j + 1) c7) n0_.out hg3w)
          rw [← take_snoc' HRJ.out] at n4_
          go_roundw
          · exact ⟨j + 1, _, (by simp), hlt, n6_, n5_, n4_, n7_⟩
          · simp [intOf]; omega
    · obtain rfl : j = l.length := by omega
      rw [List.take_length] at HV
      obtain ⟨Av, cv, hv⟩ := Kd.S_slice HV.out
      subst hv
      have hcz3_0 : wq.cell? ⟨g3, 0, none⟩ = some (.int .i64 n) := (blk_cell H3.out 0).trans rfl
      have hcz3_1 : wq.cell? ⟨g3, 1, none⟩ = some (.slice Av l.length cv) := (blk_cell H3.out 1).trans rfl
      have hcz2_0 : wq.cell? ⟨g2, 0, none⟩ = some (.int .i64 0) := (blk_cell H2.out 0).trans rfl
      have hcz2_1 : wq.cell? ⟨g2, 1, none⟩ = some (.slice none 0 0) := (blk_cell H2.out 1).trans rfl
      have hfz2_0 := blk_frozen H2.out 0
      have hfz2_1 := blk_frozen H2.out 1
      go_wp2
      have HX := blk_put (cs' := #[.int .i64 n, .slice Av l.length cv]) (blk_put (cs' := #[.int .i64 n, .slice none 0 0]) H2.out 0 (.int .i64 n) rfl) 1 (.slice Av l.length cv) rfl
      have HV1 := Kd.S_set HV.out H2.out (by decide) 0 (.int .i64 n)
      have HV2 := Kd.S_set HV1 (blk_put (cs' := #[.int .i64 n, .slice none 0 0]) H2.out 0 (.int .i64 n) rfl) (by decide) 1 (.slice Av l.length cv)
      have HBX := below_set (j := 1) (v := .slice Av l.length cv) (below_set (j := 0) (v := .int .i64 n) HB.out hg2w) hg2w
      refine bodyPost_ret (results_cell_row rfl _ _ g2 24 #[.int .i64 n, .slice Av l.length cv] (0, 0) _ rfl HX Tryz.underlying24 rfl (by kernel_rfl)) rfl ?_
      exact ⟨_, rfl, HV2, HBX⟩
end Go.Proofs.YtfmpaofbnjlniaaGreatDoor.F
/- slices.SortFunc at a row of tuples that lie apart: what the comparison says, and what the row is behind the sort. -/
namespace Go.Proofs.YtfmpaofbnjlniaaGreatDoor.F
open Go.RowKit Go.Lib Go.Sort Go.Proofs.YtfmpaofbnjlniaaGreatDoorW.PrintWords Go.Proofs.YtfmpaofbnjlniaaGreatDoorW.PrintLast Go.Proofs.YtfmpaofbnjlniaaGreatDoorW.PrintMore
set_option linter.unusedVariables false
set_option linter.unusedSimpArgs false
/-! ### the order -/
theorem lex_ntrans (x y z : List Int) (h1 : x.length = y.length) (h2 : y.length = z.length) (h : lexL x y = false) (g : lexL y z = false) : lexL x z = false := by
  cases hx : lexL x z with
  | false => rfl
  | true =>
    by_cases e : x = y
    · subst e; rw [hx] at g; cases g
    · have h3 := lex_tri x y h1 h e
      have h4 := lex_trans y x z h1.symm (h1.trans h2) h3 hx
      rw [h4] at g; cases g
def tAt (ts : List (List Int)) (i : Nat) : List Int := ts.getD (min i (ts.length - 1)) []
theorem tAt_lt {ts : List (List Int)} {i : Nat} (h : i < ts.length) : tAt ts i = ts[i] := by
  unfold tAt
  rw [show min i (ts.length - 1) = i by omega, List.getD_eq_getElem?_getD, List.getElem?_eq_getElem h]
  rfl
theorem tAt_mem {ts : List (List Int)} (hp : 0 < ts.length) (i : Nat) : tAt ts i ∈ ts := by
  unfold tAt
  have h : min i (ts.length - 1) < ts.length := by omega
  rw [List.getD_eq_getElem?_getD, List.getElem?_eq_getElem h]
  exact List.getElem_mem h
def cfT (ts : List (List Int)) (x y : Nat) : Int := (slices_Compare_int_int.f 2000 (tAt ts x) (tAt ts y)).getD 0
section
variable {ts : List (List Int)} {m : Nat}
theorem cfT_eq (hp : 0 < ts.length) (hm : m ≤ 1000) (hl : ∀ t ∈ ts, t.length = m) (x y : Nat) : slices_Compare_int_int.f 2000 (tAt ts x) (tAt ts y) = some (cfT ts x y) ∧ ltOf (cfT ts) x y = lexL (tAt ts x) (tAt ts y) := by
  have h1 := hl _ (tAt_mem hp x)
  have h2 := hl _ (tAt_mem hp y)
  obtain ⟨c, hc, hlt, _⟩ := cmp_eq (tAt ts x) (tAt ts y) (by omega) (by omega) 2000 (by omega)
  have hcf : cfT ts x y = c := by unfold cfT; rw [hc]; rfl
  refine ⟨by rw [hcf, hc], ?_⟩
  unfold ltOf
  rw [hcf]
  cases h : lexL (tAt ts x) (tAt ts y) with
  | true => exact decide_eq_true (hlt.2 h)
  | false => exact decide_eq_false (fun h3 => by rw [hlt.1 h3] at h; cases h)
theorem swoT (hp : 0 < ts.length) (hm : m ≤ 1000) (hl : ∀ t ∈ ts, t.length = m) : SWO (ltOf (cfT ts)) where
  irrefl x := by rw [(cfT_eq hp hm hl x x).2]; exact lex_irr _
  trans x y z h1 h2 := by
    rw [(cfT_eq hp hm hl _ _).2] at *
    have a := hl _ (tAt_mem hp x); have b := hl _ (tAt_mem hp y); have c := hl _ (tAt_mem hp z)
    exact lex_trans _ _ _ (by omega) (by omega) h1 h2
  ntrans x y z h1 h2 := by
    rw [(cfT_eq hp hm hl _ _).2] at *
    have a := hl _ (tAt_mem hp x); have b := hl _ (tAt_mem hp y); have c := hl _ (tAt_mem hp z)
    exact lex_ntrans _ _ _ (by omega) (by omega) h1 h2
theorem range_map (ts : List (List Int)) : (List.range ts.length).map (tAt ts) = ts := by
  apply List.ext_getElem
  · simp
  · intro i h1 h2
    rw [List.getElem_map, List.getElem_range, tAt_lt h2]
/-- The sorted row is THE sorted row. -/
theorem sortedT (hp : 0 < ts.length) (hm : m ≤ 1000) (hl : ∀ t ∈ ts, t.length = m) (hn : ts.Nodup) (d : Array Nat) (hP : PermIn 0 (Array.range ts.length).size (Array.range ts.length) d) (hS : SortedIn (ltOf (cfT ts)) 0 (Array.range ts.length).size d) :
    d.size = ts.length ∧ (∀ i ∈ d.toList, i < ts.length) ∧ d.toList.Nodup ∧ d.toList.map (tAt ts) = sortedB ts := by
  obtain ⟨h1, _, h3⟩ := hP
  have hz : d.size = ts.length := by simpa using h1
  have hperm : d.toList.Perm (List.range ts.length) := by
    have e1 : (d.extract 0 (Array.range ts.length).size).toList = d.toList := by rw [← h1]; simp
    have e2 : ((Array.range ts.length).extract 0 (Array.range ts.length).size).toList = List.range ts.length := by simp
    rw [e1, e2] at h3
    exact h3
  have hlt : ∀ i ∈ d.toList, i < ts.length := fun i hi => List.mem_range.1 (hperm.mem_iff.1 hi)
  have hnd : d.toList.Nodup := hperm.nodup_iff.2 List.nodup_range
  have hy : (d.toList.map (tAt ts)).Perm ts := by
    have := hperm.map (tAt ts)
    rwa [range_map] at this
  have hly : ∀ t ∈ d.toList.map (tAt ts), t.length = m := fun t ht => hl t (hy.mem_iff.1 ht)
  have hyn : (d.toList.map (tAt ts)).Nodup := hy.nodup_iff.2 hn
  have hys : Sorted (d.toList.map (tAt ts)) := by
    unfold Sorted
    rw [List.pairwise_iff_getElem]
    intro i j hi hj hij
    have hi2 : i < d.size := by simpa using hi
    have hj2 : j < d.size := by simpa using hj
    have hlt2 := hS i j (Nat.zero_le _) hij (by rw [Array.size_range]; omega)
    rw [(cfT_eq hp hm hl _ _).2] at hlt2
    have a1 : (d.toList.map (tAt ts))[i] = tAt ts d[i]! := by rw [List.getElem_map, Array.getElem_toList, getElem!_pos d i hi2]
    have a2 : (d.toList.map (tAt ts))[j] = tAt ts d[j]! := by rw [List.getElem_map, Array.getElem_toList, getElem!_pos d j hj2]
    have hne : (d.toList.map (tAt ts))[j] ≠ (d.toList.map (tAt ts))[i] := fun e => (List.pairwise_iff_getElem.1 hyn i j hi hj hij) e.symm
    have l1 := hly _ (List.getElem_mem hi)
    have l2 := hly _ (List.getElem_mem hj)
    rw [← a1, ← a2] at hlt2
    exact lex_tri _ _ (by omega) hlt2 hne
  obtain ⟨s1, s2⟩ := sortedB_facts m ts [] List.Pairwise.nil (by simp) hl
  refine ⟨hz, hlt, hnd, sorted_ext m _ _ hys s1 hly (fun a ha => ?_) (fun a => ?_)⟩
  · rcases (s2 a).1 ha with h | h
    · cases h
    · exact hl a h
  · show a ∈ _ ↔ a ∈ ts.foldl insOne []
    rw [s2 a]
    simp only [List.not_mem_nil, false_or]
    exact hy.mem_iff
end
/-! ### the world behind the sort -/
section
variable {enc : Nat → Value} {w : World} {blk n : Nat} {d : Array Nat} {os : Array Obj}
theorem sw_other (k : Nat) (hk : k < w.heap.size) (hne : k ≠ blk) : (sortWorld enc w blk 0 n d os).heap[k]? = w.heap[k]? := by
  unfold sortWorld
  show ((putRow enc (Sort.ahead w n) blk 0 d).heap ++ os)[k]? = _
  rw [Array.getElem?_append, if_pos (by simpa [putRow, mapBlock] using hk)]
  show (w.heap.modify blk _)[k]? = _
  rw [Array.getElem?_modify, if_neg (Ne.symm hne)]
theorem sw_at {cur : Array Value} {e : TypeId} {fr : Nat × Nat} (hb : w.heap[blk]? = some (.cells cur e fr)) : (sortWorld enc w blk 0 n d os).heap[blk]? = some (.cells (putCells enc 0 d cur) e fr) := by
  have hk : blk < w.heap.size := (Array.getElem?_eq_some_iff.1 hb).1
  unfold sortWorld
  show ((putRow enc (Sort.ahead w n) blk 0 d).heap ++ os)[blk]? = _
  rw [Array.getElem?_append, if_pos (by simpa [putRow, mapBlock] using hk)]
  show (w.heap.modify blk _)[blk]? = _
  rw [Array.getElem?_modify, if_pos rfl, hb]
  rfl
theorem sw_size : w.heap.size ≤ (sortWorld enc w blk 0 n d os).heap.size := by
  unfold sortWorld
  show _ ≤ ((putRow enc (Sort.ahead w n) blk 0 d).heap ++ os).size
  rw [Array.size_append, size_putRow]
  exact Nat.le_add_right _ _
theorem sw_below (B : Nat) (hB : B ≤ blk) (hBw : B ≤ w.heap.size) : Below B w (sortWorld enc w blk 0 n d os) := ⟨rfl, rfl, rfl, sw_size, fun k hk => sw_other k (by omega) (by omega)⟩
theorem put_take (cur : Array Value) (hc : d.size ≤ cur.size) : (putCells enc 0 d cur).toList.take d.size = d.toList.map enc := by
  apply List.ext_getElem?
  intro i
  rw [List.getElem?_take, List.getElem?_map]
  by_cases h : i < d.size
  · rw [if_pos h]
    unfold putCells
    rw [Array.getElem?_toList, Array.getElem?_mapIdx, Array.getElem?_eq_getElem (show i < cur.size by omega), Option.map_some, if_pos ⟨Nat.zero_le _, by omega⟩, Array.getElem?_toList, Array.getElem?_eq_getElem h, Option.map_some, Nat.sub_zero, getElem!_pos d i h]
  · rw [if_neg h, Array.getElem?_toList, Array.getElem?_eq_none (by omega)]
    rfl
theorem put_size (cur : Array Value) : (putCells enc 0 d cur).size = cur.size := by unfold putCells; simp
end
end Go.Proofs.YtfmpaofbnjlniaaGreatDoor.F
/- slices.SortFunc at a row of tuples that lie apart: the row behind the sort, and what the comparison reads. -/
namespace Go.Proofs.YtfmpaofbnjlniaaGreatDoor.F
open Go.RowKit Go.Lib Go.Sort Go.Proofs.YtfmpaofbnjlniaaGreatDoorW.PrintWords Go.Proofs.YtfmpaofbnjlniaaGreatDoorW.PrintLast Go.Proofs.YtfmpaofbnjlniaaGreatDoorW.PrintMore
set_option linter.unusedVariables false
set_option linter.unusedSimpArgs false
abbrev kT : Kd (List Int) := Kd.slice 3 (Kd.int .i64)
/-- A row's cells, by index. -/
def encT (inner : List Value) (N i : Nat) : Value := inner.getD (min i (N - 1)) (.slice none 0 0)
theorem encT_at {inner : List Value} {N i : Nat} (h : i < N) (hl : inner.length = N) : inner[i]? = some (encT inner N i) := by
  unfold encT
  rw [show min i (N - 1) = i by omega, List.getD_eq_getElem?_getD, List.getElem?_eq_getElem (by omega)]
  rfl
section
variable {w : World} {base g c : Nat} {ok : Nat → Prop} {ts : List (List Int)} {f : Nat → Nat} {inner : List Value}
theorem seg_one {l : List Value} {i : Nat} {u : Value} (h : l[i]? = some u) : (l.drop (i * 1)).take 1 = [u] := by
  rw [Nat.mul_one]
  obtain ⟨hi, he⟩ := List.getElem?_eq_some_iff.1 h
  rw [List.drop_eq_getElem_cons hi, he]
  rfl
/-- Element i, with its blocks. -/
theorem elemT (hr : Reps ((Kd.tag f kT).M w base (fun k => ok k ∧ some k ≠ (Value.slice (some ⟨g, 0, none⟩) ts.length c).ownBlock)) 1 ts.zipIdx inner) {i : Nat} (hi : i < ts.length) :
    kT.M w base (fun k => (ok k ∧ some k ≠ (Value.slice (some ⟨g, 0, none⟩) ts.length c).ownBlock) ∧ f k = i) (tAt ts i) [encT inner ts.length i] := by
  have hlen : inner.length = ts.length := by have := hr.1; rw [List.length_zipIdx, Nat.mul_one] at this; exact this
  have h := hr.2 i _ (Kd.zip_at (List.getElem?_eq_getElem hi))
  rw [seg_one (encT_at hi hlen)] at h
  rw [tAt_lt hi]
  exact h
theorem cmpT (hp : 0 < ts.length) (m : Nat) (hm : m ≤ 1000) (hl : ∀ t ∈ ts, t.length = m) (hg : g < w.heap.size)
    (hr : Reps ((Kd.tag f kT).M w base (fun k => ok k ∧ some k ≠ (Value.slice (some ⟨g, 0, none⟩) ts.length c).ownBlock)) 1 ts.zipIdx inner) :
    CmpReads Tryz.prog 57 #[] (encT inner ts.length) (cfT ts) g 0 ts.length w := by
  intro n os dk hs x y
  have hin : ∀ i, ∃ A cc, encT inner ts.length i = .slice A (tAt ts i).length cc ∧ (tAt ts i).length ≤ cc ∧ Kd.C (Kd.int .i64) (sortWorld (encT inner ts.length) w g 0 n dk os) A (tAt ts i).length (tAt ts i) := by
    intro i
    have hi : min i (ts.length - 1) < ts.length := by omega
    obtain ⟨v, hv, hR⟩ := elemT hr hi
    have e1 : encT inner ts.length (min i (ts.length - 1)) = encT inner ts.length i := by unfold encT; rw [Nat.min_assoc, Nat.min_self]
    have e2 : tAt ts (min i (ts.length - 1)) = tAt ts i := by unfold tAt; rw [Nat.min_assoc, Nat.min_self]
    rw [e2] at hR
    rw [e1] at hv
    have hR2 := Kd.R_step (w1 := sortWorld (encT inner ts.length) w g 0 n dk os) hR (fun k hk hlt => sw_other k hlt (fun e => hk.1.2 (by rw [e]; rfl)))
    obtain ⟨A, cc, ev, hle, hC⟩ := Kd.R_reads hR2
    exact ⟨A, cc, (List.singleton_inj.1 hv).trans ev, hle, hC⟩
  obtain ⟨A1, c1, e1, l1, C1⟩ := hin x
  obtain ⟨A2, c2, e2, l2, C2⟩ := hin y
  have h := slices_Compare_int_int.calls 2000 A1 c1 (tAt ts x) A2 c2 (tAt ts y) (cfT ts x y) _ C1 l1 C2 l2 (cfT_eq hp hm hl x y).1
  show Calls _ _ #[encT inner ts.length x, encT inner ts.length y] _ _
  rw [e1, e2]
  exact h.mono fun _ _ ⟨he, q, hq⟩ => ⟨he, q, hq⟩
/-- The row behind the sort: its elements lie apart as they did. -/
theorem sortedS (hok : ∀ k, (Value.slice (some ⟨g, 0, none⟩) ts.length c).ownBlock = some k → ok k) (ho : w.ownsRow base 46 1 (.slice (some ⟨g, 0, none⟩) ts.length c) ts.length inner)
    (hr : Reps ((Kd.tag f kT).M w base (fun k => ok k ∧ some k ≠ (Value.slice (some ⟨g, 0, none⟩) ts.length c).ownBlock)) 1 ts.zipIdx inner)
    (d : Array Nat) (hz : d.size = ts.length) (hlt : ∀ i ∈ d.toList, i < ts.length) (hn : d.toList.Nodup) (n : Nat) (os : Array Obj) :
    Kd.S kT 46 (sortWorld (encT inner ts.length) w g 0 n d os) base ok (.slice (some ⟨g, 0, none⟩) ts.length c) (d.toList.map (tAt ts)) := by
  have hlen : (d.toList.map (tAt ts)).length = ts.length := by rw [List.length_map, Array.length_toList, hz]
  refine ⟨fun k => d.toList.idxOf (f k), hok, d.toList.map (encT inner ts.length), ?_, ?_, ?_⟩
  · rw [List.length_zipIdx, hlen]
    refine ⟨by rw [List.length_map, Array.length_toList, hz]; exact (Nat.mul_one _).symm, ?_⟩
    rcases ho.2 with ⟨h, _⟩ | ⟨g', cap, cur, hv, hb, hh, h1, h2, h3, h4⟩
    · cases h
    · injection hv with hv1 hv2 hv3
      injection hv1 with hv1
      injection hv1 with hv1
      subst hv1
      refine .inr ⟨g, cap, putCells (encT inner ts.length) 0 d cur, by rw [hv3], hb, sw_at hh, h1, h2, (put_size cur).trans h3, ?_⟩
      show (putCells (encT inner ts.length) 0 d cur).toList.take (ts.length * 1) = _
      rw [Nat.mul_one, ← hz]
      exact put_take cur (by have : (kT).sz = 1 := rfl; omega)
  · rw [List.length_zipIdx, List.length_map, List.length_map]
    exact (Nat.mul_one _).symm
  · intro j p hj
    rw [List.getElem?_zipIdx, Nat.zero_add] at hj
    obtain ⟨q, hq, rfl⟩ := Option.map_eq_some_iff.1 hj
    have hjl : j < d.toList.length := by have := (List.getElem?_eq_some_iff.1 hq).1; rwa [List.length_map] at this
    have hq2 : q = tAt ts (d.toList[j]) := by
      rw [List.getElem?_map, List.getElem?_eq_getElem hjl] at hq
      exact (Option.some.inj hq).symm
    subst hq2
    have hi := hlt _ (List.getElem_mem hjl)
    have hM := elemT hr hi
    have hs : ((d.toList.map (encT inner ts.length)).drop (j * 1)).take 1 = [encT inner ts.length d.toList[j]] := seg_one (by rw [List.getElem?_map, List.getElem?_eq_getElem hjl]; rfl)
    show kT.M _ base _ (tAt ts d.toList[j]) (((d.toList.map (encT inner ts.length)).drop (j * 1)).take 1)
    rw [hs]
    refine kT.M_mono (fun k hk => ⟨hk.1, ?_⟩) (Kd.M_step hM (fun k hk hl2 => sw_other k hl2 (fun e => hk.1.2 (by rw [e]; rfl))))
    show d.toList.idxOf (f k) = j
    rw [hk.2]
    exact hn.idxOf_getElem j hjl
end
end Go.Proofs.YtfmpaofbnjlniaaGreatDoor.F
/-
  DERIVED: THE SHELF's CONTRACTS AT THIS DUMP, IN PLAIN WORDS (tools/lay-plain.mjs out of 'TryzSort.lean', which tools/lay-shelf.mjs wrote): THE SAME DECLARATIONS UNDER THE SAME NAMES: 'import', 'namespace', 'open', 'def', 'theorem' AND NOTHING ELSE: no command of the shelf's: FOR A HAND-IN. Each laying: the table of numbers ('.._ren') and one theorem, a field a fact of the dump's own or the kernel's comparison; each contract: ONE APPLICATION.
-/
namespace Go.Proofs
open Go.Shelf
def Tryz.sortL_ren : Go.Shelf.Ren := ⟨fun | 6 => 63 | 15 => 91 | 14 => 90 | 28 => 117 | 29 => 118 | 20 => 109 | 21 => 110 | 22 => 111 | 23 => 112 | 24 => 113 | 25 => 114 | 26 => 115 | 27 => 116 | 46 => 134 | 47 => 135 | 48 => 136 | 49 => 137 | 50 => 138 | 57 => 151 | n => n, fun | 22 => 50 | 24 => 46 | 25 => 102 | 3 => 3 | 39 => 131 | 0 => 0 | 53 => 152 | 55 => 154 | 4 => 4 | 46 => 146 | 45 => 145 | 50 => 100 | 5 => 5 | 9 => 9 | 66 => 170 | 70 => 174 | 76 => 186 | 77 => 187 | n => n, fun | n => n⟩
theorem Tryz.sortL : Go.Proofs.SlLaysF.n6 Tryz.prog Tryz.sortL_ren := {
  mixed := by kernel_rfl
  f6 := ⟨Tryz.f63.name, by decide, Tryz.func63.trans (congrArg some (by kernel_rfl))⟩
  f14 := ⟨Tryz.f90.name, by decide, Tryz.func90.trans (congrArg some (by kernel_rfl))⟩
  f15 := Tryz.func91.trans (congrArg some (by kernel_rfl))
  f20 := ⟨Tryz.f109.name, by decide, Tryz.func109.trans (congrArg some (by kernel_rfl))⟩
  f21 := ⟨Tryz.f110.name, by decide, Tryz.func110.trans (congrArg some (by kernel_rfl))⟩
  f22 := ⟨Tryz.f111.name, by decide, Tryz.func111.trans (congrArg some (by kernel_rfl))⟩
  f23 := ⟨Tryz.f112.name, by decide, Tryz.func112.trans (congrArg some (by kernel_rfl))⟩
  f24 := ⟨Tryz.f113.name, by decide, Tryz.func113.trans (congrArg some (by kernel_rfl))⟩
  f25 := ⟨Tryz.f114.name, by decide, Tryz.func114.trans (congrArg some (by kernel_rfl))⟩
  f26 := ⟨Tryz.f115.name, by decide, Tryz.func115.trans (congrArg some (by kernel_rfl))⟩
  f27 := ⟨Tryz.f116.name, by decide, Tryz.func116.trans (congrArg some (by kernel_rfl))⟩
  f28 := Tryz.func117.trans (congrArg some (by kernel_rfl))
  f29 := Tryz.func118.trans (congrArg some (by kernel_rfl))
  f46 := ⟨Tryz.f134.name, by decide, Tryz.func134.trans (congrArg some (by kernel_rfl))⟩
  f47 := Tryz.func135.trans (congrArg some (by kernel_rfl))
  f48 := Tryz.func136.trans (congrArg some (by kernel_rfl))
  f49 := ⟨Tryz.f137.name, by decide, Tryz.func137.trans (congrArg some (by kernel_rfl))⟩
  f50 := ⟨Tryz.f138.name, by decide, Tryz.func138.trans (congrArg some (by kernel_rfl))⟩
  f57 := ⟨Tryz.f151.name, by decide, Tryz.func151.trans (congrArg some (by kernel_rfl))⟩
  t0 := Tryz.underlying0
  a0 := Tryz.isAgg0
  z0 := Tryz.sizeOf0
  v0 := Tryz.zeroValue0
  t3 := Tryz.underlying3
  a3 := Tryz.isAgg3
  z3 := Tryz.sizeOf3
  v3 := Tryz.zeroValue3
  t4 := Tryz.underlying4
  a4 := Tryz.isAgg4
  z4 := Tryz.sizeOf4
  v4 := Tryz.zeroValue4
  t5 := Tryz.underlying5
  a5 := Tryz.isAgg5
  z5 := Tryz.sizeOf5
  v5 := Tryz.zeroValue5
  t9 := Tryz.underlying9
  a9 := Tryz.isAgg9
  z9 := Tryz.sizeOf9
  v9 := Tryz.zeroValue9
  t22 := Tryz.underlying50
  a22 := Tryz.isAgg50
  z22 := Tryz.sizeOf50
  v22 := Tryz.zeroValue50
  a24 := Tryz.isAgg46
  z24 := Tryz.sizeOf46
  t25 := Tryz.underlying102
  a25 := Tryz.isAgg102
  z25 := Tryz.sizeOf102
  v25 := Tryz.zeroValue102
  t39 := Tryz.underlying131
  a39 := Tryz.isAgg131
  z39 := Tryz.sizeOf131
  v39 := Tryz.zeroValue131
  t45 := Tryz.underlying145
  a45 := Tryz.isAgg145
  z45 := Tryz.sizeOf145
  v45 := Tryz.zeroValue145
  t46 := Tryz.underlying146
  a46 := Tryz.isAgg146
  z46 := Tryz.sizeOf146
  v46 := Tryz.zeroValue146
  t50 := Tryz.underlying100
  a50 := Tryz.isAgg100
  z50 := Tryz.sizeOf100
  v50 := Tryz.zeroValue100
  t53 := Tryz.underlying152
  a53 := Tryz.isAgg152
  z53 := Tryz.sizeOf152
  v53 := Tryz.zeroValue152
  t55 := Tryz.underlying154
  a55 := Tryz.isAgg154
  z55 := Tryz.sizeOf154
  v55 := Tryz.zeroValue154
  t66 := Tryz.underlying170
  a66 := Tryz.isAgg170
  z66 := Tryz.sizeOf170
  v66 := Tryz.zeroValue170
  t70 := Tryz.underlying174
  a70 := Tryz.isAgg174
  z70 := Tryz.sizeOf174
  v70 := Tryz.zeroValue174
  t76 := Tryz.underlying186
  a76 := Tryz.isAgg186
  z76 := Tryz.sizeOf186
  v76 := Tryz.zeroValue186
  t77 := Tryz.underlying187
  a77 := Tryz.isAgg187
  z77 := Tryz.sizeOf187
  v77 := Tryz.zeroValue187 }
end Go.Proofs
/- slices.SortFunc(tuples, slices.Compare[[]int]), at a row of tuples that lie apart. -/
namespace Go.Proofs.YtfmpaofbnjlniaaGreatDoor.F
open Go.RowKit Go.Lib Go.Sort Go.Proofs.YtfmpaofbnjlniaaGreatDoorW.PrintWords Go.Proofs.YtfmpaofbnjlniaaGreatDoorW.PrintLast Go.Proofs.YtfmpaofbnjlniaaGreatDoorW.PrintMore
set_option linter.unusedVariables false
set_option linter.unusedSimpArgs false
theorem sort_calls (w : World) (base : Nat) (ok : Nat → Prop) (A : Option Addr) (c : Nat) (ts : List (List Int)) (m : Nat) (hm : m ≤ 1000) (hl : ∀ t ∈ ts, t.length = m) (hn : ts.Nodup) (hN : ts.length ≤ 100000)
    (h : Kd.S kT 46 w base ok (.slice A ts.length c) ts) (hb : base ≤ w.heap.size) :
    Calls Tryz.prog 63 #[.slice A ts.length c, .func (.func 57) #[] #[]] w fun e w' =>
      e = .returned (.tuple #[]) ∧ Kd.S kT 46 w' base ok (.slice A ts.length c) (sortedB ts) ∧ (∀ k, k < w.heap.size → some k ≠ (Value.slice A ts.length c).ownBlock → w'.heap[k]? = w.heap[k]?) ∧ Below base w w' := by
  by_cases hp : 0 < ts.length
  · obtain ⟨g, c', ev, hbg, hgw, _⟩ := Kd.S_form h hp
    injection ev with e1 e2 e3
    subst e1
    obtain ⟨f, hok, inner, ho, hr⟩ := h
    rw [List.length_zipIdx] at ho
    have hlen : inner.length = ts.length := by have := hr.1; rw [List.length_zipIdx] at this; exact this.trans (Nat.mul_one _)
    have eg : ∀ args w, (callFunc 57 args).run Tryz.prog w = .ok (.enter 57 args) w := enters_of Tryz.func57 (by kernel_rfl) rfl
    have h1 : OneCell (encT inner ts.length) := fun i => by
      have hi : min i (ts.length - 1) < inner.length := by omega
      have : encT inner ts.length i ∈ inner := by
        unfold encT
        rw [List.getD_eq_getElem?_getD, List.getElem?_eq_getElem hi]
        exact List.getElem_mem hi
      obtain ⟨j, hj, e⟩ := List.mem_iff_getElem.1 this
      have hM := hr.2 j _ (Kd.zip_at (List.getElem?_eq_getElem (show j < ts.length by omega)))
      have hK := (Kd.tag f kT).K_one ((Kd.tag f kT).K_of_M hM)
      refine hK _ ?_
      show _ ∈ (inner.drop (j * 1)).take 1
      rw [seg_one (List.getElem?_eq_getElem hj), e]
      exact List.mem_singleton_self _
    have hH : Holds (encT inner ts.length) w g 0 (Array.range ts.length) := fun j hj => by
      rw [Array.size_range] at hj
      rw [show (Array.range ts.length)[j]! = j from by rw [getElem!_pos _ j (by rw [Array.size_range]; exact hj), Array.getElem_range]]
      refine ⟨?_, ?_⟩
      · have := World.ownsRow.cells ho (g := g) rfl j _ (encT_at hj hlen)
        rw [Nat.zero_add]
        rwa [Go.Proofs.YtfmpaofbnjlniaaGreatDoorW.PrintWords.add_plain] at this
      · rcases ho.2 with ⟨hv, _⟩ | ⟨g', cap, cur, hv, hb, hh, _⟩
        · cases hv
        · injection hv with hv1 hv2 hv3
          injection hv1 with hv1
          injection hv1 with hv1
          subst hv1
          exact blk_frozen hh _
    have hz : (Array.range ts.length).size = ts.length := Array.size_range
    have hcmp := (cmpT (ok := ok) (base := base) (c := c) hp m hm hl hgw hr)
    have hS := Any.slices_SortFunc Tryz.sortL (encT inner ts.length) h1 (cfT ts) (swoT hp hm hl) 57 #[] g 0 c (Array.range ts.length) w eg (by rw [hz]; exact hcmp.lays) hH hgw (by rw [hz]; omega)
    rw [hz] at hS
    refine hS.mono ?_
    rintro e w' ⟨rfl, d, n, os, hP, hSo, rfl⟩
    obtain ⟨h2, h3, h4, h5⟩ := sortedT hp hm hl hn d (by rw [hz]; exact hP) (by rw [hz]; exact hSo)
    have hR := sortedS hok ho hr d h2 h3 h4 n os
    rw [h5] at hR
    exact ⟨rfl, hR, fun k hk hne => sw_other k hk (fun e => hne (by rw [e]; rfl)), sw_below base hbg hb⟩
  · obtain rfl : ts = [] := List.length_eq_zero_iff.1 (by omega)
    have hS := AnyF.slices_SortFunc_none (P := Tryz.prog) (ρ := Tryz.sortL_ren) { Tryz.sortL with } A c (.func (.func 57) #[] #[]) w
    exact hS.mono fun _ _ ⟨he, hw⟩ => ⟨he, by rw [hw]; exact h, fun k _ _ => by rw [hw], by rw [hw]; exact Below.refl _ _⟩
end Go.Proofs.YtfmpaofbnjlniaaGreatDoor.F
/- shape.Permute, by hand. -/
namespace Go.Proofs.YtfmpaofbnjlniaaGreatDoor.F
open Go.RowKit Go.Maps Go.Proofs.YtfmpaofbnjlniaaGreatDoorW.PrintWords Go.Proofs.YtfmpaofbnjlniaaGreatDoorW.PrintLast Go.Proofs.YtfmpaofbnjlniaaGreatDoorW.PrintMore
set_option linter.unusedVariables false
set_option linter.unusedSimpArgs false
def SortCalls : Prop := ∀ (w : World) (base : Nat) (ok : Nat → Prop) (A : Option Addr) (c : Nat) (ts : List (List Int)) (m : Nat) (hm : m ≤ 1000) (hl : ∀ t ∈ ts, t.length = m) (hn : ts.Nodup) (hN : ts.length ≤ 100000)
    (h : Kd.S kT 46 w base ok (.slice A ts.length c) ts) (hb : base ≤ w.heap.size),
    Calls Tryz.prog 63 #[.slice A ts.length c, .func (.func 57) #[] #[]] w fun e w' =>
      e = .returned (.tuple #[]) ∧ Kd.S kT 46 w' base ok (.slice A ts.length c) (sortedB ts) ∧ (∀ k, k < w.heap.size → some k ≠ (Value.slice A ts.length c).ownBlock → w'.heap[k]? = w.heap[k]?) ∧ Below base w w'
def renT (perm t : List Int) : List Int := t.map fun x => rd perm x
def renR (perm : List Int) (r : S52) : S52 := ⟨r.f0, r.f1, sortedB (r.f2.map (renT perm))⟩
def keyI (x : Int) : Lit := .int .i64 x
def permSet {H : Type} (sy : List Int) : DataW H := setOf (.lit (.bool true)) (sy.map keyI)
def permCount (sy : List Int) : Nat := Maps.size (permSet (H := Unit) sy)
def permOk (perm : List Int) : Prop := perm.length ≤ 1000 ∧ ∀ x ∈ perm, -9223372036854775808 ≤ x ∧ x ≤ 9223372036854775807
instance (perm : List Int) : Decidable (permOk perm) := by unfold permOk; infer_instance
def permFit (l : List S52) (perm : List Int) : Prop := ∀ r ∈ l, (∀ t ∈ r.f2, t.length = (r.f2.headD []).length ∧ t.length ≤ 1000 ∧ ∀ x ∈ t, 0 ≤ x ∧ x < (perm.length : Int)) ∧ (r.f2.map (renT perm)).Nodup
instance (l : List S52) (perm : List Int) : Decidable (permFit l perm) := by unfold permFit; infer_instance
def permYes (n : Int) (perm : List Int) : Bool := decide ((perm.length : Int) = n) && (decide ((permCount perm : Int) = n) && !perm.any (outB n))
def shape_Permute.f (k : Nat) (n : Int) (l : List S52) (perm : List Int) : Option (Int × List S52 × Int) :=
  (shape_Valid.f k n l).bind fun b => if b = true then (if copyOk l ∧ permOk perm then (if permYes n perm = true then (if permFit l perm then some (n, l.map (renR perm), 0) else none) else some (0, [], 2)) else none) else some (0, [], 1)
theorem permKeys_snoc {H : Type} {sy : List Int} {j : Nat} {x : Int} (h : sy[j]? = some x) : permSet (H := H) (sy.take (j + 1)) = (permSet (sy.take j)).put (keyI x) (.lit (.bool true)) := by
  unfold permSet
  rw [take_snoc' h, List.map_append]
  exact setOf_snoc _ _ _
theorem law_int : Keyed Tryz.prog 3 := int_keyed Tryz.underlying3
theorem results_perm (tmps : Array Value) (W : World) (g8 : Nat) (a b : Int) (v : Value) (hp8 : tmps.getD 4 undef = .pointer (some ⟨g8, 0, none⟩)) (hp9 : tmps.getD 5 undef = .int .i64 b)
    (h8 : W.heap[g8]? = some (.cells #[.int .i64 a, v] 24 (0, 0))) :
    (results Tryz.f32 tmps).run Tryz.prog W = .ok (.tuple #[.agg #[.int .i64 a, v], .int .i64 b]) W := by
  have hp8' : tmps[4]?.getD undef = .pointer (some ⟨g8, 0, none⟩) := by simpa using hp8
  have hp9' : tmps[5]?.getD undef = .int .i64 b := by simpa using hp9
  have hr := run_loadVar_row (P := Tryz.prog) W g8 24 24 #[.int .i64 a, v] (0, 0) _ h8 Tryz.underlying24 rfl (by kernel_rfl)
  simp [results, Tryz.results32, hp8', hp9', asAddr, hr]
theorem R_kP {w : World} {base : Nat} {ok : Nat → Prop} {v : Value} {xs : List S52} (h : Kd.S kP 52 w base ok v xs) : Kd.R k52 52 w base ok v xs := by
  obtain ⟨h0, inner, ho, hr⟩ := Kd.S_R h
  exact ⟨h0, inner, ho, hr.imp_ (fun x c hM => by
    obtain ⟨v2, rfl, hS⟩ := kP_openM hM
    exact k52_mkM _ _ _ x (Kd.S_R hS))⟩
section
variable {α : Type} {g : α → α} {l : List α} {j : Nat} {r : α}
/-- The first j elements are renamed. -/
def mix (g : α → α) (l : List α) (j : Nat) : List α := (l.take j).map g ++ l.drop j
theorem mix_len : (mix g l j).length = l.length := by unfold mix; rw [List.length_append, List.length_map, List.length_take, List.length_drop]; omega
theorem mix_all : mix g l l.length = l.map g := by unfold mix; rw [List.take_length, List.drop_length, List.append_nil]
theorem mix_at (h : l[j]? = some r) : (mix g l j)[j]? = some r := by
  have hj := (List.getElem?_eq_some_iff.1 h).1
  unfold mix
  rw [List.getElem?_append_right (by rw [List.length_map, List.length_take]; omega), List.length_map, List.length_take, List.getElem?_drop, show j + (j - min j l.length) = j by omega, h]
theorem mix_set (h : l[j]? = some r) : (mix g l j).set j (g r) = mix g l (j + 1) := by
  obtain ⟨hj, he⟩ := List.getElem?_eq_some_iff.1 h
  unfold mix
  rw [List.set_append_right _ _ (by rw [List.length_map, List.length_take]; omega), List.length_map, List.length_take, show j - min j l.length = 0 by omega, List.drop_eq_getElem_cons hj, List.set_cons_zero, take_snoc' h, List.map_append, List.append_assoc]
  rfl
end
set_option maxHeartbeats 4000000 in
set_option maxRecDepth 100000 in
theorem permute_calls (hsort : SortCalls) (k : Nat) (n : Int) (A : Option Addr) (c : Nat) (l : List S52) (A2 : Option Addr) (c2 : Nat) (sy : List Int) (r : Int × List S52 × Int) (w : World)
    (hC : Kd.C k52 w A l.length l) (hlc : l.length ≤ c) (hC2 : Kd.C (Kd.int .i64) w A2 sy.length sy) (hlc2 : sy.length ≤ c2) (h : shape_Permute.f k n l sy = some r) :
    Calls Tryz.prog 32 #[.agg #[.int .i64 n, .slice A l.length c], .slice A2 sy.length c2] w (PutEnds w r) := by
  have hu38 := Tryz.underlying24
  have hu54 := Tryz.underlying52
  have hmm := @run_makeMap Tryz.prog
  unfold shape_Permute.f at h
  obtain ⟨vb, hh, h⟩ := Option.bind_eq_some_iff.1 h
  have hB1 := below_alloc (below_alloc (Below.refl w.heap.size w) (.cells #[.int .i64 n, .slice A l.length c] 24)) (.cells #[.int .i64 0, .slice none 0 0] 24)
  have HC1 := Aside0.mk (Kd.C_below hC hB1)
  have HB1 := Aside0.mk hB1
  have HC0 := Aside0.mk hC
  have HT0 := Aside0.mk hC2
  have HLC := Aside0.mk hlc
  have HLC2 := Aside0.mk hlc2
  have HH := Aside0.mk hh
  have H := Aside0.mk h
  have HSORT := Aside0.mk hsort
  have K4 := Aside0.mk (show ((w.alloc (.cells #[.int .i64 n, .slice A l.length c] 24)).alloc (.cells #[.int .i64 0, .slice none 0 0] 24)).heap[w.heap.size]? = some (.cells #[.int .i64 n, .slice A l.length c] 24 (0, 0)) from (heap_alloc_old _ _ (by simp)).trans (heap_alloc_new w _))
  have K8 := Aside0.mk (show ((w.alloc (.cells #[.int .i64 n, .slice A l.length c] 24)).alloc (.cells #[.int .i64 0, .slice none 0 0] 24)).heap[w.heap.size + 1]? = some (.cells #[.int .i64 0, .slice none 0 0] 24 (0, 0)) from by have := heap_alloc_new (w.alloc (.cells #[.int .i64 n, .slice A l.length c] 24)) (.cells #[.int .i64 0, .slice none 0 0] 24); simpa using this)
  clear hB1 hC hlc hC2 hlc2 hh h hsort
  go_enter Tryz.func32, Tryz.ntmps32
  go_wp2_with (fail)
  refine (shape_Valid.calls k n A c l vb _ HC1.out HLC.out HH.out).mono ?_
  rintro e w1 ⟨rfl, hb1⟩
  generalize hg8 : w.heap.size + 1 = g8 at *
  have hg8w : w.heap.size ≤ g8 := by omega
  have K4' := Aside0.mk ((hb1.block w.heap.size (Array.getElem?_eq_some_iff.1 K4.out).1).trans K4.out)
  have K8' := Aside0.mk ((hb1.block g8 (Array.getElem?_eq_some_iff.1 K8.out).1).trans K8.out)
  have HB2 := Aside0.mk (below_step HB1.out hb1)
  clear hb1 K4 K8 HB1 HC1
  obtain ⟨c8_0, c8_1, f8_0, f8_1⟩ := bq2 K8'
  obtain ⟨c4_0, c4_1, _, _⟩ := bq2 K4'
  cases vb with
  | false =>
    have h2 := H.out
    rw [if_neg (by simp)] at h2
    obtain rfl := Option.some.inj h2
    clear h2 H
    go_wp2
    have HX := blk_put (cs' := #[.int .i64 0, .slice none 0 0]) (blk_put (cs' := #[.int .i64 0, .slice none 0 0]) K8'.out 0 (.int .i64 0) rfl) 1 (.slice none 0 0) rfl
    have HBX := below_set (j := 1) (v := .slice none 0 0) (below_set (j := 0) (v := .int .i64 0) HB2.out hg8w) hg8w
    refine bodyPost_ret (results_perm _ _ g8 0 1 _ rfl rfl HX) rfl ?_
    exact ⟨_, rfl, Kd.R_nil _ _ _ _ _, HBX⟩
  | true =>
    have h2 := H.out
    rw [if_pos rfl] at h2
    by_cases hcp : copyOk l ∧ permOk sy
    case neg => rw [if_neg hcp] at h2; cases h2
    rw [if_pos hcp] at h2
    have HR := Aside0.mk h2
    have HCP := Aside0.mk hcp.1
    have HKO := Aside0.mk hcp.2
    have hsl := hcp.2.1
    clear h2 H hcp
    go_wp2
    have HM := Aside0.mk (World.ownsMap_made w1 Tryz.prog 3 (plainElem (H := Unit) Tryz.prog 4))
    have hba := below_alloc (Below.refl w1.heap.size w1) (.map #[] 0)
    have K4 := blB K4' hba
    have K8 := blB K8' hba
    have HB7 := Aside0.mk (below_step HB2.out hba)
    have hgw := HB2.out.size
    have hg4m : w.heap.size < w1.heap.size := blk_lt K4'.out
    have hg8m : g8 < w1.heap.size := blk_lt K8'.out
    generalize w1.alloc (.map #[] 0) = w6 at *
    generalize hgm : w1.heap.size = gm at *
    clear hba K4' K8' HB2 c4_0 c4_1 c8_0 c8_1 f8_0 f8_1
    go_loopw [23] (fun v23 wr => ∃ (j : Nat), v23 = .int .i64 j ∧ j ≤ sy.length ∧ Aside0 (wr.heap[w.heap.size]? = some (.cells #[.int .i64 n, .slice A l.length c] 24 (0, 0))) ∧ Aside0 (wr.heap[g8]? = some (.cells #[.int .i64 0, .slice none 0 0] 24 (0, 0))) ∧ Aside0 (wr.ownsMap Tryz.prog 3 (plainElem (H := Unit) Tryz.prog 4) gm j (permSet (sy.take j))) ∧ Aside0 (Below w.heap.size w wr)) (fun v23 _ => sy.length - (intOf v23).toNat)
    case atStart => exact ⟨0, rfl, Nat.zero_le _, K4, K8, ⟨by simpa [permSet, setOf] using HM.out⟩, HB7⟩
    case round =>
      clear K4 K8 HM HB7
      obtain ⟨j, rfl, hj, K4, K8, HM, HB⟩ := hrel
      generalize wr = wq at *
      by_cases hlt : j < sy.length
      · obtain ⟨ad, hA, hx0⟩ := Kd.at_int (Kd.C_below HT0.out HB.out) (j : Int) (by omega) (by omega)
        subst hA
        simp only [Int.toNat_natCast] at hx0
        have hrj : rd sy (j : Int) = sy[j] := by unfold rd; rw [Int.toNat_natCast, List.getD_eq_getElem?_getD, List.getElem?_eq_getElem hlt]; rfl
        rw [hrj] at hx0
        have HXJ := Aside0.mk (show sy[j]? = some sy[j] from List.getElem?_eq_getElem hlt)
        have HXS := Aside0.mk (HKO.out.2 _ (List.getElem_mem hlt))
        generalize sy[j] = x at *
        clear hrj
        have hkey : keyOf Tryz.prog 3 (.int .i64 x) = some (keyI x) := keyOf_int_mk Tryz.underlying3 (by simpa [Lit.wf, IntKind.min, IntKind.max, IntKind.signed, IntKind.bits] using HXS.out)
        go_wp2_with (first | (at_mapUpdate; refine wpList_mapUpdate_own _ rfl _ _ _ 107 rfl 3 4 law_int Tryz.underlying107 (plainElem (H := Unit) Tryz.prog 4) gm j _ rfl HM.out (by unfold maxLen; omega) _ _ _ rfl rfl hkey _ [] (plainElem_bool Tryz.underlying4 true) ?_; intro w1 hown1 hgrow1))
        replace K4 := Aside0.mk (blk_grown K4.out hgrow1 (by intro e; injection e with e; omega))
        replace K8 := Aside0.mk (blk_grown K8.out hgrow1 (by intro e; injection e with e; omega))
        replace HB := Aside0.mk (HB.out.grown hgrow1 HB.out.size (fun i hi => by cases hi; exact hgw))
        rw [← permKeys_snoc HXJ.out] at hown1
        go_roundw
        · exact ⟨j + 1, by simp, hlt, K4, K8, ⟨hown1⟩, HB⟩
        · simp [intOf]; omega
      · obtain rfl : j = sy.length := by omega
        rw [List.take_length] at HM
        have hm0 : Maps.size (permSet (H := Unit) sy) = permCount sy := rfl
        obtain ⟨c4_0, c4_1, _, _⟩ := bq2 K4
        obtain ⟨c8_0, c8_1, f8_0, f8_1⟩ := bq2 K8
        have HT := Aside0.mk (Kd.C_below HT0.out HB.out)
        by_cases hy : permYes n sy = true
        · have hyy := hy
          unfold permYes at hyy
          rw [Bool.and_eq_true, Bool.and_eq_true, decide_eq_true_eq, decide_eq_true_eq, Bool.not_eq_true'] at hyy
          obtain ⟨hn, hc, hel⟩ := hyy
          have h2 := HR.out
          rw [if_pos hy] at h2
          by_cases hf : permFit l sy
          case neg => rw [if_neg hf] at h2; cases h2
          rw [if_pos hf] at h2
          have hres := (Option.some.inj h2).symm
          subst hres
          have HF := Aside0.mk hf
          have hl0 := HCP.out.1
          clear h2 HR hf hy
          have g1 : ((sy.length : Int) != n) = false := bne_eq_false_iff_eq.2 hn
          have g2 : ((permCount sy : Int) != n) = false := bne_eq_false_iff_eq.2 hc
          generalize permCount sy = m at *
          go_wp2_with (first | ((try (refine gate_guard (by rfl) ?_; dsimp only)); at_len; refine wpList_len_own _ rfl _ 107 rfl 3 4 Tryz.underlying107 (plainElem (H := Unit) Tryz.prog 4) gm sy.length _ rfl HM.out ?_; rw [hm0]) | ((try (refine gate_guard (by rfl) ?_; dsimp only)); go_at_call 58; refine (shape_elements.calls n A2 c2 sy (!sy.any (outB n)) _ HT.out HLC2.out (elements_eq n sy)).mono ?_; rintro e w9 ⟨rfl, hb9⟩; rw [hel]; replace K8 := blB K8 hb9; replace K4 := blB K4 hb9; replace HB := Aside0.mk (below_step HB.out hb9); obtain ⟨c8_0, c8_1, f8_0, f8_1⟩ := bq2 K8; obtain ⟨c4_0, c4_1, _, _⟩ := bq2 K4))
          refine (copy2_calls n A c l _ (Kd.C_below HC0.out HB.out) HLC.out HCP.out).mono ?_
          rintro e w3 ⟨v3, rfl, hS, hb3⟩
          have K8' := blB K8 hb3
          have HB3 := Aside0.mk (below_step HB.out hb3)
          have HS3 := Aside0.mk (Kd.S_lower hS HB.out.size)
          obtain ⟨A3, c3, hv3⟩ := Kd.S_slice hS
          subst hv3
          clear hb3 hS K8 K4 HB HM c8_0 c8_1 f8_0 f8_1 c4_0 c4_1
          go_upto_region 12 with (fail)
          have K9 := Aside0.mk (heap_alloc_new w3 (.cells #[.int .i64 n, .slice A3 l.length c3] 24))
          have hba := below_alloc (Below.refl w3.heap.size w3) (.cells #[.int .i64 n, .slice A3 l.length c3] 24)
          have K8 := blB K8' hba
          have HS := Aside0.mk (Kd.S_below HS3.out hba)
          have HB := Aside0.mk (below_step HB3.out hba)
          generalize w3.alloc (.cells #[.int .i64 n, .slice A3 l.length c3] 24) = w4 at *
          generalize w3.heap.size = g9 at *
          clear hba K8' HS3 HB3
          obtain ⟨c9_0, c9_1, _, _⟩ := bq2 K9
          go_wp2
          go_loopw [55] (fun v55 wr => ∃ (j : Nat), v55 = .int .i64 j ∧ j ≤ l.length ∧ Aside0 (wr.heap[g8]? = some (.cells #[.int .i64 0, .slice none 0 0] 24 (0, 0))) ∧ Aside0 (wr.heap[g9]? = some (.cells #[.int .i64 n, .slice A3 l.length c3] 24 (0, 0))) ∧ Aside0 (Kd.S kP 52 wr w.heap.size (fun _ => True) (.slice A3 l.length c3) (mix (renR sy) l j)) ∧ Aside0 (Below w.heap.size w wr)) (fun v55 _ => l.length - (intOf v55).toNat)
          case atStart => exact ⟨0, rfl, Nat.zero_le _, K8, K9, HS, HB⟩
          case round =>
            clear K8 K9 HS HB c9_0 c9_1
            obtain ⟨j, rfl, hj, K8, K9, HS, HB⟩ := hrel
            generalize wr = wq at *
            by_cases hlt : j < l.length
            · have HRJ := Aside0.mk (show l[j]? = some l[j] from List.getElem?_eq_getElem hlt)
              have HFR := Aside0.mk (HF.out l[j] (List.getElem_mem hlt))
              have hrok := HCP.out.2 l[j] (List.getElem_mem hlt)
              have hr2 := hrok.1
              generalize l[j] = r at *
              clear hrok
              obtain ⟨gv, capv, eA, _, _, _, _⟩ := Kd.S_form HS.out (by rw [mix_len]; omega)
              rw [mix_len] at eA
              obtain ⟨rfl, rfl⟩ : A3 = some ⟨gv, 0, none⟩ ∧ c3 = capv := by injection eA with h2 h3 h4; exact ⟨h2, h4⟩
              clear eA
              obtain ⟨oki, cc, hcl, hM, hcells, hoki, hH⟩ := Kd.S_lend HS.out z52 (j : Int) (by omega) (by omega)
              rw [Int.toNat_natCast, List.getD_eq_getElem?_getD, mix_at HRJ.out, Option.getD_some] at hM
              obtain ⟨v2, rfl, hS2⟩ := kP_openM hM
              obtain ⟨At, ct, ev2⟩ := Kd.S_slice hS2
              subst ev2
              have hz0 : wq.cell? ⟨gv, j * 3, none⟩ = some (.string r.f0) := hcells 0 _ rfl
              have hz1 : wq.cell? ⟨gv, j * 3 + 1, none⟩ = some (.int .i64 r.f1) := hcells 1 _ rfl
              have hz2 : wq.cell? ⟨gv, j * 3 + 2, none⟩ = some (.slice At r.f2.length ct) := hcells 2 _ rfl
              have HH := Aside0.mk hH
              have HS2 := Aside0.mk hS2
              clear hcl hM hcells hH hS2 HS
              have hN8 : g8 < wq.heap.size := blk_lt K8.out
              have hN9 : g9 < wq.heap.size := blk_lt K9.out
              go_upto_region 15 with (fail)
              have K11 := Aside0.mk (heap_alloc_new wq (.cells #[.string r.f0, .int .i64 r.f1, .slice At r.f2.length ct] 52))
              have hba := below_alloc (Below.refl wq.heap.size wq) (.cells #[.string r.f0, .int .i64 r.f1, .slice At r.f2.length ct] 52)
              replace K8 := blB K8 hba
              replace K9 := blB K9 hba
              replace HH := Aside0.mk (Kd.H_below HH.out hba)
              replace HS2 := Aside0.mk (Kd.S_below HS2.out hba)
              replace HB := Aside0.mk (below_step HB.out hba)
              generalize wq.alloc (.cells #[.string r.f0, .int .i64 r.f1, .slice At r.f2.length ct] 52) = wa at *
              generalize wq.heap.size = g11 at *
              clear hba hz0 hz1 hz2
              obtain ⟨c11_0, c11_1, c11_2, _, _, _⟩ := bq3 K11
              go_wp2
              go_loopw [62] (fun v62 wl => ∃ (i : Nat), v62 = .int .i64 i ∧ i ≤ r.f2.length ∧ Aside0 (wl.heap[g8]? = some (.cells #[.int .i64 0, .slice none 0 0] 24 (0, 0))) ∧ Aside0 (wl.heap[g9]? = some (.cells #[.int .i64 n, .slice (some ⟨gv, 0, none⟩) l.length c3] 24 (0, 0))) ∧ Aside0 (wl.heap[g11]? = some (.cells #[.string r.f0, .int .i64 r.f1, .slice At r.f2.length ct] 52 (0, 0)))
                ∧ Aside0 (Kd.H kP 52 wl w.heap.size (fun _ => True) (.slice (some ⟨gv, 0, none⟩) l.length c3) (mix (renR sy) l j) (j : Int) oki [.string r.f0, .int .i64 r.f1, .slice At r.f2.length ct]) ∧ Aside0 (Kd.S kT 46 wl w.heap.size oki (.slice At r.f2.length ct) (mix (renT sy) r.f2 i)) ∧ Aside0 (Below w.heap.size w wl)) (fun v62 _ => r.f2.length - (intOf v62).toNat)
              case atStart => exact ⟨0, rfl, Nat.zero_le _, K8, K9, K11, HH, HS2, HB⟩
              case round =>
                clear K8 K9 K11 HH HS2 HB c11_0 c11_1 c11_2
                obtain ⟨i, rfl, hi, K8, K9, K11, HH, HS2, HB⟩ := hrel
                generalize wr = wl at *
                by_cases hlt2 : i < r.f2.length
                · have HTI := Aside0.mk (show r.f2[i]? = some r.f2[i] from List.getElem?_eq_getElem hlt2)
                  have HFT := Aside0.mk (HFR.out.1 r.f2[i] (List.getElem_mem hlt2))
                  generalize r.f2[i] = t at *
                  have htl := HFT.out.2.1
                  obtain ⟨gt, capt, eA, _, _, _, _⟩ := Kd.S_form HS2.out (by rw [mix_len]; omega)
                  rw [mix_len] at eA
                  obtain ⟨rfl, rfl⟩ : At = some ⟨gt, 0, none⟩ ∧ ct = capt := by injection eA with h2 h3 h4; exact ⟨h2, h4⟩
                  clear eA
                  obtain ⟨okt, ce, hcl, hM, hcells, hokt, hH2⟩ := Kd.S_lend HS2.out [] (i : Int) (by omega) (by omega)
                  rw [Int.toNat_natCast, List.getD_eq_getElem?_getD, mix_at HTI.out, Option.getD_some] at hM
                  obtain ⟨vt, rfl, hRt⟩ := hM
                  obtain ⟨A5, c5, ev5⟩ := Kd.R_slice hRt
                  subst ev5
                  have hz0 : wl.cell? ⟨gt, i, none⟩ = some (.slice A5 t.length c5) := (congrArg (fun q => wl.cell? ⟨gt, q, none⟩) (Nat.mul_one i)).symm.trans (hcells 0 _ rfl)
                  have HH2 := Aside0.mk hH2
                  have HRt := Aside0.mk hRt
                  have HOKT := Aside0.mk hokt
                  clear hcl hcells hH2 hRt HS2 hokt
                  go_wp2
                  go_loopw [68] (fun v68 wt => ∃ (q : Nat), v68 = .int .i64 q ∧ q ≤ t.length ∧ Aside0 (wt.heap[g8]? = some (.cells #[.int .i64 0, .slice none 0 0] 24 (0, 0))) ∧ Aside0 (wt.heap[g9]? = some (.cells #[.int .i64 n, .slice (some ⟨gv, 0, none⟩) l.length c3] 24 (0, 0))) ∧ Aside0 (wt.heap[g11]? = some (.cells #[.string r.f0, .int .i64 r.f1, .slice (some ⟨gt, 0, none⟩) r.f2.length ct] 52 (0, 0)))
                    ∧ Aside0 (Kd.H kP 52 wt w.heap.size (fun _ => True) (.slice (some ⟨gv, 0, none⟩) l.length c3) (mix (renR sy) l j) (j : Int) oki [.string r.f0, .int .i64 r.f1, .slice (some ⟨gt, 0, none⟩) r.f2.length ct]) ∧ Aside0 (Kd.H kT 46 wt w.heap.size oki (.slice (some ⟨gt, 0, none⟩) r.f2.length ct) (mix (renT sy) r.f2 i) (i : Int) okt [.slice A5 t.length c5]) ∧ Aside0 (Kd.R (Kd.int .i64) 3 wt w.heap.size okt (.slice A5 t.length c5) (mix (rd sy) t q)) ∧ Aside0 (Below w.heap.size w wt)) (fun v68 _ => t.length - (intOf v68).toNat)
                  case atStart => exact ⟨0, rfl, Nat.zero_le _, K8, K9, K11, HH, HH2, HRt, HB⟩
                  case round =>
                    clear K8 K9 K11 HH HH2 HRt HB hz0
                    obtain ⟨q, rfl, hq, K8, K9, K11, HH, HH2, HRt, HB⟩ := hrel
                    generalize wr = wt at *
                    by_cases hlt3 : q < t.length
                    · have HXQ := Aside0.mk (show t[q]? = some t[q] from List.getElem?_eq_getElem hlt3)
                      have hxr := HFT.out.2.2 t[q] (List.getElem_mem hlt3)
                      generalize t[q] = x at *
                      obtain ⟨g5, cap5, eA, _, _, _, _⟩ := Kd.R_form HRt.out (by rw [mix_len]; omega)
                      rw [mix_len] at eA
                      obtain ⟨rfl, rfl⟩ : A5 = some ⟨g5, 0, none⟩ ∧ c5 = cap5 := by injection eA with h2 h3 h4; exact ⟨h2, h4⟩
                      clear eA
                      obtain ⟨hx0, hf0⟩ := Kd.R_celln 0 HRt.out (q : Int) (by omega) (by omega)
                      rw [show rdOf 0 (mix (rd sy) t q) (q : Int) = x from by unfold rdOf; rw [Int.toNat_natCast, List.getD_eq_getElem?_getD, mix_at HXQ.out]; rfl] at hx0
                      simp only [Int.toNat_natCast] at hx0 hf0
                      obtain ⟨ad, hA, hy0⟩ := Kd.at_int (Kd.C_below HT0.out HB.out) x hxr.1 hxr.2
                      subst hA
                      have p1 := eq_true hxr.1
                      have p2 := eq_true hxr.2
                      have HP := Aside0.mk (Kd.R_putn HRt.out (q : Int) (rd sy x))
                      rw [Int.toNat_natCast, mix_set HXQ.out] at HP
                      have ho5 := HRt.out.1 g5 rfl
                      have hb5 := Kd.R_base HRt.out g5 rfl
                      have n8 : g8 ≠ g5 := fun e => Kd.R_ne HRt.out K8.out (by decide) (by rw [e]; rfl)
                      have n9 : g9 ≠ g5 := fun e => Kd.R_ne HRt.out K9.out (by decide) (by rw [e]; rfl)
                      have n11 : g11 ≠ g5 := fun e => Kd.R_ne HRt.out K11.out (by decide) (by rw [e]; rfl)
                      generalize rd sy x = y at *
                      go_wp2
                      replace K8 := Aside0.mk (blk_far K8.out (p := ⟨g5, q, none⟩) n8 (.int .i64 y))
                      replace K9 := Aside0.mk (blk_far K9.out (p := ⟨g5, q, none⟩) n9 (.int .i64 y))
                      replace K11 := Aside0.mk (blk_far K11.out (p := ⟨g5, q, none⟩) n11 (.int .i64 y))
                      replace HH := Aside0.mk (Kd.H_step HH.out (w1 := wt.setCell ⟨g5, q, none⟩ (.int .i64 y)) (fun k_ _ hk _ => Below.heap_setCell wt ⟨g5, q, none⟩ (.int .i64 y) k_ (fun e => hk (by rw [show k_ = g5 from e]; exact (HOKT.out g5 ho5).1))))
                      replace HH2 := Aside0.mk (Kd.H_step HH2.out (w1 := wt.setCell ⟨g5, q, none⟩ (.int .i64 y)) (fun k_ _ hk _ => Below.heap_setCell wt ⟨g5, q, none⟩ (.int .i64 y) k_ (fun e => hk (by rw [show k_ = g5 from e]; exact ho5))))
                      replace HB := Aside0.mk (below_set (j := q) (v := .int .i64 y) HB.out hb5)
                      go_roundw
                      · exact ⟨q + 1, by simp, hlt3, K8, K9, K11, HH, HH2, HP, HB⟩
                      · simp [intOf]; omega
                    · obtain rfl : q = t.length := by omega
                      rw [mix_all] at HRt
                      have HS2 := Aside0.mk (Kd.H_back HH2.out (x' := renT sy t) ⟨_, rfl, HRt.out⟩ (fun _ hk => hk))
                      rw [Int.toNat_natCast, mix_set HTI.out] at HS2
                      go_wp2
                      go_roundw
                      · exact ⟨i + 1, by simp, hlt2, K8, K9, K11, HH, HS2, HB⟩
                      · simp [intOf]; omega
                · obtain rfl : i = r.f2.length := by omega
                  rw [mix_all] at HS2
                  obtain ⟨c11_0, c11_1, c11_2, _, _, _⟩ := bq3 K11
                  have hm1 : ∀ t ∈ r.f2, t.length = (r.f2.headD []).length := fun t ht => (HFR.out.1 t ht).1
                  have hm2 : (r.f2.headD []).length ≤ 1000 := by
                    cases hq : r.f2 with
                    | nil => simp
                    | cons t ts => exact (HFR.out.1 t (by rw [hq]; exact List.mem_cons_self)).2.1
                  have hso := HSORT.out wl w.heap.size oki At ct (r.f2.map (renT sy)) (r.f2.headD []).length hm2 (fun t ht => by
                    obtain ⟨t', ht', rfl⟩ := List.mem_map.1 ht
                    unfold renT
                    rw [List.length_map]
                    exact hm1 t' ht') HFR.out.2 (by rw [List.length_map]; exact hr2) (by rw [List.length_map]; exact HS2.out) HB.out.size
                  rw [List.length_map] at hso
                  have HSO := Aside0.mk hso
                  clear hso hm1 hm2
                  go_wp2_with (fail)
                  refine HSO.out.mono ?_
                  rintro e w7 ⟨rfl, hS7, hk7, hb7⟩
                  clear HSO c11_0 c11_1 c11_2
                  obtain ⟨f2_, hR2⟩ := HS2.out
                  have hown := hR2.1
                  have K8 := Aside0.mk ((hk7 g8 (blk_lt K8.out) (Kd.S_ne HS2.out K8.out (by decide))).trans K8.out)
                  have K9 := Aside0.mk ((hk7 g9 (blk_lt K9.out) (Kd.S_ne HS2.out K9.out (by decide))).trans K9.out)
                  have HH := Aside0.mk (Kd.H_step HH.out (w1 := w7) (fun k_ _ hk hlt => hk7 k_ hlt (fun e => hk (hown k_ e.symm))))
                  have HB := Aside0.mk (HB.out.trans hb7)
                  have HS := Aside0.mk (Kd.H_back HH.out (x' := renR sy r) (kP_mkM _ _ _ (renR sy r) hS7) (fun _ hk => hk))
                  rw [Int.toNat_natCast, mix_set HRJ.out] at HS
                  go_wp2
                  go_roundw
                  · exact ⟨j + 1, by simp, hlt, K8, K9, HS, HB⟩
                  · simp [intOf]; omega
            · obtain rfl : j = l.length := by omega
              rw [mix_all] at HS
              obtain ⟨c9_0, c9_1, _, _⟩ := bq2 K9
              obtain ⟨c8_0, c8_1, f8_0, f8_1⟩ := bq2 K8
              go_wp2
              have HX := blk_put (cs' := #[.int .i64 n, .slice A3 l.length c3]) (blk_put (cs' := #[.int .i64 n, .slice none 0 0]) K8.out 0 (.int .i64 n) rfl) 1 (.slice A3 l.length c3) rfl
              have HV1 := Kd.R_set (R_kP HS.out) K8.out (by decide) 0 (.int .i64 n)
              have HV2 := Kd.R_set HV1 (blk_put (cs' := #[.int .i64 n, .slice none 0 0]) K8.out 0 (.int .i64 n) rfl) (by decide) 1 (.slice A3 l.length c3)
              have HBX := below_set (j := 1) (v := .slice A3 l.length c3) (below_set (j := 0) (v := .int .i64 n) HB.out hg8w) hg8w
              refine bodyPost_ret (results_perm _ _ g8 n 0 _ rfl rfl HX) rfl ?_
              exact ⟨_, rfl, HV2, HBX⟩
        · have hr := HR.out
          rw [if_neg hy] at hr
          obtain rfl := Option.some.inj hr
          clear hr HR
          by_cases hn : (sy.length : Int) = n
          · by_cases hc : (permCount sy : Int) = n
            · have hel : sy.any (outB n) = true := by
                unfold permYes at hy
                rw [decide_eq_true hn, decide_eq_true hc] at hy
                simpa using hy
              have g1 : ((sy.length : Int) != n) = false := bne_eq_false_iff_eq.2 hn
              have g2 : ((permCount sy : Int) != n) = false := bne_eq_false_iff_eq.2 hc
              generalize permCount sy = m at *
              go_wp2_with (first | ((try (refine gate_guard (by rfl) ?_; dsimp only)); at_len; refine wpList_len_own _ rfl _ 107 rfl 3 4 Tryz.underlying107 (plainElem (H := Unit) Tryz.prog 4) gm sy.length _ rfl HM.out ?_; rw [hm0]) | ((try (refine gate_guard (by rfl) ?_; dsimp only)); go_at_call 58; refine (shape_elements.calls n A2 c2 sy (!sy.any (outB n)) _ HT.out HLC2.out (elements_eq n sy)).mono ?_; rintro e w9 ⟨rfl, hb9⟩; rw [hel]; replace K8 := blB K8 hb9; replace K4 := blB K4 hb9; replace HB := Aside0.mk (below_step HB.out hb9); obtain ⟨c8_0, c8_1, f8_0, f8_1⟩ := bq2 K8; obtain ⟨c4_0, c4_1, _, _⟩ := bq2 K4))
              have HX := blk_put (cs' := #[.int .i64 0, .slice none 0 0]) (blk_put (cs' := #[.int .i64 0, .slice none 0 0]) K8.out 0 (.int .i64 0) rfl) 1 (.slice none 0 0) rfl
              have HBX := below_set (j := 1) (v := .slice none 0 0) (below_set (j := 0) (v := .int .i64 0) HB.out hg8w) hg8w
              refine bodyPost_ret (results_perm _ _ g8 0 2 _ rfl rfl HX) rfl ?_
              exact ⟨_, rfl, Kd.R_nil _ _ _ _ _, HBX⟩
            · have g1 : ((sy.length : Int) != n) = false := bne_eq_false_iff_eq.2 hn
              have g2 : ((permCount sy : Int) != n) = true := bne_iff_ne.2 hc
              generalize permCount sy = m at *
              go_wp2_with (first | ((try (refine gate_guard (by rfl) ?_; dsimp only)); at_len; refine wpList_len_own _ rfl _ 107 rfl 3 4 Tryz.underlying107 (plainElem (H := Unit) Tryz.prog 4) gm sy.length _ rfl HM.out ?_; rw [hm0]))
              have HX := blk_put (cs' := #[.int .i64 0, .slice none 0 0]) (blk_put (cs' := #[.int .i64 0, .slice none 0 0]) K8.out 0 (.int .i64 0) rfl) 1 (.slice none 0 0) rfl
              have HBX := below_set (j := 1) (v := .slice none 0 0) (below_set (j := 0) (v := .int .i64 0) HB.out hg8w) hg8w
              refine bodyPost_ret (results_perm _ _ g8 0 2 _ rfl rfl HX) rfl ?_
              exact ⟨_, rfl, Kd.R_nil _ _ _ _ _, HBX⟩
          · have g1 : ((sy.length : Int) != n) = true := bne_iff_ne.2 hn
            go_wp2
            have HX := blk_put (cs' := #[.int .i64 0, .slice none 0 0]) (blk_put (cs' := #[.int .i64 0, .slice none 0 0]) K8.out 0 (.int .i64 0) rfl) 1 (.slice none 0 0) rfl
            have HBX := below_set (j := 1) (v := .slice none 0 0) (below_set (j := 0) (v := .int .i64 0) HB.out hg8w) hg8w
            refine bodyPost_ret (results_perm _ _ g8 0 2 _ rfl rfl HX) rfl ?_
            exact ⟨_, rfl, Kd.R_nil _ _ _ _ _, HBX⟩
theorem shape_Permute.calls (k : Nat) (a0_0 : Int) (A0_1 : Option Addr) (c0_1 : Nat) (l0_1 : List S52) (A1 : Option Addr) (c1 : Nat) (l1 : List Int) (r1 : Int) (r2 : List S52) (r3 : Int) (w : World) (hr0_1 : Kd.C k52 w A0_1 l0_1.length l0_1) (hc0_1 : l0_1.length ≤ c0_1) (hr1 : Kd.C (Kd.int .i64) w A1 l1.length l1) (hc1 : l1.length ≤ c1) (h : shape_Permute.f k a0_0 l0_1 l1 = some (r1, r2, r3)) :
    Calls Tryz.prog 32 #[.agg #[.int .i64 a0_0, .slice A0_1 l0_1.length c0_1], .slice A1 l1.length c1] w fun e w' => ∃ v1_ : Value, e = .returned (.tuple #[.agg #[.int .i64 r1, v1_], .int .i64 r3]) ∧ Kd.R k52 52 w' w.heap.size (fun _ => True) v1_ r2 ∧ Below w.heap.size w w' :=
  permute_calls sort_calls k a0_0 A0_1 c0_1 l0_1 A1 c1 l1 (r1, r2, r3) w hr0_1 hc0_1 hr1 hc1 h
end Go.Proofs.YtfmpaofbnjlniaaGreatDoor.F
/- ShapePermutes, the plain law. -/
namespace Go.Proofs.YtfmpaofbnjlniaaGreatDoor.F
open Go.RowKit Go.Maps Go.Proofs.YtfmpaofbnjlniaaGreatDoorW.PrintWords Go.Proofs.YtfmpaofbnjlniaaGreatDoorW.PrintLast Go.Proofs.YtfmpaofbnjlniaaGreatDoorW.PrintMore
set_option linter.unusedVariables false
/-! ### the keys of a map -/
theorem addKey_lenI : ∀ (xs acc : List Lit), acc.Nodup → (∀ x ∈ xs, WideAt.IsKeyLit x) → (xs.foldl addKey acc).length ≤ acc.length + xs.length ∧ ((xs.foldl addKey acc).length = acc.length + xs.length ↔ (acc ++ xs).Nodup)
  | [], acc, h, _ => ⟨Nat.le_refl _, by simpa using h⟩
  | x :: xs, acc, h, hk => by
    have hkx := hk x List.mem_cons_self
    have hks : ∀ y ∈ xs, WideAt.IsKeyLit y := fun y hy => hk y (List.mem_cons_of_mem _ hy)
    rw [List.foldl_cons]
    by_cases hm : x ∈ acc
    · have e : addKey acc x = acc := by
        show (if acc.any (fun y => y.sameKey x) = true then acc else acc ++ [x]) = acc
        have h2 : acc.any (fun y => y.sameKey x) = true := List.any_eq_true.2 ⟨x, hm, WideAt.sameKey_self hkx⟩
        rw [if_pos h2]
      rw [e]
      obtain ⟨h1, h2⟩ := addKey_lenI xs acc h hks
      refine ⟨by rw [List.length_cons]; omega, ⟨fun e2 => by rw [List.length_cons] at e2; omega, fun e2 => ?_⟩⟩
      rw [List.nodup_append] at e2
      exact absurd rfl (e2.2.2 x hm x List.mem_cons_self)
    · have e : addKey acc x = acc ++ [x] := by
        show (if acc.any (fun y => y.sameKey x) = true then acc else acc ++ [x]) = acc ++ [x]
        rw [if_neg (fun e2 => by
          obtain ⟨y, hy, hs⟩ := List.any_eq_true.1 e2
          exact hm (WideAt.sameKey_eq hs ▸ hy))]
      rw [e]
      have hn : (acc ++ [x]).Nodup := by
        rw [List.nodup_append]
        exact ⟨h, by simp, fun a ha b hb e3 => by rw [List.mem_singleton] at hb; subst hb; subst e3; exact hm ha⟩
      obtain ⟨h1, h2⟩ := addKey_lenI xs (acc ++ [x]) hn hks
      rw [List.length_append, List.length_singleton] at h1 h2
      rw [List.append_assoc, List.singleton_append] at h2
      rw [List.length_cons]
      refine ⟨by omega, ?_⟩
      rw [← h2]
      constructor
      · intro h3; omega
      · intro h3; omega
theorem count_nodupI (sy : List Int) : permCount sy = sy.length ↔ sy.Nodup := by
  unfold permCount permSet
  have hk : ∀ x ∈ sy.map keyI, WideAt.IsKeyLit x := fun x hx => by
    obtain ⟨y, _, rfl⟩ := List.mem_map.1 hx
    trivial
  rw [size_setOf _ _ hk]
  have h := (addKey_lenI (sy.map keyI) [] List.nodup_nil hk).2
  rw [List.length_nil, Nat.zero_add, List.length_map, List.nil_append] at h
  rw [h]
  unfold List.Nodup
  rw [List.pairwise_map]
  exact ⟨fun h => h.imp (fun h2 e2 => h2 (by rw [e2])), fun h => h.imp (fun h2 e2 => h2 (by injection e2))⟩
/-! ### Perm -/
/-! ### Permute -/
/-! ### what a permutation does to a valid structure -/
theorem renT_inj (sy : List Int) (hnd : sy.Nodup) (a b : List Int) (hl : a.length = b.length) (ha : ∀ x ∈ a, 0 ≤ x ∧ x < (sy.length : Int)) (hb : ∀ x ∈ b, 0 ≤ x ∧ x < (sy.length : Int)) (h : renT sy a = renT sy b) : a = b := by
  apply List.ext_getElem hl
  intro i h1 h2
  have e : (renT sy a)[i]? = (renT sy b)[i]? := by rw [h]
  unfold renT at e
  rw [List.getElem?_map, List.getElem?_map, List.getElem?_eq_getElem h1, List.getElem?_eq_getElem h2] at e
  have e2 : rd sy a[i] = rd sy b[i] := Option.some.inj e
  obtain ⟨a0, a1⟩ := ha _ (List.getElem_mem h1)
  obtain ⟨b0, b1⟩ := hb _ (List.getElem_mem h2)
  obtain ⟨p, hp⟩ : ∃ p : Nat, a[i] = (p : Int) := ⟨a[i].toNat, by omega⟩
  obtain ⟨q, hq⟩ : ∃ q : Nat, b[i] = (q : Int) := ⟨b[i].toNat, by omega⟩
  rw [hp, hq] at e2 ⊢
  have hpl : p < sy.length := by omega
  have hql : q < sy.length := by omega
  rw [rd_nat sy p hpl, rd_nat sy q hql] at e2
  have hpw := List.pairwise_iff_getElem.1 hnd
  rcases Nat.lt_trichotomy p q with h3 | h3 | h3
  · exact absurd e2 (hpw p q hpl hql h3)
  · rw [h3]
  · exact absurd e2.symm (hpw q p hql hpl h3)
theorem sorted_nodup {ts : List (List Int)} (h : Sorted ts) : ts.Nodup := by
  unfold List.Nodup
  exact List.Pairwise.imp (fun h2 e => by rw [e, lex_irr] at h2; cases h2) h
theorem permFit_of (n : Int) (l : List S52) (hv : validB n l = true) (sy : List Int) (hn : (sy.length : Int) = n) (hnd : sy.Nodup) : permFit l sy := fun r hr => by
  obtain ⟨_, _, _, hall⟩ := valid_facts n l hv
  obtain ⟨_, g1, g2, g3⟩ := hall r hr
  obtain ⟨i, hi, rfl⟩ := List.mem_iff_getElem.1 hr
  have hS := (rel_sorted n _ ((valid_parts n l hv).1 i hi)).1
  have hin : ∀ t ∈ l[i].f2, ∀ x ∈ t, 0 ≤ x ∧ x < (sy.length : Int) := fun t ht x hx => by rw [hn]; exact (g2 t ht).2 x hx
  refine ⟨fun t ht => ⟨?_, by have := (g2 t ht).1; omega, hin t ht⟩, ?_⟩
  · have h1 := (g2 t ht).1
    cases hq : l[i].f2 with
    | nil => rw [hq] at ht; cases ht
    | cons u us =>
      have h2 := (g2 u (by rw [hq]; exact List.mem_cons_self)).1
      show t.length = u.length
      omega
  · unfold List.Nodup
    rw [List.pairwise_map]
    refine List.Pairwise.imp_of_mem (fun {a b} ha hb hne e => hne ?_) (sorted_nodup hS)
    have h1 := (g2 a ha).1
    have h2 := (g2 b hb).1
    exact renT_inj sy hnd a b (by omega) (hin a ha) (hin b hb) e
theorem renR_ok (n : Int) (l : List S52) (hv : validB n l = true) (sy : List Int) : ∀ r ∈ l.map (renR sy), r.f2.length ≤ 100000 ∧ ∀ t ∈ r.f2, t.length ≤ 1000 := fun r hr => by
  obtain ⟨r0, hr0, rfl⟩ := List.mem_map.1 hr
  obtain ⟨_, g1, g2, g3⟩ := (valid_facts n l hv).2.2.2 r0 hr0
  have hal : ∀ a ∈ r0.f2.map (renT sy), a.length = r0.f1.toNat := fun a ha => by
    obtain ⟨t, ht, rfl⟩ := List.mem_map.1 ha
    have := (g2 t ht).1
    unfold renT
    rw [List.length_map]
    omega
  have h1 := sortedB_len (r0.f2.map (renT sy)) []
  rw [List.length_map, List.length_nil] at h1
  refine ⟨by show (sortedB _).length ≤ _; unfold sortedB; omega, fun t ht => ?_⟩
  have := hal t (((sorted_eq r0.f1.toNat (by omega) _ hal (by rw [List.length_map]; omega)).2.2 t).1 ht)
  omega
end Go.Proofs.YtfmpaofbnjlniaaGreatDoor.F
namespace Go.Proofs.YtfmpaofbnjlniaaGreatDoor.F
open Go.RowKit Go.Proofs.YtfmpaofbnjlniaaGreatDoorW.PrintWords Go.Proofs.YtfmpaofbnjlniaaGreatDoorW.PrintLast Go.Proofs.YtfmpaofbnjlniaaGreatDoorW.PrintMore
attribute [local go_sem] max2_int min2_int max_two min_two max_three min_three max_four min_four
set_option linter.unusedVariables false
set_option linter.unusedSimpArgs false
/-! ### shape_Make: function 18 -/
def shape_Make.l0 : Nat → List (S96) → Int → Int → Int → List (S52) → Option (Int × (List (S52)) × Int)
 | 0, _, _, _, _, _ => none
 | k + 1, x11, x12, x13, x294000, x294001 => if x13 < x12 then (if 0 ≤ x13 then (if x13 < (x11.length : Int) then (if x294001.length < 2932031007402 then (shape_Make.l0 k x11 x12 (wrap64 (x13 + 1)) x294000 (x294001 ++ [(⟨(rd_T96 x11 x13).f0, (rd_T96 x11 x13).f1, ([] : List (List Int))⟩ : S52)])) else (none)) else (none)) else (none)) else ((shape_Valid.f k x294000 x294001).bind fun t299 => (if t299 = true then (some (x294000, x294001, 0)) else (some (0, ([] : List (S52)), 1))))
def shape_Make.f (k : Nat) (a0 : Int) (l1 : List (S96)) : Option (Int × (List (S52)) × Int) := shape_Make.l0 k l1 (l1.length : Int) 0 a0 ([] : List (S52))
set_option maxHeartbeats 8000000 in
set_option maxRecDepth 100000 in
theorem shape_Make.calls (k : Nat) (a0 : Int) (A1 : Option Addr) (c1 : Nat) (l1 : List (S96)) (r1 : Int) (r2 : List (S52)) (r3 : Int) (w : World) (hr1 : Kd.C k96 w A1 l1.length l1) (hc1 : l1.length ≤ c1) (h : shape_Make.f k a0 l1 = some (r1, r2, r3)) :
  Calls Tryz.prog 18 #[.int .i64 a0, .slice A1 l1.length c1] w fun e w' => ∃ v1_ : Value, e = .returned (.tuple #[.agg #[.int .i64 r1, v1_], .int .i64 r3]) ∧ Kd.R k52 52 w' w.heap.size (fun _ => True) v1_ r2 ∧ Below w.heap.size w w' := by
 have hu24 := Tryz.underlying24
 have hu96 := Tryz.underlying96
 have hu52 := Tryz.underlying52
 have HR1 := Aside0.mk hr1
 have HC1 := Aside0.mk hc1
 clear hr1 hc1
 have HB := Aside0.mk (Below.refl w.heap.size w)
 have H : (shape_Make.l0 k l1 (l1.length : Int) 0 a0 ([] : List (S52))) = some (r1, r2, r3) := h
 clear h
 have H' := Aside0.mk H
 clear H
 go_enter Tryz.func18, Tryz.ntmps18
 go_wp2_with (first | ((with_reducible refine gate_dst (N := 4) rfl ?_); refine box_event ?hg (N := 4) ?hd (cs := #[.int .i64 0, .slice none 0 0]) (t := 24) ?hr ?_; (case hd => rfl); (case hg => rfl); (case hr => first | (go_simp; done) | (go_simp; rfl)); intro gb292 hg w3 hbox hb; have BK292 := Aside0.mk (hbox); have GW292 := geB w hg; have GE292 := geB w hg; replace HB := Aside0.mk (below_step bel hb); clear hb hbox hg) | ((with_reducible refine gate_dst (N := 6) rfl ?_); refine box_event ?hg (N := 6) ?hd (cs := #[.int .i64 0, .slice none 0 0]) (t := 24) ?hr ?_; (case hd => rfl); (case hg => rfl); (case hr => first | (go_simp; done) | (go_simp; rfl)); intro gb293 hg w4 hbox hb; have BK293 := Aside0.mk (hbox); have GW293 := geB w hg; have GE293 := geB w hg; have NB292_293 := neL BK292 hg; have NB293_292 := neG BK292 hg; replace BK292 := blB BK292 hb; replace HB := Aside0.mk (below_step bel hb); clear hb hbox hg; have hnb5 := NB293_292.out; have hnc5 := NB292_293.out; obtain ⟨hcz6_0, hcz6_1, hfz6_0, hfz6_1⟩ := bq2 BK293))
 go_loopg [13] k (fun kq v13 w' => ∃ (x13_1 : Int) (x294001_1 : List (S52)) (u294001 : Value), v13 = .int .i64 x13_1 ∧ Aside0 (shape_Make.l0 kq l1 (l1.length : Int) x13_1 a0 x294001_1 = some (r1, r2, r3)) ∧ Aside0 (kq ≤ k) ∧ Aside0 (Kd.R k52 52 w' w.heap.size (fun _ => True) u294001 x294001_1) ∧ Aside0 (w'.heap[gb292]? = some (.cells #[.int .i64 0, (.slice none 0 0)] 24 (0, 0))) ∧ Aside0 (w'.heap[gb293]? = some (.cells #[.int .i64 a0, u294001] 24 (0, 0))) ∧ Aside0 (Below w.heap.size w w'))
 case atStart => exact ⟨(0), (([] : List (S52))), (.slice none 0 0), eS, H', ⟨Nat.le_refl _⟩, ⟨by first | exact Kd.R_nil _ _ _ _ _ | exact Kd.N_nil _ _ _ _ _ | exact Kd.V_nil _ _ _ _ _ | exact Kd.Q_nil _ _ _ _ _ | exact Kd.S_nil _ _ _ _ _⟩, ⟨by (with_reducible repeat (first | refine blk_drewN ?_ _ | refine blk_drew ?_ | refine blk_alloc ?_ _)); refine blk_far ?_ NB292_293.out _; (with_reducible repeat (first | refine blk_drewN ?_ _ | refine blk_drew ?_ | refine blk_alloc ?_ _)); refine blk_far ?_ NB292_293.out _; (with_reducible repeat (first | refine blk_drewN ?_ _ | refine blk_drew ?_ | refine blk_alloc ?_ _)); exact BK292.out⟩, ⟨by (with_reducible repeat (first | refine blk_drewN ?_ _ | refine blk_drew ?_ | refine blk_alloc ?_ _)); refine blk_put (cs := #[.int .i64 a0, .slice none 0 0]) ?_ 1 _ rfl; (with_reducible repeat (first | refine blk_drewN ?_ _ | refine blk_drew ?_ | refine blk_alloc ?_ _)); refine blk_put (cs := #[.int .i64 0, .slice none 0 0]) ?_ 0 _ rfl; (with_reducible repeat (first | refine blk_drewN ?_ _ | refine blk_drew ?_ | refine blk_alloc ?_ _)); exact BK293.out⟩, ⟨bel⟩⟩
 case round =>
  clear H'
  (try clear c1); (try clear hcz6_0); (try clear hcz6_1); (try clear hfz6_0); (try clear hfz6_1)
  obtain ⟨x13_1, x294001_1, u294001, rfl, HA, HK1, HO_294001, BK292, BK293, HB⟩ := hrel
  cases gk with
  | zero => exact absurd HA.out (by simp [shape_Make.l0])
  | succ k1 =>
   have H := HA.out
   clear HA
   simp only [shape_Make.l0] at H
   by_cases c7 : x13_1 < (l1.length : Int)
   ·rw [if_pos c7] at H
    have c7b0 : decide (x13_1 < (l1.length : Int)) = true := decide_eq_true c7
    clear c7
    by_cases c8 : 0 ≤ x13_1
    ·rw [if_pos c8] at H
     have c8b0 : decide (0 ≤ x13_1) = true := decide_eq_true c8
     clear c8
     by_cases c9 : x13_1 < (l1.length : Int)
     ·rw [if_pos c9] at H
      have c9b0 : decide (x13_1 < (l1.length : Int)) = true := decide_eq_true c9
      clear c9
      by_cases c10 : x294001_1.length < 2932031007402
      ·rw [if_pos c10] at H
       have LMc10 := Aside0.mk c10
       clear c10
       obtain ⟨y296, hy296⟩ : ∃ y_ : List (S52), y_ = (x294001_1 ++ [(⟨(rd_T96 l1 x13_1).f0, (rd_T96 l1 x13_1).f1, ([] : List (List Int))⟩ : S52)]) := ⟨_, rfl⟩
       replace H : (shape_Make.l0 k1 l1 (l1.length : Int) (wrap64 (x13_1 + 1)) a0 y296) = some (r1, r2, r3) := by first | (rw [hy296]; with_reducible exact H) | (have H2_ := (Option.bind_some _ _).symm.trans H; rw [hy296]; with_reducible exact H2_) | (have H2_ := (Option.bind_some _ _).symm.trans H; with_reducible exact H2_) | with_reducible exact H | (rw [hy296]; exact H) | exact H
       have Ny296 := Aside0.mk hy296
       clear hy296
       have H' := Aside0.mk H
       clear H
       have p294 : 0 ≤ (x13_1 : Int) := dtr
       have q294 : x13_1 < (l1.length : Int) := dtr
       obtain ⟨ad294, e294, hx294_0, hx294_1⟩ := at_T96 HR1.out x13_1 p294 q294
       cases e294
       replace hx294_0 := oc hx294_0
       replace hx294_1 := oc hx294_1
       replace p294 := eq_true p294
       replace q294 := eq_true q294
       go_wp2_with (first | ((with_reducible refine gate_dst (N := 8) rfl ?_); refine box_event ?hg (N := 8) ?hd (cs := #[.string (⟨#[]⟩ : ByteArray), .int .i64 0]) (t := 96) ?hr ?_; (case hd => rfl); (case hg => rfl); (case hr => first | (go_simp; done) | (go_simp; rfl)); intro gb295 hg w11 hbox hb; have BK295 := Aside0.mk (hbox); have GW295 := geB w hg; have GE295 := geB w hg; have NB292_295 := neL BK292 hg; have NB295_292 := neG BK292 hg; have NB293_295 := neL BK293 hg; have NB295_293 := neG BK293 hg; replace HO_294001 := rD HO_294001 hb; replace BK292 := blB BK292 hb; replace BK293 := blB BK293 hb; replace HB := Aside0.mk (below_step bel hb); clear hb hbox hg; have hnb12 := NB295_292.out; have hnc12 := NB292_295.out; have hnb13 := NB295_293.out; have hnc13 := NB293_295.out; obtain ⟨hcz14_0, hcz14_1, hfz14_0, hfz14_1⟩ := bq2 BK295; have hnb15 := NB293_292.out; have hnc15 := NB292_293.out; obtain ⟨hcz16_0, hcz16_1, hfz16_0, hfz16_1⟩ := bq2 BK293) | ((with_reducible refine gate_builtin (b := .append) (xs := #[.tmp 18, .tmp 24]) rfl ?_); at_builtin; refine Kd.R_append k52 (w0 := w) w.heap.size rfl (.tmp 18) (.tmp 24) 22 52 (.agg #[(.string ⟨#[]⟩), (.int .i64 0), (.slice none 0 0)]) 48 rfl Tryz.underlying22 info52 rfl (by decide) (by omega) u294001 x294001_1 (⟨(rd_T96 l1 x13_1).f0, (rd_T96 l1 x13_1).f1, ([] : List (List Int))⟩ : S52) [.string ((rd_T96 l1 x13_1).f0), .int .i64 ((rd_T96 l1 x13_1).f1), .slice none 0 0] (fun _ => True) (fun k_ => ((fun _ => True)) k_ ∧ some k_ ≠ (u294001 : Value).ownBlock) rfl (by first | (go_simp; done) | (go_simp; rfl)) ?aP (fun _ hk => hk) ?aF ?aO ?aB ?aS ?aL ?_; (case aP => exact k52_mkM _ _ _ (⟨(rd_T96 l1 x13_1).f0, (rd_T96 l1 x13_1).f1, ([] : List (List Int))⟩ : S52) (Kd.R_nil _ _ _ _ _)); (case aB => exact bel); (case aF => exact (fun _ _ => trivial)); (case aO => exact (by (with_reducible repeat (first | apply Kd.R_alloc | apply Kd.R_drewN | apply Kd.R_drew)); exact Kd.R_mono (Kd.R_far (p := ⟨gb295, 1, none⟩) (Kd.R_far (p := ⟨gb295, 0, none⟩) (Kd.R_types HO_294001.out BK295.out (by decide)) (fun _ hk => hk.2) (.string ((rd_T96 l1 x13_1).f0))) (fun _ hk => hk.2) (.int .i64 ((rd_T96 l1 x13_1).f1))) (fun _ hk => trivial))); (case aS => exact (below_size bel)); (case aL => have := LMc10.out; omega); intro v297 w17 ho hb hg hat; rw [← Ny296.out] at ho; have HO298 := Aside0.mk (ho); replace BK292 := Aside0.mk (blk_grown (g := gb292) (o := .cells #[.int .i64 0, .slice none 0 0] 24 (0, 0)) (by (with_reducible repeat (first | refine blk_drewN ?_ _ | refine blk_drew ?_ | refine blk_alloc ?_ _)); refine blk_far ?_ NB292_295.out _; (with_reducible repeat (first | refine blk_drewN ?_ _ | refine blk_drew ?_ | refine blk_alloc ?_ _)); refine blk_far ?_ NB292_295.out _; (with_reducible repeat (first | refine blk_drewN ?_ _ | refine blk_drew ?_ | refine blk_alloc ?_ _)); exact BK292.out) hg (Kd.R_ne HO_294001.out BK292.out (by decide))); replace BK293 := Aside0.mk (blk_grown (g := gb293) (o := .cells #[.int .i64 a0, u294001] 24 (0, 0)) (by (with_reducible repeat (first | refine blk_drewN ?_ _ | refine blk_drew ?_ | refine blk_alloc ?_ _)); refine blk_far ?_ NB293_295.out _; (with_reducible repeat (first | refine blk_drewN ?_ _ | refine blk_drew ?_ | refine blk_alloc ?_ _)); refine blk_far ?_ NB293_295.out _; (with_reducible repeat (first | refine blk_drewN ?_ _ | refine blk_drew ?_ | refine blk_alloc ?_ _)); exact BK293.out) hg (Kd.R_ne HO_294001.out BK293.out (by decide))); replace BK295 := Aside0.mk (blk_grown (g := gb295) (o := .cells #[.string ((rd_T96 l1 x13_1).f0), .int .i64 ((rd_T96 l1 x13_1).f1)] 96 (0, 0)) (by (with_reducible repeat (first | refine blk_drewN ?_ _ | refine blk_drew ?_ | refine blk_alloc ?_ _)); refine blk_put (cs := #[.string ((rd_T96 l1 x13_1).f0), .int .i64 0]) ?_ 1 _ rfl; (with_reducible repeat (first | refine blk_drewN ?_ _ | refine blk_drew ?_ | refine blk_alloc ?_ _)); refine blk_put (cs := #[.string (⟨#[]⟩ : ByteArray), .int .i64 0]) ?_ 0 _ rfl; (with_reducible repeat (first | refine blk_drewN ?_ _ | refine blk_drew ?_ | refine blk_alloc ?_ _)); exact BK295.out) hg (Kd.R_ne HO_294001.out BK295.out (by decide))); replace HB := Aside0.mk (hb); clear HO_294001; clear ho hb hg hat; obtain ⟨Ao18, co18, eo18⟩ := Kd.R_slice HO298.out; subst eo18; obtain ⟨hcz19_0, hcz19_1, hfz19_0, hfz19_1⟩ := bq2 BK293))
       go_roundg k1
       case measure => have := HK1.out; omega
       case rel => exact ⟨(wrap64 (x13_1 + 1)), (y296), (.slice Ao18 y296.length co18), eS, H', ⟨by have := HK1.out; omega⟩, ⟨by (with_reducible repeat (first | apply Kd.R_alloc | apply Kd.R_drewN | apply Kd.R_drew)); exact Kd.R_mono (Kd.R_far (p := ⟨gb293, 1, none⟩) (Kd.R_types HO298.out BK293.out (by decide)) (fun _ hk => hk.2) (.slice Ao18 y296.length co18)) (fun _ hk => trivial)⟩, ⟨by (with_reducible repeat (first | refine blk_drewN ?_ _ | refine blk_drew ?_ | refine blk_alloc ?_ _)); refine blk_far ?_ NB292_293.out _; (with_reducible repeat (first | refine blk_drewN ?_ _ | refine blk_drew ?_ | refine blk_alloc ?_ _)); exact BK292.out⟩, ⟨by (with_reducible repeat (first | refine blk_drewN ?_ _ | refine blk_drew ?_ | refine blk_alloc ?_ _)); refine blk_put (cs := #[.int .i64 a0, u294001]) ?_ 1 _ rfl; (with_reducible repeat (first | refine blk_drewN ?_ _ | refine blk_drew ?_ | refine blk_alloc ?_ _)); exact BK293.out⟩, ⟨bel⟩⟩
      ·rw [if_neg c10] at H
       exact absurd H (by simp)
     ·rw [if_neg c9] at H
      exact absurd H (by simp)
    ·rw [if_neg c8] at H
     exact absurd H (by simp)
   ·rw [if_neg c7] at H
    have c7b0 : decide (x13_1 < (l1.length : Int)) = false := decide_eq_false c7
    clear c7
    replace H := Option.bind_eq_some_iff.mp H
    obtain ⟨t299, A200, H⟩ := H
    replace H : (if t299 = true then (some (a0, x294001_1, 0)) else (some (0, ([] : List (S52)), 1))) = some (r1, r2, r3) := H
    have A20 := Aside0.mk A200
    clear A200
    by_cases c21 : t299 = true
    ·subst c21
     have H1 : (some (a0, x294001_1, 0)) = some (r1, r2, r3) := by rw [if_pos rfl] at H; exact H
     clear H
     have H := H1
     clear H1
     simp only [Option.some.injEq, Prod.mk.injEq] at H
     obtain ⟨rfl, rfl, rfl⟩ := H
     have hnb22 := NB293_292.out
     have hnc22 := NB292_293.out
     obtain ⟨hcz23_0, hcz23_1, hfz23_0, hfz23_1⟩ := bq2 BK293
     obtain ⟨Ao24, co24, eo24⟩ := Kd.R_slice HO_294001.out
     subst eo24
     go_wp2_with (first | ((with_reducible refine gate_callee (f := 33) rfl ?_); refine gL (some 29) Tryz.func33 #[.agg #[.int .i64 a0, .slice Ao24 x294001_1.length co24]] ?_; (with_reducible refine (shape_Valid.calls k1 a0 _ _ x294001_1 true _ ?side1 ?side2 A20.out).mono ?_); (case side1 => exact cS (Kd.R_reads' HO_294001.out).2.2); (case side2 => exact (Kd.R_reads' HO_294001.out).2.1); rintro e w25 ⟨rfl, hb⟩; refine ⟨_, rfl, ?_⟩; replace HO_294001 := rD HO_294001 hb; replace BK292 := blB BK292 hb; replace BK293 := blB BK293 hb; replace HB := Aside0.mk (below_step bel hb); (try clear hb); (try clear hb2); (try clear hk); (try clear hi); obtain ⟨hcz26_0, hcz26_1, hfz26_0, hfz26_1⟩ := bq2 BK293; obtain ⟨hcz27_0, hcz27_1, hfz27_0, hfz27_1⟩ := bq2 BK292))
     refine bodyPost_ret (results_ct rfl _ _ gb292 24 #[.int .i64 a0, .slice Ao24 x294001_1.length co24] (0, 0) _ rfl (by (with_reducible repeat (first | refine blk_drewN ?_ _ | refine blk_drew ?_ | refine blk_alloc ?_ _)); refine blk_put (cs := #[.int .i64 a0, .slice none 0 0]) ?_ 1 _ rfl; (with_reducible repeat (first | refine blk_drewN ?_ _ | refine blk_drew ?_ | refine blk_alloc ?_ _)); refine blk_put (cs := #[.int .i64 0, .slice none 0 0]) ?_ 0 _ rfl; (with_reducible repeat (first | refine blk_drewN ?_ _ | refine blk_drew ?_ | refine blk_alloc ?_ _)); exact BK292.out) Tryz.underlying24 rfl (by kernel_rfl)) rfl ?_
     exact ⟨_, eN, by (with_reducible repeat (first | apply Kd.R_alloc | apply Kd.R_drewN | apply Kd.R_drew)); exact Kd.R_mono (Kd.R_far (p := ⟨gb292, 1, none⟩) (Kd.R_far (p := ⟨gb292, 0, none⟩) (Kd.R_types HO_294001.out BK292.out (by decide)) (fun _ hk => hk.2) (.int .i64 a0)) (fun _ hk => hk.2) (.slice Ao24 x294001_1.length co24)) (fun _ hk => trivial), bel⟩
    ·replace c21 := Bool.eq_false_iff.mpr c21
     subst c21
     have H1 : (some (0, ([] : List (S52)), 1)) = some (r1, r2, r3) := by rw [if_neg (show ¬ (false = true) by decide)] at H; exact H
     clear H
     have H := H1
     clear H1
     simp only [Option.some.injEq, Prod.mk.injEq] at H
     obtain ⟨rfl, rfl, rfl⟩ := H
     have hnb28 := NB293_292.out
     have hnc28 := NB292_293.out
     obtain ⟨hcz29_0, hcz29_1, hfz29_0, hfz29_1⟩ := bq2 BK293
     obtain ⟨Ao30, co30, eo30⟩ := Kd.R_slice HO_294001.out
     subst eo30
     go_wp2_with (first | ((with_reducible refine gate_callee (f := 33) rfl ?_); refine gL (some 29) Tryz.func33 #[.agg #[.int .i64 a0, .slice Ao30 x294001_1.length co30]] ?_; (with_reducible refine (shape_Valid.calls k1 a0 _ _ x294001_1 false _ ?side1 ?side2 A20.out).mono ?_); (case side1 => exact cS (Kd.R_reads' HO_294001.out).2.2); (case side2 => exact (Kd.R_reads' HO_294001.out).2.1); rintro e w31 ⟨rfl, hb⟩; refine ⟨_, rfl, ?_⟩; replace HO_294001 := rD HO_294001 hb; replace BK292 := blB BK292 hb; replace BK293 := blB BK293 hb; replace HB := Aside0.mk (below_step bel hb); (try clear hb); (try clear hb2); (try clear hk); (try clear hi); obtain ⟨hcz32_0, hcz32_1, hfz32_0, hfz32_1⟩ := bq2 BK292))
     refine bodyPost_ret (results_ct rfl _ _ gb292 24 #[.int .i64 0, .slice none 0 0] (0, 0) _ rfl (by (with_reducible repeat (first | refine blk_drewN ?_ _ | refine blk_drew ?_ | refine blk_alloc ?_ _)); refine blk_put (cs := #[.int .i64 0, .slice none 0 0]) ?_ 1 _ rfl; (with_reducible repeat (first | refine blk_drewN ?_ _ | refine blk_drew ?_ | refine blk_alloc ?_ _)); refine blk_put (cs := #[.int .i64 0, .slice none 0 0]) ?_ 0 _ rfl; (with_reducible repeat (first | refine blk_drewN ?_ _ | refine blk_drew ?_ | refine blk_alloc ?_ _)); exact BK292.out) Tryz.underlying24 rfl (by kernel_rfl)) rfl ?_
     exact ⟨_, eN, by first | exact Kd.R_nil _ _ _ _ _ | exact Kd.N_nil _ _ _ _ _ | exact Kd.V_nil _ _ _ _ _ | exact Kd.Q_nil _ _ _ _ _ | exact Kd.S_nil _ _ _ _ _, bel⟩
end Go.Proofs.YtfmpaofbnjlniaaGreatDoor.F
namespace Go.Proofs.YtfmpaofbnjlniaaGreatDoor.F
open Go.RowKit Go.Proofs.YtfmpaofbnjlniaaGreatDoorW.PrintWords Go.Proofs.YtfmpaofbnjlniaaGreatDoorW.PrintLast Go.Proofs.YtfmpaofbnjlniaaGreatDoorW.PrintMore
attribute [local go_sem] max2_int min2_int max_two min_two max_three min_three max_four min_four
set_option linter.unusedVariables false
set_option linter.unusedSimpArgs false
/-! ### paraphrastlaw01_FewSymbols: function 17 -/
mutual
def paraphrastlaw01_FewSymbols.l0 : Nat → List (S96) → Int → Option (Bool)
 | 0, _, _ => none
 | k + 1, x0, x3 => if x3 < (x0.length : Int) then (paraphrastlaw01_FewSymbols.j1 k x0 x3 (decide (x3 < 41))) else (paraphrastlaw01_FewSymbols.j1 k x0 x3 false)
def paraphrastlaw01_FewSymbols.j1 : Nat → List (S96) → Int → Bool → Option (Bool)
 | 0, _, _, _ => none
 | k + 1, x0, x3, x11 => if x11 = true then (if 0 ≤ x3 then (if x3 < (x0.length : Int) then (if (((rd_T96 x0 x3).f0).size : Int) > 1000 then (some false) else (paraphrastlaw01_FewSymbols.l0 k x0 (wrap64 (x3 + 1)))) else (none)) else (none)) else (some (decide ((x0.length : Int) ≤ 40)))
end
def paraphrastlaw01_FewSymbols.f (k : Nat) (l0 : List (S96)) : Option (Bool) := paraphrastlaw01_FewSymbols.l0 k l0 0
set_option maxHeartbeats 8000000 in
set_option maxRecDepth 100000 in
theorem paraphrastlaw01_FewSymbols.calls (k : Nat) (A0 : Option Addr) (c0 : Nat) (l0 : List (S96)) (r : Bool) (w : World) (hr0 : Kd.C k96 w A0 l0.length l0) (hc0 : l0.length ≤ c0) (h : paraphrastlaw01_FewSymbols.f k l0 = some r) :
  Calls Tryz.prog 17 #[.slice A0 l0.length c0] w fun e w' => e = .returned (.bool r) ∧ Drawn0 w w' := by
 have HR0 := Aside0.mk hr0
 have HC0 := Aside0.mk hc0
 clear hr0 hc0
 have H : (paraphrastlaw01_FewSymbols.l0 k l0 0) = some r := h
 clear h
 have H' := Aside0.mk H
 clear H
 go_enter Tryz.func17, Tryz.ntmps17
 go_wp2
 go_loopg [3] k (fun kq v3 w' => ∃ (x3_1 : Int), v3 = .int .i64 x3_1 ∧ Aside0 (paraphrastlaw01_FewSymbols.l0 kq l0 x3_1 = some r) ∧ Aside0 (kq ≤ k) ∧ Drawn0 w w')
 case atStart => exact ⟨(0), eS, H', ⟨Nat.le_refl _⟩, dr0⟩
 case round =>
  clear H'
  obtain ⟨x3_1, rfl, HA, HK1, ⟨m1, rfl⟩⟩ := hrel
  cases gk with
  | zero => exact absurd HA.out (by simp [paraphrastlaw01_FewSymbols.l0])
  | succ k1 =>
   have H := HA.out
   clear HA
   simp only [paraphrastlaw01_FewSymbols.l0] at H
   have HC2 := Aside0.mk H
   clear H
   go_upto_region 2 with (fail)
   go_cut [11] (fun v11 wc => ∃ (kq : Nat) (x11_1 : Bool), v11 = .bool x11_1 ∧ Aside0 (paraphrastlaw01_FewSymbols.j1 kq l0 x3_1 x11_1 = some r) ∧ Aside0 (kq ≤ k1) ∧ Drawn0 w wc)
   case first =>
    have H := HC2.out
    clear HC2
    by_cases c3 : x3_1 < (l0.length : Int)
    ·rw [if_pos c3] at H
     have c3b0 : decide (x3_1 < (l0.length : Int)) = true := decide_eq_true c3
     clear c3
     (first | rw [c3b0] | (simp only [i64_w, i32_w]; rw [c3b0]) | skip)
     have H' := Aside0.mk H
     clear H
     go_wp2
     go_meet
     case rel => exact ⟨_, (decide (x3_1 < 41)), eS, H', ⟨by have := HK1.out; first | omega | exact Nat.le_refl _⟩, dr0⟩
    ·rw [if_neg c3] at H
     have c3b0 : decide (x3_1 < (l0.length : Int)) = false := decide_eq_false c3
     clear c3
     (first | rw [c3b0] | (simp only [i64_w, i32_w]; rw [c3b0]) | skip)
     have H' := Aside0.mk H
     clear H
     go_wp2
     go_meet
     case rel => exact ⟨_, (false), eS, H', ⟨by have := HK1.out; first | omega | exact Nat.le_refl _⟩, dr0⟩
   case rest =>
    clear HC2
    obtain ⟨kq, x11_1, rfl, HA, HJ1, ⟨mc1, rfl⟩⟩ := hcut
    cases kq with
    | zero => exact absurd HA.out (by simp [paraphrastlaw01_FewSymbols.j1])
    | succ kj1 =>
     have H := HA.out
     clear HA
     simp only [paraphrastlaw01_FewSymbols.j1] at H
     by_cases c4 : x11_1 = true
     ·subst c4
      have H1 : (if 0 ≤ x3_1 then (if x3_1 < (l0.length : Int) then (if (((rd_T96 l0 x3_1).f0).size : Int) > 1000 then (some false) else (paraphrastlaw01_FewSymbols.l0 kj1 l0 (wrap64 (x3_1 + 1)))) else (none)) else (none)) = some r := by rw [if_pos rfl] at H; exact H
      clear H
      have H := H1
      clear H1
      by_cases c5 : 0 ≤ x3_1
      ·rw [if_pos c5] at H
       have c5b0 : decide (0 ≤ x3_1) = true := decide_eq_true c5
       clear c5
       by_cases c6 : x3_1 < (l0.length : Int)
       ·rw [if_pos c6] at H
        have c6b0 : decide (x3_1 < (l0.length : Int)) = true := decide_eq_true c6
        clear c6
        by_cases c7 : (((rd_T96 l0 x3_1).f0).size : Int) > 1000
        ·rw [if_pos c7] at H
         have c7b0 : decide (1000 < (((rd_T96 l0 x3_1).f0).size : Int)) = true := decide_eq_true c7
         have c7b1 : decide (1000 < ((rd_T96 l0 x3_1).f0).size) = true := decide_eq_true (by omega)
         clear c7
         obtain rfl := Option.some.inj H
         have p291 : 0 ≤ (x3_1 : Int) := dtr
         have q291 : x3_1 < (l0.length : Int) := dtr
         obtain ⟨ad291, e291, hx291_0, hx291_1⟩ := at_T96 HR0.out x3_1 p291 q291
         cases e291
         replace p291 := eq_true p291
         replace q291 := eq_true q291
         go_wp2
         go_ret
         exact ⟨eS, dr0⟩
        ·rw [if_neg c7] at H
         have c7b0 : decide (1000 < (((rd_T96 l0 x3_1).f0).size : Int)) = false := decide_eq_false c7
         have c7b1 : decide (1000 < ((rd_T96 l0 x3_1).f0).size) = false := decide_eq_false (by omega)
         clear c7
         have H' := Aside0.mk H
         clear H
         have p291 : 0 ≤ (x3_1 : Int) := dtr
         have q291 : x3_1 < (l0.length : Int) := dtr
         obtain ⟨ad291, e291, hx291_0, hx291_1⟩ := at_T96 HR0.out x3_1 p291 q291
         cases e291
         replace p291 := eq_true p291
         replace q291 := eq_true q291
         go_wp2
         go_roundg kj1
         case measure => have := HK1.out; have := HJ1.out; omega
         case rel => exact ⟨(wrap64 (x3_1 + 1)), eS, H', ⟨by have := HK1.out; have := HJ1.out; omega⟩, dr0⟩
       ·rw [if_neg c6] at H
        exact absurd H (by simp)
      ·rw [if_neg c5] at H
       exact absurd H (by simp)
     ·replace c4 := Bool.eq_false_iff.mpr c4
      subst c4
      have H1 : (some (decide ((l0.length : Int) ≤ 40))) = some r := by rw [if_neg (show ¬ (false = true) by decide)] at H; exact H
      clear H
      have H := H1
      clear H1
      obtain rfl := Option.some.inj H
      go_wp2
      go_ret
      exact ⟨eS, dr0⟩
end Go.Proofs.YtfmpaofbnjlniaaGreatDoor.F
/- Make, Keep and what the reference says of symbols: what they answer. -/
namespace Go.Proofs.YtfmpaofbnjlniaaGreatDoor.F
open Go.RowKit Go.Maps Go.Proofs.YtfmpaofbnjlniaaGreatDoorW.PrintWords Go.Proofs.YtfmpaofbnjlniaaGreatDoorW.PrintLast Go.Proofs.YtfmpaofbnjlniaaGreatDoorW.PrintMore
set_option linter.unusedVariables false
theorem rdS_nat (l : List S96) (i : Nat) (h : i < l.length) : rd_T96 l (i : Int) = l[i] := by unfold rd_T96; rw [Int.toNat_natCast, List.getD_eq_getElem?_getD, List.getElem?_eq_getElem h]; rfl
/-! ### FewSymbols -/
theorem fews_from (sy : List S96) (hS : sy.length ≤ 9223372036854775807) : ∀ (d i : Nat), i ≤ sy.length → i ≤ 41 → 41 ≤ i + d → ∃ b, (∀ k, 2 * d + 2 ≤ k → paraphrastlaw01_FewSymbols.l0 k sy (i : Int) = some b) ∧ (b = true → sy.length ≤ 40 ∧ ∀ x ∈ sy.drop i, x.f0.size ≤ 1000)
  | 0, i, h, h2, h3 => by
    refine ⟨decide ((sy.length : Int) ≤ 40), fun k hk => ?_, fun h => ?_⟩
    · obtain ⟨k, rfl⟩ : ∃ k', k = k' + 1 + 1 := ⟨k - 2, by omega⟩
      unfold paraphrastlaw01_FewSymbols.l0
      split
      · rw [decide_eq_false (by omega)]; unfold paraphrastlaw01_FewSymbols.j1; rw [if_neg (by simp)]
      · unfold paraphrastlaw01_FewSymbols.j1; rw [if_neg (by simp)]
    · have := of_decide_eq_true h
      exact ⟨by omega, fun x hx => by rw [List.drop_eq_nil_of_le (by omega)] at hx; cases hx⟩
  | d + 1, i, h, h2, h3 => by
    by_cases hi : i < sy.length
    · by_cases h41 : i < 41
      · by_cases hx : (sy[i].f0.size : Int) > 1000
        · refine ⟨false, fun k hk => ?_, fun h => by cases h⟩
          obtain ⟨k, rfl⟩ : ∃ k', k = k' + 1 + 1 := ⟨k - 2, by omega⟩
          unfold paraphrastlaw01_FewSymbols.l0
          rw [if_pos (by omega), decide_eq_true (by omega)]
          unfold paraphrastlaw01_FewSymbols.j1
          rw [if_pos rfl, if_pos (by omega), if_pos (by omega), rdS_nat sy i hi, if_pos hx]
        · obtain ⟨b, hb, hp⟩ := fews_from sy hS d (i + 1) (by omega) (by omega) (by omega)
          refine ⟨b, fun k hk => ?_, fun e => ?_⟩
          · obtain ⟨k, rfl⟩ : ∃ k', k = k' + 1 + 1 := ⟨k - 2, by omega⟩
            unfold paraphrastlaw01_FewSymbols.l0
            rw [if_pos (by omega), decide_eq_true (by omega)]
            unfold paraphrastlaw01_FewSymbols.j1
            rw [if_pos rfl, if_pos (by omega), if_pos (by omega), rdS_nat sy i hi, if_neg hx, w64 (by omega) (by omega), show (i : Int) + 1 = ((i + 1 : Nat) : Int) by omega]
            exact hb k (by omega)
          · obtain ⟨g1, g2⟩ := hp e
            refine ⟨g1, fun x hxm => ?_⟩
            rw [List.drop_eq_getElem_cons hi] at hxm
            rcases List.mem_cons.1 hxm with rfl | hxm
            · omega
            · exact g2 x hxm
      · refine ⟨false, fun k hk => ?_, fun h => by cases h⟩
        obtain ⟨k, rfl⟩ : ∃ k', k = k' + 1 + 1 := ⟨k - 2, by omega⟩
        unfold paraphrastlaw01_FewSymbols.l0
        rw [if_pos (by omega), decide_eq_false (by omega)]
        unfold paraphrastlaw01_FewSymbols.j1
        rw [if_neg (by simp), decide_eq_false (by omega)]
    · refine ⟨decide ((sy.length : Int) ≤ 40), fun k hk => ?_, fun h => ?_⟩
      · obtain ⟨k, rfl⟩ : ∃ k', k = k' + 1 + 1 := ⟨k - 2, by omega⟩
        unfold paraphrastlaw01_FewSymbols.l0
        rw [if_neg (by omega)]
        unfold paraphrastlaw01_FewSymbols.j1
        rw [if_neg (by simp)]
      · have := of_decide_eq_true h
        exact ⟨by omega, fun x hx => by rw [List.drop_eq_nil_of_le (by omega)] at hx; cases hx⟩
theorem fews_ex (sy : List S96) (hS : sy.length ≤ 9223372036854775807) : ∃ b, (∀ k, 100 ≤ k → paraphrastlaw01_FewSymbols.f k sy = some b) ∧ (b = true → keepOk sy ∧ sy.length ≤ 40) := by
  obtain ⟨b, h1, h2⟩ := fews_from sy hS 41 0 (by omega) (by omega) (by omega)
  exact ⟨b, fun k hk => h1 k (by omega), fun e => ⟨⟨by have := (h2 e).1; omega, fun x hx => (h2 e).2 x (by simpa using hx)⟩, (h2 e).1⟩⟩
/-! ### Make and Made -/
def madeL (sy : List S96) : List S52 := sy.map fun x => ⟨x.f0, x.f1, []⟩
theorem made_snoc {sy : List S96} {i : Nat} (h : i < sy.length) : madeL (sy.take i) ++ [⟨sy[i].f0, sy[i].f1, []⟩] = madeL (sy.take (i + 1)) := by
  unfold madeL
  rw [take_snoc' (List.getElem?_eq_getElem h), List.map_append]
  rfl
theorem make_from (n : Int) (sy : List S96) (hs : sy.length ≤ 1000) : ∀ (d i k : Nat), i + d = sy.length → d + 301 ≤ k → shape_Make.l0 k sy (sy.length : Int) (i : Int) n (madeL (sy.take i)) = some (if validB n (madeL sy) = true then (n, madeL sy, 0) else (0, [], 1))
  | 0, i, k + 1, h, hk => by
    unfold shape_Make.l0
    rw [if_neg (by omega), List.take_of_length_le (by omega), valid_eq n (madeL sy) 0 (by omega) (fun r hr => by unfold madeL at hr; obtain ⟨x, _, rfl⟩ := List.mem_map.1 hr; exact Nat.le_refl _) k (by omega), Option.bind_some]
    split <;> rfl
  | d + 1, i, k + 1, h, hk => by
    have hi : i < sy.length := by omega
    unfold shape_Make.l0
    rw [if_pos (by omega), if_pos (by omega), if_pos (by omega), if_pos (by unfold madeL; rw [List.length_map, List.length_take]; omega), rdS_nat sy i hi, made_snoc hi, w64 (by omega) (by omega), show (i : Int) + 1 = ((i + 1 : Nat) : Int) by omega]
    exact make_from n sy hs d (i + 1) k (by omega) (by omega)
theorem make_eq (n : Int) (sy : List S96) (hs : sy.length ≤ 1000) (k : Nat) (hk : 1400 ≤ k) : shape_Make.f k n sy = some (if validB n (madeL sy) = true then (n, madeL sy, 0) else (0, [], 1)) :=
  make_from n sy hs sy.length 0 k (by omega) (by omega)
/-! ### symbols in a valid structure -/
/-! ### names that are there twice -/
def nameS (x : S96) : List UInt8 := x.f0.toList
theorem addKey_len : ∀ (xs acc : List Lit), acc.Nodup → (∀ x ∈ xs, WideAt.IsKeyLit x) → (xs.foldl addKey acc).length ≤ acc.length + xs.length ∧ ((xs.foldl addKey acc).length = acc.length + xs.length ↔ (acc ++ xs).Nodup)
  | [], acc, h, _ => ⟨Nat.le_refl _, by simpa using h⟩
  | x :: xs, acc, h, hk => by
    have hkx := hk x List.mem_cons_self
    have hks : ∀ y ∈ xs, WideAt.IsKeyLit y := fun y hy => hk y (List.mem_cons_of_mem _ hy)
    rw [List.foldl_cons]
    by_cases hm : x ∈ acc
    · have e : addKey acc x = acc := by
        show (if acc.any (fun y => y.sameKey x) = true then acc else acc ++ [x]) = acc
        have h2 : acc.any (fun y => y.sameKey x) = true := List.any_eq_true.2 ⟨x, hm, WideAt.sameKey_self hkx⟩
        rw [if_pos h2]
      rw [e]
      obtain ⟨h1, h2⟩ := addKey_len xs acc h hks
      refine ⟨by rw [List.length_cons]; omega, ⟨fun e2 => by rw [List.length_cons] at e2; omega, fun e2 => ?_⟩⟩
      rw [List.nodup_append] at e2
      exact absurd rfl (e2.2.2 x hm x List.mem_cons_self)
    · have e : addKey acc x = acc ++ [x] := by
        show (if acc.any (fun y => y.sameKey x) = true then acc else acc ++ [x]) = acc ++ [x]
        rw [if_neg (fun e2 => by
          obtain ⟨y, hy, hs⟩ := List.any_eq_true.1 e2
          exact hm (WideAt.sameKey_eq hs ▸ hy))]
      rw [e]
      have hn : (acc ++ [x]).Nodup := by
        rw [List.nodup_append]
        exact ⟨h, by simp, fun a ha b hb e3 => by rw [List.mem_singleton] at hb; subst hb; subst e3; exact hm ha⟩
      obtain ⟨h1, h2⟩ := addKey_len xs (acc ++ [x]) hn hks
      rw [List.length_append, List.length_singleton] at h1 h2
      rw [List.append_assoc, List.singleton_append] at h2
      rw [List.length_cons]
      refine ⟨by omega, ?_⟩
      rw [← h2]
      constructor
      · intro h3; omega
      · intro h3; omega
theorem count_nodup (sy : List S96) : keepCount sy = sy.length ↔ (sy.map nameS).Nodup := by
  unfold keepCount keepSet
  have hk : ∀ x ∈ sy.map keyS, WideAt.IsKeyLit x := fun x hx => by
    obtain ⟨y, _, rfl⟩ := List.mem_map.1 hx
    trivial
  rw [size_setOf _ _ hk]
  have h := (addKey_len (sy.map keyS) [] List.nodup_nil hk).2
  rw [List.length_nil, Nat.zero_add, List.length_map, List.nil_append] at h
  rw [h]
  have e : sy.map keyS = (sy.map nameS).map Lit.string := by
    rw [List.map_map]
    refine List.map_congr_left (fun x _ => ?_)
    show Lit.string x.f0.data.toList = Lit.string x.f0.toList
    rw [toList_data]
  rw [e]
  unfold List.Nodup
  rw [List.pairwise_map]
  exact ⟨fun h => h.imp (fun h2 e2 => h2 (by rw [e2])), fun h => h.imp (fun h2 e2 => h2 (by injection e2))⟩
end Go.Proofs.YtfmpaofbnjlniaaGreatDoor.F
/- ShapeMakes, the plain law. -/
namespace Go.Proofs.YtfmpaofbnjlniaaGreatDoor.F
open Go.RowKit Go.Proofs.YtfmpaofbnjlniaaGreatDoorW.PrintWords Go.Proofs.YtfmpaofbnjlniaaGreatDoorW.PrintLast Go.Proofs.YtfmpaofbnjlniaaGreatDoorW.PrintMore
set_option linter.unusedVariables false
theorem keepRels_ok (n : Int) (l : List S52) (hv : validB n l = true) (sy : List S96) (hall : ∀ x ∈ sy, 0 ≤ keepAt l x) : ∀ r ∈ keepRels l sy, r.f2.length ≤ 100000 ∧ ∀ t ∈ r.f2, t.length ≤ 1000 := fun r hr => by
  unfold keepRels at hr
  obtain ⟨x, hx, rfl⟩ := List.mem_map.1 hr
  have h0 := hall x hx
  have h1 : keepAt l x < (l.length : Int) := fidx_lt _ _
  obtain ⟨q, hq⟩ : ∃ q : Nat, keepAt l x = (q : Int) := ⟨(keepAt l x).toNat, by omega⟩
  rw [hq, rdT_nat l q (by omega)]
  obtain ⟨_, g1, g2, g3⟩ := (valid_facts n l hv).2.2.2 _ (List.getElem_mem (show q < l.length by omega))
  exact ⟨by omega, fun a ha => by have := (g2 a ha).1; omega⟩
end Go.Proofs.YtfmpaofbnjlniaaGreatDoor.F
namespace Go.Proofs.YtfmpaofbnjlniaaGreatDoor.F
open Go.RowKit Go.Proofs.YtfmpaofbnjlniaaGreatDoorW.PrintWords Go.Proofs.YtfmpaofbnjlniaaGreatDoorW.PrintLast Go.Proofs.YtfmpaofbnjlniaaGreatDoorW.PrintMore
attribute [local go_sem] max2_int min2_int max_two min_two max_three min_three max_four min_four
set_option linter.unusedVariables false
set_option linter.unusedSimpArgs false
/-! ### shape_Symbols: function 37 -/
def shape_Symbols.l0 : Nat → List (S96) → List (S52) → Int → Int → Option ((List (S96)))
 | 0, _, _, _, _ => none
 | k + 1, x3, x10, x11, x12 => if x12 < x11 then (if 0 ≤ x12 then (if x12 < (x10.length : Int) then (if x3.length < 5864062014805 then (shape_Symbols.l0 k (x3 ++ [(⟨(rd_T52 x10 x12).f0, (rd_T52 x10 x12).f1⟩ : S96)]) x10 x11 (wrap64 (x12 + 1))) else (none)) else (none)) else (none)) else (some x3)
def shape_Symbols.f (k : Nat) (a0_0 : Int) (l0_1 : List (S52)) : Option ((List (S96))) := (shape_Valid.f k a0_0 l0_1).bind fun t586 => (if t586 = true then (shape_Symbols.l0 k ([] : List (S96)) l0_1 (l0_1.length : Int) 0) else (some ([] : List (S96))))
set_option maxHeartbeats 8000000 in
set_option maxRecDepth 100000 in
theorem shape_Symbols.calls (k : Nat) (a0_0 : Int) (A0_1 : Option Addr) (c0_1 : Nat) (l0_1 : List (S52)) (r : List (S96)) (w : World) (hr0_1 : Kd.C k52 w A0_1 l0_1.length l0_1) (hc0_1 : l0_1.length ≤ c0_1) (h : shape_Symbols.f k a0_0 l0_1 = some r) :
  Calls Tryz.prog 37 #[.agg #[.int .i64 a0_0, .slice A0_1 l0_1.length c0_1]] w fun e w' => ∃ v0_ : Value, e = .returned (v0_) ∧ Kd.R k96 96 w' w.heap.size (fun _ => True) v0_ r ∧ Below w.heap.size w w' := by
 have hu24 := Tryz.underlying24
 have hu52 := Tryz.underlying52
 have hu96 := Tryz.underlying96
 have HR0_1 := Aside0.mk hr0_1
 have HC0_1 := Aside0.mk hc0_1
 clear hr0_1 hc0_1
 have HB := Aside0.mk (Below.refl w.heap.size w)
 have H : ((shape_Valid.f k a0_0 l0_1).bind fun t586 => (if t586 = true then (shape_Symbols.l0 k ([] : List (S96)) l0_1 (l0_1.length : Int) 0) else (some ([] : List (S96))))) = some r := h
 clear h
 replace H := Option.bind_eq_some_iff.mp H
 obtain ⟨t586, A20, H⟩ := H
 replace H : (if t586 = true then (shape_Symbols.l0 k ([] : List (S96)) l0_1 (l0_1.length : Int) 0) else (some ([] : List (S96)))) = some r := H
 have A2 := Aside0.mk A20
 clear A20
 by_cases c3 : t586 = true
 ·subst c3
  have H1 : (shape_Symbols.l0 k ([] : List (S96)) l0_1 (l0_1.length : Int) 0) = some r := by rw [if_pos rfl] at H; exact H
  clear H
  have H := H1
  clear H1
  have H' := Aside0.mk H
  clear H
  go_enter Tryz.func37, Tryz.ntmps37
  go_wp2_with (first | ((with_reducible refine gate_dst (N := 1) rfl ?_); refine box_event ?hg (N := 1) ?hd (cs := #[.int .i64 a0_0, .slice A0_1 l0_1.length c0_1]) (t := 24) ?hr ?_; (case hd => rfl); (case hg => rfl); (case hr => first | (go_simp; done) | (go_simp; rfl)); intro gb585 hg w4 hbox hb; have BK585 := Aside0.mk (hbox); have GW585 := geB w hg; have GE585 := geB w hg; replace HB := Aside0.mk (below_step bel hb); clear hb hbox hg; obtain ⟨hcz5_0, hcz5_1, hfz5_0, hfz5_1⟩ := bq2 BK585) | ((with_reducible refine gate_callee (f := 33) rfl ?_); refine gL (some 7) Tryz.func33 #[.agg #[.int .i64 a0_0, .slice A0_1 l0_1.length c0_1]] ?_; (with_reducible refine (shape_Valid.calls k a0_0 _ _ l0_1 true _ ?side1 ?side2 A2.out).mono ?_); (case side1 => exact cS (Kd.C_below HR0_1.out HB.out)); (case side2 => exact HC0_1.out); rintro e w6 ⟨rfl, hb⟩; refine ⟨_, rfl, ?_⟩; replace BK585 := blB BK585 hb; replace HB := Aside0.mk (below_step bel hb); (try clear hb); (try clear hb2); (try clear hk); (try clear hi); obtain ⟨hcz7_0, hcz7_1, hfz7_0, hfz7_1⟩ := bq2 BK585))
  go_loopg [3, 12] k (fun kq v3 v12 w' => ∃ (x3_1 : List (S96)) (x12_1 : Int), v12 = .int .i64 x12_1 ∧ Aside0 (shape_Symbols.l0 kq x3_1 l0_1 (l0_1.length : Int) x12_1 = some r) ∧ Aside0 (kq ≤ k) ∧ Aside0 (Kd.R k96 96 w' w.heap.size (fun _ => True) v3 x3_1) ∧ Aside0 (w'.heap[gb585]? = some (.cells #[.int .i64 a0_0, (.slice A0_1 l0_1.length c0_1)] 24 (0, 0))) ∧ Aside0 (Below w.heap.size w w'))
  case atStart => exact ⟨(([] : List (S96))), (0), eS, H', ⟨Nat.le_refl _⟩, ⟨by first | exact Kd.R_nil _ _ _ _ _ | exact Kd.N_nil _ _ _ _ _ | exact Kd.V_nil _ _ _ _ _ | exact Kd.Q_nil _ _ _ _ _ | exact Kd.S_nil _ _ _ _ _⟩, ⟨bk BK585⟩, ⟨bel⟩⟩
  case round =>
   clear H'
   (try clear c3); (try clear hcz5_0); (try clear hcz5_1); (try clear hcz7_0); (try clear hcz7_1); (try clear hfz5_0); (try clear hfz5_1); (try clear hfz7_0); (try clear hfz7_1)
   obtain ⟨x3_1, x12_1, rfl, HA, HK1, HO_3, BK585, HB⟩ := hrel
   cases gk with
   | zero => exact absurd HA.out (by simp [shape_Symbols.l0])
   | succ k1 =>
    have H := HA.out
    clear HA
    simp only [shape_Symbols.l0] at H
    by_cases c8 : x12_1 < (l0_1.length : Int)
    ·rw [if_pos c8] at H
     have c8b0 : decide (x12_1 < (l0_1.length : Int)) = true := decide_eq_true c8
     clear c8
     by_cases c9 : 0 ≤ x12_1
     ·rw [if_pos c9] at H
      have c9b0 : decide (0 ≤ x12_1) = true := decide_eq_true c9
      clear c9
      by_cases c10 : x12_1 < (l0_1.length : Int)
      ·rw [if_pos c10] at H
       have c10b0 : decide (x12_1 < (l0_1.length : Int)) = true := decide_eq_true c10
       clear c10
       by_cases c11 : x3_1.length < 5864062014805
       ·rw [if_pos c11] at H
        have LMc11 := Aside0.mk c11
        clear c11
        obtain ⟨y589, hy589⟩ : ∃ y_ : List (S96), y_ = (x3_1 ++ [(⟨(rd_T52 l0_1 x12_1).f0, (rd_T52 l0_1 x12_1).f1⟩ : S96)]) := ⟨_, rfl⟩
        replace H : (shape_Symbols.l0 k1 y589 l0_1 (l0_1.length : Int) (wrap64 (x12_1 + 1))) = some r := by first | (rw [hy589]; with_reducible exact H) | (have H2_ := (Option.bind_some _ _).symm.trans H; rw [hy589]; with_reducible exact H2_) | (have H2_ := (Option.bind_some _ _).symm.trans H; with_reducible exact H2_) | with_reducible exact H | (rw [hy589]; exact H) | exact H
        have Ny589 := Aside0.mk hy589
        clear hy589
        have H' := Aside0.mk H
        clear H
        have p587 : 0 ≤ (x12_1 : Int) := dtr
        have q587 : x12_1 < (l0_1.length : Int) := dtr
        obtain ⟨ad587, A587_2, c587_2, e587, hx587_0, hx587_1, hx587_2, hl587_2, hi587_2⟩ := at_T52 HR0_1.out x12_1 p587 q587
        cases e587
        replace hx587_0 := oc hx587_0
        replace hx587_1 := oc hx587_1
        replace hx587_2 := oc hx587_2
        have HR587_2 := Aside0.mk hi587_2
        have HC587_2 := Aside0.mk hl587_2
        clear hi587_2 hl587_2
        replace p587 := eq_true p587
        replace q587 := eq_true q587
        go_wp2_with (first | ((with_reducible refine gate_dst (N := 5) rfl ?_); refine box_event ?hg (N := 5) ?hd (cs := #[.string (⟨#[]⟩ : ByteArray), .int .i64 0, .slice none 0 0]) (t := 52) ?hr ?_; (case hd => rfl); (case hg => rfl); (case hr => first | (go_simp; done) | (go_simp; rfl)); intro gb588 hg w12 hbox hb; have BK588 := Aside0.mk (hbox); have GW588 := geB w hg; have GE588 := geB w hg; have NB585_588 := neL BK585 hg; have NB588_585 := neG BK585 hg; replace HO_3 := rD HO_3 hb; replace BK585 := blB BK585 hb; replace HB := Aside0.mk (below_step bel hb); clear hb hbox hg; have hnb13 := NB588_585.out; have hnc13 := NB585_588.out; obtain ⟨hcz14_0, hcz14_1, hcz14_2, hfz14_0, hfz14_1, hfz14_2⟩ := bq3 BK588) | ((with_reducible refine gate_builtin (b := .append) (xs := #[.tmp 16, .tmp 22]) rfl ?_); at_builtin; refine Kd.R_append k96 (w0 := w) w.heap.size rfl (.tmp 16) (.tmp 22) 38 96 (.agg #[(.string ⟨#[]⟩), (.int .i64 0)]) 24 rfl Tryz.underlying38 info96 rfl (by decide) (by omega) u3 x3_1 (⟨(rd_T52 l0_1 x12_1).f0, (rd_T52 l0_1 x12_1).f1⟩ : S96) [.string ((rd_T52 l0_1 x12_1).f0), .int .i64 ((rd_T52 l0_1 x12_1).f1)] (fun _ => True) (fun _ => False) rfl (by first | (go_simp; done) | (go_simp; rfl)) ?aP (fun _ hk => hk.elim) ?aF ?aO ?aB ?aS ?aL ?_; (case aP => exact k96_mkM _ _ _ (⟨(rd_T52 l0_1 x12_1).f0, (rd_T52 l0_1 x12_1).f1⟩ : S96)); (case aB => exact bel); (case aF => exact (fun _ _ => trivial)); (case aO => exact (by (with_reducible repeat (first | apply Kd.R_alloc | apply Kd.R_drewN | apply Kd.R_drew)); exact Kd.R_mono (Kd.R_far (p := ⟨gb588, 2, none⟩) (Kd.R_far (p := ⟨gb588, 1, none⟩) (Kd.R_far (p := ⟨gb588, 0, none⟩) (Kd.R_types HO_3.out BK588.out (by decide)) (fun _ hk => hk.2) (.string ((rd_T52 l0_1 x12_1).f0))) (fun _ hk => hk.2) (.int .i64 ((rd_T52 l0_1 x12_1).f1))) (fun _ hk => hk.2) (.slice A587_2 ((rd_T52 l0_1 x12_1).f2).length c587_2)) (fun _ hk => trivial))); (case aS => exact (below_size bel)); (case aL => have := LMc11.out; omega); intro v590 w15 ho hb hg hat; rw [← Ny589.out] at ho; have HO591 := Aside0.mk (ho); replace BK585 := Aside0.mk (blk_grown (g := gb585) (o := .cells #[.int .i64 a0_0, .slice (some ad587) l0_1.length c0_1] 24 (0, 0)) (by (with_reducible repeat (first | refine blk_drewN ?_ _ | refine blk_drew ?_ | refine blk_alloc ?_ _)); refine blk_far ?_ NB585_588.out _; (with_reducible repeat (first | refine blk_drewN ?_ _ | refine blk_drew ?_ | refine blk_alloc ?_ _)); refine blk_far ?_ NB585_588.out _; (with_reducible repeat (first | refine blk_drewN ?_ _ | refine blk_drew ?_ | refine blk_alloc ?_ _)); refine blk_far ?_ NB585_588.out _; (with_reducible repeat (first | refine blk_drewN ?_ _ | refine blk_drew ?_ | refine blk_alloc ?_ _)); exact BK585.out) hg (Kd.R_ne HO_3.out BK585.out (by decide))); replace BK588 := Aside0.mk (blk_grown (g := gb588) (o := .cells #[.string ((rd_T52 l0_1 x12_1).f0), .int .i64 ((rd_T52 l0_1 x12_1).f1), .slice A587_2 ((rd_T52 l0_1 x12_1).f2).length c587_2] 52 (0, 0)) (by (with_reducible repeat (first | refine blk_drewN ?_ _ | refine blk_drew ?_ | refine blk_alloc ?_ _)); refine blk_put (cs := #[.string ((rd_T52 l0_1 x12_1).f0), .int .i64 ((rd_T52 l0_1 x12_1).f1), .slice none 0 0]) ?_ 2 _ rfl; (with_reducible repeat (first | refine blk_drewN ?_ _ | refine blk_drew ?_ | refine blk_alloc ?_ _)); refine blk_put (cs := #[.string ((rd_T52 l0_1 x12_1).f0), .int .i64 0, .slice none 0 0]) ?_ 1 _ rfl; (with_reducible repeat (first | refine blk_drewN ?_ _ | refine blk_drew ?_ | refine blk_alloc ?_ _)); refine blk_put (cs := #[.string (⟨#[]⟩ : ByteArray), .int .i64 0, .slice none 0 0]) ?_ 0 _ rfl; (with_reducible repeat (first | refine blk_drewN ?_ _ | refine blk_drew ?_ | refine blk_alloc ?_ _)); exact BK588.out) hg (Kd.R_ne HO_3.out BK588.out (by decide))); replace HB := Aside0.mk (hb); clear HO_3; clear ho hb hg hat))
        go_roundg k1
        case measure => have := HK1.out; omega
        case rel => exact ⟨(y589), (wrap64 (x12_1 + 1)), eS, H', ⟨by have := HK1.out; omega⟩, ⟨by (with_reducible repeat (first | apply Kd.R_alloc | apply Kd.R_drewN | apply Kd.R_drew)); exact HO591.out⟩, ⟨bk BK585⟩, ⟨bel⟩⟩
       ·rw [if_neg c11] at H
        exact absurd H (by simp)
      ·rw [if_neg c10] at H
       exact absurd H (by simp)
     ·rw [if_neg c9] at H
      exact absurd H (by simp)
    ·rw [if_neg c8] at H
     have c8b0 : decide (x12_1 < (l0_1.length : Int)) = false := decide_eq_false c8
     clear c8
     obtain rfl := Option.some.inj H
     go_wp2
     go_ret
     exact ⟨_, eN, by (with_reducible repeat (first | apply Kd.R_alloc | apply Kd.R_drewN | apply Kd.R_drew)); exact HO_3.out, bel⟩
 ·replace c3 := Bool.eq_false_iff.mpr c3
  subst c3
  have H1 : (some ([] : List (S96))) = some r := by rw [if_neg (show ¬ (false = true) by decide)] at H; exact H
  clear H
  have H := H1
  clear H1
  obtain rfl := Option.some.inj H
  go_enter Tryz.func37, Tryz.ntmps37
  go_wp2_with (first | ((with_reducible refine gate_dst (N := 1) rfl ?_); refine box_event ?hg (N := 1) ?hd (cs := #[.int .i64 a0_0, .slice A0_1 l0_1.length c0_1]) (t := 24) ?hr ?_; (case hd => rfl); (case hg => rfl); (case hr => first | (go_simp; done) | (go_simp; rfl)); intro gb585 hg w16 hbox hb; have BK585 := Aside0.mk (hbox); have GW585 := geB w hg; have GE585 := geB w hg; replace HB := Aside0.mk (below_step bel hb); clear hb hbox hg; obtain ⟨hcz17_0, hcz17_1, hfz17_0, hfz17_1⟩ := bq2 BK585) | ((with_reducible refine gate_callee (f := 33) rfl ?_); refine gL (some 7) Tryz.func33 #[.agg #[.int .i64 a0_0, .slice A0_1 l0_1.length c0_1]] ?_; (with_reducible refine (shape_Valid.calls k a0_0 _ _ l0_1 false _ ?side1 ?side2 A2.out).mono ?_); (case side1 => exact cS (Kd.C_below HR0_1.out HB.out)); (case side2 => exact HC0_1.out); rintro e w18 ⟨rfl, hb⟩; refine ⟨_, rfl, ?_⟩; replace BK585 := blB BK585 hb; replace HB := Aside0.mk (below_step bel hb); (try clear hb); (try clear hb2); (try clear hk); (try clear hi)))
  go_ret
  exact ⟨_, eN, by first | exact Kd.R_nil _ _ _ _ _ | exact Kd.N_nil _ _ _ _ _ | exact Kd.V_nil _ _ _ _ _ | exact Kd.Q_nil _ _ _ _ _ | exact Kd.S_nil _ _ _ _ _, bel⟩
end Go.Proofs.YtfmpaofbnjlniaaGreatDoor.F
namespace Go.Proofs.YtfmpaofbnjlniaaGreatDoor.F
open Go.RowKit Go.Proofs.YtfmpaofbnjlniaaGreatDoorW.PrintWords Go.Proofs.YtfmpaofbnjlniaaGreatDoorW.PrintLast Go.Proofs.YtfmpaofbnjlniaaGreatDoorW.PrintMore
attribute [local go_sem] max2_int min2_int max_two min_two max_three min_three max_four min_four
set_option linter.unusedVariables false
set_option linter.unusedSimpArgs false
theorem eqA96 (d : Nat) (w : World) (x0 y0 : ByteArray) (x1 y1 : Int) :
    (Op.equalIn (d + 2) 96 (.agg #[.string x0, .int .i64 x1]) (.agg #[.string y0, .int .i64 y1])).run Tryz.prog w = .ok (x0.toList == y0.toList && (x1 == y1)) w := by
  refine eqA_of Tryz.underlying96 (by kernel_rfl) ?_
  refine eqf_cons (by rfl) (by go_simp; rfl) (by go_simp; rfl) (by go_simp) ?_
  exact eqf_last (by rfl) (by go_simp; rfl) (by go_simp; rfl) (by go_simp)
end Go.Proofs.YtfmpaofbnjlniaaGreatDoor.F
namespace Go.Proofs.YtfmpaofbnjlniaaGreatDoor.F
open Go.RowKit Go.Proofs.YtfmpaofbnjlniaaGreatDoorW.PrintWords Go.Proofs.YtfmpaofbnjlniaaGreatDoorW.PrintLast Go.Proofs.YtfmpaofbnjlniaaGreatDoorW.PrintMore
attribute [local go_sem] max2_int min2_int max_two min_two max_three min_three max_four min_four
set_option linter.unusedVariables false
set_option linter.unusedSimpArgs false
attribute [local go_sem high] eqA96
/-! ### paraphrastlaw01_SameSymbols: function 38 -/
def paraphrastlaw01_SameSymbols.l0 : Nat → List (S96) → List (S96) → Int → Option (Bool)
 | 0, _, _, _ => none
 | k + 1, x0, x1, x5 => if x5 < (x0.length : Int) then (if 0 ≤ x5 then (if x5 < (x1.length : Int) then (if (!((((rd_T96 x0 x5).f0).toList) == (((rd_T96 x1 x5).f0).toList)) || (!(((rd_T96 x0 x5).f1) == ((rd_T96 x1 x5).f1)))) = true then (some false) else (paraphrastlaw01_SameSymbols.l0 k x0 x1 (wrap64 (x5 + 1)))) else (none)) else (none)) else (some true)
def paraphrastlaw01_SameSymbols.f (k : Nat) (l0 : List (S96)) (l1 : List (S96)) : Option (Bool) := if (l0.length : Int) = (l1.length : Int) then (paraphrastlaw01_SameSymbols.l0 k l0 l1 0) else (some false)
set_option maxHeartbeats 8000000 in
set_option maxRecDepth 100000 in
theorem paraphrastlaw01_SameSymbols.calls (k : Nat) (A0 : Option Addr) (c0 : Nat) (l0 : List (S96)) (A1 : Option Addr) (c1 : Nat) (l1 : List (S96)) (r : Bool) (w : World) (hr0 : Kd.C k96 w A0 l0.length l0) (hc0 : l0.length ≤ c0) (hr1 : Kd.C k96 w A1 l1.length l1) (hc1 : l1.length ≤ c1) (h : paraphrastlaw01_SameSymbols.f k l0 l1 = some r) :
  Calls Tryz.prog 38 #[.slice A0 l0.length c0, .slice A1 l1.length c1] w fun e w' => e = .returned (.bool r) ∧ Drawn0 w w' := by
 have hu96 := Tryz.underlying96
 have HR0 := Aside0.mk hr0
 have HC0 := Aside0.mk hc0
 clear hr0 hc0
 have HR1 := Aside0.mk hr1
 have HC1 := Aside0.mk hc1
 clear hr1 hc1
 have H : (if (l0.length : Int) = (l1.length : Int) then (paraphrastlaw01_SameSymbols.l0 k l0 l1 0) else (some false)) = some r := h
 clear h
 by_cases c3 : (l0.length : Int) = (l1.length : Int)
 ·rw [if_pos c3] at H
  have c3b0 : ((l0.length : Int) == (l1.length : Int)) = true := beq_iff_eq.mpr c3
  have c3b1 : ((l0.length : Int) != (l1.length : Int)) = false := bne_eq_false_iff_eq.mpr c3
  have c3b2 : (l0.length == l1.length) = true := by first | simpa using c3 | (simp at c3 ⊢; omega)
  clear c3
  have H' := Aside0.mk H
  clear H
  go_enter Tryz.func38, Tryz.ntmps38
  go_wp2
  repeat (go_quiet (fail); try go_wp2)
  go_loopg [5] k (fun kq v5 w' => ∃ (x5_1 : Int), v5 = .int .i64 x5_1 ∧ Aside0 (paraphrastlaw01_SameSymbols.l0 kq l0 l1 x5_1 = some r) ∧ Aside0 (kq ≤ k) ∧ Drawn0 w w')
  case atStart => exact ⟨(0), eS, H', ⟨Nat.le_refl _⟩, dr0⟩
  case round =>
   clear H'
   (try clear c1); (try clear c3); (try clear c3b0); (try clear c3b1); (try clear c3b2)
   obtain ⟨x5_1, rfl, HA, HK1, ⟨m1, rfl⟩⟩ := hrel
   cases gk with
   | zero => exact absurd HA.out (by simp [paraphrastlaw01_SameSymbols.l0])
   | succ k1 =>
    have H := HA.out
    clear HA
    simp only [paraphrastlaw01_SameSymbols.l0] at H
    by_cases c4 : x5_1 < (l0.length : Int)
    ·rw [if_pos c4] at H
     have c4b0 : decide (x5_1 < (l0.length : Int)) = true := decide_eq_true c4
     clear c4
     by_cases c5 : 0 ≤ x5_1
     ·rw [if_pos c5] at H
      have c5b0 : decide (0 ≤ x5_1) = true := decide_eq_true c5
      clear c5
      by_cases c6 : x5_1 < (l1.length : Int)
      ·rw [if_pos c6] at H
       have c6b0 : decide (x5_1 < (l1.length : Int)) = true := decide_eq_true c6
       clear c6
       by_cases c7 : (!((((rd_T96 l0 x5_1).f0).toList) == (((rd_T96 l1 x5_1).f0).toList)) || (!(((rd_T96 l0 x5_1).f1) == ((rd_T96 l1 x5_1).f1)))) = true
       ·rw [if_pos c7] at H
        have c7b0 : (!((((rd_T96 l0 x5_1).f0).toList) == (((rd_T96 l1 x5_1).f0).toList)) || (!(((rd_T96 l0 x5_1).f1) == ((rd_T96 l1 x5_1).f1)))) = true := c7
        clear c7
        obtain rfl := Option.some.inj H
        have p592 : 0 ≤ (x5_1 : Int) := dtr
        have q592 : x5_1 < (l0.length : Int) := dtr
        obtain ⟨ad592, e592, hx592_0, hx592_1⟩ := at_T96 HR0.out x5_1 p592 q592
        cases e592
        replace p592 := eq_true p592
        replace q592 := eq_true q592
        have p593 : 0 ≤ (x5_1 : Int) := dtr
        have q593 : x5_1 < (l1.length : Int) := dtr
        obtain ⟨ad593, e593, hx593_0, hx593_1⟩ := at_T96 HR1.out x5_1 p593 q593
        cases e593
        replace p593 := eq_true p593
        replace q593 := eq_true q593
        go_wp2
        repeat (go_quiet (fail); try go_wp2)
        go_ret
        exact ⟨eS, dr0⟩
       ·rw [if_neg c7] at H
        have c7b0 : (!((((rd_T96 l0 x5_1).f0).toList) == (((rd_T96 l1 x5_1).f0).toList)) || (!(((rd_T96 l0 x5_1).f1) == ((rd_T96 l1 x5_1).f1)))) = false := by simpa using c7
        clear c7
        have H' := Aside0.mk H
        clear H
        have p592 : 0 ≤ (x5_1 : Int) := dtr
        have q592 : x5_1 < (l0.length : Int) := dtr
        obtain ⟨ad592, e592, hx592_0, hx592_1⟩ := at_T96 HR0.out x5_1 p592 q592
        cases e592
        replace p592 := eq_true p592
        replace q592 := eq_true q592
        have p593 : 0 ≤ (x5_1 : Int) := dtr
        have q593 : x5_1 < (l1.length : Int) := dtr
        obtain ⟨ad593, e593, hx593_0, hx593_1⟩ := at_T96 HR1.out x5_1 p593 q593
        cases e593
        replace p593 := eq_true p593
        replace q593 := eq_true q593
        go_wp2
        repeat (go_quiet (fail); try go_wp2)
        go_roundg k1
        case measure => have := HK1.out; omega
        case rel => exact ⟨(wrap64 (x5_1 + 1)), eS, H', ⟨by have := HK1.out; omega⟩, dr0⟩
      ·rw [if_neg c6] at H
       exact absurd H (by simp)
     ·rw [if_neg c5] at H
      exact absurd H (by simp)
    ·rw [if_neg c4] at H
     have c4b0 : decide (x5_1 < (l0.length : Int)) = false := decide_eq_false c4
     clear c4
     obtain rfl := Option.some.inj H
     go_wp2
     repeat (go_quiet (fail); try go_wp2)
     go_ret
     exact ⟨eS, dr0⟩
 ·rw [if_neg c3] at H
  have c3b0 : ((l0.length : Int) == (l1.length : Int)) = false := beq_eq_false_iff_ne.mpr c3
  have c3b1 : ((l0.length : Int) != (l1.length : Int)) = true := bne_iff_ne.mpr c3
  have c3b2 : (l0.length == l1.length) = false := by first | simpa using c3 | (simp at c3 ⊢; omega)
  obtain rfl := Option.some.inj H
  go_enter Tryz.func38, Tryz.ntmps38
  go_wp2
  repeat (go_quiet (fail); try go_wp2)
  go_ret
  exact ⟨eS, dr0⟩
end Go.Proofs.YtfmpaofbnjlniaaGreatDoor.F
/- A region that draws its order, by an invariant over what has been done: each operation is walked once, whatever came before it. -/
namespace Go.Proofs.YtfmpaofbnjlniaaGreatDoor.F
open Go.RowKit
set_option linter.unusedVariables false
/-- Every edge leads back. -/
def backB (ops : Array Oper) : Bool := (List.range ops.size).all fun i => ((ops[i]?).map fun o => o.after.all fun e => !Region.binds .any e || decide (e.on < i)).getD true
section
variable {P : Program} {ops : Array Oper} {Q : Exit → Act → World → Prop}
theorem wpOp_of_list {i : Nat} {o : Oper} {K : Act → World → Prop} {a : Act} {w : World} (ho : ops[i]? = some o) (h : wpList P ops (Exit.then K Q) [o] a w) : wpOp P ops Q i K a w := by
  unfold wpOp
  rw [ho]
  unfold wpList at h
  simp only
  split
  · rename_i hw
    rw [if_pos hw] at h
    rcases h with h | ⟨h1, a', w', h2⟩
    · refine .inl ?_
      unfold Oper.wp at h ⊢
      generalize (execOp a.eval o).run P w = r at h ⊢
      cases r with
      | ok n w1 =>
        cases n <;> simp only [Oper.upon] at h ⊢ <;>
          first
            | exact h
            | exact Calls.mono h (fun e w'' he => by cases e <;> exact he)
            | exact Rows.mono h (fun _ _ he => he)
      | halt x w1 => cases x <;> simp only [Oper.upon] at h ⊢ <;> exact h
    · exact .inr ⟨h1, a', w', h2⟩
  · rename_i hw
    rw [if_neg hw] at h
    exact h
theorem ready_nil {l : Array Bool} (hb : backB ops = true) (hl : l.size = ops.size) (h : Region.ready .any ops l = []) : ∀ i, i < ops.size → l.getD i false = true := by
  intro i
  induction i using Nat.strongRecOn with
  | _ i ih =>
    intro hi
    cases hli : l.getD i false with
    | true => rfl
    | false =>
      have hm : i ∈ Region.ready .any ops l := by
        rw [mem_ready]
        have hlt : i < l.size := by omega
        refine ⟨by simpa [hlt] using hli, ops[i], Array.getElem?_eq_getElem hi, fun e he hb' => ?_⟩
        have h1 := List.all_eq_true.1 hb i (List.mem_range.2 hi)
        rw [Array.getElem?_eq_getElem hi] at h1
        simp only [Option.map_some, Option.getD_some] at h1
        have h2 := Array.all_eq_true_iff_forall_mem.1 h1 e he
        rw [hb'] at h2
        simp only [Bool.not_true, Bool.false_or, decide_eq_true_eq] at h2
        exact ih e.on h2 (by omega)
      rw [h] at hm
      cases hm
theorem wpAny_inv (hb : backB ops = true) (I : (Nat → Prop) → Act → World → Prop)
    (hstep : ∀ i o (d : Nat → Prop) a w, I d a w → ops[i]? = some o → ¬ d i → (∀ e ∈ o.after, Region.binds .any e = true → d e.on) → wpList P ops (Exit.then (I (fun j => d j ∨ j = i)) Q) [o] a w)
    (hend : ∀ (d : Nat → Prop) a w, I d a w → (∀ i, i < ops.size → d i) → Q .normal a w) :
    ∀ (fuel : Nat) (l : Array Bool) (a : Act) (w : World), l.size = ops.size → (l.toList.filter (fun b => !b)).length ≤ fuel → I (fun j => l.getD j false = true) a w → wpAny P .any ops Q fuel l a w := by
  intro fuel
  induction fuel with
  | zero =>
    intro l a w hs hf hI
    have hall : ∀ i, i < l.size → l.getD i false = true := fun i hi => by
      have h0 : l.toList.filter (fun b => !b) = [] := List.eq_nil_of_length_eq_zero (by omega)
      have := List.filter_eq_nil_iff.1 h0 l[i] (by simp)
      simpa [hi] using this
    have hr : Region.ready .any ops l = [] := by
      rw [List.eq_nil_iff_forall_not_mem]
      intro i hi
      obtain ⟨h1, o, ho, _⟩ := mem_ready.1 hi
      have hlt : i < ops.size := (Array.getElem?_eq_some_iff.1 ho).1
      have := hall i (by omega)
      rw [← hs] at hlt
      simp [hlt] at h1 this
      rw [this] at h1
      cases h1
    exact ⟨hr, hend _ a w hI fun i hi => hall i (by omega)⟩
  | succ fuel ih =>
    intro l a w hs hf hI
    refine ⟨fun hr => hend _ a w hI (ready_nil hb hs hr), fun i hi => ?_⟩
    obtain ⟨h1, o, ho, h3⟩ := mem_ready.1 hi
    have hlt : i < ops.size := (Array.getElem?_eq_some_iff.1 ho).1
    have hlt' : i < l.size := by omega
    have hfi : l[i] = false := by simpa [hlt'] using h1
    have hst := hstep i o _ a w hI ho (by simp [hlt', hfi]) h3
    refine wpOp_mono (fun a' w' h' => ih (l.setIfInBounds i true) a' w' (by simpa using hs) ?_ ?_) (wpOp_of_list ho hst)
    · have hsp : l.toList = l.toList.take i ++ [false] ++ l.toList.drop (i + 1) := by
        have := List.take_append_drop (i + 1) l.toList
        rw [List.take_succ_eq_append_getElem (by simpa using hlt')] at this
        have e0 : l.toList[i]'(by simpa using hlt') = false := by simpa using hfi
        rw [e0] at this
        exact this.symm
      have hset : (l.setIfInBounds i true).toList = l.toList.take i ++ [true] ++ l.toList.drop (i + 1) := by
        rw [Array.toList_setIfInBounds, List.set_eq_take_append_cons_drop, if_pos (by simpa using hlt')]
        simp
      rw [hsp] at hf
      rw [hset]
      simp only [List.filter_append, List.length_append] at hf ⊢
      simp at hf ⊢
      omega
    · have e : (fun j => (l.setIfInBounds i true).getD j false = true) = (fun j => l.getD j false = true ∨ j = i) := by
        funext j
        by_cases hj : j = i
        · subst hj; simp [hlt']
        · have : (l.setIfInBounds i true).getD j false = l.getD j false := by simp [Array.getElem?_setIfInBounds_ne (Ne.symm hj)]
          rw [this]; simp [hj]
      rw [e]
      exact h'
/-- The region, by the invariant I: what has been done, the act, the world. -/
theorem wp_region_inv {id : Nat} {a : Act} {w : World} (hm : P.follows .mixedOrders = true) (hb : backB ops = true) (I : (Nat → Prop) → Act → World → Prop) (h0 : I (fun _ => False) a w.drew)
    (hstep : ∀ i o (d : Nat → Prop) a w, I d a w → ops[i]? = some o → ¬ d i → (∀ e ∈ o.after, Region.binds .any e = true → d e.on) → wpList P ops (Exit.then (I (fun j => d j ∨ j = i)) Q) [o] a w)
    (hend : ∀ (d : Nat → Prop) a w, I d a w → (∀ i, i < ops.size → d i) → Q .normal a w) : (Code.region id ops true).wp P Q a w := by
  refine wp_region_any hm (wpAny_inv hb I hstep hend ops.size _ a _ (by simp) (by simp) ?_)
  have e : (fun j => (Array.replicate ops.size false).getD j false = true) = (fun _ => False) := by
    funext j
    simp only [Array.getD_eq_getD_getElem?, Array.getElem?_replicate, eq_iff_iff, iff_false]
    split <;> simp
  rw [e]
  exact h0
theorem wp_region_inv0 {id : Nat} {a : Act} {w : World} (hm : P.follows .mixedOrders = true) (hb : backB ops = true) (I : Act → (Nat → Prop) → Act → World → Prop) (h0 : I a (fun _ => False) a w.drew)
    (hstep : ∀ i o (d : Nat → Prop) a' w, I a d a' w → ops[i]? = some o → ¬ d i → (∀ e ∈ o.after, Region.binds .any e = true → d e.on) → wpList P ops (Exit.then (I a (fun j => d j ∨ j = i)) Q) [o] a' w)
    (hend : ∀ (d : Nat → Prop) a' w, I a d a' w → (∀ i, i < ops.size → d i) → Q .normal a' w) : (Code.region id ops true).wp P Q a w := wp_region_inv hm hb (I a) h0 hstep hend
end
end Go.Proofs.YtfmpaofbnjlniaaGreatDoor.F
/- SpoilInts, SpoilTuples, Spoil by hand: they write into the blocks of their argument alone, and only clear what points. -/
namespace Go.Proofs.YtfmpaofbnjlniaaGreatDoor.F
open Go.RowKit Go.Proofs.YtfmpaofbnjlniaaGreatDoorW.PrintWords Go.Proofs.YtfmpaofbnjlniaaGreatDoorW.PrintLast Go.Proofs.YtfmpaofbnjlniaaGreatDoorW.PrintMore
set_option linter.unusedVariables false
set_option linter.unusedSimpArgs false
abbrev nilS : Value := .slice none 0 0
def OkC (e j : Nat) (a b : Value) : Prop := (e = 46 → b = a ∨ b = nilS) ∧ (e = 52 → j % 3 = 2 → b = a ∨ b = nilS)
theorem OkC.refl (e j : Nat) (a : Value) : OkC e j a a := ⟨fun _ => .inl rfl, fun _ _ => .inl rfl⟩
theorem OkC.trans {e j : Nat} {a b c : Value} (h : OkC e j a b) (k : OkC e j b c) : OkC e j a c :=
  ⟨fun he => (k.1 he).elim (fun x => (h.1 he).elim (fun y => .inl (x.trans y)) (fun y => .inr (x.trans y))) .inr, fun he hj => (k.2 he hj).elim (fun x => (h.2 he hj).elim (fun y => .inl (x.trans y)) (fun y => .inr (x.trans y))) .inr⟩
/-- What may be stored at cell j of a row of type e. -/
def OkU (e j : Nat) (u : Value) : Prop := (e = 46 → u = nilS) ∧ (e = 52 → j % 3 = 2 → u = nilS)
theorem OkU.c {e j : Nat} {u : Value} (h : OkU e j u) (a : Value) : OkC e j a u := ⟨fun he => .inr (h.1 he), fun he hj => .inr (h.2 he hj)⟩
/-- Only blocks of S have been written; each keeps its type and its size. -/
structure Sp (S : Nat → Prop) (w w' : World) : Prop where
  os : w'.os = w.os
  tape : w'.tape = w.tape
  output : w'.output = w.output
  kept : Kept w w' S
  mine : ∀ (g : Nat) (cur : Array Value) (e : TypeId), w.heap[g]? = some (.cells cur e (0, 0)) → ∃ cur' : Array Value, w'.heap[g]? = some (.cells cur' e (0, 0)) ∧ cur'.size = cur.size ∧ ∀ j a b, cur[j]? = some a → cur'[j]? = some b → OkC e j a b
section
variable {S : Nat → Prop} {w w1 w2 : World}
theorem Sp.refl (S : Nat → Prop) (w : World) : Sp S w w := ⟨rfl, rfl, rfl, Kept.refl _ _, fun g cur e h => ⟨cur, h, rfl, fun j a b ha hb => by rw [ha] at hb; rw [Option.some.inj hb]; exact OkC.refl _ _ _⟩⟩
theorem Sp.trans (h : Sp S w w1) (k : Sp S w1 w2) : Sp S w w2 :=
  ⟨k.os.trans h.os, k.tape.trans h.tape, k.output.trans h.output, h.kept.then_ k.kept (fun _ hk => .inl hk), fun g cur e hg => by
    obtain ⟨c1, h1, s1, o1⟩ := h.mine g cur e hg
    obtain ⟨c2, h2, s2, o2⟩ := k.mine g c1 e h1
    refine ⟨c2, h2, s2.trans s1, fun j a b ha hb => ?_⟩
    have hj : j < c1.size := by have := (Array.getElem?_eq_some_iff.1 ha).1; omega
    exact (o1 j a c1[j] ha (Array.getElem?_eq_getElem hj)).trans (o2 j c1[j] b (Array.getElem?_eq_getElem hj) hb)⟩
theorem Sp.below0 (h : Below w.heap.size w w1) : Sp S w w1 :=
  ⟨h.os, h.tape, h.output, Kept.of_below h S, fun g cur e hg => ⟨cur, (h.block g (Array.getElem?_eq_some_iff.1 hg).1).trans hg, rfl, fun j a b ha hb => by rw [ha] at hb; rw [Option.some.inj hb]; exact OkC.refl _ _ _⟩⟩
theorem Sp.alloc (h : Sp S w w1) (o : Obj) : Sp S w (w1.alloc o) := h.trans (Sp.below0 ((Below.refl _ _).alloc (Nat.le_refl _) o))
theorem Sp.drew (h : Sp S w w1) : Sp S w w1.drew := h.trans (Sp.below0 (Below.refl _ _).drew)
theorem Sp.below {B : Nat} (h : Sp S w w1) (hS : ∀ k, S k → B ≤ k) (hB : B ≤ w.heap.size) : Below B w w1 := ⟨h.os, h.tape, h.output, h.kept.1, fun k hk => h.kept.2 k (by omega) (fun hs => by have := hS k hs; omega)⟩
theorem Sp.mono {S' : Nat → Prop} (h : Sp S w w1) (hS : ∀ k, S k → S' k) : Sp S' w w1 := ⟨h.os, h.tape, h.output, h.kept.mono hS, h.mine⟩
/-- Block g is a row of cells of type e with m of them. -/
def HasT (w : World) (g e m : Nat) : Prop := ∃ cur : Array Value, w.heap[g]? = some (.cells cur e (0, 0)) ∧ cur.size = m
theorem HasT.sp {g e m : Nat} (h : HasT w g e m) (k : Sp S w w1) : HasT w1 g e m := by
  obtain ⟨cur, hg, hs⟩ := h
  obtain ⟨c, h1, s1, _⟩ := k.mine g cur e hg
  exact ⟨c, h1, s1.trans hs⟩
theorem HasT.cell {g e m : Nat} (h : HasT w g e m) (j : Nat) (hj : j < m) : ∃ u, w.cell? ⟨g, j, none⟩ = some u := by
  obtain ⟨cur, hg, hs⟩ := h
  exact ⟨cur[j], by simp [World.cell?, hg, hs, hj]⟩
theorem HasT.frozen {g e m : Nat} (h : HasT w g e m) (j : Nat) : w.frozen? ⟨g, j, none⟩ = false := by
  obtain ⟨cur, hg, _⟩ := h
  simp [World.frozen?, hg]
theorem HasT.set {g e m : Nat} (h : HasT w g e m) (g2 j : Nat) (u : Value) : HasT (w.setCell ⟨g2, j, none⟩ u) g e m := by
  obtain ⟨cur, hg, hs⟩ := h
  by_cases hne : g = g2
  · subst hne
    exact ⟨cur.setIfInBounds j u, by rw [setCell_eq_setRow w g j cur e (0, 0) u hg]; exact setRow_heap w g cur _ e _ hg, by simpa using hs⟩
  · exact ⟨cur, (Below.heap_setCell w _ u g hne).trans hg, hs⟩
theorem Sp.setRow {g e : Nat} {cur cs : Array Value} (hS : S g) (hg : w.heap[g]? = some (.cells cur e (0, 0))) (hs : cs.size = cur.size) (ho : ∀ j a b, cur[j]? = some a → cs[j]? = some b → OkC e j a b) : Sp S w (w.setRow g cs) :=
  ⟨rfl, rfl, rfl, ⟨by simp [World.setRow], fun i _ hn => setRow_other w g i cs (fun e => hn (e ▸ hS))⟩, fun k cur' e' hk => by
    by_cases hne : k = g
    · subst hne
      rw [hg] at hk
      injection hk with hk
      injection hk with h1 h2 _
      subst h1; subst h2
      exact ⟨cs, setRow_heap w k cur cs e _ hg, hs, ho⟩
    · exact ⟨cur', (setRow_other w g k cs hne).trans hk, rfl, fun j a b ha hb => by rw [ha] at hb; rw [Option.some.inj hb]; exact OkC.refl _ _ _⟩⟩
theorem Sp.set {g e m : Nat} (h : Sp S w w1) (hg : HasT w1 g e m) (hS : S g ∨ w.heap.size ≤ g) (j : Nat) {u : Value} (hu : OkU e j u) : Sp S w (w1.setCell ⟨g, j, none⟩ u) := by
  obtain ⟨cur, hgc, hs⟩ := hg
  rw [setCell_eq_setRow w1 g j cur e (0, 0) u hgc]
  have ho : ∀ q a b, cur[q]? = some a → (cur.setIfInBounds j u)[q]? = some b → OkC e q a b := fun q a b ha hb => by
    by_cases hq : j = q
    · subst hq
      have hlt := (Array.getElem?_eq_some_iff.1 ha).1
      rw [Array.getElem?_setIfInBounds_self_of_lt hlt] at hb
      rw [← Option.some.inj hb]
      exact hu.c a
    · rw [Array.getElem?_setIfInBounds_ne hq, ha] at hb
      rw [Option.some.inj hb]
      exact OkC.refl _ _ _
  rcases hS with hS | hS
  · exact h.trans (Sp.setRow hS hgc (by simp) ho)
  · refine ⟨h.os, h.tape, h.output, ⟨by simp [World.setRow]; exact h.kept.1, fun i hi hn => (setRow_other w1 g i _ (by omega)).trans (h.kept.2 i hi hn)⟩, fun k c e' hk => ?_⟩
    obtain ⟨c1, h1, s1, o1⟩ := h.mine k c e' hk
    have := (Array.getElem?_eq_some_iff.1 hk).1
    exact ⟨c1, (setRow_other w1 g k _ (by omega)).trans h1, s1, o1⟩
/-- A value that Spoil may be handed: nothing, or a row of cells of S. -/
def GN (S : Nat → Prop) (w : World) (e sz : Nat) (v : Value) : Prop := v = nilS ∨ ∃ g n c, v = .slice (some ⟨g, 0, none⟩) n c ∧ S g ∧ n ≤ c ∧ c ≤ maxLen ∧ n ≤ 1000000 ∧ HasT w g e (c * sz)
theorem GN.sp {e sz : Nat} {v : Value} (h : GN S w e sz v) (k : Sp S w w1) : GN S w1 e sz v := by
  rcases h with h | ⟨g, n, c, h1, h2, h3, h4, h5, h6⟩
  · exact .inl h
  · exact .inr ⟨g, n, c, h1, h2, h3, h4, h5, h6.sp k⟩
abbrev G1 (S : Nat → Prop) (w : World) (v : Value) : Prop := GN S w 3 1 v
def G2 (S : Nat → Prop) (w : World) (v : Value) : Prop := GN S w 46 1 v ∧ ∀ g n c, v = .slice (some ⟨g, 0, none⟩) n c → ∀ j u, j < n → w.cell? ⟨g, j, none⟩ = some u → G1 S w u
def G3 (S : Nat → Prop) (w : World) (v : Value) : Prop := GN S w 52 3 v ∧ ∀ g n c, v = .slice (some ⟨g, 0, none⟩) n c → ∀ j u, j < n → w.cell? ⟨g, 3 * j + 2, none⟩ = some u → G2 S w u
theorem cell_sp {g e m j : Nat} {u : Value} (hg : HasT w g e m) (k : Sp S w w1) (hu : w1.cell? ⟨g, j, none⟩ = some u) : ∃ a, w.cell? ⟨g, j, none⟩ = some a ∧ OkC e j a u := by
  obtain ⟨cur, h1, _⟩ := hg
  obtain ⟨c, h2, s2, o2⟩ := k.mine g cur e h1
  have hb : c[j]? = some u := by simpa [World.cell?, h2] using hu
  have hj : j < cur.size := by have := (Array.getElem?_eq_some_iff.1 hb).1; omega
  exact ⟨cur[j], by simp [World.cell?, h1, hj], o2 j cur[j] u (Array.getElem?_eq_getElem hj) hb⟩
theorem G2.sp {v : Value} (h : G2 S w v) (k : Sp S w w1) : G2 S w1 v := by
  refine ⟨h.1.sp k, fun g n c hv j u hj hu => ?_⟩
  rcases h.1 with e | ⟨g', n', c', e, h2, h3, h4, h5, h6⟩
  · rw [hv] at e; cases e
  · rw [hv] at e
    injection e with e1 e2 e3
    injection e1 with e1
    injection e1 with e1
    subst e1; subst e2; subst e3
    obtain ⟨a, ha, ho⟩ := cell_sp h6 k hu
    rcases ho.1 rfl with rfl | rfl
    · exact (h.2 g n c hv j u hj ha).sp k
    · exact .inl rfl
theorem G3.sp {v : Value} (h : G3 S w v) (k : Sp S w w1) : G3 S w1 v := by
  refine ⟨h.1.sp k, fun g n c hv j u hj hu => ?_⟩
  rcases h.1 with e | ⟨g', n', c', e, h2, h3, h4, h5, h6⟩
  · rw [hv] at e; cases e
  · rw [hv] at e
    injection e with e1 e2 e3
    injection e1 with e1
    injection e1 with e1
    subst e1; subst e2; subst e3
    obtain ⟨a, ha, ho⟩ := cell_sp h6 k hu
    rcases ho.2 rfl (by omega) with rfl | rfl
    · exact (h.2 g n c hv j u hj ha).sp k
    · exact ⟨.inl rfl, fun g n c e => by cases e⟩
end
section
variable {S : Nat → Prop} {w0 w : World} {ops : Array Oper} {rest : List Oper} {o : Oper} {a : Act} {Q : Exit → Act → World → Prop}
/-- append(l, x): into the spare room, or into a new row. -/
theorem ap_sp (hgd : o.guard = none) (T e sz bytes : Nat) (z : Value) {sl x : Operand} (ho : o.op = .call { callee := .builtin .append, args := #[sl, x], argTypes := #[T, T] }) (hT : Tryz.prog.underlying T = some (.slice e))
    (hinfo : (Tryz.prog.info? e).map (fun i => (i.zero, i.size, i.bytes)) = some (some z, sz, bytes)) (hz : z.cells.size = sz) (hs0 : 0 < sz) (hb0 : 0 < bytes) (hb1 : bytes ≤ 64) {v : Value} (hs : a.eval sl = v) {b : Nat} (hx : a.eval x = .slice (some ⟨b, 0, none⟩) 1 1) (news : List Value) (hl : news.length = sz)
    (hnews : ∀ j u, news[j]? = some u → w.cell? ⟨b, j, none⟩ = some u) (h1 : ∀ u ∈ news, u.oneCell' = true) (hS : Sp S w0 w) (hv : GN S w e sz v) (hok : ∀ q j u, news[j]? = some u → OkU e (q * sz + j) u)
    (h : ∀ g' n' c' m' w', Sp S w0 w' → (S g' ∨ w0.heap.size ≤ g') → HasT w' g' e m' → sz ≤ m' → wpList Tryz.prog ops Q rest (a.put o.dst (.slice (some ⟨g', 0, none⟩) (n' + 1) c')) w') : wpList Tryz.prog ops Q (o :: rest) a w := by
  refine wpList_plain hgd fun K hK => ?_
  obtain ⟨i, hi, hz0, hz1, hz2⟩ := info_parts hinfo
  have hnews' : ∀ j u, news[j]? = some u → w.cell? ((⟨b, 0, none⟩ : Addr).add j) = some u := fun j u hj => by rw [Go.Proofs.YtfmpaofbnjlniaaGreatDoorW.PrintWords.add_plain]; exact hnews j u hj
  have fin : ∀ v' w', (Builtin.append_ #[T, T] o.type #[v, .slice (some ⟨b, 0, none⟩) 1 1]).run Tryz.prog w = .ok v' w' → K (a.put o.dst v') w' → o.wp Tryz.prog a w K Q := fun v' w' hr hq => by
    unfold Oper.wp execOp
    simp only [ho, resolve, invoke, builtin, Sem.run_bind, Sem.run_pure, Result.andThen_ok, List.map_toArray, List.map_cons, List.map_nil, hs, hx, hr]
    exact hq
  have fresh : ∀ (cells : Array Value) n' c' m', cells.size = m' → sz ≤ m' → K (a.put o.dst (.slice (some ⟨w.heap.size, 0, none⟩) (n' + 1) c')) (w.drew.alloc (.cells cells e)) := fun cells n' c' m' hm hle =>
    hK _ _ (h w.heap.size n' c' m' _ (hS.drew.alloc _) (.inr hS.kept.1) ⟨cells, heap_alloc_new w.drew _, hm⟩ hle)
  rcases hv with rfl | ⟨g, n, c, rfl, hSg, hnc, hcm, hn, cur, hg, hcs⟩
  · have hr := run_append_nil (P := Tryz.prog) w T o.type e i z hT hi hz0 ⟨b, 0, none⟩ 1 1 news (by rw [hz1]; simpa using hl) hnews' (by omega) (by omega) (by rw [hz2]; omega)
    have hge := grownCap_ge w 1 0 e
    exact fin _ _ hr (fresh _ 0 _ _ rfl (by rw [Array.size_append, List.size_toArray, hl]; omega))
  · by_cases hroom : n + 1 ≤ c
    · have hfit : n * sz + sz ≤ cur.size := by rw [hcs, ← Nat.succ_mul]; exact Nat.mul_le_mul_right _ hroom
      have hr := run_append_room (P := Tryz.prog) w T o.type e i hT hi g n c cur hg ⟨b, 0, none⟩ 1 1 news (by rw [hz1]; simpa using hl) hnews' h1 hroom (by rw [hz1, hl]; exact hfit)
      rw [hz1, hl] at hr
      have hsz : (cur.toList.take (n * sz) ++ news ++ cur.toList.drop (n * sz + sz)).toArray.size = cur.size := by
        simp only [List.size_toArray, List.length_append, List.length_take, List.length_drop, Array.length_toList, hl]; omega
      refine fin _ _ hr (hK _ _ (h g n c cur.size _ (hS.trans (Sp.setRow hSg hg hsz (fun j a' b' ha hb => ?_))) (.inl hSg) ⟨_, setRow_heap w g cur _ e _ hg, hsz⟩ (by omega)))
      have hjs := (Array.getElem?_eq_some_iff.1 ha).1
      simp only [List.getElem?_toArray] at hb
      by_cases q1 : j < n * sz
      · rw [List.append_assoc, List.getElem?_append_left (by simp; omega), List.getElem?_take, if_pos q1, Array.getElem?_toList, ha] at hb
        rw [Option.some.inj hb]; exact OkC.refl _ _ _
      · by_cases q2 : j < n * sz + sz
        · rw [List.append_assoc, List.getElem?_append_right (by simp; omega), List.getElem?_append_left (by simp; omega)] at hb
          have hlen : (cur.toList.take (n * sz)).length = n * sz := by simp; omega
          rw [hlen] at hb
          have := hok n _ _ hb
          rw [show n * sz + (j - n * sz) = j by omega] at this
          exact this.c a'
        · rw [List.getElem?_append_right (by simp; omega), List.getElem?_drop] at hb
          have hlen : (cur.toList.take (n * sz) ++ news).length = n * sz + sz := by simp; omega
          rw [hlen, show n * sz + sz + (j - (n * sz + sz)) = j by omega, Array.getElem?_toList, ha] at hb
          rw [Option.some.inj hb]; exact OkC.refl _ _ _
    · have holds : ∀ j u, (cur.toList.take (n * sz))[j]? = some u → w.cell? ((⟨g, 0, none⟩ : Addr).add j) = some u := fun j u hj => by
        rw [Go.Proofs.YtfmpaofbnjlniaaGreatDoorW.PrintWords.add_plain]
        rw [List.getElem?_take] at hj
        split at hj
        · simpa [World.cell?, hg] using hj
        · cases hj
      have hlt : n * sz ≤ cur.size := by rw [hcs]; exact Nat.mul_le_mul_right _ hnc
      have hr := run_append_grow (P := Tryz.prog) w T o.type e i z hT hi hz0 ⟨g, 0, none⟩ n c (cur.toList.take (n * sz)) (by rw [hz1]; simp; omega) holds ⟨b, 0, none⟩ 1 1 news (by rw [hz1]; simpa using hl) hnews' (by omega) (by omega) (by rw [hz2]; exact growslice_fits (by omega) (Nat.le_trans (Nat.mul_le_mul (show n + 1 ≤ 1000001 by omega) hb1) (by omega)))
      have hge := grownCap_ge w (n + 1) c e
      exact fin _ _ hr (fresh _ n _ _ rfl (by simp only [Array.size_append, List.size_toArray, hl]; omega))
end
end Go.Proofs.YtfmpaofbnjlniaaGreatDoor.F
/- SpoilInts, SpoilTuples, Spoil: the walks. -/
namespace Go.Proofs.YtfmpaofbnjlniaaGreatDoor.F
open Go.RowKit Go.Proofs.YtfmpaofbnjlniaaGreatDoorW.PrintWords Go.Proofs.YtfmpaofbnjlniaaGreatDoorW.PrintLast Go.Proofs.YtfmpaofbnjlniaaGreatDoorW.PrintMore
set_option linter.unusedVariables false
set_option linter.unusedSimpArgs false
theorem infoI : (Tryz.prog.info? 3).map (fun i => (i.zero, i.size, i.bytes)) = some (some (.int .i64 0), 1, 8) := by kernel_rfl
theorem infoT : (Tryz.prog.info? 46).map (fun i => (i.zero, i.size, i.bytes)) = some (some (.slice none 0 0), 1, 24) := by kernel_rfl
theorem infoR : (Tryz.prog.info? 52).map (fun i => (i.zero, i.size, i.bytes)) = some (some (.agg #[.string ⟨#[]⟩, .int .i64 0, .slice none 0 0]), 3, 48) := by kernel_rfl
theorem new1 (w : World) (x : Value) (t : TypeId) : ∀ j u, [x][j]? = some u → (w.alloc (.cells #[x] t)).cell? ⟨w.heap.size, j, none⟩ = some u := fun j u h => by
  obtain ⟨hj, rfl⟩ := List.getElem?_eq_some_iff.1 h
  have : j = 0 := by simp at hj; exact hj
  subst this
  simp
theorem okI (j : Nat) (u : Value) : OkU 3 j u := ⟨fun h => absurd h (by decide), fun h => absurd h (by decide)⟩
theorem GN.slice {S : Nat → Prop} {w : World} {e sz : Nat} {v : Value} (h : GN S w e sz v) : ∃ A n c, v = .slice A n c ∧ n ≤ 1000000 ∧ (0 < n → ∃ g, A = some ⟨g, 0, none⟩ ∧ S g ∧ n ≤ c ∧ HasT w g e (c * sz)) := by
  rcases h with rfl | ⟨g, n, c, rfl, h2, h3, h4, h5, h6⟩
  · exact ⟨none, 0, 0, rfl, by omega, fun h => by omega⟩
  · exact ⟨_, n, c, rfl, h5, fun _ => ⟨g, rfl, h2, h3, h6⟩⟩
set_option maxHeartbeats 4000000 in
set_option maxRecDepth 100000 in
theorem spoilInts_calls (S : Nat → Prop) (v : Value) (w : World) (h : G1 S w v) :
    Calls Tryz.prog 95 #[v] w fun e w' => e = .returned (.tuple #[]) ∧ Sp S w w' := by
  have HG := Aside0.mk h
  obtain ⟨A, n, c, rfl, hn, hA⟩ := h.slice
  clear h
  have HA := Aside0.mk hA
  clear hA
  go_enter Tryz.func95, Tryz.ntmps95
  go_wp2
  go_loopw [2] (fun v2 wr => ∃ i : Nat, v2 = .int .i64 i ∧ i ≤ n ∧ Aside0 (Sp S w wr)) (fun v2 _ => n - (intOf v2).toNat)
  case atStart => exact ⟨0, rfl, Nat.zero_le _, ⟨Sp.refl _ _⟩⟩
  case round =>
    obtain ⟨i, rfl, hi, HS⟩ := hrel
    by_cases hlt : i < n
    · obtain ⟨g, rfl, hg, hnc, hT⟩ := HA.out (by omega)
      have HT := Aside0.mk (hT.sp HS.out)
      obtain ⟨u, hu⟩ := HT.out.cell i (by omega)
      have hf := HT.out.frozen i
      clear hT
      go_wp2
      go_roundw
      case rel => exact ⟨i + 1, by go_num, by omega, ⟨HS.out.set HT.out (.inl hg) i (okI _ _)⟩⟩
      case measure => simp [intOf]; omega
    · have hge : i = n := by omega
      subst hge
      go_wp2_with (refine ap_sp (w0 := w) rfl 46 3 1 8 (.int .i64 0) rfl Tryz.underlying46 infoI rfl (by decide) (by decide) (by decide) rfl rfl [.int .i64 (-8)] rfl (new1 _ _ _) (by simp [Value.oneCell']) (HS.out.alloc _) (HG.out.sp (HS.out.alloc _)) (fun _ _ _ _ => okI _ _) ?_; intro g' n' c' m' w' hS' hg' hT' hm'; obtain ⟨u, hu⟩ := hT'.cell 0 (by omega); have hf := hT'.frozen 0; have HS' := Aside0.mk hS'; have HT' := Aside0.mk hT'; clear hS' hT')
      first | go_end0 | ((try simp only [Exit.inBlock, Exit.then]); refine bodyPost_ret (results_none rfl _ _ _) rfl ?_)
      exact ⟨rfl, HS'.out.set HT'.out hg' 0 (okI _ _)⟩
theorem okT (j : Nat) : OkU 46 j nilS := ⟨fun _ => rfl, fun h => absurd h (by decide)⟩
set_option maxHeartbeats 4000000 in
set_option maxRecDepth 100000 in
theorem spoilTuples_calls (S : Nat → Prop) (v : Value) (w : World) (h : G2 S w v) :
    Calls Tryz.prog 70 #[v] w fun e w' => e = .returned (.tuple #[]) ∧ Sp S w w' := by
  have HG := Aside0.mk h
  obtain ⟨A, n, c, rfl, hn, hA⟩ := h.1.slice
  clear h
  have HA := Aside0.mk hA
  clear hA
  go_enter Tryz.func70, Tryz.ntmps70
  go_wp2
  go_loopw [2] (fun v2 wr => ∃ i : Nat, v2 = .int .i64 i ∧ i ≤ n ∧ Aside0 (Sp S w wr)) (fun v2 _ => n - (intOf v2).toNat)
  case atStart => exact ⟨0, rfl, Nat.zero_le _, ⟨Sp.refl _ _⟩⟩
  case round =>
    obtain ⟨i, rfl, hi, HS⟩ := hrel
    by_cases hlt : i < n
    · obtain ⟨g, rfl, hg, hnc, hT⟩ := HA.out (by omega)
      have HT := Aside0.mk (hT.sp HS.out)
      obtain ⟨u, hu⟩ := HT.out.cell i (by omega)
      have HU := Aside0.mk ((HG.out.sp HS.out).2 g n c rfl i u hlt hu)
      clear hT
      go_wp2_with (go_at_call 95; refine (spoilInts_calls S u _ HU.out).mono ?_; rintro e w' ⟨rfl, hS'⟩; have HS' := Aside0.mk (HS.out.trans hS'); have HT' := Aside0.mk (HT.out.sp hS'); obtain ⟨u', hu'⟩ := HT'.out.cell i (by omega); have hf := HT'.out.frozen i; clear hS')
      go_roundw
      case rel => exact ⟨i + 1, by go_num, by omega, ⟨HS'.out.set HT'.out (.inl hg) i (okT _)⟩⟩
      case measure => simp [intOf]; omega
    · have hge : i = n := by omega
      subst hge
      go_wp2_with (refine ap_sp (w0 := w) rfl 50 46 1 24 (.slice none 0 0) rfl Tryz.underlying50 infoT rfl (by decide) (by decide) (by decide) rfl rfl [.slice none 0 0] rfl (new1 _ _ _) (by simp [Value.oneCell']) (HS.out.alloc _) (HG.out.1.sp (HS.out.alloc _)) (fun q j u hj => by obtain ⟨h1, rfl⟩ := List.getElem?_eq_some_iff.1 hj; simp at h1; subst h1; exact okT _) ?_; intro g' n' c' m' w' hS' hg' hT' hm'; obtain ⟨u, hu⟩ := hT'.cell 0 (by omega); have hf := hT'.frozen 0; have HS' := Aside0.mk hS'; have HT' := Aside0.mk hT'; clear hS' hT')
      first | go_end0 | ((try simp only [Exit.inBlock, Exit.then]); refine bodyPost_ret (results_none rfl _ _ _) rfl ?_)
      exact ⟨rfl, HS'.out.set HT'.out hg' 0 (okT _)⟩
/-! ### Spoil -/
theorem new3 (w : World) (x y z : Value) (t : TypeId) : ∀ j u, [x, y, z][j]? = some u → (w.alloc (.cells #[x, y, z] t)).cell? ⟨w.heap.size, j, none⟩ = some u := fun j u h => by
  obtain ⟨hj, rfl⟩ := List.getElem?_eq_some_iff.1 h
  simp only [List.length_cons, List.length_nil] at hj
  obtain rfl | rfl | rfl : j = 0 ∨ j = 1 ∨ j = 2 := by omega
  all_goals simp
theorem okR {j : Nat} (u : Value) (h : j % 3 ≠ 2) : OkU 52 j u := ⟨fun h => absurd h (by decide), fun _ h' => absurd h' h⟩
theorem okRn (j : Nat) : OkU 52 j nilS := ⟨fun _ => rfl, fun _ _ => rfl⟩
theorem okNew3 (q j : Nat) (u : Value) (h : [Value.string ⟨#[]⟩, .int .i64 0, .slice none 0 0][j]? = some u) : OkU 52 (q * 3 + j) u := by
  obtain ⟨h1, rfl⟩ := List.getElem?_eq_some_iff.1 h
  simp only [List.length_cons, List.length_nil] at h1
  obtain rfl | rfl | rfl : j = 0 ∨ j = 1 ∨ j = 2 := by omega
  · exact okR _ (by omega)
  · exact okR _ (by omega)
  · exact okRn _
set_option maxHeartbeats 4000000 in
set_option maxRecDepth 100000 in
theorem spoil_calls (S : Nat → Prop) (nn : Int) (v : Value) (w : World) (h : G3 S w v) (hlow : ∀ k, S k → k < w.heap.size) :
    Calls Tryz.prog 40 #[.agg #[.int .i64 nn, v]] w fun e w' => e = .returned (.tuple #[]) ∧ Sp S w w' := by
  have HG := Aside0.mk h
  obtain ⟨A, n, c, rfl, hn, hA⟩ := h.1.slice
  clear h
  have HA := Aside0.mk hA
  clear hA
  have HL := Aside0.mk hlow
  clear hlow
  go_enter Tryz.func40, Tryz.ntmps40
  go_wp2
  have HB := Aside0.mk (heap_alloc_new w (.cells #[.int .i64 nn, .slice A n c] 24))
  have H0 := Aside0.mk ((Sp.refl S w).alloc (.cells #[.int .i64 nn, .slice A n c] 24))
  go_loopw [2] (fun v2 wr => ∃ i : Nat, v2 = .int .i64 i ∧ i ≤ n ∧ Aside0 (Sp S w wr) ∧ Aside0 (wr.heap[w.heap.size]? = some (.cells #[.int .i64 nn, .slice A n c] 24 (0, 0)))) (fun v2 _ => n - (intOf v2).toNat)
  case atStart => exact ⟨0, rfl, Nat.zero_le _, H0, HB⟩
  case round =>
    clear H0 HB
    obtain ⟨i, rfl, hi, HS, HB⟩ := hrel
    have hb1 : wr.cell? ⟨w.heap.size, 1, none⟩ = some (.slice A n c) := (blk_cell HB.out 1).trans rfl
    by_cases hlt : i < n
    · obtain ⟨g, rfl, hg, hnc, hT⟩ := HA.out (by omega)
      have hglt := HL.out g hg
      have HT := Aside0.mk (hT.sp HS.out)
      obtain ⟨u, hu⟩ := HT.out.cell (3 * i + 2) (by omega)
      have HU := Aside0.mk ((HG.out.sp HS.out).2 g n c rfl i u hlt hu)
      have hu2 : wr.cell? ⟨g, i * 3 + 2, none⟩ = some u := by rw [Nat.mul_comm]; exact hu
      clear hT hu
      go_wp2_with (go_at_call 70; refine (spoilTuples_calls S u _ HU.out).mono ?_; rintro e w' ⟨rfl, hS'⟩; have HS' := Aside0.mk (HS.out.trans hS'); have HT' := Aside0.mk (HT.out.sp hS'); obtain ⟨u0, hu0⟩ := HT'.out.cell (i * 3) (by omega); obtain ⟨u1, hu1⟩ := HT'.out.cell (i * 3 + 1) (by omega); obtain ⟨u2, hu22⟩ := HT'.out.cell (i * 3 + 2) (by omega); have hf0 := HT'.out.frozen (i * 3); have hf1 := HT'.out.frozen (i * 3 + 1); have hf2 := HT'.out.frozen (i * 3 + 2); have HB' := Aside0.mk ((hS'.kept.2 w.heap.size (Array.getElem?_eq_some_iff.1 HB.out).1 (fun hs => by have := HL.out _ hs; omega)).trans HB.out); have hb1' : w'.cell? ⟨w.heap.size, 1, none⟩ = some (.slice (some ⟨g, 0, none⟩) n c) := (blk_cell HB'.out 1).trans rfl; clear hS' hb1 hu2)
      go_roundw
      case rel =>
        have q0 := HS'.out.set HT'.out (.inl hg) (i * 3) (okR (.string ⟨#[115, 112, 111, 105, 108, 116]⟩) (by omega))
        have t0 := HT'.out.set g (i * 3) (.string ⟨#[115, 112, 111, 105, 108, 116]⟩)
        have q1 := q0.set t0 (.inl hg) (i * 3 + 1) (okR (.int .i64 (-7)) (by omega))
        have t1 := t0.set g (i * 3 + 1) (.int .i64 (-7))
        have hne : w.heap.size ≠ g := by omega
        exact ⟨i + 1, by go_num, by omega, ⟨q1.set t1 (.inl hg) (i * 3 + 2) (okRn _)⟩, ⟨(Below.heap_setCell _ _ _ _ hne).trans ((Below.heap_setCell _ _ _ _ hne).trans ((Below.heap_setCell _ _ _ _ hne).trans HB'.out))⟩⟩
      case measure => simp [intOf]; omega
    · have hge : i = n := by omega
      subst hge
      go_wp2_with (refine ap_sp (w0 := w) rfl 22 52 3 48 (.agg #[.string ⟨#[]⟩, .int .i64 0, .slice none 0 0]) rfl Tryz.underlying22 infoR rfl (by decide) (by decide) (by decide) rfl rfl [.string ⟨#[]⟩, .int .i64 0, .slice none 0 0] rfl (new3 _ _ _ _ _) (by simp [Value.oneCell']) (HS.out.alloc _) (HG.out.1.sp (HS.out.alloc _)) okNew3 ?_; intro g' n' c' m' w' hS' hg' hT' hm'; obtain ⟨u0, hu0⟩ := hT'.cell 0 (by omega); obtain ⟨u1, hu1⟩ := hT'.cell 1 (by omega); obtain ⟨u2, hu2⟩ := hT'.cell 2 (by omega); have hf0 := hT'.frozen 0; have hf1 := hT'.frozen 1; have hf2 := hT'.frozen 2; have HS' := Aside0.mk hS'; have HT' := Aside0.mk hT'; clear hS' hT')
      first | go_end0 | ((try simp only [Exit.inBlock, Exit.then]); refine bodyPost_ret (results_none rfl _ _ _) rfl ?_)
      have q0 := HS'.out.set HT'.out hg' 0 (okR (.string ⟨#[115, 112, 111, 105, 108, 116]⟩) (by omega))
      have t0 := HT'.out.set g' 0 (.string ⟨#[115, 112, 111, 105, 108, 116]⟩)
      have q1 := q0.set t0 hg' 1 (okR (.int .i64 0) (by omega))
      have t1 := t0.set g' 1 (.int .i64 0)
      exact ⟨rfl, q1.set t1 hg' 2 (okRn _)⟩
end Go.Proofs.YtfmpaofbnjlniaaGreatDoor.F
/- ShapeOwn: the four copies at its head (a region that draws its order, with four events that make memory). -/
namespace Go.Proofs.YtfmpaofbnjlniaaGreatDoor.F
open Go.RowKit Go.Proofs.YtfmpaofbnjlniaaGreatDoorW.PrintWords Go.Proofs.YtfmpaofbnjlniaaGreatDoorW.PrintLast Go.Proofs.YtfmpaofbnjlniaaGreatDoorW.PrintMore
set_option linter.unusedVariables false
set_option linter.unusedSimpArgs false
structure F3 (W : World) (n : Int) (l : List S52) (t pm : List Int) (sy : List S96) (A0 A1 A2 A3 : Option Addr) (c0 c1 c2 c3 g4 g5 : Nat) (d : Nat → Prop) (x48 x49 x50 x51 x52 x53 x54 x55 x56 x57 x58 x59 x60 x61 x7 x8 x9 x10 : Value) (w' : World) : Prop where
  below : Below W.heap.size W w'
  h0 : d 0 → x48 = .agg #[.int .i64 n, .slice A0 l.length c0]
  h1 : d 1 → ∃ v, x49 = .agg #[.int .i64 n, v] ∧ Kd.R k52 52 w' W.heap.size (fun _ => True) v l
  h2 : d 2 → ∃ g, x50 = .slice (some ⟨g, 0, none⟩) 0 0 ∧ W.heap.size ≤ g ∧ w'.heap[g]? = some (.cells #[] 3 (0, 0))
  h3 : d 3 → x51 = .pointer (some ⟨g4, 1, none⟩)
  h4 : d 4 → x52 = .slice A1 t.length c1
  h5 : d 5 → Kd.R (Kd.int .i64) 3 w' W.heap.size (fun _ => True) x53 t
  h6 : d 6 → ∃ g, x54 = .slice (some ⟨g, 0, none⟩) 0 0 ∧ W.heap.size ≤ g ∧ w'.heap[g]? = some (.cells #[] 3 (0, 0))
  h7 : d 7 → x55 = .pointer (some ⟨g5, 0, none⟩)
  h8 : d 8 → x56 = .slice A2 pm.length c2
  h9 : d 9 → Kd.R (Kd.int .i64) 3 w' W.heap.size (fun _ => True) x57 pm
  h10 : d 10 → ∃ g, x58 = .slice (some ⟨g, 0, none⟩) 0 0 ∧ W.heap.size ≤ g ∧ w'.heap[g]? = some (.cells #[] 96 (0, 0))
  h11 : d 11 → x59 = .pointer (some ⟨g5, 1, none⟩)
  h12 : d 12 → x60 = .slice A3 sy.length c3
  h13 : d 13 → Kd.R k96 96 w' W.heap.size (fun _ => True) x61 sy
  h14 : d 14 → ∃ g u v, x7 = .pointer (some ⟨g, 0, none⟩) ∧ W.heap.size ≤ g ∧ w'.heap[g]? = some (.cells #[u, v] 24 (0, 0))
  h15 : d 15 → d 1 ∧ d 14 ∧ ∃ g v, x7 = .pointer (some ⟨g, 0, none⟩) ∧ x49 = .agg #[.int .i64 n, v] ∧ w'.heap[g]? = some (.cells #[.int .i64 n, v] 24 (0, 0))
  h16 : d 16 → d 5 ∧ x8 = x53
  h17 : d 17 → d 9 ∧ x9 = x57
  h18 : d 18 → d 13 ∧ x10 = x61
def I3 (a0 : Act) (W : World) (n : Int) (l : List S52) (t pm : List Int) (sy : List S96) (A0 A1 A2 A3 : Option Addr) (c0 c1 c2 c3 g4 g5 : Nat) (d : Nat → Prop) (a : Act) (w' : World) : Prop := ∃ x48 x49 x50 x51 x52 x53 x54 x55 x56 x57 x58 x59 x60 x61 x7 x8 x9 x10 : Value, a = putAll a0 [(48, x48), (49, x49), (50, x50), (51, x51), (52, x52), (53, x53), (54, x54), (55, x55), (56, x56), (57, x57), (58, x58), (59, x59), (60, x60), (61, x61), (7, x7), (8, x8), (9, x9), (10, x10)] ∧ F3 W n l t pm sy A0 A1 A2 A3 c0 c1 c2 c3 g4 g5 d x48 x49 x50 x51 x52 x53 x54 x55 x56 x57 x58 x59 x60 x61 x7 x8 x9 x10 w'
theorem I3.mk {a0 : Act} {W : World} {n : Int} {l : List S52} {t pm : List Int} {sy : List S96} {A0 A1 A2 A3 : Option Addr} {c0 c1 c2 c3 g4 g5 : Nat} {d : Nat → Prop} {a : Act} {w1 : World} (x48 x49 x50 x51 x52 x53 x54 x55 x56 x57 x58 x59 x60 x61 x7 x8 x9 x10 : Value) (ha : a = putAll a0 [(48, x48), (49, x49), (50, x50), (51, x51), (52, x52), (53, x53), (54, x54), (55, x55), (56, x56), (57, x57), (58, x58), (59, x59), (60, x60), (61, x61), (7, x7), (8, x8), (9, x9), (10, x10)]) (S : F3 W n l t pm sy A0 A1 A2 A3 c0 c1 c2 c3 g4 g5 d x48 x49 x50 x51 x52 x53 x54 x55 x56 x57 x58 x59 x60 x61 x7 x8 x9 x10 w1) : I3 a0 W n l t pm sy A0 A1 A2 A3 c0 c1 c2 c3 g4 g5 d a w1 := ⟨x48, x49, x50, x51, x52, x53, x54, x55, x56, x57, x58, x59, x60, x61, x7, x8, x9, x10, ha, S⟩
theorem F3.start {W : World} {n : Int} {l : List S52} {t pm : List Int} {sy : List S96} {A0 A1 A2 A3 : Option Addr} {c0 c1 c2 c3 g4 g5 : Nat} {x48 x49 x50 x51 x52 x53 x54 x55 x56 x57 x58 x59 x60 x61 x7 x8 x9 x10 : Value} (w1 : World) (hb : Below W.heap.size W w1) : F3 W n l t pm sy A0 A1 A2 A3 c0 c1 c2 c3 g4 g5 (fun _ => False) x48 x49 x50 x51 x52 x53 x54 x55 x56 x57 x58 x59 x60 x61 x7 x8 x9 x10 w1 := by
  constructor
  · exact hb
  all_goals exact fun h => h.elim
theorem put_self (a : Act) (s : Nat) : a.put (some s) (a.tmps.getD s undef) = a := by
  obtain ⟨t, d⟩ := a
  simp only [Act.put, Act.mk.injEq, and_true]
  apply Array.ext_getElem?
  intro i
  by_cases hi : s = i
  · subst hi
    by_cases hs : s < t.size
    · simp [hs]
    · simp [hs]
  · rw [Array.getElem?_setIfInBounds_ne hi]
theorem I3.start {a0 : Act} {W : World} {n : Int} {l : List S52} {t pm : List Int} {sy : List S96} {A0 A1 A2 A3 : Option Addr} {c0 c1 c2 c3 g4 g5 : Nat} {d : Nat → Prop} {w1 : World} (S : F3 W n l t pm sy A0 A1 A2 A3 c0 c1 c2 c3 g4 g5 d (a0.tmps.getD 48 undef) (a0.tmps.getD 49 undef) (a0.tmps.getD 50 undef) (a0.tmps.getD 51 undef) (a0.tmps.getD 52 undef) (a0.tmps.getD 53 undef) (a0.tmps.getD 54 undef) (a0.tmps.getD 55 undef) (a0.tmps.getD 56 undef) (a0.tmps.getD 57 undef) (a0.tmps.getD 58 undef) (a0.tmps.getD 59 undef) (a0.tmps.getD 60 undef) (a0.tmps.getD 61 undef) (a0.tmps.getD 7 undef) (a0.tmps.getD 8 undef) (a0.tmps.getD 9 undef) (a0.tmps.getD 10 undef) w1) : I3 a0 W n l t pm sy A0 A1 A2 A3 c0 c1 c2 c3 g4 g5 d a0 w1 := ⟨_, _, _, _, _, _, _, _, _, _, _, _, _, _, _, _, _, _, by simp only [putAll, put_self], S⟩
theorem infoY : (Tryz.prog.info? 96).map (fun i => (i.zero, i.size, i.bytes)) = some (some (.agg #[.string ⟨#[]⟩, .int .i64 0]), 2, 24) := by kernel_rfl
section
variable {W : World} {n : Int} {l : List S52} {t pm : List Int} {sy : List S96} {A0 A1 A2 A3 : Option Addr} {c0 c1 c2 c3 g4 g5 : Nat} {d : Nat → Prop} {x48 x49 x50 x51 x52 x53 x54 x55 x56 x57 x58 x59 x60 x61 x7 x8 x9 x10 : Value} {w1 w2 : World}
theorem F3.grow (S : F3 W n l t pm sy A0 A1 A2 A3 c0 c1 c2 c3 g4 g5 d x48 x49 x50 x51 x52 x53 x54 x55 x56 x57 x58 x59 x60 x61 x7 x8 x9 x10 w1) (hb : Below w1.heap.size w1 w2) : F3 W n l t pm sy A0 A1 A2 A3 c0 c1 c2 c3 g4 g5 d x48 x49 x50 x51 x52 x53 x54 x55 x56 x57 x58 x59 x60 x61 x7 x8 x9 x10 w2 where
  below := below_step S.below hb
  h0 := S.h0
  h1 := fun h => let ⟨v, q1, q2⟩ := S.h1 h; ⟨v, q1, Kd.R_below q2 hb⟩
  h2 := fun h => let ⟨g, q1, q2, q3⟩ := S.h2 h; ⟨g, q1, q2, blk_below q3 hb⟩
  h3 := S.h3
  h4 := S.h4
  h5 := fun h => Kd.R_below (S.h5 h) hb
  h6 := fun h => let ⟨g, q1, q2, q3⟩ := S.h6 h; ⟨g, q1, q2, blk_below q3 hb⟩
  h7 := S.h7
  h8 := S.h8
  h9 := fun h => Kd.R_below (S.h9 h) hb
  h10 := fun h => let ⟨g, q1, q2, q3⟩ := S.h10 h; ⟨g, q1, q2, blk_below q3 hb⟩
  h11 := S.h11
  h12 := S.h12
  h13 := fun h => Kd.R_below (S.h13 h) hb
  h14 := fun h => let ⟨g, u, v, q1, q2, q3⟩ := S.h14 h; ⟨g, u, v, q1, q2, blk_below q3 hb⟩
  h15 := fun h => let ⟨p, q, g, v, q1, q2, q3⟩ := S.h15 h; ⟨p, q, g, v, q1, q2, blk_below q3 hb⟩
  h16 := S.h16
  h17 := S.h17
  h18 := S.h18
theorem F3.n0 (S : F3 W n l t pm sy A0 A1 A2 A3 c0 c1 c2 c3 g4 g5 d x48 x49 x50 x51 x52 x53 x54 x55 x56 x57 x58 x59 x60 x61 x7 x8 x9 x10 w1) (hd : ¬ d 0) {y : Value} (hy : y = .agg #[.int .i64 n, .slice A0 l.length c0]) : F3 W n l t pm sy A0 A1 A2 A3 c0 c1 c2 c3 g4 g5 (fun j => d j ∨ j = 0) y x49 x50 x51 x52 x53 x54 x55 x56 x57 x58 x59 x60 x61 x7 x8 x9 x10 w1 where
  below := S.below
  h0 := fun _ => hy
  h1 := fun h => S.h1 (h.resolve_right (by decide))
  h2 := fun h => S.h2 (h.resolve_right (by decide))
  h3 := fun h => S.h3 (h.resolve_right (by decide))
  h4 := fun h => S.h4 (h.resolve_right (by decide))
  h5 := fun h => S.h5 (h.resolve_right (by decide))
  h6 := fun h => S.h6 (h.resolve_right (by decide))
  h7 := fun h => S.h7 (h.resolve_right (by decide))
  h8 := fun h => S.h8 (h.resolve_right (by decide))
  h9 := fun h => S.h9 (h.resolve_right (by decide))
  h10 := fun h => S.h10 (h.resolve_right (by decide))
  h11 := fun h => S.h11 (h.resolve_right (by decide))
  h12 := fun h => S.h12 (h.resolve_right (by decide))
  h13 := fun h => S.h13 (h.resolve_right (by decide))
  h14 := fun h => S.h14 (h.resolve_right (by decide))
  h15 := fun h => ⟨.inl (S.h15 (h.resolve_right (by decide))).1, .inl (S.h15 (h.resolve_right (by decide))).2.1, (S.h15 (h.resolve_right (by decide))).2.2⟩
  h16 := fun h => ⟨.inl (S.h16 (h.resolve_right (by decide))).1, (S.h16 (h.resolve_right (by decide))).2⟩
  h17 := fun h => ⟨.inl (S.h17 (h.resolve_right (by decide))).1, (S.h17 (h.resolve_right (by decide))).2⟩
  h18 := fun h => ⟨.inl (S.h18 (h.resolve_right (by decide))).1, (S.h18 (h.resolve_right (by decide))).2⟩
theorem F3.n1 (S : F3 W n l t pm sy A0 A1 A2 A3 c0 c1 c2 c3 g4 g5 d x48 x49 x50 x51 x52 x53 x54 x55 x56 x57 x58 x59 x60 x61 x7 x8 x9 x10 w1) (hd : ¬ d 1) {y : Value} (hy : ∃ v, y = .agg #[.int .i64 n, v] ∧ Kd.R k52 52 w1 W.heap.size (fun _ => True) v l) : F3 W n l t pm sy A0 A1 A2 A3 c0 c1 c2 c3 g4 g5 (fun j => d j ∨ j = 1) x48 y x50 x51 x52 x53 x54 x55 x56 x57 x58 x59 x60 x61 x7 x8 x9 x10 w1 where
  below := S.below
  h0 := fun h => S.h0 (h.resolve_right (by decide))
  h1 := fun _ => hy
  h2 := fun h => S.h2 (h.resolve_right (by decide))
  h3 := fun h => S.h3 (h.resolve_right (by decide))
  h4 := fun h => S.h4 (h.resolve_right (by decide))
  h5 := fun h => S.h5 (h.resolve_right (by decide))
  h6 := fun h => S.h6 (h.resolve_right (by decide))
  h7 := fun h => S.h7 (h.resolve_right (by decide))
  h8 := fun h => S.h8 (h.resolve_right (by decide))
  h9 := fun h => S.h9 (h.resolve_right (by decide))
  h10 := fun h => S.h10 (h.resolve_right (by decide))
  h11 := fun h => S.h11 (h.resolve_right (by decide))
  h12 := fun h => S.h12 (h.resolve_right (by decide))
  h13 := fun h => S.h13 (h.resolve_right (by decide))
  h14 := fun h => S.h14 (h.resolve_right (by decide))
  h15 := fun h => absurd (S.h15 (h.resolve_right (by decide))).1 hd
  h16 := fun h => ⟨.inl (S.h16 (h.resolve_right (by decide))).1, (S.h16 (h.resolve_right (by decide))).2⟩
  h17 := fun h => ⟨.inl (S.h17 (h.resolve_right (by decide))).1, (S.h17 (h.resolve_right (by decide))).2⟩
  h18 := fun h => ⟨.inl (S.h18 (h.resolve_right (by decide))).1, (S.h18 (h.resolve_right (by decide))).2⟩
theorem F3.n2 (S : F3 W n l t pm sy A0 A1 A2 A3 c0 c1 c2 c3 g4 g5 d x48 x49 x50 x51 x52 x53 x54 x55 x56 x57 x58 x59 x60 x61 x7 x8 x9 x10 w1) (hd : ¬ d 2) {y : Value} (hy : ∃ g, y = .slice (some ⟨g, 0, none⟩) 0 0 ∧ W.heap.size ≤ g ∧ w1.heap[g]? = some (.cells #[] 3 (0, 0))) : F3 W n l t pm sy A0 A1 A2 A3 c0 c1 c2 c3 g4 g5 (fun j => d j ∨ j = 2) x48 x49 y x51 x52 x53 x54 x55 x56 x57 x58 x59 x60 x61 x7 x8 x9 x10 w1 where
  below := S.below
  h0 := fun h => S.h0 (h.resolve_right (by decide))
  h1 := fun h => S.h1 (h.resolve_right (by decide))
  h2 := fun _ => hy
  h3 := fun h => S.h3 (h.resolve_right (by decide))
  h4 := fun h => S.h4 (h.resolve_right (by decide))
  h5 := fun h => S.h5 (h.resolve_right (by decide))
  h6 := fun h => S.h6 (h.resolve_right (by decide))
  h7 := fun h => S.h7 (h.resolve_right (by decide))
  h8 := fun h => S.h8 (h.resolve_right (by decide))
  h9 := fun h => S.h9 (h.resolve_right (by decide))
  h10 := fun h => S.h10 (h.resolve_right (by decide))
  h11 := fun h => S.h11 (h.resolve_right (by decide))
  h12 := fun h => S.h12 (h.resolve_right (by decide))
  h13 := fun h => S.h13 (h.resolve_right (by decide))
  h14 := fun h => S.h14 (h.resolve_right (by decide))
  h15 := fun h => ⟨.inl (S.h15 (h.resolve_right (by decide))).1, .inl (S.h15 (h.resolve_right (by decide))).2.1, (S.h15 (h.resolve_right (by decide))).2.2⟩
  h16 := fun h => ⟨.inl (S.h16 (h.resolve_right (by decide))).1, (S.h16 (h.resolve_right (by decide))).2⟩
  h17 := fun h => ⟨.inl (S.h17 (h.resolve_right (by decide))).1, (S.h17 (h.resolve_right (by decide))).2⟩
  h18 := fun h => ⟨.inl (S.h18 (h.resolve_right (by decide))).1, (S.h18 (h.resolve_right (by decide))).2⟩
theorem F3.n3 (S : F3 W n l t pm sy A0 A1 A2 A3 c0 c1 c2 c3 g4 g5 d x48 x49 x50 x51 x52 x53 x54 x55 x56 x57 x58 x59 x60 x61 x7 x8 x9 x10 w1) (hd : ¬ d 3) {y : Value} (hy : y = .pointer (some ⟨g4, 1, none⟩)) : F3 W n l t pm sy A0 A1 A2 A3 c0 c1 c2 c3 g4 g5 (fun j => d j ∨ j = 3) x48 x49 x50 y x52 x53 x54 x55 x56 x57 x58 x59 x60 x61 x7 x8 x9 x10 w1 where
  below := S.below
  h0 := fun h => S.h0 (h.resolve_right (by decide))
  h1 := fun h => S.h1 (h.resolve_right (by decide))
  h2 := fun h => S.h2 (h.resolve_right (by decide))
  h3 := fun _ => hy
  h4 := fun h => S.h4 (h.resolve_right (by decide))
  h5 := fun h => S.h5 (h.resolve_right (by decide))
  h6 := fun h => S.h6 (h.resolve_right (by decide))
  h7 := fun h => S.h7 (h.resolve_right (by decide))
  h8 := fun h => S.h8 (h.resolve_right (by decide))
  h9 := fun h => S.h9 (h.resolve_right (by decide))
  h10 := fun h => S.h10 (h.resolve_right (by decide))
  h11 := fun h => S.h11 (h.resolve_right (by decide))
  h12 := fun h => S.h12 (h.resolve_right (by decide))
  h13 := fun h => S.h13 (h.resolve_right (by decide))
  h14 := fun h => S.h14 (h.resolve_right (by decide))
  h15 := fun h => ⟨.inl (S.h15 (h.resolve_right (by decide))).1, .inl (S.h15 (h.resolve_right (by decide))).2.1, (S.h15 (h.resolve_right (by decide))).2.2⟩
  h16 := fun h => ⟨.inl (S.h16 (h.resolve_right (by decide))).1, (S.h16 (h.resolve_right (by decide))).2⟩
  h17 := fun h => ⟨.inl (S.h17 (h.resolve_right (by decide))).1, (S.h17 (h.resolve_right (by decide))).2⟩
  h18 := fun h => ⟨.inl (S.h18 (h.resolve_right (by decide))).1, (S.h18 (h.resolve_right (by decide))).2⟩
theorem F3.n4 (S : F3 W n l t pm sy A0 A1 A2 A3 c0 c1 c2 c3 g4 g5 d x48 x49 x50 x51 x52 x53 x54 x55 x56 x57 x58 x59 x60 x61 x7 x8 x9 x10 w1) (hd : ¬ d 4) {y : Value} (hy : y = .slice A1 t.length c1) : F3 W n l t pm sy A0 A1 A2 A3 c0 c1 c2 c3 g4 g5 (fun j => d j ∨ j = 4) x48 x49 x50 x51 y x53 x54 x55 x56 x57 x58 x59 x60 x61 x7 x8 x9 x10 w1 where
  below := S.below
  h0 := fun h => S.h0 (h.resolve_right (by decide))
  h1 := fun h => S.h1 (h.resolve_right (by decide))
  h2 := fun h => S.h2 (h.resolve_right (by decide))
  h3 := fun h => S.h3 (h.resolve_right (by decide))
  h4 := fun _ => hy
  h5 := fun h => S.h5 (h.resolve_right (by decide))
  h6 := fun h => S.h6 (h.resolve_right (by decide))
  h7 := fun h => S.h7 (h.resolve_right (by decide))
  h8 := fun h => S.h8 (h.resolve_right (by decide))
  h9 := fun h => S.h9 (h.resolve_right (by decide))
  h10 := fun h => S.h10 (h.resolve_right (by decide))
  h11 := fun h => S.h11 (h.resolve_right (by decide))
  h12 := fun h => S.h12 (h.resolve_right (by decide))
  h13 := fun h => S.h13 (h.resolve_right (by decide))
  h14 := fun h => S.h14 (h.resolve_right (by decide))
  h15 := fun h => ⟨.inl (S.h15 (h.resolve_right (by decide))).1, .inl (S.h15 (h.resolve_right (by decide))).2.1, (S.h15 (h.resolve_right (by decide))).2.2⟩
  h16 := fun h => ⟨.inl (S.h16 (h.resolve_right (by decide))).1, (S.h16 (h.resolve_right (by decide))).2⟩
  h17 := fun h => ⟨.inl (S.h17 (h.resolve_right (by decide))).1, (S.h17 (h.resolve_right (by decide))).2⟩
  h18 := fun h => ⟨.inl (S.h18 (h.resolve_right (by decide))).1, (S.h18 (h.resolve_right (by decide))).2⟩
theorem F3.n5 (S : F3 W n l t pm sy A0 A1 A2 A3 c0 c1 c2 c3 g4 g5 d x48 x49 x50 x51 x52 x53 x54 x55 x56 x57 x58 x59 x60 x61 x7 x8 x9 x10 w1) (hd : ¬ d 5) {y : Value} (hy : Kd.R (Kd.int .i64) 3 w1 W.heap.size (fun _ => True) y t) : F3 W n l t pm sy A0 A1 A2 A3 c0 c1 c2 c3 g4 g5 (fun j => d j ∨ j = 5) x48 x49 x50 x51 x52 y x54 x55 x56 x57 x58 x59 x60 x61 x7 x8 x9 x10 w1 where
  below := S.below
  h0 := fun h => S.h0 (h.resolve_right (by decide))
  h1 := fun h => S.h1 (h.resolve_right (by decide))
  h2 := fun h => S.h2 (h.resolve_right (by decide))
  h3 := fun h => S.h3 (h.resolve_right (by decide))
  h4 := fun h => S.h4 (h.resolve_right (by decide))
  h5 := fun _ => hy
  h6 := fun h => S.h6 (h.resolve_right (by decide))
  h7 := fun h => S.h7 (h.resolve_right (by decide))
  h8 := fun h => S.h8 (h.resolve_right (by decide))
  h9 := fun h => S.h9 (h.resolve_right (by decide))
  h10 := fun h => S.h10 (h.resolve_right (by decide))
  h11 := fun h => S.h11 (h.resolve_right (by decide))
  h12 := fun h => S.h12 (h.resolve_right (by decide))
  h13 := fun h => S.h13 (h.resolve_right (by decide))
  h14 := fun h => S.h14 (h.resolve_right (by decide))
  h15 := fun h => ⟨.inl (S.h15 (h.resolve_right (by decide))).1, .inl (S.h15 (h.resolve_right (by decide))).2.1, (S.h15 (h.resolve_right (by decide))).2.2⟩
  h16 := fun h => absurd (S.h16 (h.resolve_right (by decide))).1 hd
  h17 := fun h => ⟨.inl (S.h17 (h.resolve_right (by decide))).1, (S.h17 (h.resolve_right (by decide))).2⟩
  h18 := fun h => ⟨.inl (S.h18 (h.resolve_right (by decide))).1, (S.h18 (h.resolve_right (by decide))).2⟩
theorem F3.n6 (S : F3 W n l t pm sy A0 A1 A2 A3 c0 c1 c2 c3 g4 g5 d x48 x49 x50 x51 x52 x53 x54 x55 x56 x57 x58 x59 x60 x61 x7 x8 x9 x10 w1) (hd : ¬ d 6) {y : Value} (hy : ∃ g, y = .slice (some ⟨g, 0, none⟩) 0 0 ∧ W.heap.size ≤ g ∧ w1.heap[g]? = some (.cells #[] 3 (0, 0))) : F3 W n l t pm sy A0 A1 A2 A3 c0 c1 c2 c3 g4 g5 (fun j => d j ∨ j = 6) x48 x49 x50 x51 x52 x53 y x55 x56 x57 x58 x59 x60 x61 x7 x8 x9 x10 w1 where
  below := S.below
  h0 := fun h => S.h0 (h.resolve_right (by decide))
  h1 := fun h => S.h1 (h.resolve_right (by decide))
  h2 := fun h => S.h2 (h.resolve_right (by decide))
  h3 := fun h => S.h3 (h.resolve_right (by decide))
  h4 := fun h => S.h4 (h.resolve_right (by decide))
  h5 := fun h => S.h5 (h.resolve_right (by decide))
  h6 := fun _ => hy
  h7 := fun h => S.h7 (h.resolve_right (by decide))
  h8 := fun h => S.h8 (h.resolve_right (by decide))
  h9 := fun h => S.h9 (h.resolve_right (by decide))
  h10 := fun h => S.h10 (h.resolve_right (by decide))
  h11 := fun h => S.h11 (h.resolve_right (by decide))
  h12 := fun h => S.h12 (h.resolve_right (by decide))
  h13 := fun h => S.h13 (h.resolve_right (by decide))
  h14 := fun h => S.h14 (h.resolve_right (by decide))
  h15 := fun h => ⟨.inl (S.h15 (h.resolve_right (by decide))).1, .inl (S.h15 (h.resolve_right (by decide))).2.1, (S.h15 (h.resolve_right (by decide))).2.2⟩
  h16 := fun h => ⟨.inl (S.h16 (h.resolve_right (by decide))).1, (S.h16 (h.resolve_right (by decide))).2⟩
  h17 := fun h => ⟨.inl (S.h17 (h.resolve_right (by decide))).1, (S.h17 (h.resolve_right (by decide))).2⟩
  h18 := fun h => ⟨.inl (S.h18 (h.resolve_right (by decide))).1, (S.h18 (h.resolve_right (by decide))).2⟩
theorem F3.n7 (S : F3 W n l t pm sy A0 A1 A2 A3 c0 c1 c2 c3 g4 g5 d x48 x49 x50 x51 x52 x53 x54 x55 x56 x57 x58 x59 x60 x61 x7 x8 x9 x10 w1) (hd : ¬ d 7) {y : Value} (hy : y = .pointer (some ⟨g5, 0, none⟩)) : F3 W n l t pm sy A0 A1 A2 A3 c0 c1 c2 c3 g4 g5 (fun j => d j ∨ j = 7) x48 x49 x50 x51 x52 x53 x54 y x56 x57 x58 x59 x60 x61 x7 x8 x9 x10 w1 where
  below := S.below
  h0 := fun h => S.h0 (h.resolve_right (by decide))
  h1 := fun h => S.h1 (h.resolve_right (by decide))
  h2 := fun h => S.h2 (h.resolve_right (by decide))
  h3 := fun h => S.h3 (h.resolve_right (by decide))
  h4 := fun h => S.h4 (h.resolve_right (by decide))
  h5 := fun h => S.h5 (h.resolve_right (by decide))
  h6 := fun h => S.h6 (h.resolve_right (by decide))
  h7 := fun _ => hy
  h8 := fun h => S.h8 (h.resolve_right (by decide))
  h9 := fun h => S.h9 (h.resolve_right (by decide))
  h10 := fun h => S.h10 (h.resolve_right (by decide))
  h11 := fun h => S.h11 (h.resolve_right (by decide))
  h12 := fun h => S.h12 (h.resolve_right (by decide))
  h13 := fun h => S.h13 (h.resolve_right (by decide))
  h14 := fun h => S.h14 (h.resolve_right (by decide))
  h15 := fun h => ⟨.inl (S.h15 (h.resolve_right (by decide))).1, .inl (S.h15 (h.resolve_right (by decide))).2.1, (S.h15 (h.resolve_right (by decide))).2.2⟩
  h16 := fun h => ⟨.inl (S.h16 (h.resolve_right (by decide))).1, (S.h16 (h.resolve_right (by decide))).2⟩
  h17 := fun h => ⟨.inl (S.h17 (h.resolve_right (by decide))).1, (S.h17 (h.resolve_right (by decide))).2⟩
  h18 := fun h => ⟨.inl (S.h18 (h.resolve_right (by decide))).1, (S.h18 (h.resolve_right (by decide))).2⟩
theorem F3.n8 (S : F3 W n l t pm sy A0 A1 A2 A3 c0 c1 c2 c3 g4 g5 d x48 x49 x50 x51 x52 x53 x54 x55 x56 x57 x58 x59 x60 x61 x7 x8 x9 x10 w1) (hd : ¬ d 8) {y : Value} (hy : y = .slice A2 pm.length c2) : F3 W n l t pm sy A0 A1 A2 A3 c0 c1 c2 c3 g4 g5 (fun j => d j ∨ j = 8) x48 x49 x50 x51 x52 x53 x54 x55 y x57 x58 x59 x60 x61 x7 x8 x9 x10 w1 where
  below := S.below
  h0 := fun h => S.h0 (h.resolve_right (by decide))
  h1 := fun h => S.h1 (h.resolve_right (by decide))
  h2 := fun h => S.h2 (h.resolve_right (by decide))
  h3 := fun h => S.h3 (h.resolve_right (by decide))
  h4 := fun h => S.h4 (h.resolve_right (by decide))
  h5 := fun h => S.h5 (h.resolve_right (by decide))
  h6 := fun h => S.h6 (h.resolve_right (by decide))
  h7 := fun h => S.h7 (h.resolve_right (by decide))
  h8 := fun _ => hy
  h9 := fun h => S.h9 (h.resolve_right (by decide))
  h10 := fun h => S.h10 (h.resolve_right (by decide))
  h11 := fun h => S.h11 (h.resolve_right (by decide))
  h12 := fun h => S.h12 (h.resolve_right (by decide))
  h13 := fun h => S.h13 (h.resolve_right (by decide))
  h14 := fun h => S.h14 (h.resolve_right (by decide))
  h15 := fun h => ⟨.inl (S.h15 (h.resolve_right (by decide))).1, .inl (S.h15 (h.resolve_right (by decide))).2.1, (S.h15 (h.resolve_right (by decide))).2.2⟩
  h16 := fun h => ⟨.inl (S.h16 (h.resolve_right (by decide))).1, (S.h16 (h.resolve_right (by decide))).2⟩
  h17 := fun h => ⟨.inl (S.h17 (h.resolve_right (by decide))).1, (S.h17 (h.resolve_right (by decide))).2⟩
  h18 := fun h => ⟨.inl (S.h18 (h.resolve_right (by decide))).1, (S.h18 (h.resolve_right (by decide))).2⟩
theorem F3.n9 (S : F3 W n l t pm sy A0 A1 A2 A3 c0 c1 c2 c3 g4 g5 d x48 x49 x50 x51 x52 x53 x54 x55 x56 x57 x58 x59 x60 x61 x7 x8 x9 x10 w1) (hd : ¬ d 9) {y : Value} (hy : Kd.R (Kd.int .i64) 3 w1 W.heap.size (fun _ => True) y pm) : F3 W n l t pm sy A0 A1 A2 A3 c0 c1 c2 c3 g4 g5 (fun j => d j ∨ j = 9) x48 x49 x50 x51 x52 x53 x54 x55 x56 y x58 x59 x60 x61 x7 x8 x9 x10 w1 where
  below := S.below
  h0 := fun h => S.h0 (h.resolve_right (by decide))
  h1 := fun h => S.h1 (h.resolve_right (by decide))
  h2 := fun h => S.h2 (h.resolve_right (by decide))
  h3 := fun h => S.h3 (h.resolve_right (by decide))
  h4 := fun h => S.h4 (h.resolve_right (by decide))
  h5 := fun h => S.h5 (h.resolve_right (by decide))
  h6 := fun h => S.h6 (h.resolve_right (by decide))
  h7 := fun h => S.h7 (h.resolve_right (by decide))
  h8 := fun h => S.h8 (h.resolve_right (by decide))
  h9 := fun _ => hy
  h10 := fun h => S.h10 (h.resolve_right (by decide))
  h11 := fun h => S.h11 (h.resolve_right (by decide))
  h12 := fun h => S.h12 (h.resolve_right (by decide))
  h13 := fun h => S.h13 (h.resolve_right (by decide))
  h14 := fun h => S.h14 (h.resolve_right (by decide))
  h15 := fun h => ⟨.inl (S.h15 (h.resolve_right (by decide))).1, .inl (S.h15 (h.resolve_right (by decide))).2.1, (S.h15 (h.resolve_right (by decide))).2.2⟩
  h16 := fun h => ⟨.inl (S.h16 (h.resolve_right (by decide))).1, (S.h16 (h.resolve_right (by decide))).2⟩
  h17 := fun h => absurd (S.h17 (h.resolve_right (by decide))).1 hd
  h18 := fun h => ⟨.inl (S.h18 (h.resolve_right (by decide))).1, (S.h18 (h.resolve_right (by decide))).2⟩
theorem F3.n10 (S : F3 W n l t pm sy A0 A1 A2 A3 c0 c1 c2 c3 g4 g5 d x48 x49 x50 x51 x52 x53 x54 x55 x56 x57 x58 x59 x60 x61 x7 x8 x9 x10 w1) (hd : ¬ d 10) {y : Value} (hy : ∃ g, y = .slice (some ⟨g, 0, none⟩) 0 0 ∧ W.heap.size ≤ g ∧ w1.heap[g]? = some (.cells #[] 96 (0, 0))) : F3 W n l t pm sy A0 A1 A2 A3 c0 c1 c2 c3 g4 g5 (fun j => d j ∨ j = 10) x48 x49 x50 x51 x52 x53 x54 x55 x56 x57 y x59 x60 x61 x7 x8 x9 x10 w1 where
  below := S.below
  h0 := fun h => S.h0 (h.resolve_right (by decide))
  h1 := fun h => S.h1 (h.resolve_right (by decide))
  h2 := fun h => S.h2 (h.resolve_right (by decide))
  h3 := fun h => S.h3 (h.resolve_right (by decide))
  h4 := fun h => S.h4 (h.resolve_right (by decide))
  h5 := fun h => S.h5 (h.resolve_right (by decide))
  h6 := fun h => S.h6 (h.resolve_right (by decide))
  h7 := fun h => S.h7 (h.resolve_right (by decide))
  h8 := fun h => S.h8 (h.resolve_right (by decide))
  h9 := fun h => S.h9 (h.resolve_right (by decide))
  h10 := fun _ => hy
  h11 := fun h => S.h11 (h.resolve_right (by decide))
  h12 := fun h => S.h12 (h.resolve_right (by decide))
  h13 := fun h => S.h13 (h.resolve_right (by decide))
  h14 := fun h => S.h14 (h.resolve_right (by decide))
  h15 := fun h => ⟨.inl (S.h15 (h.resolve_right (by decide))).1, .inl (S.h15 (h.resolve_right (by decide))).2.1, (S.h15 (h.resolve_right (by decide))).2.2⟩
  h16 := fun h => ⟨.inl (S.h16 (h.resolve_right (by decide))).1, (S.h16 (h.resolve_right (by decide))).2⟩
  h17 := fun h => ⟨.inl (S.h17 (h.resolve_right (by decide))).1, (S.h17 (h.resolve_right (by decide))).2⟩
  h18 := fun h => ⟨.inl (S.h18 (h.resolve_right (by decide))).1, (S.h18 (h.resolve_right (by decide))).2⟩
theorem F3.n11 (S : F3 W n l t pm sy A0 A1 A2 A3 c0 c1 c2 c3 g4 g5 d x48 x49 x50 x51 x52 x53 x54 x55 x56 x57 x58 x59 x60 x61 x7 x8 x9 x10 w1) (hd : ¬ d 11) {y : Value} (hy : y = .pointer (some ⟨g5, 1, none⟩)) : F3 W n l t pm sy A0 A1 A2 A3 c0 c1 c2 c3 g4 g5 (fun j => d j ∨ j = 11) x48 x49 x50 x51 x52 x53 x54 x55 x56 x57 x58 y x60 x61 x7 x8 x9 x10 w1 where
  below := S.below
  h0 := fun h => S.h0 (h.resolve_right (by decide))
  h1 := fun h => S.h1 (h.resolve_right (by decide))
  h2 := fun h => S.h2 (h.resolve_right (by decide))
  h3 := fun h => S.h3 (h.resolve_right (by decide))
  h4 := fun h => S.h4 (h.resolve_right (by decide))
  h5 := fun h => S.h5 (h.resolve_right (by decide))
  h6 := fun h => S.h6 (h.resolve_right (by decide))
  h7 := fun h => S.h7 (h.resolve_right (by decide))
  h8 := fun h => S.h8 (h.resolve_right (by decide))
  h9 := fun h => S.h9 (h.resolve_right (by decide))
  h10 := fun h => S.h10 (h.resolve_right (by decide))
  h11 := fun _ => hy
  h12 := fun h => S.h12 (h.resolve_right (by decide))
  h13 := fun h => S.h13 (h.resolve_right (by decide))
  h14 := fun h => S.h14 (h.resolve_right (by decide))
  h15 := fun h => ⟨.inl (S.h15 (h.resolve_right (by decide))).1, .inl (S.h15 (h.resolve_right (by decide))).2.1, (S.h15 (h.resolve_right (by decide))).2.2⟩
  h16 := fun h => ⟨.inl (S.h16 (h.resolve_right (by decide))).1, (S.h16 (h.resolve_right (by decide))).2⟩
  h17 := fun h => ⟨.inl (S.h17 (h.resolve_right (by decide))).1, (S.h17 (h.resolve_right (by decide))).2⟩
  h18 := fun h => ⟨.inl (S.h18 (h.resolve_right (by decide))).1, (S.h18 (h.resolve_right (by decide))).2⟩
theorem F3.n12 (S : F3 W n l t pm sy A0 A1 A2 A3 c0 c1 c2 c3 g4 g5 d x48 x49 x50 x51 x52 x53 x54 x55 x56 x57 x58 x59 x60 x61 x7 x8 x9 x10 w1) (hd : ¬ d 12) {y : Value} (hy : y = .slice A3 sy.length c3) : F3 W n l t pm sy A0 A1 A2 A3 c0 c1 c2 c3 g4 g5 (fun j => d j ∨ j = 12) x48 x49 x50 x51 x52 x53 x54 x55 x56 x57 x58 x59 y x61 x7 x8 x9 x10 w1 where
  below := S.below
  h0 := fun h => S.h0 (h.resolve_right (by decide))
  h1 := fun h => S.h1 (h.resolve_right (by decide))
  h2 := fun h => S.h2 (h.resolve_right (by decide))
  h3 := fun h => S.h3 (h.resolve_right (by decide))
  h4 := fun h => S.h4 (h.resolve_right (by decide))
  h5 := fun h => S.h5 (h.resolve_right (by decide))
  h6 := fun h => S.h6 (h.resolve_right (by decide))
  h7 := fun h => S.h7 (h.resolve_right (by decide))
  h8 := fun h => S.h8 (h.resolve_right (by decide))
  h9 := fun h => S.h9 (h.resolve_right (by decide))
  h10 := fun h => S.h10 (h.resolve_right (by decide))
  h11 := fun h => S.h11 (h.resolve_right (by decide))
  h12 := fun _ => hy
  h13 := fun h => S.h13 (h.resolve_right (by decide))
  h14 := fun h => S.h14 (h.resolve_right (by decide))
  h15 := fun h => ⟨.inl (S.h15 (h.resolve_right (by decide))).1, .inl (S.h15 (h.resolve_right (by decide))).2.1, (S.h15 (h.resolve_right (by decide))).2.2⟩
  h16 := fun h => ⟨.inl (S.h16 (h.resolve_right (by decide))).1, (S.h16 (h.resolve_right (by decide))).2⟩
  h17 := fun h => ⟨.inl (S.h17 (h.resolve_right (by decide))).1, (S.h17 (h.resolve_right (by decide))).2⟩
  h18 := fun h => ⟨.inl (S.h18 (h.resolve_right (by decide))).1, (S.h18 (h.resolve_right (by decide))).2⟩
theorem F3.n13 (S : F3 W n l t pm sy A0 A1 A2 A3 c0 c1 c2 c3 g4 g5 d x48 x49 x50 x51 x52 x53 x54 x55 x56 x57 x58 x59 x60 x61 x7 x8 x9 x10 w1) (hd : ¬ d 13) {y : Value} (hy : Kd.R k96 96 w1 W.heap.size (fun _ => True) y sy) : F3 W n l t pm sy A0 A1 A2 A3 c0 c1 c2 c3 g4 g5 (fun j => d j ∨ j = 13) x48 x49 x50 x51 x52 x53 x54 x55 x56 x57 x58 x59 x60 y x7 x8 x9 x10 w1 where
  below := S.below
  h0 := fun h => S.h0 (h.resolve_right (by decide))
  h1 := fun h => S.h1 (h.resolve_right (by decide))
  h2 := fun h => S.h2 (h.resolve_right (by decide))
  h3 := fun h => S.h3 (h.resolve_right (by decide))
  h4 := fun h => S.h4 (h.resolve_right (by decide))
  h5 := fun h => S.h5 (h.resolve_right (by decide))
  h6 := fun h => S.h6 (h.resolve_right (by decide))
  h7 := fun h => S.h7 (h.resolve_right (by decide))
  h8 := fun h => S.h8 (h.resolve_right (by decide))
  h9 := fun h => S.h9 (h.resolve_right (by decide))
  h10 := fun h => S.h10 (h.resolve_right (by decide))
  h11 := fun h => S.h11 (h.resolve_right (by decide))
  h12 := fun h => S.h12 (h.resolve_right (by decide))
  h13 := fun _ => hy
  h14 := fun h => S.h14 (h.resolve_right (by decide))
  h15 := fun h => ⟨.inl (S.h15 (h.resolve_right (by decide))).1, .inl (S.h15 (h.resolve_right (by decide))).2.1, (S.h15 (h.resolve_right (by decide))).2.2⟩
  h16 := fun h => ⟨.inl (S.h16 (h.resolve_right (by decide))).1, (S.h16 (h.resolve_right (by decide))).2⟩
  h17 := fun h => ⟨.inl (S.h17 (h.resolve_right (by decide))).1, (S.h17 (h.resolve_right (by decide))).2⟩
  h18 := fun h => absurd (S.h18 (h.resolve_right (by decide))).1 hd
theorem F3.n14 (S : F3 W n l t pm sy A0 A1 A2 A3 c0 c1 c2 c3 g4 g5 d x48 x49 x50 x51 x52 x53 x54 x55 x56 x57 x58 x59 x60 x61 x7 x8 x9 x10 w1) (hd : ¬ d 14) {y : Value} (hy : ∃ g u v, y = .pointer (some ⟨g, 0, none⟩) ∧ W.heap.size ≤ g ∧ w1.heap[g]? = some (.cells #[u, v] 24 (0, 0))) : F3 W n l t pm sy A0 A1 A2 A3 c0 c1 c2 c3 g4 g5 (fun j => d j ∨ j = 14) x48 x49 x50 x51 x52 x53 x54 x55 x56 x57 x58 x59 x60 x61 y x8 x9 x10 w1 where
  below := S.below
  h0 := fun h => S.h0 (h.resolve_right (by decide))
  h1 := fun h => S.h1 (h.resolve_right (by decide))
  h2 := fun h => S.h2 (h.resolve_right (by decide))
  h3 := fun h => S.h3 (h.resolve_right (by decide))
  h4 := fun h => S.h4 (h.resolve_right (by decide))
  h5 := fun h => S.h5 (h.resolve_right (by decide))
  h6 := fun h => S.h6 (h.resolve_right (by decide))
  h7 := fun h => S.h7 (h.resolve_right (by decide))
  h8 := fun h => S.h8 (h.resolve_right (by decide))
  h9 := fun h => S.h9 (h.resolve_right (by decide))
  h10 := fun h => S.h10 (h.resolve_right (by decide))
  h11 := fun h => S.h11 (h.resolve_right (by decide))
  h12 := fun h => S.h12 (h.resolve_right (by decide))
  h13 := fun h => S.h13 (h.resolve_right (by decide))
  h14 := fun _ => hy
  h15 := fun h => absurd (S.h15 (h.resolve_right (by decide))).2.1 hd
  h16 := fun h => ⟨.inl (S.h16 (h.resolve_right (by decide))).1, (S.h16 (h.resolve_right (by decide))).2⟩
  h17 := fun h => ⟨.inl (S.h17 (h.resolve_right (by decide))).1, (S.h17 (h.resolve_right (by decide))).2⟩
  h18 := fun h => ⟨.inl (S.h18 (h.resolve_right (by decide))).1, (S.h18 (h.resolve_right (by decide))).2⟩
theorem F3.n16 (S : F3 W n l t pm sy A0 A1 A2 A3 c0 c1 c2 c3 g4 g5 d x48 x49 x50 x51 x52 x53 x54 x55 x56 x57 x58 x59 x60 x61 x7 x8 x9 x10 w1) (hd : ¬ d 16) {y : Value} (hy : d 5 ∧ y = x53) : F3 W n l t pm sy A0 A1 A2 A3 c0 c1 c2 c3 g4 g5 (fun j => d j ∨ j = 16) x48 x49 x50 x51 x52 x53 x54 x55 x56 x57 x58 x59 x60 x61 x7 y x9 x10 w1 where
  below := S.below
  h0 := fun h => S.h0 (h.resolve_right (by decide))
  h1 := fun h => S.h1 (h.resolve_right (by decide))
  h2 := fun h => S.h2 (h.resolve_right (by decide))
  h3 := fun h => S.h3 (h.resolve_right (by decide))
  h4 := fun h => S.h4 (h.resolve_right (by decide))
  h5 := fun h => S.h5 (h.resolve_right (by decide))
  h6 := fun h => S.h6 (h.resolve_right (by decide))
  h7 := fun h => S.h7 (h.resolve_right (by decide))
  h8 := fun h => S.h8 (h.resolve_right (by decide))
  h9 := fun h => S.h9 (h.resolve_right (by decide))
  h10 := fun h => S.h10 (h.resolve_right (by decide))
  h11 := fun h => S.h11 (h.resolve_right (by decide))
  h12 := fun h => S.h12 (h.resolve_right (by decide))
  h13 := fun h => S.h13 (h.resolve_right (by decide))
  h14 := fun h => S.h14 (h.resolve_right (by decide))
  h15 := fun h => ⟨.inl (S.h15 (h.resolve_right (by decide))).1, .inl (S.h15 (h.resolve_right (by decide))).2.1, (S.h15 (h.resolve_right (by decide))).2.2⟩
  h16 := fun _ => ⟨.inl hy.1, hy.2⟩
  h17 := fun h => ⟨.inl (S.h17 (h.resolve_right (by decide))).1, (S.h17 (h.resolve_right (by decide))).2⟩
  h18 := fun h => ⟨.inl (S.h18 (h.resolve_right (by decide))).1, (S.h18 (h.resolve_right (by decide))).2⟩
theorem F3.n17 (S : F3 W n l t pm sy A0 A1 A2 A3 c0 c1 c2 c3 g4 g5 d x48 x49 x50 x51 x52 x53 x54 x55 x56 x57 x58 x59 x60 x61 x7 x8 x9 x10 w1) (hd : ¬ d 17) {y : Value} (hy : d 9 ∧ y = x57) : F3 W n l t pm sy A0 A1 A2 A3 c0 c1 c2 c3 g4 g5 (fun j => d j ∨ j = 17) x48 x49 x50 x51 x52 x53 x54 x55 x56 x57 x58 x59 x60 x61 x7 x8 y x10 w1 where
  below := S.below
  h0 := fun h => S.h0 (h.resolve_right (by decide))
  h1 := fun h => S.h1 (h.resolve_right (by decide))
  h2 := fun h => S.h2 (h.resolve_right (by decide))
  h3 := fun h => S.h3 (h.resolve_right (by decide))
  h4 := fun h => S.h4 (h.resolve_right (by decide))
  h5 := fun h => S.h5 (h.resolve_right (by decide))
  h6 := fun h => S.h6 (h.resolve_right (by decide))
  h7 := fun h => S.h7 (h.resolve_right (by decide))
  h8 := fun h => S.h8 (h.resolve_right (by decide))
  h9 := fun h => S.h9 (h.resolve_right (by decide))
  h10 := fun h => S.h10 (h.resolve_right (by decide))
  h11 := fun h => S.h11 (h.resolve_right (by decide))
  h12 := fun h => S.h12 (h.resolve_right (by decide))
  h13 := fun h => S.h13 (h.resolve_right (by decide))
  h14 := fun h => S.h14 (h.resolve_right (by decide))
  h15 := fun h => ⟨.inl (S.h15 (h.resolve_right (by decide))).1, .inl (S.h15 (h.resolve_right (by decide))).2.1, (S.h15 (h.resolve_right (by decide))).2.2⟩
  h16 := fun h => ⟨.inl (S.h16 (h.resolve_right (by decide))).1, (S.h16 (h.resolve_right (by decide))).2⟩
  h17 := fun _ => ⟨.inl hy.1, hy.2⟩
  h18 := fun h => ⟨.inl (S.h18 (h.resolve_right (by decide))).1, (S.h18 (h.resolve_right (by decide))).2⟩
theorem F3.n18 (S : F3 W n l t pm sy A0 A1 A2 A3 c0 c1 c2 c3 g4 g5 d x48 x49 x50 x51 x52 x53 x54 x55 x56 x57 x58 x59 x60 x61 x7 x8 x9 x10 w1) (hd : ¬ d 18) {y : Value} (hy : d 13 ∧ y = x61) : F3 W n l t pm sy A0 A1 A2 A3 c0 c1 c2 c3 g4 g5 (fun j => d j ∨ j = 18) x48 x49 x50 x51 x52 x53 x54 x55 x56 x57 x58 x59 x60 x61 x7 x8 x9 y w1 where
  below := S.below
  h0 := fun h => S.h0 (h.resolve_right (by decide))
  h1 := fun h => S.h1 (h.resolve_right (by decide))
  h2 := fun h => S.h2 (h.resolve_right (by decide))
  h3 := fun h => S.h3 (h.resolve_right (by decide))
  h4 := fun h => S.h4 (h.resolve_right (by decide))
  h5 := fun h => S.h5 (h.resolve_right (by decide))
  h6 := fun h => S.h6 (h.resolve_right (by decide))
  h7 := fun h => S.h7 (h.resolve_right (by decide))
  h8 := fun h => S.h8 (h.resolve_right (by decide))
  h9 := fun h => S.h9 (h.resolve_right (by decide))
  h10 := fun h => S.h10 (h.resolve_right (by decide))
  h11 := fun h => S.h11 (h.resolve_right (by decide))
  h12 := fun h => S.h12 (h.resolve_right (by decide))
  h13 := fun h => S.h13 (h.resolve_right (by decide))
  h14 := fun h => S.h14 (h.resolve_right (by decide))
  h15 := fun h => ⟨.inl (S.h15 (h.resolve_right (by decide))).1, .inl (S.h15 (h.resolve_right (by decide))).2.1, (S.h15 (h.resolve_right (by decide))).2.2⟩
  h16 := fun h => ⟨.inl (S.h16 (h.resolve_right (by decide))).1, (S.h16 (h.resolve_right (by decide))).2⟩
  h17 := fun h => ⟨.inl (S.h17 (h.resolve_right (by decide))).1, (S.h17 (h.resolve_right (by decide))).2⟩
  h18 := fun _ => ⟨.inl hy.1, hy.2⟩
theorem F3.n15 (S : F3 W n l t pm sy A0 A1 A2 A3 c0 c1 c2 c3 g4 g5 d x48 x49 x50 x51 x52 x53 x54 x55 x56 x57 x58 x59 x60 x61 x7 x8 x9 x10 w1) (h1 : d 1) (h14 : d 14) {g : Nat} {v : Value} (hx : x7 = .pointer (some ⟨g, 0, none⟩)) (hx2 : x49 = .agg #[.int .i64 n, v]) (hg : ∃ u v, w1.heap[g]? = some (.cells #[u, v] 24 (0, 0))) (hW : W.heap.size ≤ g) : F3 W n l t pm sy A0 A1 A2 A3 c0 c1 c2 c3 g4 g5 (fun j => d j ∨ j = 15) x48 x49 x50 x51 x52 x53 x54 x55 x56 x57 x58 x59 x60 x61 x7 x8 x9 x10 ((w1.setCell ⟨g, 0, none⟩ (.int .i64 n)).setCell ⟨g, 1, none⟩ v) := by
  obtain ⟨u, v0, hg⟩ := hg
  have k1 : (w1.setCell ⟨g, 0, none⟩ (.int .i64 n)).heap[g]? = some (.cells #[.int .i64 n, v0] 24 (0, 0)) := blk_put (cs := #[u, v0]) hg 0 _ rfl
  have k2 : ((w1.setCell ⟨g, 0, none⟩ (.int .i64 n)).setCell ⟨g, 1, none⟩ v).heap[g]? = some (.cells #[.int .i64 n, v] 24 (0, 0)) := blk_put (cs := #[.int .i64 n, v0]) k1 1 _ rfl
  have far : ∀ {q : Nat} {cs : Array Value} {e : Nat}, w1.heap[q]? = some (.cells cs e (0, 0)) → e ≠ 24 → ((w1.setCell ⟨g, 0, none⟩ (.int .i64 n)).setCell ⟨g, 1, none⟩ v).heap[q]? = some (.cells cs e (0, 0)) := fun {q cs e} hq he => by
    have hne : q ≠ g := fun e' => by subst e'; rw [hg] at hq; injection hq with hq; injection hq with _ e2 _; exact he e2.symm
    exact (Below.heap_setCell _ _ _ _ hne).trans ((Below.heap_setCell _ _ _ _ hne).trans hq)
  have stay : ∀ {α : Type} {dd : Kd α} {e : Nat} {x : Value} {xs : List α}, 24 ∉ e :: dd.E → Kd.R dd e w1 W.heap.size (fun _ => True) x xs → Kd.R dd e ((w1.setCell ⟨g, 0, none⟩ (.int .i64 n)).setCell ⟨g, 1, none⟩ v) W.heap.size (fun _ => True) x xs := fun {α dd e x xs} hE h => by
    refine Kd.R_mono (Kd.R_step (Kd.R_bound h) fun k hk _ => ?_) (fun _ _ => trivial)
    obtain ⟨_, _, _, q, hq, cells, hc⟩ := hk
    exact (far hc (fun e' => hE (e' ▸ hq))).trans hc.symm
  exact {
    below := (S.below.setCell hW _).setCell hW _
    h0 := fun h => S.h0 (h.resolve_right (by decide))
    h1 := fun h => let ⟨v, q1, q2⟩ := S.h1 (h.resolve_right (by decide)); ⟨v, q1, stay (by decide) q2⟩
    h2 := fun h => let ⟨g, q1, q2, q3⟩ := S.h2 (h.resolve_right (by decide)); ⟨g, q1, q2, far q3 (by decide)⟩
    h3 := fun h => S.h3 (h.resolve_right (by decide))
    h4 := fun h => S.h4 (h.resolve_right (by decide))
    h5 := fun h => stay (by decide) (S.h5 (h.resolve_right (by decide)))
    h6 := fun h => let ⟨g, q1, q2, q3⟩ := S.h6 (h.resolve_right (by decide)); ⟨g, q1, q2, far q3 (by decide)⟩
    h7 := fun h => S.h7 (h.resolve_right (by decide))
    h8 := fun h => S.h8 (h.resolve_right (by decide))
    h9 := fun h => stay (by decide) (S.h9 (h.resolve_right (by decide)))
    h10 := fun h => let ⟨g, q1, q2, q3⟩ := S.h10 (h.resolve_right (by decide)); ⟨g, q1, q2, far q3 (by decide)⟩
    h11 := fun h => S.h11 (h.resolve_right (by decide))
    h12 := fun h => S.h12 (h.resolve_right (by decide))
    h13 := fun h => stay (by decide) (S.h13 (h.resolve_right (by decide)))
    h14 := fun _ => ⟨g, _, _, hx, hW, k2⟩
    h15 := fun _ => ⟨.inl h1, .inl h14, g, v, hx, hx2, k2⟩
    h16 := fun h => ⟨.inl (S.h16 (h.resolve_right (by decide))).1, (S.h16 (h.resolve_right (by decide))).2⟩
    h17 := fun h => ⟨.inl (S.h17 (h.resolve_right (by decide))).1, (S.h17 (h.resolve_right (by decide))).2⟩
    h18 := fun h => ⟨.inl (S.h18 (h.resolve_right (by decide))).1, (S.h18 (h.resolve_right (by decide))).2⟩ }
end
section
variable {α : Type} {ops : Array Oper} {rest : List Oper} {o : Oper} {a : Act} {w : World} {Q : Exit → Act → World → Prop}
/-- append([]T{}, xs...): a copy. -/
theorem ap_copy (dd : Kd α) (base : Nat) (hgd : o.guard = none) (T e bytes : Nat) (z : Value) {sl x : Operand} (ho : o.op = .call { callee := .builtin .append, args := #[sl, x], argTypes := #[T, T] }) (hT : Tryz.prog.underlying T = some (.slice e))
    (hinfo : (Tryz.prog.info? e).map (fun i => (i.zero, i.size, i.bytes)) = some (some z, dd.sz, bytes)) (hz : z.cells.size = dd.sz) (hs0 : 0 < dd.sz) (hb0 : 0 < bytes) (hb1 : bytes ≤ 64) {g : Nat} (hs : a.eval sl = .slice (some ⟨g, 0, none⟩) 0 0) {A : Option Addr} {c : Nat} {xs : List α} (hx : a.eval x = .slice A xs.length c)
    (hg : w.heap[g]? = some (.cells #[] e (0, 0))) (hbg : base ≤ g) (hbw : base ≤ w.heap.size) (hC : dd.C w A xs.length xs) (hn : xs.length ≤ 1000000) (hKM : ∀ (w' : World) (ok : Nat → Prop) x cs, dd.K w x cs → dd.M w' base ok x cs)
    (h : ∀ v' w', dd.R e w' base (fun _ => True) v' xs → Below w.heap.size w w' → wpList Tryz.prog ops Q rest (a.put o.dst v') w') : wpList Tryz.prog ops Q (o :: rest) a w := by
  refine wpList_plain hgd fun K hK => ?_
  obtain ⟨i, hi, hz0, hz1, hz2⟩ := info_parts hinfo
  have fin : ∀ v' w', (Builtin.append_ #[T, T] o.type #[.slice (some ⟨g, 0, none⟩) 0 0, .slice A xs.length c]).run Tryz.prog w = .ok v' w' → K (a.put o.dst v') w' → o.wp Tryz.prog a w K Q := fun v' w' hr hq => by
    unfold Oper.wp execOp
    simp only [ho, resolve, invoke, builtin, Sem.run_bind, Sem.run_pure, Result.andThen_ok, List.map_toArray, List.map_cons, List.map_nil, hs, hx, hr]
    exact hq
  cases xs with
  | nil =>
    have hr : (Builtin.append_ #[T, T] o.type #[.slice (some ⟨g, 0, none⟩) 0 0, .slice A ([] : List α).length c]).run Tryz.prog w = .ok (.slice (some ⟨g, 0, none⟩) 0 0) w := by
      rcases A with _ | ad
      · simp [Builtin.append_, run_underlying hT, sizeOf, typeInfo, hi, Builtin.lenOf, Builtin.firstCells, storeCells]
      · have hf := run_firstCells_some (P := Tryz.prog) w i.size 0 ad 0 c [] (by simp) (fun j u hj => by simp at hj)
        simp [Builtin.append_, run_underlying hT, sizeOf, typeInfo, hi, Builtin.lenOf, hf, storeCells]
    refine fin _ _ hr (hK _ _ (h _ _ ⟨fun _ _ => trivial, [], ⟨by simp, .inr ⟨g, 0, #[], rfl, hbg, hg, by simp, by simp [maxLen], by simp, by simp⟩⟩, Reps.none _ _⟩ (Below.refl _ _)))
  | cons p ps =>
    obtain ⟨ad, rfl, _⟩ := hC.2.2 (by simp)
    obtain ⟨news, hnr, hnc⟩ := ReadsRow.inner_ hC
    have hl : news.length = (p :: ps).length * i.size := by rw [hz1]; exact hnr.1
    have hr := run_append_grow (P := Tryz.prog) w T o.type e i z hT hi hz0 ⟨g, 0, none⟩ 0 0 [] (by simp) (fun j u hj => by simp at hj) ad (p :: ps).length c news hl hnc (by simp) (by omega) (by rw [hz2]; exact growslice_fits (by simp) (Nat.le_trans (Nat.mul_le_mul (show 0 + (p :: ps).length ≤ 1000000 by omega) hb1) (by omega)))
    have hge := grownCap_ge w (0 + (p :: ps).length) 0 e
    have hcm : grownCap w (0 + (p :: ps).length) 0 e ≤ maxLen := grownCap_le_maxLen w _ 0 e (by unfold maxLen; omega)
    refine fin _ _ hr (hK _ _ (h _ _ ⟨fun _ _ => trivial, news, ⟨hnr.1, .inr ⟨w.heap.size, _, _, by rw [Nat.zero_add], hbw, heap_alloc_new w.drew _, by simpa using hge, hcm, ?_, ?_⟩⟩, hnr.imp_ (fun x cs hk => hKM _ _ x cs hk)⟩ ((Below.refl _ _).drew.alloc (Nat.le_refl _) _)))
    · simp only [Array.size_append, List.size_toArray, size_zeroCells, List.length_nil, hz, hl, hz1]
      generalize grownCap w (0 + (p :: ps).length) 0 e = G at hge ⊢
      rw [Nat.zero_add, ← Nat.add_mul, show (p :: ps).length + (G - (0 + (p :: ps).length)) = G by omega]
    · simp only [Array.toList_append, List.append_assoc, List.nil_append]
      rw [show (p :: ps).length * dd.sz = news.length by rw [hl, hz1]]
      exact List.take_left
end
end Go.Proofs.YtfmpaofbnjlniaaGreatDoor.F
