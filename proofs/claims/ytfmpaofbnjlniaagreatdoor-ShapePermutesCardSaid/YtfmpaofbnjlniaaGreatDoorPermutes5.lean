/- Part 5 of the proof: ShapePermutes: Permute answers as the reference says, for all structures and lists. -/
import Derived.Test.YtfmpaofbnjlniaaGreatDoorPermutes4
import Derived.Maps.OwnSet
import Derived.Shelf.SlSortCmp.Kit1
import Derived.Shelf.SlLaysF
import Derived.Ground.SlsfProg
import Derived.Test.YtfmpaofbnjlniaaGreatDoorProg
import Derived.Shelf.SlSortCmp.NoneTotal
namespace Go.Proofs.YtfmpaofbnjlniaaGreatDoor.F
open Go.RowKit Go.Proofs.YtfmpaofbnjlniaaGreatDoorW.PrintWords Go.Proofs.YtfmpaofbnjlniaaGreatDoorW.PrintLast Go.Proofs.YtfmpaofbnjlniaaGreatDoorW.PrintMore
attribute [local go_sem] max2_int min2_int max_two min_two max_three min_three max_four min_four
set_option linter.unusedVariables false
set_option linter.unusedSimpArgs false
/-! ### paraphrastref01_Copy: function 36 -/
def paraphrastref01_Copy.l0 : Nat → Int → Int → List (S52) → Int → List (S52) → Option (Int × (List (S52)))
 | 0, _, _, _, _, _ => none
 | k + 1, x4, x386000, x386001, x388000, x388001 => if x4 < (x386001.length : Int) then (if 0 ≤ x4 then ((paraphrastref01_copied.f k ((rd_T52 x386001 x4).f2)).bind fun t391 => (if x388001.length < 2932031007402 then (paraphrastref01_Copy.l0 k (wrap64 (x4 + 1)) x386000 x386001 x388000 (x388001 ++ [(⟨(rd_T52 x386001 x4).f0, (rd_T52 x386001 x4).f1, t391⟩ : S52)])) else (none))) else (none)) else (some (x388000, x388001))
def paraphrastref01_Copy.f (k : Nat) (a0_0 : Int) (l0_1 : List (S52)) : Option (Int × (List (S52))) := paraphrastref01_Copy.l0 k 0 a0_0 l0_1 a0_0 ([] : List (S52))
def paraphrastref01_Copy.T5 : Bool × List (List Nat × List Nat) := (true, [([], []), ([0], [0]), ([], []), ([2], [2]), ([], []), ([3, 4], [3, 4]), ([5], [5]), ([6], [6]), ([], []), ([8], [8]), ([], []), ([9, 10], [9, 10]), ([11], [11]), ([12], [12]), ([], []), ([14], [14]), ([], []), ([15, 16], [15, 16]), ([17], [17]), ([18], [18]), ([19], [19]), ([7, 13, 20], [7, 13, 20]), ([21], [21]), ([1, 22, 20], [1, 22]), ([0, 1, 2, 3, 4, 5, 6, 7, 8, 9, 10, 11, 12, 13, 14, 15, 16, 17, 18, 19, 20, 21, 22, 23], []), ([24, 23, 23, 0, 1, 2, 3, 4, 5, 6, 7, 8, 9, 10, 11, 12, 13, 14, 15, 16, 17, 18, 19, 20, 21, 22, 23], [23, 24])])
def paraphrastref01_Copy.B5 : List Nat := [0, 1, 0, 4, 0, 28, 60, 124, 0, 256, 0, 1792, 3840, 7936, 0, 16384, 0, 114688, 245760, 507904, 1032192, 2097148, 4194300, 8388607, 16777215, 33554431]
theorem paraphrastref01_Copy.tab5 : rtab .any (opsOf Tryz.f36 5) = paraphrastref01_Copy.T5 := by kernel_rfl
theorem paraphrastref01_Copy.bits5 : waitsOk paraphrastref01_Copy.T5.2 paraphrastref01_Copy.B5 = true := by kernel_rfl
set_option maxHeartbeats 8000000 in
set_option maxRecDepth 100000 in
theorem paraphrastref01_Copy.calls (k : Nat) (a0_0 : Int) (A0_1 : Option Addr) (c0_1 : Nat) (l0_1 : List (S52)) (r1 : Int) (r2 : List (S52)) (w : World) (hr0_1 : Kd.C k52 w A0_1 l0_1.length l0_1) (hc0_1 : l0_1.length ≤ c0_1) (h : paraphrastref01_Copy.f k a0_0 l0_1 = some (r1, r2)) :
  Calls Tryz.prog 36 #[.agg #[.int .i64 a0_0, .slice A0_1 l0_1.length c0_1]] w fun e w' => ∃ v1_ : Value, e = .returned (.agg #[.int .i64 r1, v1_]) ∧ Kd.R k52 52 w' w.heap.size (fun _ => True) v1_ r2 ∧ Below w.heap.size w w' := by
 have hu24 := Tryz.underlying24
 have hu52 := Tryz.underlying52
 have HR0_1 := Aside0.mk hr0_1
 have HC0_1 := Aside0.mk hc0_1
 clear hr0_1 hc0_1
 have HB := Aside0.mk (Below.refl w.heap.size w)
 have H : (paraphrastref01_Copy.l0 k 0 a0_0 l0_1 a0_0 ([] : List (S52))) = some (r1, r2) := h
 clear h
 have H' := Aside0.mk H
 clear H
 go_enter Tryz.func36, Tryz.ntmps36
 go_wp2_with (first | ((with_reducible refine gate_dst (N := 1) rfl ?_); refine box_event ?hg (N := 1) ?hd (cs := #[.int .i64 a0_0, .slice A0_1 l0_1.length c0_1]) (t := 24) ?hr ?_; (case hd => rfl); (case hg => rfl); (case hr => first | (go_simp; done) | (go_simp; rfl)); intro gb385 hg w2 hbox hb; have BK385 := Aside0.mk (hbox); have GW385 := geB w hg; have GE385 := geB w hg; replace HB := Aside0.mk (below_step bel hb); clear hb hbox hg) | ((with_reducible refine gate_dst (N := 2) rfl ?_); refine box_event ?hg (N := 2) ?hd (cs := #[.int .i64 0, .slice none 0 0]) (t := 24) ?hr ?_; (case hd => rfl); (case hg => rfl); (case hr => first | (go_simp; done) | (go_simp; rfl)); intro gb386 hg w3 hbox hb; have BK386 := Aside0.mk (hbox); have GW386 := geB w hg; have GE386 := geB w hg; have NB385_386 := neL BK385 hg; have NB386_385 := neG BK385 hg; replace BK385 := blB BK385 hb; replace HB := Aside0.mk (below_step bel hb); clear hb hbox hg; have hnb4 := NB385_386.out; have hnc4 := NB386_385.out; obtain ⟨hcz5_0, hcz5_1, hfz5_0, hfz5_1⟩ := bq2 BK385) | ((with_reducible refine gate_dst (N := 3) rfl ?_); refine box_event ?hg (N := 3) ?hd (cs := #[.int .i64 0, .slice none 0 0]) (t := 24) ?hr ?_; (case hd => rfl); (case hg => rfl); (case hr => first | (go_simp; done) | (go_simp; rfl)); intro gb387 hg w6 hbox hb; have BK387 := Aside0.mk (hbox); have GW387 := geB w hg; have GE387 := geB w hg; have NB385_387 := neL BK385 hg; have NB387_385 := neG BK385 hg; have NB386_387 := neL BK386 hg; have NB387_386 := neG BK386 hg; replace BK385 := blB BK385 hb; replace BK386 := blB BK386 hb; replace HB := Aside0.mk (below_step bel hb); clear hb hbox hg; have hnb7 := NB387_385.out; have hnc7 := NB385_387.out; have hnb8 := NB387_386.out; have hnc8 := NB386_387.out; obtain ⟨hcz9_0, hcz9_1, hfz9_0, hfz9_1⟩ := bq2 BK387))
 go_loopg [4] k (fun kq v4 w' => ∃ (x4_1 : Int) (x388001_1 : List (S52)) (u388001 : Value), v4 = .int .i64 x4_1 ∧ Aside0 (paraphrastref01_Copy.l0 kq x4_1 a0_0 l0_1 a0_0 x388001_1 = some (r1, r2)) ∧ Aside0 (kq ≤ k) ∧ Aside0 (Kd.R k52 52 w' w.heap.size (fun _ => True) u388001 x388001_1) ∧ Aside0 (w'.heap[gb385]? = some (.cells #[.int .i64 a0_0, (.slice A0_1 l0_1.length c0_1)] 24 (0, 0))) ∧ Aside0 (w'.heap[gb386]? = some (.cells #[.int .i64 0, (.slice none 0 0)] 24 (0, 0))) ∧ Aside0 (w'.heap[gb387]? = some (.cells #[.int .i64 a0_0, u388001] 24 (0, 0))) ∧ Aside0 (Below w.heap.size w w'))
 case atStart => exact ⟨(0), (([] : List (S52))), (.slice none 0 0), eS, H', ⟨Nat.le_refl _⟩, ⟨by first | exact Kd.R_nil _ _ _ _ _ | exact Kd.N_nil _ _ _ _ _ | exact Kd.V_nil _ _ _ _ _ | exact Kd.Q_nil _ _ _ _ _ | exact Kd.S_nil _ _ _ _ _⟩, ⟨by (with_reducible repeat (first | refine blk_drewN ?_ _ | refine blk_drew ?_ | refine blk_alloc ?_ _)); refine blk_far ?_ NB385_387.out _; (with_reducible repeat (first | refine blk_drewN ?_ _ | refine blk_drew ?_ | refine blk_alloc ?_ _)); refine blk_far ?_ NB385_387.out _; (with_reducible repeat (first | refine blk_drewN ?_ _ | refine blk_drew ?_ | refine blk_alloc ?_ _)); exact BK385.out⟩, ⟨by (with_reducible repeat (first | refine blk_drewN ?_ _ | refine blk_drew ?_ | refine blk_alloc ?_ _)); refine blk_far ?_ NB386_387.out _; (with_reducible repeat (first | refine blk_drewN ?_ _ | refine blk_drew ?_ | refine blk_alloc ?_ _)); refine blk_far ?_ NB386_387.out _; (with_reducible repeat (first | refine blk_drewN ?_ _ | refine blk_drew ?_ | refine blk_alloc ?_ _)); exact BK386.out⟩, ⟨by (with_reducible repeat (first | refine blk_drewN ?_ _ | refine blk_drew ?_ | refine blk_alloc ?_ _)); refine blk_put (cs := #[.int .i64 a0_0, .slice none 0 0]) ?_ 1 _ rfl; (with_reducible repeat (first | refine blk_drewN ?_ _ | refine blk_drew ?_ | refine blk_alloc ?_ _)); refine blk_put (cs := #[.int .i64 0, .slice none 0 0]) ?_ 0 _ rfl; (with_reducible repeat (first | refine blk_drewN ?_ _ | refine blk_drew ?_ | refine blk_alloc ?_ _)); exact BK387.out⟩, ⟨bel⟩⟩
 case round =>
  clear H'
  (try clear hcz5_0); (try clear hcz5_1); (try clear hcz9_0); (try clear hcz9_1); (try clear hfz5_0); (try clear hfz5_1); (try clear hfz9_0); (try clear hfz9_1)
  obtain ⟨x4_1, x388001_1, u388001, rfl, HA, HK1, HO_388001, BK385, BK386, BK387, HB⟩ := hrel
  cases gk with
  | zero => exact absurd HA.out (by simp [paraphrastref01_Copy.l0])
  | succ k1 =>
   have H := HA.out
   clear HA
   simp only [paraphrastref01_Copy.l0] at H
   by_cases c10 : x4_1 < (l0_1.length : Int)
   ·rw [if_pos c10] at H
    have c10b0 : decide (x4_1 < (l0_1.length : Int)) = true := decide_eq_true c10
    clear c10
    by_cases c11 : 0 ≤ x4_1
    ·rw [if_pos c11] at H
     have c11b0 : decide (0 ≤ x4_1) = true := decide_eq_true c11
     clear c11
     replace H := Option.bind_eq_some_iff.mp H
     obtain ⟨t391, A120, H⟩ := H
     replace H : (if x388001_1.length < 2932031007402 then (paraphrastref01_Copy.l0 k1 (wrap64 (x4_1 + 1)) a0_0 l0_1 a0_0 (x388001_1 ++ [(⟨(rd_T52 l0_1 x4_1).f0, (rd_T52 l0_1 x4_1).f1, t391⟩ : S52)])) else (none)) = some (r1, r2) := H
     have A12 := Aside0.mk A120
     clear A120
     by_cases c13 : x388001_1.length < 2932031007402
     ·rw [if_pos c13] at H
      have LMc13 := Aside0.mk c13
      clear c13
      obtain ⟨y394, hy394⟩ : ∃ y_ : List (S52), y_ = (x388001_1 ++ [(⟨(rd_T52 l0_1 x4_1).f0, (rd_T52 l0_1 x4_1).f1, t391⟩ : S52)]) := ⟨_, rfl⟩
      replace H : (paraphrastref01_Copy.l0 k1 (wrap64 (x4_1 + 1)) a0_0 l0_1 a0_0 y394) = some (r1, r2) := by first | (rw [hy394]; with_reducible exact H) | (have H2_ := (Option.bind_some _ _).symm.trans H; rw [hy394]; with_reducible exact H2_) | (have H2_ := (Option.bind_some _ _).symm.trans H; with_reducible exact H2_) | with_reducible exact H | (rw [hy394]; exact H) | exact H
      have Ny394 := Aside0.mk hy394
      clear hy394
      have H' := Aside0.mk H
      clear H
      have hnb14 := NB385_386.out
      have hnc14 := NB386_385.out
      have hnb15 := NB385_387.out
      have hnc15 := NB387_385.out
      obtain ⟨hcz16_0, hcz16_1, hfz16_0, hfz16_1⟩ := bq2 BK385
      try go_wp2
      replace HO_388001 := Aside0.mk (Kd.R_drew HO_388001.out)
      replace BK385 := Aside0.mk (blk_drew BK385.out)
      replace BK386 := Aside0.mk (blk_drew BK386.out)
      replace BK387 := Aside0.mk (blk_drew BK387.out)
      replace HB := Aside0.mk (below_drew1 HB.out)
      have p388 : 0 ≤ (x4_1 : Int) := dtr
      have q388 : x4_1 < (l0_1.length : Int) := dtr
      obtain ⟨ad388, A388_2, c388_2, e388, hx388_0, hx388_1, hx388_2, hl388_2, hi388_2⟩ := at_T52 HR0_1.out x4_1 p388 q388
      have hw388_2 := hx388_2
      have hw388_1 := hx388_1
      have hw388_0 := hx388_0
      cases e388
      replace hx388_0 := oc hx388_0
      replace hx388_1 := oc hx388_1
      replace hx388_2 := oc hx388_2
      have HR388_2 := Aside0.mk hi388_2
      have HC388_2 := Aside0.mk hl388_2
      clear hi388_2 hl388_2
      replace p388 := eq_true p388
      replace q388 := eq_true q388
      have p389 : 0 ≤ (x4_1 : Int) := dtr
      have q389 : x4_1 < (l0_1.length : Int) := dtr
      obtain ⟨ad389, A389_2, c389_2, e389, hx389_0, hx389_1, hx389_2, hl389_2, hi389_2⟩ := at_T52 HR0_1.out x4_1 p389 q389
      have hw389_2 := hx389_2
      have hw389_1 := hx389_1
      have hw389_0 := hx389_0
      obtain rfl : ad388 = ad389 := (by injection e389)
      replace hx389_0 := oc hx389_0
      replace hx389_1 := oc hx389_1
      replace hx389_2 := oc hx389_2
      have HR389_2 := Aside0.mk hi389_2
      have HC389_2 := Aside0.mk hl389_2
      clear hi389_2 hl389_2
      replace p389 := eq_true p389
      replace q389 := eq_true q389
      have ea_ := Option.some.inj (hx388_2.symm.trans hx389_2)
      injection ea_ with ea_ en_ ec_
      subst ea_
      subst ec_
      clear en_
      have p390 : 0 ≤ (x4_1 : Int) := dtr
      have q390 : x4_1 < (l0_1.length : Int) := dtr
      obtain ⟨ad390, A390_2, c390_2, e390, hx390_0, hx390_1, hx390_2, hl390_2, hi390_2⟩ := at_T52 HR0_1.out x4_1 p390 q390
      have hw390_2 := hx390_2
      have hw390_1 := hx390_1
      have hw390_0 := hx390_0
      obtain rfl : ad388 = ad390 := (by injection e390)
      replace hx390_0 := oc hx390_0
      replace hx390_1 := oc hx390_1
      replace hx390_2 := oc hx390_2
      have HR390_2 := Aside0.mk hi390_2
      have HC390_2 := Aside0.mk hl390_2
      clear hi390_2 hl390_2
      replace p390 := eq_true p390
      replace q390 := eq_true q390
      have ea_ := Option.some.inj (hx388_2.symm.trans hx390_2)
      injection ea_ with ea_ en_ ec_
      subst ea_
      subst ec_
      clear en_
      refine start_ (n := 26) (S := fun w' => w'.cell? ⟨gb387, 0, none⟩ = some (.int .i64 a0_0) ∧ w'.cell? ⟨gb387, 1, none⟩ = some (u388001) ∧ w'.cell? ⟨gb385, 0, none⟩ = some (.int .i64 a0_0) ∧ w'.cell? ⟨gb385, 1, none⟩ = some (.slice (some ad388) l0_1.length c0_1) ∧ w'.cell? (ad388.add ((x4_1).toNat * 3)) = some (.string ((rd_T52 l0_1 x4_1).f0)) ∧ w'.cell? ⟨(ad388.add ((x4_1).toNat * 3)).block, (ad388.add ((x4_1).toNat * 3)).off + 1, none⟩ = some (.int .i64 ((rd_T52 l0_1 x4_1).f1)) ∧ w'.cell? ⟨(ad388.add ((x4_1).toNat * 3)).block, (ad388.add ((x4_1).toNat * 3)).off + 2, none⟩ = some (.slice A388_2 ((rd_T52 l0_1 x4_1).f2).length c388_2) ∧ w'.cell? (ad388.add ((x4_1).toNat * 3)) = some (.string ((rd_T52 l0_1 x4_1).f0)) ∧ w'.cell? ⟨(ad388.add ((x4_1).toNat * 3)).block, (ad388.add ((x4_1).toNat * 3)).off + 1, none⟩ = some (.int .i64 ((rd_T52 l0_1 x4_1).f1)) ∧ w'.cell? ⟨(ad388.add ((x4_1).toNat * 3)).block, (ad388.add ((x4_1).toNat * 3)).off + 2, none⟩ = some (.slice A388_2 ((rd_T52 l0_1 x4_1).f2).length c388_2) ∧ w'.cell? (ad388.add ((x4_1).toNat * 3)) = some (.string ((rd_T52 l0_1 x4_1).f0)) ∧ w'.cell? ⟨(ad388.add ((x4_1).toNat * 3)).block, (ad388.add ((x4_1).toNat * 3)).off + 1, none⟩ = some (.int .i64 ((rd_T52 l0_1 x4_1).f1)) ∧ w'.cell? ⟨(ad388.add ((x4_1).toNat * 3)).block, (ad388.add ((x4_1).toNat * 3)).off + 2, none⟩ = some (.slice A388_2 ((rd_T52 l0_1 x4_1).f2).length c388_2)) (ds := [25]) #[false, false, false, false, false, false, false, false, false, false, false, false, false, false, false, false, false, false, false, false, false, false, false, false, false, false] (by kernel_rfl) rfl rfl ⟨(blk_cell BK387.out 0).trans rfl, (blk_cell BK387.out 1).trans rfl, (blk_cell BK385.out 0).trans rfl, (blk_cell BK385.out 1).trans rfl, (oc hw388_0), (oc hw388_1), (oc hw388_2), (oc hw389_0), (oc hw389_1), (oc hw389_2), (oc hw390_0), (oc hw390_1), (oc hw390_2)⟩ (fun hHeld => ?_); refine with_tabW paraphrastref01_Copy.tab5 paraphrastref01_Copy.bits5 (fun HT_ HW_ => ?_)
      generalize wr.drew = w17 at HO_388001 BK385 BK386 BK387 HB HR388_2 HR389_2 HR390_2 hx388_0 hx388_1 hx388_2 hx389_0 hx389_1 hx389_2 hx390_0 hx390_1 hx390_2 hHeld ⊢
      refine sPu 0 (some 15) ?_
      refine sPu 2 (some 17) ?_
      refine sPu 4 (some 19) ?_
      refine sPu 8 (some 23) ?_
      refine sPu 10 (some 25) ?_
      refine sPu 14 (some 29) ?_
      refine sPu 16 (some 31) ?_
      refine sTk 1 (some 16) ?_
      refine sTk 3 (some 18) ?_
      refine sPu 5 (some 20) ?_
      refine sPu 6 (some 21) ?_
      refine sTk 7 (some 22) ?_
      refine sTk 9 (some 24) ?_
      refine sPu 11 (some 26) ?_
      refine sPu 12 (some 27) ?_
      refine sTk 13 (some 28) ?_
      refine sTk 15 (some 30) ?_
      refine sPu 17 (some 32) ?_
      refine sPu 18 (some 33) ?_
      refine sTk 19 (some 34) ?_
      refine sOn 20 (some 35) (fun K hK => ?_)
      refine goes_ Tryz.func53 (by kernel_rfl) rfl #[.slice A388_2 ((rd_T52 l0_1 x4_1).f2).length c388_2] (by rfl) rfl rfl (by (try simp only [List.map_toArray, List.map_cons, List.map_nil]); first | done | rfl | (simp only [List.length_drop, List.length_take]; rfl)) ?_
      with_reducible refine (paraphrastref01_copied.calls k1 _ _ ((rd_T52 l0_1 x4_1).f2) t391 _ ?side1 ?side2 A12.out).mono ?_
      (case side1 => exact cS (Kd.C_below HR390_2.out HB.out))
      (case side2 => exact HC390_2.out)
      rintro e w18 ⟨v392, rfl, ho0, hb⟩
      refine ⟨_, rfl, ?_⟩
      have HO393 := Aside0.mk (Kd.S_lower ho0 (below_size bel))
      replace HO_388001 := rE HO_388001 (Kd.S_base ho0) hb
      replace BK385 := blB BK385 hb
      replace BK386 := blB BK386 hb
      replace BK387 := blB BK387 hb
      replace HB := Aside0.mk (below_step bel hb)
      (try clear hb)
      (try clear hb2)
      (try clear hk)
      (try clear hi)
      (try clear ho0)
      obtain ⟨Ao19, co19, eo19⟩ := Kd.S_slice HO393.out
      (first | subst eo19 | (injection eo19 with f1_ f2_ f3_; have f4_ := f1_.symm; have f5_ := f3_.symm; clear f1_ f2_ f3_; subst f4_; subst f5_))
      refine hK.out _ _ ⟨(blk_cell BK387.out 0).trans rfl, (blk_cell BK387.out 1).trans rfl, (blk_cell BK385.out 0).trans rfl, (blk_cell BK385.out 1).trans rfl, (oc hw388_0), (oc hw388_1), (oc hw388_2), (oc hw389_0), (oc hw389_1), (oc hw389_2), (oc hw390_0), (oc hw390_1), (oc hw390_2)⟩ (fun hHeld => ?_)
      clear hK K
      refine norm_ (a' := ?_) ?_ ?_
      rotate_left
      ·show Act.put _ (some 35) _ = _
       simp only [Act.put, List.setIfInBounds_toArray, List.set_cons_zero, List.set_cons_succ, i64_w, i32_w]
       rfl
      refine sPu 21 (some 36) ?_
      refine sOn 22 (some 37) (fun K hK => ?_)
      refine value_ (w1 := ?_) (v := ?_) (by rfl) rfl ?_ ?_
      rotate_left 2
      ·go_simp
       constructor
       ·rfl
       ·rfl
      refine hK.out _ _ ⟨(blk_cell (blk_alloc BK387.out _) 0).trans rfl, (blk_cell (blk_alloc BK387.out _) 1).trans rfl, (blk_cell (blk_alloc BK385.out _) 0).trans rfl, (blk_cell (blk_alloc BK385.out _) 1).trans rfl, (World.cell?_alloc_lt _ _ _ (World.block_lt_of_cell? _ _ ((oc hw388_0)))).trans ((oc hw388_0)), (World.cell?_alloc_lt _ _ _ (World.block_lt_of_cell? _ _ ((oc hw388_1)))).trans ((oc hw388_1)), (World.cell?_alloc_lt _ _ _ (World.block_lt_of_cell? _ _ ((oc hw388_2)))).trans ((oc hw388_2)), (World.cell?_alloc_lt _ _ _ (World.block_lt_of_cell? _ _ ((oc hw389_0)))).trans ((oc hw389_0)), (World.cell?_alloc_lt _ _ _ (World.block_lt_of_cell? _ _ ((oc hw389_1)))).trans ((oc hw389_1)), (World.cell?_alloc_lt _ _ _ (World.block_lt_of_cell? _ _ ((oc hw389_2)))).trans ((oc hw389_2)), (World.cell?_alloc_lt _ _ _ (World.block_lt_of_cell? _ _ ((oc hw390_0)))).trans ((oc hw390_0)), (World.cell?_alloc_lt _ _ _ (World.block_lt_of_cell? _ _ ((oc hw390_1)))).trans ((oc hw390_1)), (World.cell?_alloc_lt _ _ _ (World.block_lt_of_cell? _ _ ((oc hw390_2)))).trans ((oc hw390_2))⟩ (fun hHeld => ?_)
      clear hK K
      refine norm_ (a' := ?_) ?_ ?_
      rotate_left
      ·show Act.put _ (some 37) _ = _
       simp only [Act.put, List.setIfInBounds_toArray, List.set_cons_zero, List.set_cons_succ, i64_w, i32_w]
       rfl
      refine sOn 23 (some 38) (fun K hK => ?_)
      refine Kd.R_append_step k52 (w0 := w) w.heap.size (by rfl) (.tmp 16) (.tmp 37) 22 52 (.agg #[(.string ⟨#[]⟩), (.int .i64 0), (.slice none 0 0)]) 48 rfl Tryz.underlying22 info52 rfl (by decide) (by omega) u388001 x388001_1 (⟨(rd_T52 l0_1 x4_1).f0, (rd_T52 l0_1 x4_1).f1, t391⟩ : S52) [.string ((rd_T52 l0_1 x4_1).f0), .int .i64 ((rd_T52 l0_1 x4_1).f1), .slice Ao19 t391.length co19] (fun _ => True) (fun k_ => ((fun _ => True)) k_ ∧ some k_ ≠ (u388001 : Value).ownBlock) rfl rfl ?aP (fun _ hk => hk) ?aF ?aO ?aB ?aS ?aL ?_
      (case aP => exact k52_mkM _ _ _ (⟨(rd_T52 l0_1 x4_1).f0, (rd_T52 l0_1 x4_1).f1, t391⟩ : S52) (Kd.R_mono (Kd.R_apart' ((Kd.S_R HO393.out)) (Kd.R_typed HO_388001.out) (by decide)) (fun k_ hk => ⟨trivial, hk.2⟩)))
      (case aB => exact bel)
      (case aF => exact (fun _ _ => trivial))
      (case aO => exact (by (with_reducible repeat (first | apply Kd.R_alloc | apply Kd.R_drewN | apply Kd.R_drew)); exact Kd.R_mono HO_388001.out (fun _ hk => trivial)))
      (case aS => exact (below_size bel))
      (case aL => have := LMc13.out; omega)
      intro v395 w20 ho hb hg hat
      rw [← Ny394.out] at ho
      have HO396 := Aside0.mk (ho)
      replace BK385 := Aside0.mk (blk_grown (g := gb385) (o := .cells #[.int .i64 a0_0, .slice (some ad388) l0_1.length c0_1] 24 (0, 0)) (bk BK385) hg (Kd.R_ne HO_388001.out BK385.out (by decide)))
      replace BK386 := Aside0.mk (blk_grown (g := gb386) (o := .cells #[.int .i64 0, .slice none 0 0] 24 (0, 0)) (bk BK386) hg (Kd.R_ne HO_388001.out BK386.out (by decide)))
      replace BK387 := Aside0.mk (blk_grown (g := gb387) (o := .cells #[.int .i64 a0_0, u388001] 24 (0, 0)) (bk BK387) hg (Kd.R_ne HO_388001.out BK387.out (by decide)))
      replace HB := Aside0.mk (hb)
      clear HO_388001 HO393
      clear ho hb hg hat
      obtain ⟨Ao21, co21, eo21⟩ := Kd.R_slice HO396.out
      (first | subst eo21 | (injection eo21 with f1_ f2_ f3_; have f4_ := f1_.symm; have f5_ := f3_.symm; clear f1_ f2_ f3_; subst f4_; subst f5_))
      refine hK.out _ _ ⟨(blk_cell BK387.out 0).trans rfl, (blk_cell BK387.out 1).trans rfl, (blk_cell BK385.out 0).trans rfl, (blk_cell BK385.out 1).trans rfl, (oc hw388_0), (oc hw388_1), (oc hw388_2), (oc hw389_0), (oc hw389_1), (oc hw389_2), (oc hw390_0), (oc hw390_1), (oc hw390_2)⟩ (fun hHeld => ?_)
      clear hK K
      refine norm_ (a' := ?_) ?_ ?_
      rotate_left
      ·show Act.put _ (some 38) _ = _
       simp only [Act.put, List.setIfInBounds_toArray, List.set_cons_zero, List.set_cons_succ, i64_w, i32_w]
       rfl
      refine sPu 24 (some 39) ?_
      refine last_ (i := 25) (N := none) #[true, true, true, true, true, true, true, true, true, true, true, true, true, true, true, true, true, true, true, true, true, true, true, true, true, true] rfl rfl (one_of HT_.out (by kernel_rfl)) (by decide) (fun K hK => ?_)
      have hs22 : w20.cell? ⟨gb387, 1, none⟩ = some (u388001) := (blk_cell BK387.out 1).trans rfl
      have hfs22 := blk_frozen BK387.out 1
      have hns22_0 := NB385_387.out
      have hns22_1 := NB386_387.out
      have hms22_0 := NB387_385.out
      have hms22_1 := NB387_386.out
      refine skip_ (w1 := ?_) (by rfl) rfl ?_ ?_
      rotate_left
      ·go_simp
       rfl
      refine hK.out _ _ ?_
      clear hK K
      refine done_ (done_of HT_.out (by kernel_rfl)) ?_
      try go_wp2
      go_roundg k1
      case measure => have := HK1.out; omega
      case rel => exact ⟨(wrap64 (x4_1 + 1)), (y394), (.slice Ao21 y394.length co21), eS, H', ⟨by have := HK1.out; omega⟩, ⟨by (with_reducible repeat (first | apply Kd.R_alloc | apply Kd.R_drewN | apply Kd.R_drew)); exact Kd.R_mono (Kd.R_far (p := ⟨gb387, 1, none⟩) (Kd.R_types HO396.out BK387.out (by decide)) (fun _ hk => hk.2) (.slice Ao21 y394.length co21)) (fun _ hk => trivial)⟩, ⟨by (with_reducible repeat (first | refine blk_drewN ?_ _ | refine blk_drew ?_ | refine blk_alloc ?_ _)); refine blk_far ?_ NB385_387.out _; (with_reducible repeat (first | refine blk_drewN ?_ _ | refine blk_drew ?_ | refine blk_alloc ?_ _)); exact BK385.out⟩, ⟨by (with_reducible repeat (first | refine blk_drewN ?_ _ | refine blk_drew ?_ | refine blk_alloc ?_ _)); refine blk_far ?_ NB386_387.out _; (with_reducible repeat (first | refine blk_drewN ?_ _ | refine blk_drew ?_ | refine blk_alloc ?_ _)); exact BK386.out⟩, ⟨by (with_reducible repeat (first | refine blk_drewN ?_ _ | refine blk_drew ?_ | refine blk_alloc ?_ _)); refine blk_put (cs := #[.int .i64 a0_0, u388001]) ?_ 1 _ rfl; (with_reducible repeat (first | refine blk_drewN ?_ _ | refine blk_drew ?_ | refine blk_alloc ?_ _)); exact BK387.out⟩, ⟨bel⟩⟩
     ·rw [if_neg c13] at H
      exact absurd H (by simp)
    ·rw [if_neg c11] at H
     exact absurd H (by simp)
   ·rw [if_neg c10] at H
    have c10b0 : decide (x4_1 < (l0_1.length : Int)) = false := decide_eq_false c10
    clear c10
    simp only [Option.some.injEq, Prod.mk.injEq] at H
    obtain ⟨rfl, rfl⟩ := H
    have hnb23 := NB385_386.out
    have hnc23 := NB386_385.out
    have hnb24 := NB385_387.out
    have hnc24 := NB387_385.out
    obtain ⟨hcz25_0, hcz25_1, hfz25_0, hfz25_1⟩ := bq2 BK385
    have hnb26 := NB387_386.out
    have hnc26 := NB386_387.out
    obtain ⟨hcz27_0, hcz27_1, hfz27_0, hfz27_1⟩ := bq2 BK387
    obtain ⟨hcz28_0, hcz28_1, hfz28_0, hfz28_1⟩ := bq2 BK386
    obtain ⟨Ao29, co29, eo29⟩ := Kd.R_slice HO_388001.out
    subst eo29
    go_wp2
    refine bodyPost_ret (results_cell_row rfl _ _ gb386 24 #[.int .i64 a0_0, .slice Ao29 x388001_1.length co29] (0, 0) _ rfl (by (with_reducible repeat (first | refine blk_drewN ?_ _ | refine blk_drew ?_ | refine blk_alloc ?_ _)); refine blk_put (cs := #[.int .i64 a0_0, .slice none 0 0]) ?_ 1 _ rfl; (with_reducible repeat (first | refine blk_drewN ?_ _ | refine blk_drew ?_ | refine blk_alloc ?_ _)); refine blk_put (cs := #[.int .i64 0, .slice none 0 0]) ?_ 0 _ rfl; (with_reducible repeat (first | refine blk_drewN ?_ _ | refine blk_drew ?_ | refine blk_alloc ?_ _)); exact BK386.out) Tryz.underlying24 rfl (by kernel_rfl)) rfl ?_
    exact ⟨_, eN, by (with_reducible repeat (first | apply Kd.R_alloc | apply Kd.R_drewN | apply Kd.R_drew)); exact Kd.R_mono (Kd.R_far (p := ⟨gb386, 1, none⟩) (Kd.R_far (p := ⟨gb386, 0, none⟩) (Kd.R_types HO_388001.out BK386.out (by decide)) (fun _ hk => hk.2) (.int .i64 a0_0)) (fun _ hk => hk.2) (.slice Ao29 x388001_1.length co29)) (fun _ hk => trivial), bel⟩
end Go.Proofs.YtfmpaofbnjlniaaGreatDoor.F
/- Find, Among, Copy and Put of the reference: what they answer. -/
namespace Go.Proofs.YtfmpaofbnjlniaaGreatDoor.F
open Go.RowKit Go.Proofs.YtfmpaofbnjlniaaGreatDoorW.PrintWords Go.Proofs.YtfmpaofbnjlniaaGreatDoorW.PrintLast Go.Proofs.YtfmpaofbnjlniaaGreatDoorW.PrintMore
set_option linter.unusedVariables false
theorem copied_from (ts : List (List Int)) (hn : ts.length ≤ 100000) (hl : ∀ a ∈ ts, a.length ≤ 1000) : ∀ (d i k : Nat), i + d = ts.length → d + 1 ≤ k → paraphrastref01_copied.l0 k ts (ts.take i) (i : Int) = some ts
  | 0, i, k + 1, h, hk => by
    unfold paraphrastref01_copied.l0
    rw [if_neg (by omega), List.take_of_length_le (by omega)]
  | d + 1, i, k + 1, h, hk => by
    have hi : i < ts.length := by omega
    have := hl _ (List.getElem_mem hi)
    unfold paraphrastref01_copied.l0
    rw [if_pos (by omega), Option.bind_some, if_pos (by omega), rdL2_nat ts i hi, if_pos (by simp only [List.length_nil]; omega), if_pos (by rw [List.length_take]; omega), List.nil_append, ← take_snoc' (List.getElem?_eq_getElem hi), w64 (by omega) (by omega), show (i : Int) + 1 = ((i + 1 : Nat) : Int) by omega]
    exact copied_from ts hn hl d (i + 1) k (by omega) (by omega)
theorem copied_eq (ts : List (List Int)) (hn : ts.length ≤ 100000) (hl : ∀ a ∈ ts, a.length ≤ 1000) (k : Nat) (hk : 100001 ≤ k) : paraphrastref01_copied.f k ts = some ts :=
  copied_from ts hn hl ts.length 0 k (by omega) (by omega)
theorem copy_from (n : Int) (l : List S52) (hn : l.length ≤ 1000) (hl : ∀ r ∈ l, r.f2.length ≤ 100000 ∧ ∀ a ∈ r.f2, a.length ≤ 1000) : ∀ (d i k : Nat), i + d = l.length → d + 100002 ≤ k → paraphrastref01_Copy.l0 k (i : Int) n l n (l.take i) = some (n, l)
  | 0, i, k + 1, h, hk => by
    unfold paraphrastref01_Copy.l0
    rw [if_neg (by omega), List.take_of_length_le (by omega)]
  | d + 1, i, k + 1, h, hk => by
    have hi : i < l.length := by omega
    obtain ⟨h1, h2⟩ := hl _ (List.getElem_mem hi)
    unfold paraphrastref01_Copy.l0
    rw [if_pos (by omega), if_pos (by omega), rdT_nat l i hi, copied_eq _ h1 h2 k (by omega), Option.bind_some, if_pos (by rw [List.length_take]; omega), show (⟨l[i].f0, l[i].f1, l[i].f2⟩ : S52) = l[i] from rfl, ← take_snoc' (List.getElem?_eq_getElem hi), w64 (by omega) (by omega), show (i : Int) + 1 = ((i + 1 : Nat) : Int) by omega]
    exact copy_from n l hn hl d (i + 1) k (by omega) (by omega)
theorem copy_eq (n : Int) (l : List S52) (hn : l.length ≤ 1000) (hl : ∀ r ∈ l, r.f2.length ≤ 100000 ∧ ∀ a ∈ r.f2, a.length ≤ 1000) (k : Nat) (hk : 102000 ≤ k) : paraphrastref01_Copy.f k n l = some (n, l) :=
  copy_from n l hn hl l.length 0 k (by omega) (by omega)
theorem copy_valid (n : Int) (l : List S52) (h : validB n l = true) (k : Nat) (hk : 102000 ≤ k) : paraphrastref01_Copy.f k n l = some (n, l) := by
  obtain ⟨h1, h2, h3, h4⟩ := valid_facts n l h
  refine copy_eq n l (by omega) (fun r hr => ?_) k hk
  obtain ⟨_, g1, g2, g3⟩ := h4 r hr
  exact ⟨by omega, fun t ht => by have := (g2 t ht).1; omega⟩
end Go.Proofs.YtfmpaofbnjlniaaGreatDoor.F
namespace Go.Proofs.YtfmpaofbnjlniaaGreatDoor.F
open Go.RowKit Go.Proofs.YtfmpaofbnjlniaaGreatDoorW.PrintWords Go.Proofs.YtfmpaofbnjlniaaGreatDoorW.PrintLast Go.Proofs.YtfmpaofbnjlniaaGreatDoorW.PrintMore
attribute [local go_sem] max2_int min2_int max_two min_two max_three min_three max_four min_four
set_option linter.unusedVariables false
set_option linter.unusedSimpArgs false
/-! ### paraphrastlaw01_is: function 16 -/
def paraphrastlaw01_is.f (k : Nat) (a0_0 : Int) (l0_1 : List (S52)) (a1 : Int) (a2_0 : Int) (l2_1 : List (S52)) (a3 : Int) : Option (Bool) := if a3 = 0 then (if a1 = 0 then ((paraphrastref01_Same.f k a0_0 l0_1 a2_0 l2_1).bind fun t265 => (some t265)) else (some false)) else (if a1 = a3 then ((paraphrastref01_Same.f k a0_0 l0_1 0 ([] : List (S52))).bind fun t266 => (some t266)) else (some false))
set_option maxHeartbeats 8000000 in
set_option maxRecDepth 100000 in
theorem paraphrastlaw01_is.calls (k : Nat) (a0_0 : Int) (A0_1 : Option Addr) (c0_1 : Nat) (l0_1 : List (S52)) (a1 : Int) (a2_0 : Int) (A2_1 : Option Addr) (c2_1 : Nat) (l2_1 : List (S52)) (a3 : Int) (r : Bool) (w : World) (hr0_1 : Kd.C k52 w A0_1 l0_1.length l0_1) (hc0_1 : l0_1.length ≤ c0_1) (hr2_1 : Kd.C k52 w A2_1 l2_1.length l2_1) (hc2_1 : l2_1.length ≤ c2_1) (h : paraphrastlaw01_is.f k a0_0 l0_1 a1 a2_0 l2_1 a3 = some r) :
  Calls Tryz.prog 16 #[.agg #[.int .i64 a0_0, .slice A0_1 l0_1.length c0_1], .int .i64 a1, .agg #[.int .i64 a2_0, .slice A2_1 l2_1.length c2_1], .int .i64 a3] w fun e w' => e = .returned (.bool r) ∧ Below w.heap.size w w' := by
 have hu24 := Tryz.underlying24
 have HR0_1 := Aside0.mk hr0_1
 have HC0_1 := Aside0.mk hc0_1
 clear hr0_1 hc0_1
 have HR2_1 := Aside0.mk hr2_1
 have HC2_1 := Aside0.mk hc2_1
 clear hr2_1 hc2_1
 have HB := Aside0.mk (Below.refl w.heap.size w)
 have H : (if a3 = 0 then (if a1 = 0 then ((paraphrastref01_Same.f k a0_0 l0_1 a2_0 l2_1).bind fun t265 => (some t265)) else (some false)) else (if a1 = a3 then ((paraphrastref01_Same.f k a0_0 l0_1 0 ([] : List (S52))).bind fun t266 => (some t266)) else (some false))) = some r := h
 clear h
 by_cases c5 : a3 = 0
 ·rw [if_pos c5] at H
  have c5b0 : (a3 == 0) = true := beq_iff_eq.mpr c5
  have c5b1 : (a3 != 0) = false := bne_eq_false_iff_eq.mpr c5
  clear c5
  by_cases c6 : a1 = 0
  ·rw [if_pos c6] at H
   have c6b0 : (a1 == 0) = true := beq_iff_eq.mpr c6
   have c6b1 : (a1 != 0) = false := bne_eq_false_iff_eq.mpr c6
   clear c6
   replace H := Option.bind_eq_some_iff.mp H
   obtain ⟨t265, A70, H⟩ := H
   replace H : (some t265) = some r := H
   have A7 := Aside0.mk A70
   clear A70
   obtain rfl := Option.some.inj H
   go_enter Tryz.func16, Tryz.ntmps16
   go_wp2_with (first | ((with_reducible refine gate_dst (N := 4) rfl ?_); refine box_event ?hg (N := 4) ?hd (cs := #[.int .i64 a0_0, .slice A0_1 l0_1.length c0_1]) (t := 24) ?hr ?_; (case hd => rfl); (case hg => rfl); (case hr => first | (go_simp; done) | (go_simp; rfl)); intro gb263 hg w8 hbox hb; have BK263 := Aside0.mk (hbox); have GW263 := geB w hg; have GE263 := geB w hg; replace HB := Aside0.mk (below_step bel hb); clear hb hbox hg) | ((with_reducible refine gate_dst (N := 6) rfl ?_); refine box_event ?hg (N := 6) ?hd (cs := #[.int .i64 a2_0, .slice A2_1 l2_1.length c2_1]) (t := 24) ?hr ?_; (case hd => rfl); (case hg => rfl); (case hr => first | (go_simp; done) | (go_simp; rfl)); intro gb264 hg w9 hbox hb; have BK264 := Aside0.mk (hbox); have GW264 := geB w hg; have GE264 := geB w hg; have NB263_264 := neL BK263 hg; have NB264_263 := neG BK263 hg; replace BK263 := blB BK263 hb; replace HB := Aside0.mk (below_step bel hb); clear hb hbox hg; have hnb10 := NB263_264.out; have hnc10 := NB264_263.out; obtain ⟨hcz11_0, hcz11_1, hfz11_0, hfz11_1⟩ := bq2 BK263; obtain ⟨hcz12_0, hcz12_1, hfz12_0, hfz12_1⟩ := bq2 BK264) | (go_at_call 34; (with_reducible refine (paraphrastref01_Same.calls k a0_0 _ _ l0_1 a2_0 _ _ l2_1 t265 _ ?side1 ?side2 ?side3 ?side4 A7.out).mono ?_); (case side1 => exact cS (Kd.C_below HR0_1.out HB.out)); (case side2 => exact HC0_1.out); (case side3 => exact cS (Kd.C_below HR2_1.out HB.out)); (case side4 => exact HC2_1.out); rintro e w13 ⟨rfl, hb⟩; replace BK263 := blB BK263 hb; replace BK264 := blB BK264 hb; replace HB := Aside0.mk (below_step bel hb); (try clear hb); (try clear hb2); (try clear hk); (try clear hi)))
   go_ret
   exact ⟨eN, bel⟩
  ·rw [if_neg c6] at H
   have c6b0 : (a1 == 0) = false := beq_eq_false_iff_ne.mpr c6
   have c6b1 : (a1 != 0) = true := bne_iff_ne.mpr c6
   obtain rfl := Option.some.inj H
   go_enter Tryz.func16, Tryz.ntmps16
   go_wp2_with (first | ((with_reducible refine gate_dst (N := 4) rfl ?_); refine box_event ?hg (N := 4) ?hd (cs := #[.int .i64 a0_0, .slice A0_1 l0_1.length c0_1]) (t := 24) ?hr ?_; (case hd => rfl); (case hg => rfl); (case hr => first | (go_simp; done) | (go_simp; rfl)); intro gb263 hg w14 hbox hb; have BK263 := Aside0.mk (hbox); have GW263 := geB w hg; have GE263 := geB w hg; replace HB := Aside0.mk (below_step bel hb); clear hb hbox hg) | ((with_reducible refine gate_dst (N := 6) rfl ?_); refine box_event ?hg (N := 6) ?hd (cs := #[.int .i64 a2_0, .slice A2_1 l2_1.length c2_1]) (t := 24) ?hr ?_; (case hd => rfl); (case hg => rfl); (case hr => first | (go_simp; done) | (go_simp; rfl)); intro gb264 hg w15 hbox hb; have BK264 := Aside0.mk (hbox); have GW264 := geB w hg; have GE264 := geB w hg; have NB263_264 := neL BK263 hg; have NB264_263 := neG BK263 hg; replace BK263 := blB BK263 hb; replace HB := Aside0.mk (below_step bel hb); clear hb hbox hg))
   go_ret
   exact ⟨eN, bel⟩
 ·rw [if_neg c5] at H
  have c5b0 : (a3 == 0) = false := beq_eq_false_iff_ne.mpr c5
  have c5b1 : (a3 != 0) = true := bne_iff_ne.mpr c5
  by_cases c16 : a1 = a3
  ·rw [if_pos c16] at H
   have c16b0 : (a1 == a3) = true := beq_iff_eq.mpr c16
   have c16b1 : (a1 != a3) = false := bne_eq_false_iff_eq.mpr c16
   clear c16
   replace H := Option.bind_eq_some_iff.mp H
   obtain ⟨t266, A170, H⟩ := H
   replace H : (some t266) = some r := H
   have A17 := Aside0.mk A170
   clear A170
   obtain rfl := Option.some.inj H
   go_enter Tryz.func16, Tryz.ntmps16
   go_wp2_with (first | ((with_reducible refine gate_dst (N := 4) rfl ?_); refine box_event ?hg (N := 4) ?hd (cs := #[.int .i64 a0_0, .slice A0_1 l0_1.length c0_1]) (t := 24) ?hr ?_; (case hd => rfl); (case hg => rfl); (case hr => first | (go_simp; done) | (go_simp; rfl)); intro gb263 hg w18 hbox hb; have BK263 := Aside0.mk (hbox); have GW263 := geB w hg; have GE263 := geB w hg; replace HB := Aside0.mk (below_step bel hb); clear hb hbox hg) | ((with_reducible refine gate_dst (N := 6) rfl ?_); refine box_event ?hg (N := 6) ?hd (cs := #[.int .i64 a2_0, .slice A2_1 l2_1.length c2_1]) (t := 24) ?hr ?_; (case hd => rfl); (case hg => rfl); (case hr => first | (go_simp; done) | (go_simp; rfl)); intro gb264 hg w19 hbox hb; have BK264 := Aside0.mk (hbox); have GW264 := geB w hg; have GE264 := geB w hg; have NB263_264 := neL BK263 hg; have NB264_263 := neG BK263 hg; replace BK263 := blB BK263 hb; replace HB := Aside0.mk (below_step bel hb); clear hb hbox hg; have hnb20 := NB263_264.out; have hnc20 := NB264_263.out; obtain ⟨hcz21_0, hcz21_1, hfz21_0, hfz21_1⟩ := bq2 BK263) | (go_at_call 34; (refine (paraphrastref01_Same.calls k a0_0 _ _ l0_1 0 _ _ ([] : List (S52)) t266 _ ?side1 ?side2 ?side3 ?side4 A17.out).mono ?_); (case side1 => exact cS (Kd.C_below HR0_1.out HB.out)); (case side2 => exact HC0_1.out); (case side3 => exact Kd.C_nil _ _); (case side4 => exact Nat.le_refl _); rintro e w22 ⟨rfl, hb⟩; replace BK263 := blB BK263 hb; replace BK264 := blB BK264 hb; replace HB := Aside0.mk (below_step bel hb); (try clear hb); (try clear hb2); (try clear hk); (try clear hi)))
   go_ret
   exact ⟨eN, bel⟩
  ·rw [if_neg c16] at H
   have c16b0 : (a1 == a3) = false := beq_eq_false_iff_ne.mpr c16
   have c16b1 : (a1 != a3) = true := bne_iff_ne.mpr c16
   obtain rfl := Option.some.inj H
   go_enter Tryz.func16, Tryz.ntmps16
   go_wp2_with (first | ((with_reducible refine gate_dst (N := 4) rfl ?_); refine box_event ?hg (N := 4) ?hd (cs := #[.int .i64 a0_0, .slice A0_1 l0_1.length c0_1]) (t := 24) ?hr ?_; (case hd => rfl); (case hg => rfl); (case hr => first | (go_simp; done) | (go_simp; rfl)); intro gb263 hg w23 hbox hb; have BK263 := Aside0.mk (hbox); have GW263 := geB w hg; have GE263 := geB w hg; replace HB := Aside0.mk (below_step bel hb); clear hb hbox hg) | ((with_reducible refine gate_dst (N := 6) rfl ?_); refine box_event ?hg (N := 6) ?hd (cs := #[.int .i64 a2_0, .slice A2_1 l2_1.length c2_1]) (t := 24) ?hr ?_; (case hd => rfl); (case hg => rfl); (case hr => first | (go_simp; done) | (go_simp; rfl)); intro gb264 hg w24 hbox hb; have BK264 := Aside0.mk (hbox); have GW264 := geB w hg; have GE264 := geB w hg; have NB263_264 := neL BK263 hg; have NB264_263 := neG BK263 hg; replace BK263 := blB BK263 hb; replace HB := Aside0.mk (below_step bel hb); clear hb hbox hg))
   go_ret
   exact ⟨eN, bel⟩
end Go.Proofs.YtfmpaofbnjlniaaGreatDoor.F
/- ShapePuts, the plain law. -/
namespace Go.Proofs.YtfmpaofbnjlniaaGreatDoor.F
open Go.RowKit Go.Proofs.YtfmpaofbnjlniaaGreatDoorW.PrintWords Go.Proofs.YtfmpaofbnjlniaaGreatDoorW.PrintLast Go.Proofs.YtfmpaofbnjlniaaGreatDoorW.PrintMore
set_option linter.unusedVariables false
theorem same_empty (k : Nat) (hk : 102300 ≤ k) : paraphrastref01_Same.f k 0 [] 0 [] = some true := same_refl 0 [] (by simp) (fun r hr => by cases hr) k hk
end Go.Proofs.YtfmpaofbnjlniaaGreatDoor.F
/- shape.Keep, by hand. -/
namespace Go.Proofs.YtfmpaofbnjlniaaGreatDoor.F
open Go.RowKit Go.Maps Go.WideMaps Go.Proofs.YtfmpaofbnjlniaaGreatDoorW.PrintWords Go.Proofs.YtfmpaofbnjlniaaGreatDoorW.PrintLast Go.Proofs.YtfmpaofbnjlniaaGreatDoorW.PrintMore
set_option linter.unusedVariables false
set_option linter.unusedSimpArgs false
def keepOk (sy : List S96) : Prop := sy.length ≤ 1000 ∧ ∀ x ∈ sy, x.f0.size ≤ 1000
instance (sy : List S96) : Decidable (keepOk sy) := by unfold keepOk; infer_instance
end Go.Proofs.YtfmpaofbnjlniaaGreatDoor.F
/- shape.Copy, by hand: the copy's relations lie apart from each other, and so do the tuples of each. -/
namespace Go.Proofs.YtfmpaofbnjlniaaGreatDoor.F
open Go.RowKit Go.Proofs.YtfmpaofbnjlniaaGreatDoorW.PrintWords Go.Proofs.YtfmpaofbnjlniaaGreatDoorW.PrintLast Go.Proofs.YtfmpaofbnjlniaaGreatDoorW.PrintMore
set_option linter.unusedVariables false
set_option linter.unusedSimpArgs false
/-- A slice whose elements lie apart. -/
def sliceS {α : Type} (e : Nat) (d : Kd α) : Kd (List α) where
  sz := 1
  E := e :: d.E
  K := fun w xs cs => ∃ A c, cs = [.slice A xs.length c] ∧ xs.length ≤ c ∧ d.C w A xs.length xs
  M := fun w base ok xs cs => ∃ v, cs = [v] ∧ Kd.S d e w base ok v xs
  K_len := by
    rintro w x cs ⟨A, c, rfl, _⟩
    rfl
  K_one := by
    rintro w x cs ⟨A, c, rfl, _⟩ u hu
    rw [List.mem_singleton.1 hu]
    rfl
  K_below := by
    rintro w w1 x cs hb ⟨A, c, rfl, hl, hr⟩
    exact ⟨A, c, rfl, hl, Kd.C_below hr hb⟩
  K_of_M := by
    rintro w base ok x cs ⟨v, rfl, h⟩
    obtain ⟨A, c, rfl, hl, hr⟩ := Kd.S_reads h
    exact ⟨A, c, rfl, hl, hr⟩
  M_mono := by
    rintro w base ok ok' x cs hok ⟨v, rfl, h⟩
    exact ⟨v, rfl, Kd.S_mono h hok⟩
  M_bound := by
    rintro w base ok x cs ⟨v, rfl, h⟩
    exact ⟨v, rfl, Kd.S_bound h⟩
  M_move := by
    rintro w w1 base ok x cs hm ⟨v, rfl, h⟩
    exact ⟨v, rfl, Kd.S_move h hm⟩
  M_lower := by
    rintro w base base' ok x cs hb ⟨v, rfl, h⟩
    exact ⟨v, rfl, Kd.S_lower h hb⟩
def kP : Kd S52 := Kd.iso (Kd.pair Kd.string (Kd.pair (Kd.int .i64) (sliceS 46 (Kd.slice 3 (Kd.int .i64))))) (fun x : S52 => (x.f0, x.f1, x.f2))
theorem kP_openM {w : World} {base : Nat} {ok : Nat → Prop} {x : S52} {cs : List Value} (h : kP.M w base ok x cs) : ∃ v2, cs = [.string x.f0, .int .i64 x.f1, v2] ∧ Kd.S (Kd.slice 3 (Kd.int .i64)) 46 w base ok v2 x.f2 := by
  obtain ⟨_, _, rfl, rfl, ⟨_, _, rfl, rfl, ⟨v2, rfl, g2⟩⟩⟩ := h
  exact ⟨v2, rfl, g2⟩
theorem kP_mkM (w : World) (base : Nat) (ok : Nat → Prop) (x : S52) {v2 : Value} (g2 : Kd.S (Kd.slice 3 (Kd.int .i64)) 46 w base ok v2 x.f2) : kP.M w base ok x [.string x.f0, .int .i64 x.f1, v2] := ⟨[.string x.f0], [.int .i64 x.f1, v2], rfl, rfl, ⟨[.int .i64 x.f1], [v2], rfl, rfl, ⟨v2, rfl, g2⟩⟩⟩
set_option maxHeartbeats 4000000 in
set_option maxRecDepth 100000 in
theorem copy2_calls (n : Int) (A : Option Addr) (c : Nat) (l : List S52) (w : World) (hC : Kd.C k52 w A l.length l) (hlc : l.length ≤ c) (hok : copyOk l) :
    Calls Tryz.prog 54 #[.agg #[.int .i64 n, .slice A l.length c]] w fun e w' => ∃ v, e = .returned (.agg #[.int .i64 n, v]) ∧ Kd.S kP 52 w' w.heap.size (fun _ => True) v l ∧ Below w.heap.size w w' := by
  have hu38 := Tryz.underlying24
  have hu54 := Tryz.underlying52
  have HC := Aside0.mk hC
  have HL := Aside0.mk hlc
  have HOK := Aside0.mk hok
  have hl0 := hok.1
  clear hC hlc hok
  go_enter Tryz.func54, Tryz.ntmps54
  go_wp2
  have HB3 := Aside0.mk (below_alloc (below_alloc (below_alloc (Below.refl w.heap.size w) (.cells #[.int .i64 n, .slice A l.length c] 24)) (.cells #[.int .i64 0, .slice none 0 0] 24)) (.cells #[.int .i64 n, .slice none 0 0] 24))
  have H2 := Aside0.mk (show (((w.alloc (.cells #[.int .i64 n, .slice A l.length c] 24)).alloc (.cells #[.int .i64 0, .slice none 0 0] 24)).alloc (.cells #[.int .i64 n, .slice none 0 0] 24)).heap[w.heap.size + 1]? = some (.cells #[.int .i64 0, .slice none 0 0] 24 (0, 0)) from (heap_alloc_old _ _ (by simp)).trans (by have := heap_alloc_new (w.alloc (.cells #[.int .i64 n, .slice A l.length c] 24)) (.cells #[.int .i64 0, .slice none 0 0] 24); simpa using this))
  have H3 := Aside0.mk (show (((w.alloc (.cells #[.int .i64 n, .slice A l.length c] 24)).alloc (.cells #[.int .i64 0, .slice none 0 0] 24)).alloc (.cells #[.int .i64 n, .slice none 0 0] 24)).heap[w.heap.size + 1 + 1]? = some (.cells #[.int .i64 n, .slice none 0 0] 24 (0, 0)) from by have := heap_alloc_new ((w.alloc (.cells #[.int .i64 n, .slice A l.length c] 24)).alloc (.cells #[.int .i64 0, .slice none 0 0] 24)) (.cells #[.int .i64 n, .slice none 0 0] 24); simpa using this)
  generalize hW3 : ((w.alloc (.cells #[.int .i64 n, .slice A l.length c] 24)).alloc (.cells #[.int .i64 0, .slice none 0 0] 24)).alloc (.cells #[.int .i64 n, .slice none 0 0] 24) = W3 at *
  clear hW3
  generalize hg2 : w.heap.size + 1 = g2 at *
  generalize hg3 : g2 + 1 = g3 at *
  have hg2w : w.heap.size ≤ g2 := by omega
  have hg3w : w.heap.size ≤ g3 := by omega
  go_loopw [15] (fun v15 wr => ∃ (j : Nat) (v : Value), v15 = .int .i64 j ∧ j ≤ l.length ∧ Aside0 (wr.heap[g2]? = some (.cells #[.int .i64 0, .slice none 0 0] 24 (0, 0))) ∧ Aside0 (wr.heap[g3]? = some (.cells #[.int .i64 n, v] 24 (0, 0))) ∧ Aside0 (Kd.S kP 52 wr w.heap.size (fun _ => True) v (l.take j)) ∧ Aside0 (Below w.heap.size w wr)) (fun v15 _ => l.length - (intOf v15).toNat)
  case atStart => exact ⟨0, .slice none 0 0, rfl, Nat.zero_le _, H2, H3, ⟨Kd.S_nil _ _ _ _ _⟩, HB3⟩
  case round =>
    clear H2 H3 HB3
    obtain ⟨j, v, rfl, hj, H2, H3, HV, HB⟩ := hrel
    generalize wr = wq at *
    by_cases hlt : j < l.length
    · obtain ⟨ad, A2, c2, hA, hx0, hx1, hx2, hl2, hi2⟩ := at_T52 HC.out (j : Int) (by omega) (by omega)
      subst hA
      simp only [Int.toNat_natCast] at hx0 hx1 hx2
      have hrj : rd_T52 l (j : Int) = l[j] := by unfold rd_T52; rw [Int.toNat_natCast, List.getD_eq_getElem?_getD, List.getElem?_eq_getElem hlt]; rfl
      rw [hrj] at hx0 hx1 hx2 hl2 hi2
      have HRJ := Aside0.mk (show l[j]? = some l[j] from List.getElem?_eq_getElem hlt)
      have hrok := HOK.out.2 l[j] (List.getElem_mem hlt)
      generalize l[j] = r at *
      replace hx0 := (HB.out.cell (World.block_lt_of_cell? w _ hx0)).trans hx0
      replace hx1 := (HB.out.cell (World.block_lt_of_cell? w _ hx1)).trans hx1
      replace hx2 := (HB.out.cell (World.block_lt_of_cell? w _ hx2)).trans hx2
      have HT := Aside0.mk hi2
      have HL2 := Aside0.mk hl2
      have hr2 := hrok.1
      have HRT := Aside0.mk hrok.2
      clear hi2 hl2 hrj hrok
      have hlt2' : g2 < wq.heap.size := (Array.getElem?_eq_some_iff.1 H2.out).1
      have hlt3 : g3 < wq.heap.size := (Array.getElem?_eq_some_iff.1 H3.out).1
      go_wp2
      have HBa := Aside0.mk (below_alloc (below_alloc (Below.refl wq.heap.size wq) (.cells #[.string r.f0, .int .i64 r.f1, .slice A2 r.f2.length c2] 52)) (.cells #[.string r.f0, .int .i64 r.f1, .slice none 0 0] 52))
      have H6 := Aside0.mk (show ((wq.alloc (.cells #[.string r.f0, .int .i64 r.f1, .slice A2 r.f2.length c2] 52)).alloc (.cells #[.string r.f0, .int .i64 r.f1, .slice none 0 0] 52)).heap[wq.heap.size + 1]? = some (.cells #[.string r.f0, .int .i64 r.f1, .slice none 0 0] 52 (0, 0)) from by have := heap_alloc_new (wq.alloc (.cells #[.string r.f0, .int .i64 r.f1, .slice A2 r.f2.length c2] 52)) (.cells #[.string r.f0, .int .i64 r.f1, .slice none 0 0] 52); simpa using this)
      generalize hW5 : (wq.alloc (.cells #[.string r.f0, .int .i64 r.f1, .slice A2 r.f2.length c2] 52)).alloc (.cells #[.string r.f0, .int .i64 r.f1, .slice none 0 0] 52) = W5 at *
      clear hW5
      generalize hg6 : wq.heap.size + 1 = g6 at *
      have hg6w : wq.heap.size ≤ g6 := by omega
      clear hx0 hx1 hx2
      go_loopw [27] (fun v27 wl => ∃ (i : Nat) (vt : Value), v27 = .int .i64 i ∧ i ≤ r.f2.length ∧ Aside0 (wl.heap[g6]? = some (.cells #[.string r.f0, .int .i64 r.f1, vt] 52 (0, 0))) ∧ Aside0 (Kd.S (Kd.slice 3 (Kd.int .i64)) 46 wl wq.heap.size (fun _ => True) vt (r.f2.take i)) ∧ Aside0 (Below wq.heap.size wq wl)) (fun v27 _ => r.f2.length - (intOf v27).toNat)
      case atStart => exact ⟨0, .slice none 0 0, rfl, Nat.zero_le _, H6, ⟨Kd.S_nil _ _ _ _ _⟩, HBa⟩
      case round =>
        clear H6 HBa
        obtain ⟨i, vt, rfl, hi, H6, HR, HBl⟩ := hrel
        by_cases hlt2 : i < r.f2.length
        · obtain ⟨ad3, A4, c4, hA3, hy0, hl4, hi4⟩ := at_L2 HT.out (i : Int) (by omega) (by omega)
          subst hA3
          simp only [Int.toNat_natCast] at hy0
          have hrt : rd_L2 r.f2 (i : Int) = r.f2[i] := by unfold rd_L2; rw [Int.toNat_natCast, List.getD_eq_getElem?_getD, List.getElem?_eq_getElem hlt2]; rfl
          rw [hrt] at hy0 hl4 hi4
          have HTI := Aside0.mk (show r.f2[i]? = some r.f2[i] from List.getElem?_eq_getElem hlt2)
          have htl := HRT.out r.f2[i] (List.getElem_mem hlt2)
          generalize r.f2[i] = t at *
          have hb2 := below_step HB.out HBl.out
          replace hy0 := (hb2.cell (World.block_lt_of_cell? w _ hy0)).trans hy0
          have HC4 := Aside0.mk (Kd.C_below hi4 (hb2.mono (Nat.le_refl _)))
          have HL4 := Aside0.mk hl4
          clear hi4 hl4 hrt hb2
          have hc6 : wr.cell? ⟨g6, 2, none⟩ = some vt := (blk_cell H6.out 2).trans rfl
          have hf6 := blk_frozen H6.out 2
          go_upto_region 9 with (fail)
          have HBd := Aside0.mk (below_drew HBl.out)
          have H6d := Aside0.mk (show wr.drew.heap[g6]? = some (.cells #[.string r.f0, .int .i64 r.f1, vt] 52 (0, 0)) from H6.out)
          have HRd := Aside0.mk (Kd.S_drew HR.out)
          have HCd := Aside0.mk (Kd.C_drew HC4.out)
          have hg6d : g6 < wr.drew.heap.size := (Array.getElem?_eq_some_iff.1 H6d.out).1
          have hcd : wr.drew.cell? ⟨g6, 2, none⟩ = some vt := hc6
          refine wp_region_noPanic ?_
          refine start_ (n := 8) (S := fun w' => w'.cell? ⟨g6, 2, none⟩ = some vt) (ds := [7]) #[false, false, false, false, false, false, false, false] (by kernel_rfl) rfl rfl hcd (fun hHeld => ?_)
          generalize wr.drew = wd at *
          refine pure_ (i := 0) (N := some 31) (v := ?_) (a' := ?_) #[true, false, false, false, false, false, false, false] rfl rfl (by kernel_rfl) (fun _ _ _ h => h) (Or.inl ⟨by rfl, ?_⟩) ?_ ?_
          rotate_left
          · intro w'
            go_simp
            with_reducible rfl
          rotate_left
          · simp only [Act.put, List.setIfInBounds_toArray, List.set_cons_zero, List.set_cons_succ, i64_w, i32_w]
            rfl
          refine pure_ (i := 2) (N := some 33) (v := ?_) (a' := ?_) #[true, false, true, false, false, false, false, false] rfl rfl (by kernel_rfl) (fun _ _ _ h => h) (Or.inl ⟨by rfl, ?_⟩) ?_ ?_
          rotate_left
          · intro w'
            go_simp
            with_reducible rfl
          rotate_left
          · simp only [Act.put, List.setIfInBounds_toArray, List.set_cons_zero, List.set_cons_succ, i64_w, i32_w]
            rfl
          refine take_ (i := 1) (N := some 32) (v := ?_) (a' := ?_) #[true, true, true, false, false, false, false, false] rfl rfl (by kernel_rfl) (fun _ _ _ h => h) (Or.inl ⟨by rfl, ?_⟩) hHeld ?_ ?_
          rotate_left
          · intro w' s0
            go_simp
            with_reducible rfl
          rotate_left
          · simp only [Act.put, List.setIfInBounds_toArray, List.set_cons_zero, List.set_cons_succ, i64_w, i32_w]
            rfl
          refine one_ (i := 3) (N := some 34) #[true, true, true, true, false, false, false, false] rfl rfl (by kernel_rfl) (by decide) (fun K hK => ?_)
          refine callE_ 60 #[.slice A4 t.length c4] (by rfl) rfl (by go_simp) ?_
          refine (slices_Clone_int_int.calls A4 c4 t t _ HCd.out HL4.out (if_pos htl)).mono ?_
          rintro e w6 ⟨va, rfl, hRa, hb6⟩
          obtain ⟨Aa, ca, ea⟩ := Kd.R_slice hRa
          subst ea
          left
          refine ⟨_, rfl, ?_⟩
          have HB6 := Aside0.mk (below_step HBd.out hb6)
          have H66 := Aside0.mk ((hb6.block g6 hg6d).trans H6d.out)
          have HR6 := Aside0.mk (Kd.S_mono (ok' := fun k_ => True ∧ ¬ wd.heap.size ≤ k_) (Kd.S_below (Kd.S_bound HRd.out) hb6) (fun k_ hk => ⟨trivial, by have := hk.2.2.1; omega⟩))
          have HRN := Aside0.mk (Kd.S_lt HRd.out)
          have HRa := Aside0.mk (Kd.R_lower (Kd.R_mono (Kd.R_bound hRa) (fun k_ hk => (hk.2.1 : wd.heap.size ≤ k_))) HBd.out.size)
          have hwd6 := hb6.size
          refine hK.out _ _ (pw_cell_below hb6 hcd) (fun hHeld2 => ?_)
          clear hK K hb6 hRa HRd HR H6 H6d HBd HBl
          refine norm_ (a' := ?_) ?_ ?_
          rotate_left
          · show Act.put _ (some 34) _ = _
            simp only [Act.put, List.setIfInBounds_toArray, List.set_cons_zero, List.set_cons_succ, i64_w, i32_w]
            rfl
          refine one_ (i := 4) (N := some 35) #[true, true, true, true, true, false, false, false] rfl rfl (by kernel_rfl) (by decide) (fun K hK => ?_)
          refine value_ (w1 := ?_) (v := ?_) (by rfl) rfl ?_ ?_
          rotate_left 2
          · go_simp
            constructor
            · rfl
            · rfl
          refine hK.out _ _ ((blk_cell (blk_alloc H66.out _) 2).trans rfl) (fun hHeld => ?_)
          clear hK K
          refine norm_ (a' := ?_) ?_ ?_
          rotate_left
          · show Act.put _ (some 35) _ = _
            simp only [Act.put, List.setIfInBounds_toArray, List.set_cons_zero, List.set_cons_succ, i64_w, i32_w]
            rfl
          refine one_ (i := 5) (N := some 36) #[true, true, true, true, true, true, false, false] rfl rfl (by kernel_rfl) (by decide) (fun K hK => ?_)
          refine Kd.S_append_step (Kd.slice 3 (Kd.int .i64)) (w0 := wq) wq.heap.size (by rfl) (.tmp 32) (.tmp 35) 50 46 (.slice none 0 0) 24 rfl Tryz.underlying50 infoInts rfl (by decide) (by omega) vt (r.f2.take i) t [.slice Aa t.length ca] (fun _ => True) (fun k_ => wd.heap.size ≤ k_) rfl rfl ?aP (fun k_ hk => ⟨trivial, fun e => by have := HRN.out k_ e.symm; omega⟩) ?aF ?aO ?aB ?aS ?aL ?_
          (case aP => exact Kd.M_row HRa.out)
          (case aB => exact HB6.out)
          (case aF => exact (fun _ _ => trivial))
          (case aO => exact HR6.out)
          (case aS => exact HB6.out.size)
          (case aL => rw [List.length_take]; omega)
          intro v7 w7 ho hb hg hat
          have n0_ := Aside0.mk hb
          have n1_ := Aside0.mk ho
          have n2_ := Aside0.mk (blk_grown H66.out hg (Kd.S_ne HR6.out H66.out (by decide)))
          clear ho hb hg hat HB6 HR6 HRa
          obtain ⟨A7, c7, e7⟩ := Kd.S_slice n1_.out
          subst e7
          rw [show (r.f2.take i ++ [t]).length = i + 1 from by rw [List.length_append, List.length_singleton, List.length_take]; omega] at n1_ ⊢
          refine hK.out _ _ ((blk_cell n2_.out 2).trans rfl) (fun hHeld => ?_)
          clear hK K
          refine norm_ (a' := ?_) ?_ ?_
          rotate_left
          · show Act.put _ (some 36) _ = _
            simp only [Act.put, List.setIfInBounds_toArray, List.set_cons_zero, List.set_cons_succ, i64_w, i32_w]
            rfl
          refine pure_ (i := 6) (N := some 37) (v := ?_) (a' := ?_) #[true, true, true, true, true, true, true, false] rfl rfl (by kernel_rfl) (fun _ _ _ h => h) (Or.inl ⟨by rfl, ?_⟩) ?_ ?_
          rotate_left
          · intro w'
            go_simp
            with_reducible rfl
          rotate_left
          · simp only [Act.put, List.setIfInBounds_toArray, List.set_cons_zero, List.set_cons_succ, i64_w, i32_w]
            rfl
          refine last_ (i := 7) (N := none) #[true, true, true, true, true, true, true, true] rfl rfl (by kernel_rfl) (by decide) (fun K hK => ?_)
          have hs7 : w7.cell? ⟨g6, 2, none⟩ = some vt := (blk_cell n2_.out 2).trans rfl
          have hf7 := blk_frozen n2_.out 2
          refine skip_ (w1 := ?_) (by rfl) rfl ?_ ?_
          rotate_left
          · go_simp
            rfl
          refine hK.out _ _ ?_
          clear hK K
          refine done_ (by kernel_rfl) ?_
          refine NoPanic.normal ?_
          have n3_ := Aside0.mk (Kd.S_set n1_.out n2_.out (by decide) 2 (.slice A7 (i + 1) c7))
          have n4_ := Aside0.mk (blk_put (cs' := #[.string r.f0, .int .i64 r.f1, .slice A7 (i + 1) c7]) n2_.out 2 (.slice A7 (i + 1) c7) rfl)
          have n5_ := Aside0.mk (below_set (j := 2) (v := .slice A7 (i + 1) c7) n0_.out hg6w)
          rw [← take_snoc' HTI.out] at n3_
          try go_wp2
          go_roundw
          · exact ⟨i + 1, _, (by simp), hlt2, n4_, n3_, n5_⟩
          · simp [intOf]; omega
        · obtain rfl : i = r.f2.length := by omega
          rw [List.take_length] at HR
          have H3l := Aside0.mk ((HBl.out.block g3 hlt3).trans H3.out)
          have H2l := Aside0.mk ((HBl.out.block g2 hlt2').trans H2.out)
          obtain ⟨At, ct, hvt⟩ := Kd.S_slice HR.out
          subst hvt
          have hc3 : wr.cell? ⟨g3, 1, none⟩ = some v := (blk_cell H3l.out 1).trans rfl
          have hc6_0 : wr.cell? ⟨g6, 0, none⟩ = some (.string r.f0) := (blk_cell H6.out 0).trans rfl
          have hc6_1 : wr.cell? ⟨g6, 1, none⟩ = some (.int .i64 r.f1) := (blk_cell H6.out 1).trans rfl
          have hc6_2 : wr.cell? ⟨g6, 2, none⟩ = some (.slice At r.f2.length ct) := (blk_cell H6.out 2).trans rfl
          have HRb := Aside0.mk (Kd.S_lower (Kd.S_mono (Kd.S_bound HR.out) (fun k_ hk => (hk.2.1 : wq.heap.size ≤ k_))) HB.out.size)
          have HVl := Aside0.mk (Kd.S_mono (ok' := fun k_ => True ∧ ¬ wq.heap.size ≤ k_) (Kd.S_below (Kd.S_bound HV.out) HBl.out) (fun k_ hk => ⟨trivial, by have := hk.2.2.1; omega⟩))
          have HVN := Aside0.mk (Kd.S_lt HV.out)
          have HBw := Aside0.mk (below_step HB.out HBl.out)
          have hjl : (l.take j).length ≤ 100000 := by rw [List.length_take]; omega
          go_wp2_with (first | ((with_reducible refine gate_builtin (b := .append) (xs := #[.tmp 40, .tmp 42]) rfl ?_); at_builtin; refine Kd.S_append kP (w0 := w) w.heap.size rfl (.tmp 40) (.tmp 42) 22 52 (.agg #[.string ⟨#[]⟩, .int .i64 0, .slice none 0 0]) 48 rfl Tryz.underlying22 infoRel' rfl (by decide) (by omega) v (l.take j) r [.string r.f0, .int .i64 r.f1, .slice At r.f2.length ct] (fun _ => True) (fun k_ => wq.heap.size ≤ k_) rfl rfl ?aP ?aK ?aF ?aO ?aB ?aS ?aL ?_; (case aP => exact kP_mkM _ _ _ r HRb.out); (case aK => exact fun k_ hk => ⟨trivial, fun e => by have := HVN.out k_ e.symm; omega⟩); (case aF => exact fun _ _ => trivial); (case aO => exact HVl.out); (case aB => exact HBw.out); (case aS => exact HBw.out.size); (case aL => omega); intro v7 w7 ho hb hg hat; have n0_ := Aside0.mk hb; have n1_ := Aside0.mk ho; have n2_ := Aside0.mk (blk_grown H3l.out hg (Kd.S_ne HVl.out H3l.out (by decide))); have n3_ := Aside0.mk (blk_grown H2l.out hg (Kd.S_ne HVl.out H2l.out (by decide))); clear ho hb hg hat; obtain ⟨A7, c7, e7⟩ := Kd.S_slice n1_.out; subst e7; have hc9 : w7.cell? ⟨g3, 1, none⟩ = some v := (blk_cell n2_.out 1).trans rfl; have hf9 := blk_frozen n2_.out 1))
          rw [show (l.take j ++ [r]).length = j + 1 from by rw [List.length_append, List.length_singleton, List.length_take]; omega] at n1_
          have n4_ := Aside0.mk (Kd.S_set n1_.out n2_.out (by decide) 1 (.slice A7 (j + 1) c7))
          have n5_ := Aside0.mk (blk_put (cs' := #[.int .i64 n, .slice A7 (j + 1) c7]) n2_.out 1 (.slice A7 (j + 1) c7) rfl)
          have n6_ := Aside0.mk ((Below.heap_setCell w7 ⟨g3, 1, none⟩ (.slice A7 (j + 1) c7) g2 (by show g2 ≠ g3; omega)).trans n3_.out)
          have n7_ := Aside0.mk (below_set (j := 1) (v := .slice A7 (j + 1) c7) n0_.out hg3w)
          rw [← take_snoc' HRJ.out] at n4_
          go_roundw
          · exact ⟨j + 1, _, (by simp), hlt, n6_, n5_, n4_, n7_⟩
          · simp [intOf]; omega
    · obtain rfl : j = l.length := by omega
      rw [List.take_length] at HV
      obtain ⟨Av, cv, hv⟩ := Kd.S_slice HV.out
      subst hv
      have hcz3_0 : wq.cell? ⟨g3, 0, none⟩ = some (.int .i64 n) := (blk_cell H3.out 0).trans rfl
      have hcz3_1 : wq.cell? ⟨g3, 1, none⟩ = some (.slice Av l.length cv) := (blk_cell H3.out 1).trans rfl
      have hcz2_0 : wq.cell? ⟨g2, 0, none⟩ = some (.int .i64 0) := (blk_cell H2.out 0).trans rfl
      have hcz2_1 : wq.cell? ⟨g2, 1, none⟩ = some (.slice none 0 0) := (blk_cell H2.out 1).trans rfl
      have hfz2_0 := blk_frozen H2.out 0
      have hfz2_1 := blk_frozen H2.out 1
      go_wp2
      have HX := blk_put (cs' := #[.int .i64 n, .slice Av l.length cv]) (blk_put (cs' := #[.int .i64 n, .slice none 0 0]) H2.out 0 (.int .i64 n) rfl) 1 (.slice Av l.length cv) rfl
      have HV1 := Kd.S_set HV.out H2.out (by decide) 0 (.int .i64 n)
      have HV2 := Kd.S_set HV1 (blk_put (cs' := #[.int .i64 n, .slice none 0 0]) H2.out 0 (.int .i64 n) rfl) (by decide) 1 (.slice Av l.length cv)
      have HBX := below_set (j := 1) (v := .slice Av l.length cv) (below_set (j := 0) (v := .int .i64 n) HB.out hg2w) hg2w
      refine bodyPost_ret (results_cell_row rfl _ _ g2 24 #[.int .i64 n, .slice Av l.length cv] (0, 0) _ rfl HX Tryz.underlying24 rfl (by kernel_rfl)) rfl ?_
      exact ⟨_, rfl, HV2, HBX⟩
end Go.Proofs.YtfmpaofbnjlniaaGreatDoor.F
/- slices.SortFunc at a row of tuples that lie apart: what the comparison says, and what the row is behind the sort. -/
namespace Go.Proofs.YtfmpaofbnjlniaaGreatDoor.F
open Go.RowKit Go.Lib Go.Sort Go.Proofs.YtfmpaofbnjlniaaGreatDoorW.PrintWords Go.Proofs.YtfmpaofbnjlniaaGreatDoorW.PrintLast Go.Proofs.YtfmpaofbnjlniaaGreatDoorW.PrintMore
set_option linter.unusedVariables false
set_option linter.unusedSimpArgs false
/-! ### the order -/
theorem lex_ntrans (x y z : List Int) (h1 : x.length = y.length) (h2 : y.length = z.length) (h : lexL x y = false) (g : lexL y z = false) : lexL x z = false := by
  cases hx : lexL x z with
  | false => rfl
  | true =>
    by_cases e : x = y
    · subst e; rw [hx] at g; cases g
    · have h3 := lex_tri x y h1 h e
      have h4 := lex_trans y x z h1.symm (h1.trans h2) h3 hx
      rw [h4] at g; cases g
def tAt (ts : List (List Int)) (i : Nat) : List Int := ts.getD (min i (ts.length - 1)) []
theorem tAt_lt {ts : List (List Int)} {i : Nat} (h : i < ts.length) : tAt ts i = ts[i] := by
  unfold tAt
  rw [show min i (ts.length - 1) = i by omega, List.getD_eq_getElem?_getD, List.getElem?_eq_getElem h]
  rfl
theorem tAt_mem {ts : List (List Int)} (hp : 0 < ts.length) (i : Nat) : tAt ts i ∈ ts := by
  unfold tAt
  have h : min i (ts.length - 1) < ts.length := by omega
  rw [List.getD_eq_getElem?_getD, List.getElem?_eq_getElem h]
  exact List.getElem_mem h
def cfT (ts : List (List Int)) (x y : Nat) : Int := (slices_Compare_int_int.f 2000 (tAt ts x) (tAt ts y)).getD 0
section
variable {ts : List (List Int)} {m : Nat}
theorem cfT_eq (hp : 0 < ts.length) (hm : m ≤ 1000) (hl : ∀ t ∈ ts, t.length = m) (x y : Nat) : slices_Compare_int_int.f 2000 (tAt ts x) (tAt ts y) = some (cfT ts x y) ∧ ltOf (cfT ts) x y = lexL (tAt ts x) (tAt ts y) := by
  have h1 := hl _ (tAt_mem hp x)
  have h2 := hl _ (tAt_mem hp y)
  obtain ⟨c, hc, hlt, _⟩ := cmp_eq (tAt ts x) (tAt ts y) (by omega) (by omega) 2000 (by omega)
  have hcf : cfT ts x y = c := by unfold cfT; rw [hc]; rfl
  refine ⟨by rw [hcf, hc], ?_⟩
  unfold ltOf
  rw [hcf]
  cases h : lexL (tAt ts x) (tAt ts y) with
  | true => exact decide_eq_true (hlt.2 h)
  | false => exact decide_eq_false (fun h3 => by rw [hlt.1 h3] at h; cases h)
theorem swoT (hp : 0 < ts.length) (hm : m ≤ 1000) (hl : ∀ t ∈ ts, t.length = m) : SWO (ltOf (cfT ts)) where
  irrefl x := by rw [(cfT_eq hp hm hl x x).2]; exact lex_irr _
  trans x y z h1 h2 := by
    rw [(cfT_eq hp hm hl _ _).2] at *
    have a := hl _ (tAt_mem hp x); have b := hl _ (tAt_mem hp y); have c := hl _ (tAt_mem hp z)
    exact lex_trans _ _ _ (by omega) (by omega) h1 h2
  ntrans x y z h1 h2 := by
    rw [(cfT_eq hp hm hl _ _).2] at *
    have a := hl _ (tAt_mem hp x); have b := hl _ (tAt_mem hp y); have c := hl _ (tAt_mem hp z)
    exact lex_ntrans _ _ _ (by omega) (by omega) h1 h2
theorem range_map (ts : List (List Int)) : (List.range ts.length).map (tAt ts) = ts := by
  apply List.ext_getElem
  · simp
  · intro i h1 h2
    rw [List.getElem_map, List.getElem_range, tAt_lt h2]
/-- The sorted row is THE sorted row. -/
theorem sortedT (hp : 0 < ts.length) (hm : m ≤ 1000) (hl : ∀ t ∈ ts, t.length = m) (hn : ts.Nodup) (d : Array Nat) (hP : PermIn 0 (Array.range ts.length).size (Array.range ts.length) d) (hS : SortedIn (ltOf (cfT ts)) 0 (Array.range ts.length).size d) :
    d.size = ts.length ∧ (∀ i ∈ d.toList, i < ts.length) ∧ d.toList.Nodup ∧ d.toList.map (tAt ts) = sortedB ts := by
  obtain ⟨h1, _, h3⟩ := hP
  have hz : d.size = ts.length := by simpa using h1
  have hperm : d.toList.Perm (List.range ts.length) := by
    have e1 : (d.extract 0 (Array.range ts.length).size).toList = d.toList := by rw [← h1]; simp
    have e2 : ((Array.range ts.length).extract 0 (Array.range ts.length).size).toList = List.range ts.length := by simp
    rw [e1, e2] at h3
    exact h3
  have hlt : ∀ i ∈ d.toList, i < ts.length := fun i hi => List.mem_range.1 (hperm.mem_iff.1 hi)
  have hnd : d.toList.Nodup := hperm.nodup_iff.2 List.nodup_range
  have hy : (d.toList.map (tAt ts)).Perm ts := by
    have := hperm.map (tAt ts)
    rwa [range_map] at this
  have hly : ∀ t ∈ d.toList.map (tAt ts), t.length = m := fun t ht => hl t (hy.mem_iff.1 ht)
  have hyn : (d.toList.map (tAt ts)).Nodup := hy.nodup_iff.2 hn
  have hys : Sorted (d.toList.map (tAt ts)) := by
    unfold Sorted
    rw [List.pairwise_iff_getElem]
    intro i j hi hj hij
    have hi2 : i < d.size := by simpa using hi
    have hj2 : j < d.size := by simpa using hj
    have hlt2 := hS i j (Nat.zero_le _) hij (by rw [Array.size_range]; omega)
    rw [(cfT_eq hp hm hl _ _).2] at hlt2
    have a1 : (d.toList.map (tAt ts))[i] = tAt ts d[i]! := by rw [List.getElem_map, Array.getElem_toList, getElem!_pos d i hi2]
    have a2 : (d.toList.map (tAt ts))[j] = tAt ts d[j]! := by rw [List.getElem_map, Array.getElem_toList, getElem!_pos d j hj2]
    have hne : (d.toList.map (tAt ts))[j] ≠ (d.toList.map (tAt ts))[i] := fun e => (List.pairwise_iff_getElem.1 hyn i j hi hj hij) e.symm
    have l1 := hly _ (List.getElem_mem hi)
    have l2 := hly _ (List.getElem_mem hj)
    rw [← a1, ← a2] at hlt2
    exact lex_tri _ _ (by omega) hlt2 hne
  obtain ⟨s1, s2⟩ := sortedB_facts m ts [] List.Pairwise.nil (by simp) hl
  refine ⟨hz, hlt, hnd, sorted_ext m _ _ hys s1 hly (fun a ha => ?_) (fun a => ?_)⟩
  · rcases (s2 a).1 ha with h | h
    · cases h
    · exact hl a h
  · show a ∈ _ ↔ a ∈ ts.foldl insOne []
    rw [s2 a]
    simp only [List.not_mem_nil, false_or]
    exact hy.mem_iff
end
/-! ### the world behind the sort -/
section
variable {enc : Nat → Value} {w : World} {blk n : Nat} {d : Array Nat} {os : Array Obj}
theorem sw_other (k : Nat) (hk : k < w.heap.size) (hne : k ≠ blk) : (sortWorld enc w blk 0 n d os).heap[k]? = w.heap[k]? := by
  unfold sortWorld
  show ((putRow enc (Sort.ahead w n) blk 0 d).heap ++ os)[k]? = _
  rw [Array.getElem?_append, if_pos (by simpa [putRow, mapBlock] using hk)]
  show (w.heap.modify blk _)[k]? = _
  rw [Array.getElem?_modify, if_neg (Ne.symm hne)]
theorem sw_at {cur : Array Value} {e : TypeId} {fr : Nat × Nat} (hb : w.heap[blk]? = some (.cells cur e fr)) : (sortWorld enc w blk 0 n d os).heap[blk]? = some (.cells (putCells enc 0 d cur) e fr) := by
  have hk : blk < w.heap.size := (Array.getElem?_eq_some_iff.1 hb).1
  unfold sortWorld
  show ((putRow enc (Sort.ahead w n) blk 0 d).heap ++ os)[blk]? = _
  rw [Array.getElem?_append, if_pos (by simpa [putRow, mapBlock] using hk)]
  show (w.heap.modify blk _)[blk]? = _
  rw [Array.getElem?_modify, if_pos rfl, hb]
  rfl
theorem sw_size : w.heap.size ≤ (sortWorld enc w blk 0 n d os).heap.size := by
  unfold sortWorld
  show _ ≤ ((putRow enc (Sort.ahead w n) blk 0 d).heap ++ os).size
  rw [Array.size_append, size_putRow]
  exact Nat.le_add_right _ _
theorem sw_below (B : Nat) (hB : B ≤ blk) (hBw : B ≤ w.heap.size) : Below B w (sortWorld enc w blk 0 n d os) := ⟨rfl, rfl, rfl, sw_size, fun k hk => sw_other k (by omega) (by omega)⟩
theorem put_take (cur : Array Value) (hc : d.size ≤ cur.size) : (putCells enc 0 d cur).toList.take d.size = d.toList.map enc := by
  apply List.ext_getElem?
  intro i
  rw [List.getElem?_take, List.getElem?_map]
  by_cases h : i < d.size
  · rw [if_pos h]
    unfold putCells
    rw [Array.getElem?_toList, Array.getElem?_mapIdx, Array.getElem?_eq_getElem (show i < cur.size by omega), Option.map_some, if_pos ⟨Nat.zero_le _, by omega⟩, Array.getElem?_toList, Array.getElem?_eq_getElem h, Option.map_some, Nat.sub_zero, getElem!_pos d i h]
  · rw [if_neg h, Array.getElem?_toList, Array.getElem?_eq_none (by omega)]
    rfl
theorem put_size (cur : Array Value) : (putCells enc 0 d cur).size = cur.size := by unfold putCells; simp
end
end Go.Proofs.YtfmpaofbnjlniaaGreatDoor.F
/- slices.SortFunc at a row of tuples that lie apart: the row behind the sort, and what the comparison reads. -/
namespace Go.Proofs.YtfmpaofbnjlniaaGreatDoor.F
open Go.RowKit Go.Lib Go.Sort Go.Proofs.YtfmpaofbnjlniaaGreatDoorW.PrintWords Go.Proofs.YtfmpaofbnjlniaaGreatDoorW.PrintLast Go.Proofs.YtfmpaofbnjlniaaGreatDoorW.PrintMore
set_option linter.unusedVariables false
set_option linter.unusedSimpArgs false
abbrev kT : Kd (List Int) := Kd.slice 3 (Kd.int .i64)
/-- A row's cells, by index. -/
def encT (inner : List Value) (N i : Nat) : Value := inner.getD (min i (N - 1)) (.slice none 0 0)
theorem encT_at {inner : List Value} {N i : Nat} (h : i < N) (hl : inner.length = N) : inner[i]? = some (encT inner N i) := by
  unfold encT
  rw [show min i (N - 1) = i by omega, List.getD_eq_getElem?_getD, List.getElem?_eq_getElem (by omega)]
  rfl
section
variable {w : World} {base g c : Nat} {ok : Nat → Prop} {ts : List (List Int)} {f : Nat → Nat} {inner : List Value}
theorem seg_one {l : List Value} {i : Nat} {u : Value} (h : l[i]? = some u) : (l.drop (i * 1)).take 1 = [u] := by
  rw [Nat.mul_one]
  obtain ⟨hi, he⟩ := List.getElem?_eq_some_iff.1 h
  rw [List.drop_eq_getElem_cons hi, he]
  rfl
/-- Element i, with its blocks. -/
theorem elemT (hr : Reps ((Kd.tag f kT).M w base (fun k => ok k ∧ some k ≠ (Value.slice (some ⟨g, 0, none⟩) ts.length c).ownBlock)) 1 ts.zipIdx inner) {i : Nat} (hi : i < ts.length) :
    kT.M w base (fun k => (ok k ∧ some k ≠ (Value.slice (some ⟨g, 0, none⟩) ts.length c).ownBlock) ∧ f k = i) (tAt ts i) [encT inner ts.length i] := by
  have hlen : inner.length = ts.length := by have := hr.1; rw [List.length_zipIdx, Nat.mul_one] at this; exact this
  have h := hr.2 i _ (Kd.zip_at (List.getElem?_eq_getElem hi))
  rw [seg_one (encT_at hi hlen)] at h
  rw [tAt_lt hi]
  exact h
theorem cmpT (hp : 0 < ts.length) (m : Nat) (hm : m ≤ 1000) (hl : ∀ t ∈ ts, t.length = m) (hg : g < w.heap.size)
    (hr : Reps ((Kd.tag f kT).M w base (fun k => ok k ∧ some k ≠ (Value.slice (some ⟨g, 0, none⟩) ts.length c).ownBlock)) 1 ts.zipIdx inner) :
    CmpReads Tryz.prog 57 #[] (encT inner ts.length) (cfT ts) g 0 ts.length w := by
  intro n os dk hs x y
  have hin : ∀ i, ∃ A cc, encT inner ts.length i = .slice A (tAt ts i).length cc ∧ (tAt ts i).length ≤ cc ∧ Kd.C (Kd.int .i64) (sortWorld (encT inner ts.length) w g 0 n dk os) A (tAt ts i).length (tAt ts i) := by
    intro i
    have hi : min i (ts.length - 1) < ts.length := by omega
    obtain ⟨v, hv, hR⟩ := elemT hr hi
    have e1 : encT inner ts.length (min i (ts.length - 1)) = encT inner ts.length i := by unfold encT; rw [Nat.min_assoc, Nat.min_self]
    have e2 : tAt ts (min i (ts.length - 1)) = tAt ts i := by unfold tAt; rw [Nat.min_assoc, Nat.min_self]
    rw [e2] at hR
    rw [e1] at hv
    have hR2 := Kd.R_step (w1 := sortWorld (encT inner ts.length) w g 0 n dk os) hR (fun k hk hlt => sw_other k hlt (fun e => hk.1.2 (by rw [e]; rfl)))
    obtain ⟨A, cc, ev, hle, hC⟩ := Kd.R_reads hR2
    exact ⟨A, cc, (List.singleton_inj.1 hv).trans ev, hle, hC⟩
  obtain ⟨A1, c1, e1, l1, C1⟩ := hin x
  obtain ⟨A2, c2, e2, l2, C2⟩ := hin y
  have h := slices_Compare_int_int.calls 2000 A1 c1 (tAt ts x) A2 c2 (tAt ts y) (cfT ts x y) _ C1 l1 C2 l2 (cfT_eq hp hm hl x y).1
  show Calls _ _ #[encT inner ts.length x, encT inner ts.length y] _ _
  rw [e1, e2]
  exact h.mono fun _ _ ⟨he, q, hq⟩ => ⟨he, q, hq⟩
/-- The row behind the sort: its elements lie apart as they did. -/
theorem sortedS (hok : ∀ k, (Value.slice (some ⟨g, 0, none⟩) ts.length c).ownBlock = some k → ok k) (ho : w.ownsRow base 46 1 (.slice (some ⟨g, 0, none⟩) ts.length c) ts.length inner)
    (hr : Reps ((Kd.tag f kT).M w base (fun k => ok k ∧ some k ≠ (Value.slice (some ⟨g, 0, none⟩) ts.length c).ownBlock)) 1 ts.zipIdx inner)
    (d : Array Nat) (hz : d.size = ts.length) (hlt : ∀ i ∈ d.toList, i < ts.length) (hn : d.toList.Nodup) (n : Nat) (os : Array Obj) :
    Kd.S kT 46 (sortWorld (encT inner ts.length) w g 0 n d os) base ok (.slice (some ⟨g, 0, none⟩) ts.length c) (d.toList.map (tAt ts)) := by
  have hlen : (d.toList.map (tAt ts)).length = ts.length := by rw [List.length_map, Array.length_toList, hz]
  refine ⟨fun k => d.toList.idxOf (f k), hok, d.toList.map (encT inner ts.length), ?_, ?_, ?_⟩
  · rw [List.length_zipIdx, hlen]
    refine ⟨by rw [List.length_map, Array.length_toList, hz]; exact (Nat.mul_one _).symm, ?_⟩
    rcases ho.2 with ⟨h, _⟩ | ⟨g', cap, cur, hv, hb, hh, h1, h2, h3, h4⟩
    · cases h
    · injection hv with hv1 hv2 hv3
      injection hv1 with hv1
      injection hv1 with hv1
      subst hv1
      refine .inr ⟨g, cap, putCells (encT inner ts.length) 0 d cur, by rw [hv3], hb, sw_at hh, h1, h2, (put_size cur).trans h3, ?_⟩
      show (putCells (encT inner ts.length) 0 d cur).toList.take (ts.length * 1) = _
      rw [Nat.mul_one, ← hz]
      exact put_take cur (by have : (kT).sz = 1 := rfl; omega)
  · rw [List.length_zipIdx, List.length_map, List.length_map]
    exact (Nat.mul_one _).symm
  · intro j p hj
    rw [List.getElem?_zipIdx, Nat.zero_add] at hj
    obtain ⟨q, hq, rfl⟩ := Option.map_eq_some_iff.1 hj
    have hjl : j < d.toList.length := by have := (List.getElem?_eq_some_iff.1 hq).1; rwa [List.length_map] at this
    have hq2 : q = tAt ts (d.toList[j]) := by
      rw [List.getElem?_map, List.getElem?_eq_getElem hjl] at hq
      exact (Option.some.inj hq).symm
    subst hq2
    have hi := hlt _ (List.getElem_mem hjl)
    have hM := elemT hr hi
    have hs : ((d.toList.map (encT inner ts.length)).drop (j * 1)).take 1 = [encT inner ts.length d.toList[j]] := seg_one (by rw [List.getElem?_map, List.getElem?_eq_getElem hjl]; rfl)
    show kT.M _ base _ (tAt ts d.toList[j]) (((d.toList.map (encT inner ts.length)).drop (j * 1)).take 1)
    rw [hs]
    refine kT.M_mono (fun k hk => ⟨hk.1, ?_⟩) (Kd.M_step hM (fun k hk hl2 => sw_other k hl2 (fun e => hk.1.2 (by rw [e]; rfl))))
    show d.toList.idxOf (f k) = j
    rw [hk.2]
    exact hn.idxOf_getElem j hjl
end
end Go.Proofs.YtfmpaofbnjlniaaGreatDoor.F
/-
  DERIVED: THE SHELF's CONTRACTS AT THIS DUMP, IN PLAIN WORDS (tools/lay-plain.mjs out of 'TryzSort.lean', which tools/lay-shelf.mjs wrote): THE SAME DECLARATIONS UNDER THE SAME NAMES: 'import', 'namespace', 'open', 'def', 'theorem' AND NOTHING ELSE: no command of the shelf's: FOR A HAND-IN. Each laying: the table of numbers ('.._ren') and one theorem, a field a fact of the dump's own or the kernel's comparison; each contract: ONE APPLICATION.
-/
namespace Go.Proofs
open Go.Shelf
def Tryz.sortL_ren : Go.Shelf.Ren := ⟨fun | 6 => 63 | 15 => 91 | 14 => 90 | 28 => 117 | 29 => 118 | 20 => 109 | 21 => 110 | 22 => 111 | 23 => 112 | 24 => 113 | 25 => 114 | 26 => 115 | 27 => 116 | 46 => 134 | 47 => 135 | 48 => 136 | 49 => 137 | 50 => 138 | 57 => 151 | n => n, fun | 22 => 50 | 24 => 46 | 25 => 102 | 3 => 3 | 39 => 131 | 0 => 0 | 53 => 152 | 55 => 154 | 4 => 4 | 46 => 146 | 45 => 145 | 50 => 100 | 5 => 5 | 9 => 9 | 66 => 170 | 70 => 174 | 76 => 186 | 77 => 187 | n => n, fun | n => n⟩
theorem Tryz.sortL : Go.Proofs.SlLaysF.n6 Tryz.prog Tryz.sortL_ren := {
  mixed := by kernel_rfl
  f6 := ⟨Tryz.f63.name, by decide, Tryz.func63.trans (congrArg some (by kernel_rfl))⟩
  f14 := ⟨Tryz.f90.name, by decide, Tryz.func90.trans (congrArg some (by kernel_rfl))⟩
  f15 := Tryz.func91.trans (congrArg some (by kernel_rfl))
  f20 := ⟨Tryz.f109.name, by decide, Tryz.func109.trans (congrArg some (by kernel_rfl))⟩
  f21 := ⟨Tryz.f110.name, by decide, Tryz.func110.trans (congrArg some (by kernel_rfl))⟩
  f22 := ⟨Tryz.f111.name, by decide, Tryz.func111.trans (congrArg some (by kernel_rfl))⟩
  f23 := ⟨Tryz.f112.name, by decide, Tryz.func112.trans (congrArg some (by kernel_rfl))⟩
  f24 := ⟨Tryz.f113.name, by decide, Tryz.func113.trans (congrArg some (by kernel_rfl))⟩
  f25 := ⟨Tryz.f114.name, by decide, Tryz.func114.trans (congrArg some (by kernel_rfl))⟩
  f26 := ⟨Tryz.f115.name, by decide, Tryz.func115.trans (congrArg some (by kernel_rfl))⟩
  f27 := ⟨Tryz.f116.name, by decide, Tryz.func116.trans (congrArg some (by kernel_rfl))⟩
  f28 := Tryz.func117.trans (congrArg some (by kernel_rfl))
  f29 := Tryz.func118.trans (congrArg some (by kernel_rfl))
  f46 := ⟨Tryz.f134.name, by decide, Tryz.func134.trans (congrArg some (by kernel_rfl))⟩
  f47 := Tryz.func135.trans (congrArg some (by kernel_rfl))
  f48 := Tryz.func136.trans (congrArg some (by kernel_rfl))
  f49 := ⟨Tryz.f137.name, by decide, Tryz.func137.trans (congrArg some (by kernel_rfl))⟩
  f50 := ⟨Tryz.f138.name, by decide, Tryz.func138.trans (congrArg some (by kernel_rfl))⟩
  f57 := ⟨Tryz.f151.name, by decide, Tryz.func151.trans (congrArg some (by kernel_rfl))⟩
  t0 := Tryz.underlying0
  a0 := Tryz.isAgg0
  z0 := Tryz.sizeOf0
  v0 := Tryz.zeroValue0
  t3 := Tryz.underlying3
  a3 := Tryz.isAgg3
  z3 := Tryz.sizeOf3
  v3 := Tryz.zeroValue3
  t4 := Tryz.underlying4
  a4 := Tryz.isAgg4
  z4 := Tryz.sizeOf4
  v4 := Tryz.zeroValue4
  t5 := Tryz.underlying5
  a5 := Tryz.isAgg5
  z5 := Tryz.sizeOf5
  v5 := Tryz.zeroValue5
  t9 := Tryz.underlying9
  a9 := Tryz.isAgg9
  z9 := Tryz.sizeOf9
  v9 := Tryz.zeroValue9
  t22 := Tryz.underlying50
  a22 := Tryz.isAgg50
  z22 := Tryz.sizeOf50
  v22 := Tryz.zeroValue50
  a24 := Tryz.isAgg46
  z24 := Tryz.sizeOf46
  t25 := Tryz.underlying102
  a25 := Tryz.isAgg102
  z25 := Tryz.sizeOf102
  v25 := Tryz.zeroValue102
  t39 := Tryz.underlying131
  a39 := Tryz.isAgg131
  z39 := Tryz.sizeOf131
  v39 := Tryz.zeroValue131
  t45 := Tryz.underlying145
  a45 := Tryz.isAgg145
  z45 := Tryz.sizeOf145
  v45 := Tryz.zeroValue145
  t46 := Tryz.underlying146
  a46 := Tryz.isAgg146
  z46 := Tryz.sizeOf146
  v46 := Tryz.zeroValue146
  t50 := Tryz.underlying100
  a50 := Tryz.isAgg100
  z50 := Tryz.sizeOf100
  v50 := Tryz.zeroValue100
  t53 := Tryz.underlying152
  a53 := Tryz.isAgg152
  z53 := Tryz.sizeOf152
  v53 := Tryz.zeroValue152
  t55 := Tryz.underlying154
  a55 := Tryz.isAgg154
  z55 := Tryz.sizeOf154
  v55 := Tryz.zeroValue154
  t66 := Tryz.underlying170
  a66 := Tryz.isAgg170
  z66 := Tryz.sizeOf170
  v66 := Tryz.zeroValue170
  t70 := Tryz.underlying174
  a70 := Tryz.isAgg174
  z70 := Tryz.sizeOf174
  v70 := Tryz.zeroValue174
  t76 := Tryz.underlying186
  a76 := Tryz.isAgg186
  z76 := Tryz.sizeOf186
  v76 := Tryz.zeroValue186
  t77 := Tryz.underlying187
  a77 := Tryz.isAgg187
  z77 := Tryz.sizeOf187
  v77 := Tryz.zeroValue187 }
end Go.Proofs
/- slices.SortFunc(tuples, slices.Compare[[]int]), at a row of tuples that lie apart. -/
namespace Go.Proofs.YtfmpaofbnjlniaaGreatDoor.F
open Go.RowKit Go.Lib Go.Sort Go.Proofs.YtfmpaofbnjlniaaGreatDoorW.PrintWords Go.Proofs.YtfmpaofbnjlniaaGreatDoorW.PrintLast Go.Proofs.YtfmpaofbnjlniaaGreatDoorW.PrintMore
set_option linter.unusedVariables false
set_option linter.unusedSimpArgs false
theorem sort_calls (w : World) (base : Nat) (ok : Nat → Prop) (A : Option Addr) (c : Nat) (ts : List (List Int)) (m : Nat) (hm : m ≤ 1000) (hl : ∀ t ∈ ts, t.length = m) (hn : ts.Nodup) (hN : ts.length ≤ 100000)
    (h : Kd.S kT 46 w base ok (.slice A ts.length c) ts) (hb : base ≤ w.heap.size) :
    Calls Tryz.prog 63 #[.slice A ts.length c, .func (.func 57) #[] #[]] w fun e w' =>
      e = .returned (.tuple #[]) ∧ Kd.S kT 46 w' base ok (.slice A ts.length c) (sortedB ts) ∧ (∀ k, k < w.heap.size → some k ≠ (Value.slice A ts.length c).ownBlock → w'.heap[k]? = w.heap[k]?) ∧ Below base w w' := by
  by_cases hp : 0 < ts.length
  · obtain ⟨g, c', ev, hbg, hgw, _⟩ := Kd.S_form h hp
    injection ev with e1 e2 e3
    subst e1
    obtain ⟨f, hok, inner, ho, hr⟩ := h
    rw [List.length_zipIdx] at ho
    have hlen : inner.length = ts.length := by have := hr.1; rw [List.length_zipIdx] at this; exact this.trans (Nat.mul_one _)
    have eg : ∀ args w, (callFunc 57 args).run Tryz.prog w = .ok (.enter 57 args) w := enters_of Tryz.func57 (by kernel_rfl) rfl
    have h1 : OneCell (encT inner ts.length) := fun i => by
      have hi : min i (ts.length - 1) < inner.length := by omega
      have : encT inner ts.length i ∈ inner := by
        unfold encT
        rw [List.getD_eq_getElem?_getD, List.getElem?_eq_getElem hi]
        exact List.getElem_mem hi
      obtain ⟨j, hj, e⟩ := List.mem_iff_getElem.1 this
      have hM := hr.2 j _ (Kd.zip_at (List.getElem?_eq_getElem (show j < ts.length by omega)))
      have hK := (Kd.tag f kT).K_one ((Kd.tag f kT).K_of_M hM)
      refine hK _ ?_
      show _ ∈ (inner.drop (j * 1)).take 1
      rw [seg_one (List.getElem?_eq_getElem hj), e]
      exact List.mem_singleton_self _
    have hH : Holds (encT inner ts.length) w g 0 (Array.range ts.length) := fun j hj => by
      rw [Array.size_range] at hj
      rw [show (Array.range ts.length)[j]! = j from by rw [getElem!_pos _ j (by rw [Array.size_range]; exact hj), Array.getElem_range]]
      refine ⟨?_, ?_⟩
      · have := World.ownsRow.cells ho (g := g) rfl j _ (encT_at hj hlen)
        rw [Nat.zero_add]
        rwa [Go.Proofs.YtfmpaofbnjlniaaGreatDoorW.PrintWords.add_plain] at this
      · rcases ho.2 with ⟨hv, _⟩ | ⟨g', cap, cur, hv, hb, hh, _⟩
        · cases hv
        · injection hv with hv1 hv2 hv3
          injection hv1 with hv1
          injection hv1 with hv1
          subst hv1
          exact blk_frozen hh _
    have hz : (Array.range ts.length).size = ts.length := Array.size_range
    have hcmp := (cmpT (ok := ok) (base := base) (c := c) hp m hm hl hgw hr)
    have hS := Any.slices_SortFunc Tryz.sortL (encT inner ts.length) h1 (cfT ts) (swoT hp hm hl) 57 #[] g 0 c (Array.range ts.length) w eg (by rw [hz]; exact hcmp.lays) hH hgw (by rw [hz]; omega)
    rw [hz] at hS
    refine hS.mono ?_
    rintro e w' ⟨rfl, d, n, os, hP, hSo, rfl⟩
    obtain ⟨h2, h3, h4, h5⟩ := sortedT hp hm hl hn d (by rw [hz]; exact hP) (by rw [hz]; exact hSo)
    have hR := sortedS hok ho hr d h2 h3 h4 n os
    rw [h5] at hR
    exact ⟨rfl, hR, fun k hk hne => sw_other k hk (fun e => hne (by rw [e]; rfl)), sw_below base hbg hb⟩
  · obtain rfl : ts = [] := List.length_eq_zero_iff.1 (by omega)
    have hS := AnyF.slices_SortFunc_none (P := Tryz.prog) (ρ := Tryz.sortL_ren) { Tryz.sortL with } A c (.func (.func 57) #[] #[]) w
    exact hS.mono fun _ _ ⟨he, hw⟩ => ⟨he, by rw [hw]; exact h, fun k _ _ => by rw [hw], by rw [hw]; exact Below.refl _ _⟩
end Go.Proofs.YtfmpaofbnjlniaaGreatDoor.F
/- shape.Permute, by hand. -/
namespace Go.Proofs.YtfmpaofbnjlniaaGreatDoor.F
open Go.RowKit Go.Maps Go.Proofs.YtfmpaofbnjlniaaGreatDoorW.PrintWords Go.Proofs.YtfmpaofbnjlniaaGreatDoorW.PrintLast Go.Proofs.YtfmpaofbnjlniaaGreatDoorW.PrintMore
set_option linter.unusedVariables false
set_option linter.unusedSimpArgs false
def SortCalls : Prop := ∀ (w : World) (base : Nat) (ok : Nat → Prop) (A : Option Addr) (c : Nat) (ts : List (List Int)) (m : Nat) (hm : m ≤ 1000) (hl : ∀ t ∈ ts, t.length = m) (hn : ts.Nodup) (hN : ts.length ≤ 100000)
    (h : Kd.S kT 46 w base ok (.slice A ts.length c) ts) (hb : base ≤ w.heap.size),
    Calls Tryz.prog 63 #[.slice A ts.length c, .func (.func 57) #[] #[]] w fun e w' =>
      e = .returned (.tuple #[]) ∧ Kd.S kT 46 w' base ok (.slice A ts.length c) (sortedB ts) ∧ (∀ k, k < w.heap.size → some k ≠ (Value.slice A ts.length c).ownBlock → w'.heap[k]? = w.heap[k]?) ∧ Below base w w'
def renT (perm t : List Int) : List Int := t.map fun x => rd perm x
def renR (perm : List Int) (r : S52) : S52 := ⟨r.f0, r.f1, sortedB (r.f2.map (renT perm))⟩
def keyI (x : Int) : Lit := .int .i64 x
def permSet {H : Type} (sy : List Int) : DataW H := setOf (.lit (.bool true)) (sy.map keyI)
def permCount (sy : List Int) : Nat := Maps.size (permSet (H := Unit) sy)
def permOk (perm : List Int) : Prop := perm.length ≤ 1000 ∧ ∀ x ∈ perm, -9223372036854775808 ≤ x ∧ x ≤ 9223372036854775807
instance (perm : List Int) : Decidable (permOk perm) := by unfold permOk; infer_instance
def permFit (l : List S52) (perm : List Int) : Prop := ∀ r ∈ l, (∀ t ∈ r.f2, t.length = (r.f2.headD []).length ∧ t.length ≤ 1000 ∧ ∀ x ∈ t, 0 ≤ x ∧ x < (perm.length : Int)) ∧ (r.f2.map (renT perm)).Nodup
instance (l : List S52) (perm : List Int) : Decidable (permFit l perm) := by unfold permFit; infer_instance
def permYes (n : Int) (perm : List Int) : Bool := decide ((perm.length : Int) = n) && (decide ((permCount perm : Int) = n) && !perm.any (outB n))
def shape_Permute.f (k : Nat) (n : Int) (l : List S52) (perm : List Int) : Option (Int × List S52 × Int) :=
  (shape_Valid.f k n l).bind fun b => if b = true then (if copyOk l ∧ permOk perm then (if permYes n perm = true then (if permFit l perm then some (n, l.map (renR perm), 0) else none) else some (0, [], 2)) else none) else some (0, [], 1)
theorem permKeys_snoc {H : Type} {sy : List Int} {j : Nat} {x : Int} (h : sy[j]? = some x) : permSet (H := H) (sy.take (j + 1)) = (permSet (sy.take j)).put (keyI x) (.lit (.bool true)) := by
  unfold permSet
  rw [take_snoc' h, List.map_append]
  exact setOf_snoc _ _ _
theorem law_int : Keyed Tryz.prog 3 := int_keyed Tryz.underlying3
theorem results_perm (tmps : Array Value) (W : World) (g8 : Nat) (a b : Int) (v : Value) (hp8 : tmps.getD 4 undef = .pointer (some ⟨g8, 0, none⟩)) (hp9 : tmps.getD 5 undef = .int .i64 b)
    (h8 : W.heap[g8]? = some (.cells #[.int .i64 a, v] 24 (0, 0))) :
    (results Tryz.f32 tmps).run Tryz.prog W = .ok (.tuple #[.agg #[.int .i64 a, v], .int .i64 b]) W := by
  have hp8' : tmps[4]?.getD undef = .pointer (some ⟨g8, 0, none⟩) := by simpa using hp8
  have hp9' : tmps[5]?.getD undef = .int .i64 b := by simpa using hp9
  have hr := run_loadVar_row (P := Tryz.prog) W g8 24 24 #[.int .i64 a, v] (0, 0) _ h8 Tryz.underlying24 rfl (by kernel_rfl)
  simp [results, Tryz.results32, hp8', hp9', asAddr, hr]
theorem R_kP {w : World} {base : Nat} {ok : Nat → Prop} {v : Value} {xs : List S52} (h : Kd.S kP 52 w base ok v xs) : Kd.R k52 52 w base ok v xs := by
  obtain ⟨h0, inner, ho, hr⟩ := Kd.S_R h
  exact ⟨h0, inner, ho, hr.imp_ (fun x c hM => by
    obtain ⟨v2, rfl, hS⟩ := kP_openM hM
    exact k52_mkM _ _ _ x (Kd.S_R hS))⟩
section
variable {α : Type} {g : α → α} {l : List α} {j : Nat} {r : α}
/-- The first j elements are renamed. -/
def mix (g : α → α) (l : List α) (j : Nat) : List α := (l.take j).map g ++ l.drop j
theorem mix_len : (mix g l j).length = l.length := by unfold mix; rw [List.length_append, List.length_map, List.length_take, List.length_drop]; omega
theorem mix_all : mix g l l.length = l.map g := by unfold mix; rw [List.take_length, List.drop_length, List.append_nil]
theorem mix_at (h : l[j]? = some r) : (mix g l j)[j]? = some r := by
  have hj := (List.getElem?_eq_some_iff.1 h).1
  unfold mix
  rw [List.getElem?_append_right (by rw [List.length_map, List.length_take]; omega), List.length_map, List.length_take, List.getElem?_drop, show j + (j - min j l.length) = j by omega, h]
theorem mix_set (h : l[j]? = some r) : (mix g l j).set j (g r) = mix g l (j + 1) := by
  obtain ⟨hj, he⟩ := List.getElem?_eq_some_iff.1 h
  unfold mix
  rw [List.set_append_right _ _ (by rw [List.length_map, List.length_take]; omega), List.length_map, List.length_take, show j - min j l.length = 0 by omega, List.drop_eq_getElem_cons hj, List.set_cons_zero, take_snoc' h, List.map_append, List.append_assoc]
  rfl
end
set_option maxHeartbeats 4000000 in
set_option maxRecDepth 100000 in
theorem permute_calls (hsort : SortCalls) (k : Nat) (n : Int) (A : Option Addr) (c : Nat) (l : List S52) (A2 : Option Addr) (c2 : Nat) (sy : List Int) (r : Int × List S52 × Int) (w : World)
    (hC : Kd.C k52 w A l.length l) (hlc : l.length ≤ c) (hC2 : Kd.C (Kd.int .i64) w A2 sy.length sy) (hlc2 : sy.length ≤ c2) (h : shape_Permute.f k n l sy = some r) :
    Calls Tryz.prog 32 #[.agg #[.int .i64 n, .slice A l.length c], .slice A2 sy.length c2] w (PutEnds w r) := by
  have hu38 := Tryz.underlying24
  have hu54 := Tryz.underlying52
  have hmm := @run_makeMap Tryz.prog
  unfold shape_Permute.f at h
  obtain ⟨vb, hh, h⟩ := Option.bind_eq_some_iff.1 h
  have hB1 := below_alloc (below_alloc (Below.refl w.heap.size w) (.cells #[.int .i64 n, .slice A l.length c] 24)) (.cells #[.int .i64 0, .slice none 0 0] 24)
  have HC1 := Aside0.mk (Kd.C_below hC hB1)
  have HB1 := Aside0.mk hB1
  have HC0 := Aside0.mk hC
  have HT0 := Aside0.mk hC2
  have HLC := Aside0.mk hlc
  have HLC2 := Aside0.mk hlc2
  have HH := Aside0.mk hh
  have H := Aside0.mk h
  have HSORT := Aside0.mk hsort
  have K4 := Aside0.mk (show ((w.alloc (.cells #[.int .i64 n, .slice A l.length c] 24)).alloc (.cells #[.int .i64 0, .slice none 0 0] 24)).heap[w.heap.size]? = some (.cells #[.int .i64 n, .slice A l.length c] 24 (0, 0)) from (heap_alloc_old _ _ (by simp)).trans (heap_alloc_new w _))
  have K8 := Aside0.mk (show ((w.alloc (.cells #[.int .i64 n, .slice A l.length c] 24)).alloc (.cells #[.int .i64 0, .slice none 0 0] 24)).heap[w.heap.size + 1]? = some (.cells #[.int .i64 0, .slice none 0 0] 24 (0, 0)) from by have := heap_alloc_new (w.alloc (.cells #[.int .i64 n, .slice A l.length c] 24)) (.cells #[.int .i64 0, .slice none 0 0] 24); simpa using this)
  clear hB1 hC hlc hC2 hlc2 hh h hsort
  go_enter Tryz.func32, Tryz.ntmps32
  go_wp2_with (fail)
  refine (shape_Valid.calls k n A c l vb _ HC1.out HLC.out HH.out).mono ?_
  rintro e w1 ⟨rfl, hb1⟩
  generalize hg8 : w.heap.size + 1 = g8 at *
  have hg8w : w.heap.size ≤ g8 := by omega
  have K4' := Aside0.mk ((hb1.block w.heap.size (Array.getElem?_eq_some_iff.1 K4.out).1).trans K4.out)
  have K8' := Aside0.mk ((hb1.block g8 (Array.getElem?_eq_some_iff.1 K8.out).1).trans K8.out)
  have HB2 := Aside0.mk (below_step HB1.out hb1)
  clear hb1 K4 K8 HB1 HC1
  obtain ⟨c8_0, c8_1, f8_0, f8_1⟩ := bq2 K8'
  obtain ⟨c4_0, c4_1, _, _⟩ := bq2 K4'
  cases vb with
  | false =>
    have h2 := H.out
    rw [if_neg (by simp)] at h2
    obtain rfl := Option.some.inj h2
    clear h2 H
    go_wp2
    have HX := blk_put (cs' := #[.int .i64 0, .slice none 0 0]) (blk_put (cs' := #[.int .i64 0, .slice none 0 0]) K8'.out 0 (.int .i64 0) rfl) 1 (.slice none 0 0) rfl
    have HBX := below_set (j := 1) (v := .slice none 0 0) (below_set (j := 0) (v := .int .i64 0) HB2.out hg8w) hg8w
    refine bodyPost_ret (results_perm _ _ g8 0 1 _ rfl rfl HX) rfl ?_
    exact ⟨_, rfl, Kd.R_nil _ _ _ _ _, HBX⟩
  | true =>
    have h2 := H.out
    rw [if_pos rfl] at h2
    by_cases hcp : copyOk l ∧ permOk sy
    case neg => rw [if_neg hcp] at h2; cases h2
    rw [if_pos hcp] at h2
    have HR := Aside0.mk h2
    have HCP := Aside0.mk hcp.1
    have HKO := Aside0.mk hcp.2
    have hsl := hcp.2.1
    clear h2 H hcp
    go_wp2
    have HM := Aside0.mk (World.ownsMap_made w1 Tryz.prog 3 (plainElem (H := Unit) Tryz.prog 4))
    have hba := below_alloc (Below.refl w1.heap.size w1) (.map #[] 0)
    have K4 := blB K4' hba
    have K8 := blB K8' hba
    have HB7 := Aside0.mk (below_step HB2.out hba)
    have hgw := HB2.out.size
    have hg4m : w.heap.size < w1.heap.size := blk_lt K4'.out
    have hg8m : g8 < w1.heap.size := blk_lt K8'.out
    generalize w1.alloc (.map #[] 0) = w6 at *
    generalize hgm : w1.heap.size = gm at *
    clear hba K4' K8' HB2 c4_0 c4_1 c8_0 c8_1 f8_0 f8_1
    go_loopw [23] (fun v23 wr => ∃ (j : Nat), v23 = .int .i64 j ∧ j ≤ sy.length ∧ Aside0 (wr.heap[w.heap.size]? = some (.cells #[.int .i64 n, .slice A l.length c] 24 (0, 0))) ∧ Aside0 (wr.heap[g8]? = some (.cells #[.int .i64 0, .slice none 0 0] 24 (0, 0))) ∧ Aside0 (wr.ownsMap Tryz.prog 3 (plainElem (H := Unit) Tryz.prog 4) gm j (permSet (sy.take j))) ∧ Aside0 (Below w.heap.size w wr)) (fun v23 _ => sy.length - (intOf v23).toNat)
    case atStart => exact ⟨0, rfl, Nat.zero_le _, K4, K8, ⟨by simpa [permSet, setOf] using HM.out⟩, HB7⟩
    case round =>
      clear K4 K8 HM HB7
      obtain ⟨j, rfl, hj, K4, K8, HM, HB⟩ := hrel
      generalize wr = wq at *
      by_cases hlt : j < sy.length
      · obtain ⟨ad, hA, hx0⟩ := Kd.at_int (Kd.C_below HT0.out HB.out) (j : Int) (by omega) (by omega)
        subst hA
        simp only [Int.toNat_natCast] at hx0
        have hrj : rd sy (j : Int) = sy[j] := by unfold rd; rw [Int.toNat_natCast, List.getD_eq_getElem?_getD, List.getElem?_eq_getElem hlt]; rfl
        rw [hrj] at hx0
        have HXJ := Aside0.mk (show sy[j]? = some sy[j] from List.getElem?_eq_getElem hlt)
        have HXS := Aside0.mk (HKO.out.2 _ (List.getElem_mem hlt))
        generalize sy[j] = x at *
        clear hrj
        have hkey : keyOf Tryz.prog 3 (.int .i64 x) = some (keyI x) := keyOf_int_mk Tryz.underlying3 (by simpa [Lit.wf, IntKind.min, IntKind.max, IntKind.signed, IntKind.bits] using HXS.out)
        go_wp2_with (first | (at_mapUpdate; refine wpList_mapUpdate_own _ rfl _ _ _ 107 rfl 3 4 law_int Tryz.underlying107 (plainElem (H := Unit) Tryz.prog 4) gm j _ rfl HM.out (by unfold maxLen; omega) _ _ _ rfl rfl hkey _ [] (plainElem_bool Tryz.underlying4 true) ?_; intro w1 hown1 hgrow1))
        replace K4 := Aside0.mk (blk_grown K4.out hgrow1 (by intro e; injection e with e; omega))
        replace K8 := Aside0.mk (blk_grown K8.out hgrow1 (by intro e; injection e with e; omega))
        replace HB := Aside0.mk (HB.out.grown hgrow1 HB.out.size (fun i hi => by cases hi; exact hgw))
        rw [← permKeys_snoc HXJ.out] at hown1
        go_roundw
        · exact ⟨j + 1, by simp, hlt, K4, K8, ⟨hown1⟩, HB⟩
        · simp [intOf]; omega
      · obtain rfl : j = sy.length := by omega
        rw [List.take_length] at HM
        have hm0 : Maps.size (permSet (H := Unit) sy) = permCount sy := rfl
        obtain ⟨c4_0, c4_1, _, _⟩ := bq2 K4
        obtain ⟨c8_0, c8_1, f8_0, f8_1⟩ := bq2 K8
        have HT := Aside0.mk (Kd.C_below HT0.out HB.out)
        by_cases hy : permYes n sy = true
        · have hyy := hy
          unfold permYes at hyy
          rw [Bool.and_eq_true, Bool.and_eq_true, decide_eq_true_eq, decide_eq_true_eq, Bool.not_eq_true'] at hyy
          obtain ⟨hn, hc, hel⟩ := hyy
          have h2 := HR.out
          rw [if_pos hy] at h2
          by_cases hf : permFit l sy
          case neg => rw [if_neg hf] at h2; cases h2
          rw [if_pos hf] at h2
          have hres := (Option.some.inj h2).symm
          subst hres
          have HF := Aside0.mk hf
          have hl0 := HCP.out.1
          clear h2 HR hf hy
          have g1 : ((sy.length : Int) != n) = false := bne_eq_false_iff_eq.2 hn
          have g2 : ((permCount sy : Int) != n) = false := bne_eq_false_iff_eq.2 hc
          generalize permCount sy = m at *
          go_wp2_with (first | ((try (refine gate_guard (by rfl) ?_; dsimp only)); at_len; refine wpList_len_own _ rfl _ 107 rfl 3 4 Tryz.underlying107 (plainElem (H := Unit) Tryz.prog 4) gm sy.length _ rfl HM.out ?_; rw [hm0]) | ((try (refine gate_guard (by rfl) ?_; dsimp only)); go_at_call 58; refine (shape_elements.calls n A2 c2 sy (!sy.any (outB n)) _ HT.out HLC2.out (elements_eq n sy)).mono ?_; rintro e w9 ⟨rfl, hb9⟩; rw [hel]; replace K8 := blB K8 hb9; replace K4 := blB K4 hb9; replace HB := Aside0.mk (below_step HB.out hb9); obtain ⟨c8_0, c8_1, f8_0, f8_1⟩ := bq2 K8; obtain ⟨c4_0, c4_1, _, _⟩ := bq2 K4))
          refine (copy2_calls n A c l _ (Kd.C_below HC0.out HB.out) HLC.out HCP.out).mono ?_
          rintro e w3 ⟨v3, rfl, hS, hb3⟩
          have K8' := blB K8 hb3
          have HB3 := Aside0.mk (below_step HB.out hb3)
          have HS3 := Aside0.mk (Kd.S_lower hS HB.out.size)
          obtain ⟨A3, c3, hv3⟩ := Kd.S_slice hS
          subst hv3
          clear hb3 hS K8 K4 HB HM c8_0 c8_1 f8_0 f8_1 c4_0 c4_1
          go_upto_region 12 with (fail)
          have K9 := Aside0.mk (heap_alloc_new w3 (.cells #[.int .i64 n, .slice A3 l.length c3] 24))
          have hba := below_alloc (Below.refl w3.heap.size w3) (.cells #[.int .i64 n, .slice A3 l.length c3] 24)
          have K8 := blB K8' hba
          have HS := Aside0.mk (Kd.S_below HS3.out hba)
          have HB := Aside0.mk (below_step HB3.out hba)
          generalize w3.alloc (.cells #[.int .i64 n, .slice A3 l.length c3] 24) = w4 at *
          generalize w3.heap.size = g9 at *
          clear hba K8' HS3 HB3
          obtain ⟨c9_0, c9_1, _, _⟩ := bq2 K9
          go_wp2
          go_loopw [55] (fun v55 wr => ∃ (j : Nat), v55 = .int .i64 j ∧ j ≤ l.length ∧ Aside0 (wr.heap[g8]? = some (.cells #[.int .i64 0, .slice none 0 0] 24 (0, 0))) ∧ Aside0 (wr.heap[g9]? = some (.cells #[.int .i64 n, .slice A3 l.length c3] 24 (0, 0))) ∧ Aside0 (Kd.S kP 52 wr w.heap.size (fun _ => True) (.slice A3 l.length c3) (mix (renR sy) l j)) ∧ Aside0 (Below w.heap.size w wr)) (fun v55 _ => l.length - (intOf v55).toNat)
          case atStart => exact ⟨0, rfl, Nat.zero_le _, K8, K9, HS, HB⟩
          case round =>
            clear K8 K9 HS HB c9_0 c9_1
            obtain ⟨j, rfl, hj, K8, K9, HS, HB⟩ := hrel
            generalize wr = wq at *
            by_cases hlt : j < l.length
            · have HRJ := Aside0.mk (show l[j]? = some l[j] from List.getElem?_eq_getElem hlt)
              have HFR := Aside0.mk (HF.out l[j] (List.getElem_mem hlt))
              have hrok := HCP.out.2 l[j] (List.getElem_mem hlt)
              have hr2 := hrok.1
              generalize l[j] = r at *
              clear hrok
              obtain ⟨gv, capv, eA, _, _, _, _⟩ := Kd.S_form HS.out (by rw [mix_len]; omega)
              rw [mix_len] at eA
              obtain ⟨rfl, rfl⟩ : A3 = some ⟨gv, 0, none⟩ ∧ c3 = capv := by injection eA with h2 h3 h4; exact ⟨h2, h4⟩
              clear eA
              obtain ⟨oki, cc, hcl, hM, hcells, hoki, hH⟩ := Kd.S_lend HS.out z52 (j : Int) (by omega) (by omega)
              rw [Int.toNat_natCast, List.getD_eq_getElem?_getD, mix_at HRJ.out, Option.getD_some] at hM
              obtain ⟨v2, rfl, hS2⟩ := kP_openM hM
              obtain ⟨At, ct, ev2⟩ := Kd.S_slice hS2
              subst ev2
              have hz0 : wq.cell? ⟨gv, j * 3, none⟩ = some (.string r.f0) := hcells 0 _ rfl
              have hz1 : wq.cell? ⟨gv, j * 3 + 1, none⟩ = some (.int .i64 r.f1) := hcells 1 _ rfl
              have hz2 : wq.cell? ⟨gv, j * 3 + 2, none⟩ = some (.slice At r.f2.length ct) := hcells 2 _ rfl
              have HH := Aside0.mk hH
              have HS2 := Aside0.mk hS2
              clear hcl hM hcells hH hS2 HS
              have hN8 : g8 < wq.heap.size := blk_lt K8.out
              have hN9 : g9 < wq.heap.size := blk_lt K9.out
              go_upto_region 15 with (fail)
              have K11 := Aside0.mk (heap_alloc_new wq (.cells #[.string r.f0, .int .i64 r.f1, .slice At r.f2.length ct] 52))
              have hba := below_alloc (Below.refl wq.heap.size wq) (.cells #[.string r.f0, .int .i64 r.f1, .slice At r.f2.length ct] 52)
              replace K8 := blB K8 hba
              replace K9 := blB K9 hba
              replace HH := Aside0.mk (Kd.H_below HH.out hba)
              replace HS2 := Aside0.mk (Kd.S_below HS2.out hba)
              replace HB := Aside0.mk (below_step HB.out hba)
              generalize wq.alloc (.cells #[.string r.f0, .int .i64 r.f1, .slice At r.f2.length ct] 52) = wa at *
              generalize wq.heap.size = g11 at *
              clear hba hz0 hz1 hz2
              obtain ⟨c11_0, c11_1, c11_2, _, _, _⟩ := bq3 K11
              go_wp2
              go_loopw [62] (fun v62 wl => ∃ (i : Nat), v62 = .int .i64 i ∧ i ≤ r.f2.length ∧ Aside0 (wl.heap[g8]? = some (.cells #[.int .i64 0, .slice none 0 0] 24 (0, 0))) ∧ Aside0 (wl.heap[g9]? = some (.cells #[.int .i64 n, .slice (some ⟨gv, 0, none⟩) l.length c3] 24 (0, 0))) ∧ Aside0 (wl.heap[g11]? = some (.cells #[.string r.f0, .int .i64 r.f1, .slice At r.f2.length ct] 52 (0, 0)))
                ∧ Aside0 (Kd.H kP 52 wl w.heap.size (fun _ => True) (.slice (some ⟨gv, 0, none⟩) l.length c3) (mix (renR sy) l j) (j : Int) oki [.string r.f0, .int .i64 r.f1, .slice At r.f2.length ct]) ∧ Aside0 (Kd.S kT 46 wl w.heap.size oki (.slice At r.f2.length ct) (mix (renT sy) r.f2 i)) ∧ Aside0 (Below w.heap.size w wl)) (fun v62 _ => r.f2.length - (intOf v62).toNat)
              case atStart => exact ⟨0, rfl, Nat.zero_le _, K8, K9, K11, HH, HS2, HB⟩
              case round =>
                clear K8 K9 K11 HH HS2 HB c11_0 c11_1 c11_2
                obtain ⟨i, rfl, hi, K8, K9, K11, HH, HS2, HB⟩ := hrel
                generalize wr = wl at *
                by_cases hlt2 : i < r.f2.length
                · have HTI := Aside0.mk (show r.f2[i]? = some r.f2[i] from List.getElem?_eq_getElem hlt2)
                  have HFT := Aside0.mk (HFR.out.1 r.f2[i] (List.getElem_mem hlt2))
                  generalize r.f2[i] = t at *
                  have htl := HFT.out.2.1
                  obtain ⟨gt, capt, eA, _, _, _, _⟩ := Kd.S_form HS2.out (by rw [mix_len]; omega)
                  rw [mix_len] at eA
                  obtain ⟨rfl, rfl⟩ : At = some ⟨gt, 0, none⟩ ∧ ct = capt := by injection eA with h2 h3 h4; exact ⟨h2, h4⟩
                  clear eA
                  obtain ⟨okt, ce, hcl, hM, hcells, hokt, hH2⟩ := Kd.S_lend HS2.out [] (i : Int) (by omega) (by omega)
                  rw [Int.toNat_natCast, List.getD_eq_getElem?_getD, mix_at HTI.out, Option.getD_some] at hM
                  obtain ⟨vt, rfl, hRt⟩ := hM
                  obtain ⟨A5, c5, ev5⟩ := Kd.R_slice hRt
                  subst ev5
                  have hz0 : wl.cell? ⟨gt, i, none⟩ = some (.slice A5 t.length c5) := (congrArg (fun q => wl.cell? ⟨gt, q, none⟩) (Nat.mul_one i)).symm.trans (hcells 0 _ rfl)
                  have HH2 := Aside0.mk hH2
                  have HRt := Aside0.mk hRt
                  have HOKT := Aside0.mk hokt
                  clear hcl hcells hH2 hRt HS2 hokt
                  go_wp2
                  go_loopw [68] (fun v68 wt => ∃ (q : Nat), v68 = .int .i64 q ∧ q ≤ t.length ∧ Aside0 (wt.heap[g8]? = some (.cells #[.int .i64 0, .slice none 0 0] 24 (0, 0))) ∧ Aside0 (wt.heap[g9]? = some (.cells #[.int .i64 n, .slice (some ⟨gv, 0, none⟩) l.length c3] 24 (0, 0))) ∧ Aside0 (wt.heap[g11]? = some (.cells #[.string r.f0, .int .i64 r.f1, .slice (some ⟨gt, 0, none⟩) r.f2.length ct] 52 (0, 0)))
                    ∧ Aside0 (Kd.H kP 52 wt w.heap.size (fun _ => True) (.slice (some ⟨gv, 0, none⟩) l.length c3) (mix (renR sy) l j) (j : Int) oki [.string r.f0, .int .i64 r.f1, .slice (some ⟨gt, 0, none⟩) r.f2.length ct]) ∧ Aside0 (Kd.H kT 46 wt w.heap.size oki (.slice (some ⟨gt, 0, none⟩) r.f2.length ct) (mix (renT sy) r.f2 i) (i : Int) okt [.slice A5 t.length c5]) ∧ Aside0 (Kd.R (Kd.int .i64) 3 wt w.heap.size okt (.slice A5 t.length c5) (mix (rd sy) t q)) ∧ Aside0 (Below w.heap.size w wt)) (fun v68 _ => t.length - (intOf v68).toNat)
                  case atStart => exact ⟨0, rfl, Nat.zero_le _, K8, K9, K11, HH, HH2, HRt, HB⟩
                  case round =>
                    clear K8 K9 K11 HH HH2 HRt HB hz0
                    obtain ⟨q, rfl, hq, K8, K9, K11, HH, HH2, HRt, HB⟩ := hrel
                    generalize wr = wt at *
                    by_cases hlt3 : q < t.length
                    · have HXQ := Aside0.mk (show t[q]? = some t[q] from List.getElem?_eq_getElem hlt3)
                      have hxr := HFT.out.2.2 t[q] (List.getElem_mem hlt3)
                      generalize t[q] = x at *
                      obtain ⟨g5, cap5, eA, _, _, _, _⟩ := Kd.R_form HRt.out (by rw [mix_len]; omega)
                      rw [mix_len] at eA
                      obtain ⟨rfl, rfl⟩ : A5 = some ⟨g5, 0, none⟩ ∧ c5 = cap5 := by injection eA with h2 h3 h4; exact ⟨h2, h4⟩
                      clear eA
                      obtain ⟨hx0, hf0⟩ := Kd.R_celln 0 HRt.out (q : Int) (by omega) (by omega)
                      rw [show rdOf 0 (mix (rd sy) t q) (q : Int) = x from by unfold rdOf; rw [Int.toNat_natCast, List.getD_eq_getElem?_getD, mix_at HXQ.out]; rfl] at hx0
                      simp only [Int.toNat_natCast] at hx0 hf0
                      obtain ⟨ad, hA, hy0⟩ := Kd.at_int (Kd.C_below HT0.out HB.out) x hxr.1 hxr.2
                      subst hA
                      have p1 := eq_true hxr.1
                      have p2 := eq_true hxr.2
                      have HP := Aside0.mk (Kd.R_putn HRt.out (q : Int) (rd sy x))
                      rw [Int.toNat_natCast, mix_set HXQ.out] at HP
                      have ho5 := HRt.out.1 g5 rfl
                      have hb5 := Kd.R_base HRt.out g5 rfl
                      have n8 : g8 ≠ g5 := fun e => Kd.R_ne HRt.out K8.out (by decide) (by rw [e]; rfl)
                      have n9 : g9 ≠ g5 := fun e => Kd.R_ne HRt.out K9.out (by decide) (by rw [e]; rfl)
                      have n11 : g11 ≠ g5 := fun e => Kd.R_ne HRt.out K11.out (by decide) (by rw [e]; rfl)
                      generalize rd sy x = y at *
                      go_wp2
                      replace K8 := Aside0.mk (blk_far K8.out (p := ⟨g5, q, none⟩) n8 (.int .i64 y))
                      replace K9 := Aside0.mk (blk_far K9.out (p := ⟨g5, q, none⟩) n9 (.int .i64 y))
                      replace K11 := Aside0.mk (blk_far K11.out (p := ⟨g5, q, none⟩) n11 (.int .i64 y))
                      replace HH := Aside0.mk (Kd.H_step HH.out (w1 := wt.setCell ⟨g5, q, none⟩ (.int .i64 y)) (fun k_ _ hk _ => Below.heap_setCell wt ⟨g5, q, none⟩ (.int .i64 y) k_ (fun e => hk (by rw [show k_ = g5 from e]; exact (HOKT.out g5 ho5).1))))
                      replace HH2 := Aside0.mk (Kd.H_step HH2.out (w1 := wt.setCell ⟨g5, q, none⟩ (.int .i64 y)) (fun k_ _ hk _ => Below.heap_setCell wt ⟨g5, q, none⟩ (.int .i64 y) k_ (fun e => hk (by rw [show k_ = g5 from e]; exact ho5))))
                      replace HB := Aside0.mk (below_set (j := q) (v := .int .i64 y) HB.out hb5)
                      go_roundw
                      · exact ⟨q + 1, by simp, hlt3, K8, K9, K11, HH, HH2, HP, HB⟩
                      · simp [intOf]; omega
                    · obtain rfl : q = t.length := by omega
                      rw [mix_all] at HRt
                      have HS2 := Aside0.mk (Kd.H_back HH2.out (x' := renT sy t) ⟨_, rfl, HRt.out⟩ (fun _ hk => hk))
                      rw [Int.toNat_natCast, mix_set HTI.out] at HS2
                      go_wp2
                      go_roundw
                      · exact ⟨i + 1, by simp, hlt2, K8, K9, K11, HH, HS2, HB⟩
                      · simp [intOf]; omega
                · obtain rfl : i = r.f2.length := by omega
                  rw [mix_all] at HS2
                  obtain ⟨c11_0, c11_1, c11_2, _, _, _⟩ := bq3 K11
                  have hm1 : ∀ t ∈ r.f2, t.length = (r.f2.headD []).length := fun t ht => (HFR.out.1 t ht).1
                  have hm2 : (r.f2.headD []).length ≤ 1000 := by
                    cases hq : r.f2 with
                    | nil => simp
                    | cons t ts => exact (HFR.out.1 t (by rw [hq]; exact List.mem_cons_self)).2.1
                  have hso := HSORT.out wl w.heap.size oki At ct (r.f2.map (renT sy)) (r.f2.headD []).length hm2 (fun t ht => by
                    obtain ⟨t', ht', rfl⟩ := List.mem_map.1 ht
                    unfold renT
                    rw [List.length_map]
                    exact hm1 t' ht') HFR.out.2 (by rw [List.length_map]; exact hr2) (by rw [List.length_map]; exact HS2.out) HB.out.size
                  rw [List.length_map] at hso
                  have HSO := Aside0.mk hso
                  clear hso hm1 hm2
                  go_wp2_with (fail)
                  refine HSO.out.mono ?_
                  rintro e w7 ⟨rfl, hS7, hk7, hb7⟩
                  clear HSO c11_0 c11_1 c11_2
                  obtain ⟨f2_, hR2⟩ := HS2.out
                  have hown := hR2.1
                  have K8 := Aside0.mk ((hk7 g8 (blk_lt K8.out) (Kd.S_ne HS2.out K8.out (by decide))).trans K8.out)
                  have K9 := Aside0.mk ((hk7 g9 (blk_lt K9.out) (Kd.S_ne HS2.out K9.out (by decide))).trans K9.out)
                  have HH := Aside0.mk (Kd.H_step HH.out (w1 := w7) (fun k_ _ hk hlt => hk7 k_ hlt (fun e => hk (hown k_ e.symm))))
                  have HB := Aside0.mk (HB.out.trans hb7)
                  have HS := Aside0.mk (Kd.H_back HH.out (x' := renR sy r) (kP_mkM _ _ _ (renR sy r) hS7) (fun _ hk => hk))
                  rw [Int.toNat_natCast, mix_set HRJ.out] at HS
                  go_wp2
                  go_roundw
                  · exact ⟨j + 1, by simp, hlt, K8, K9, HS, HB⟩
                  · simp [intOf]; omega
            · obtain rfl : j = l.length := by omega
              rw [mix_all] at HS
              obtain ⟨c9_0, c9_1, _, _⟩ := bq2 K9
              obtain ⟨c8_0, c8_1, f8_0, f8_1⟩ := bq2 K8
              go_wp2
              have HX := blk_put (cs' := #[.int .i64 n, .slice A3 l.length c3]) (blk_put (cs' := #[.int .i64 n, .slice none 0 0]) K8.out 0 (.int .i64 n) rfl) 1 (.slice A3 l.length c3) rfl
              have HV1 := Kd.R_set (R_kP HS.out) K8.out (by decide) 0 (.int .i64 n)
              have HV2 := Kd.R_set HV1 (blk_put (cs' := #[.int .i64 n, .slice none 0 0]) K8.out 0 (.int .i64 n) rfl) (by decide) 1 (.slice A3 l.length c3)
              have HBX := below_set (j := 1) (v := .slice A3 l.length c3) (below_set (j := 0) (v := .int .i64 n) HB.out hg8w) hg8w
              refine bodyPost_ret (results_perm _ _ g8 n 0 _ rfl rfl HX) rfl ?_
              exact ⟨_, rfl, HV2, HBX⟩
        · have hr := HR.out
          rw [if_neg hy] at hr
          obtain rfl := Option.some.inj hr
          clear hr HR
          by_cases hn : (sy.length : Int) = n
          · by_cases hc : (permCount sy : Int) = n
            · have hel : sy.any (outB n) = true := by
                unfold permYes at hy
                rw [decide_eq_true hn, decide_eq_true hc] at hy
                simpa using hy
              have g1 : ((sy.length : Int) != n) = false := bne_eq_false_iff_eq.2 hn
              have g2 : ((permCount sy : Int) != n) = false := bne_eq_false_iff_eq.2 hc
              generalize permCount sy = m at *
              go_wp2_with (first | ((try (refine gate_guard (by rfl) ?_; dsimp only)); at_len; refine wpList_len_own _ rfl _ 107 rfl 3 4 Tryz.underlying107 (plainElem (H := Unit) Tryz.prog 4) gm sy.length _ rfl HM.out ?_; rw [hm0]) | ((try (refine gate_guard (by rfl) ?_; dsimp only)); go_at_call 58; refine (shape_elements.calls n A2 c2 sy (!sy.any (outB n)) _ HT.out HLC2.out (elements_eq n sy)).mono ?_; rintro e w9 ⟨rfl, hb9⟩; rw [hel]; replace K8 := blB K8 hb9; replace K4 := blB K4 hb9; replace HB := Aside0.mk (below_step HB.out hb9); obtain ⟨c8_0, c8_1, f8_0, f8_1⟩ := bq2 K8; obtain ⟨c4_0, c4_1, _, _⟩ := bq2 K4))
              have HX := blk_put (cs' := #[.int .i64 0, .slice none 0 0]) (blk_put (cs' := #[.int .i64 0, .slice none 0 0]) K8.out 0 (.int .i64 0) rfl) 1 (.slice none 0 0) rfl
              have HBX := below_set (j := 1) (v := .slice none 0 0) (below_set (j := 0) (v := .int .i64 0) HB.out hg8w) hg8w
              refine bodyPost_ret (results_perm _ _ g8 0 2 _ rfl rfl HX) rfl ?_
              exact ⟨_, rfl, Kd.R_nil _ _ _ _ _, HBX⟩
            · have g1 : ((sy.length : Int) != n) = false := bne_eq_false_iff_eq.2 hn
              have g2 : ((permCount sy : Int) != n) = true := bne_iff_ne.2 hc
              generalize permCount sy = m at *
              go_wp2_with (first | ((try (refine gate_guard (by rfl) ?_; dsimp only)); at_len; refine wpList_len_own _ rfl _ 107 rfl 3 4 Tryz.underlying107 (plainElem (H := Unit) Tryz.prog 4) gm sy.length _ rfl HM.out ?_; rw [hm0]))
              have HX := blk_put (cs' := #[.int .i64 0, .slice none 0 0]) (blk_put (cs' := #[.int .i64 0, .slice none 0 0]) K8.out 0 (.int .i64 0) rfl) 1 (.slice none 0 0) rfl
              have HBX := below_set (j := 1) (v := .slice none 0 0) (below_set (j := 0) (v := .int .i64 0) HB.out hg8w) hg8w
              refine bodyPost_ret (results_perm _ _ g8 0 2 _ rfl rfl HX) rfl ?_
              exact ⟨_, rfl, Kd.R_nil _ _ _ _ _, HBX⟩
          · have g1 : ((sy.length : Int) != n) = true := bne_iff_ne.2 hn
            go_wp2
            have HX := blk_put (cs' := #[.int .i64 0, .slice none 0 0]) (blk_put (cs' := #[.int .i64 0, .slice none 0 0]) K8.out 0 (.int .i64 0) rfl) 1 (.slice none 0 0) rfl
            have HBX := below_set (j := 1) (v := .slice none 0 0) (below_set (j := 0) (v := .int .i64 0) HB.out hg8w) hg8w
            refine bodyPost_ret (results_perm _ _ g8 0 2 _ rfl rfl HX) rfl ?_
            exact ⟨_, rfl, Kd.R_nil _ _ _ _ _, HBX⟩
theorem shape_Permute.calls (k : Nat) (a0_0 : Int) (A0_1 : Option Addr) (c0_1 : Nat) (l0_1 : List S52) (A1 : Option Addr) (c1 : Nat) (l1 : List Int) (r1 : Int) (r2 : List S52) (r3 : Int) (w : World) (hr0_1 : Kd.C k52 w A0_1 l0_1.length l0_1) (hc0_1 : l0_1.length ≤ c0_1) (hr1 : Kd.C (Kd.int .i64) w A1 l1.length l1) (hc1 : l1.length ≤ c1) (h : shape_Permute.f k a0_0 l0_1 l1 = some (r1, r2, r3)) :
    Calls Tryz.prog 32 #[.agg #[.int .i64 a0_0, .slice A0_1 l0_1.length c0_1], .slice A1 l1.length c1] w fun e w' => ∃ v1_ : Value, e = .returned (.tuple #[.agg #[.int .i64 r1, v1_], .int .i64 r3]) ∧ Kd.R k52 52 w' w.heap.size (fun _ => True) v1_ r2 ∧ Below w.heap.size w w' :=
  permute_calls sort_calls k a0_0 A0_1 c0_1 l0_1 A1 c1 l1 (r1, r2, r3) w hr0_1 hc0_1 hr1 hc1 h
end Go.Proofs.YtfmpaofbnjlniaaGreatDoor.F
namespace Go.Proofs.YtfmpaofbnjlniaaGreatDoor.F
open Go.RowKit Go.Proofs.YtfmpaofbnjlniaaGreatDoorW.PrintWords Go.Proofs.YtfmpaofbnjlniaaGreatDoorW.PrintLast Go.Proofs.YtfmpaofbnjlniaaGreatDoorW.PrintMore
attribute [local go_sem] max2_int min2_int max_two min_two max_three min_three max_four min_four
set_option linter.unusedVariables false
set_option linter.unusedSimpArgs false
/-! ### paraphrastref01_Perm: function 30 -/
mutual
def paraphrastref01_Perm.j0 : Nat → List Int → Bool → Option (Bool)
 | 0, _, _ => none
 | k + 1, x1, x16 => if x16 = true then (some false) else (paraphrastref01_Perm.l0 k x1 0)
def paraphrastref01_Perm.l0 : Nat → List Int → Int → Option (Bool)
 | 0, _, _ => none
 | k + 1, x1, x5 => if x5 < (x1.length : Int) then (paraphrastref01_Perm.l1 k x1 x5 0) else (some true)
def paraphrastref01_Perm.l1 : Nat → List Int → Int → Int → Option (Bool)
 | 0, _, _, _ => none
 | k + 1, x1, x5, x6 => if x6 < x5 then (if 0 ≤ x6 then (if x6 < (x1.length : Int) then (if 0 ≤ x5 then (if x5 < (x1.length : Int) then (if (rd x1 x6) = (rd x1 x5) then (some false) else (paraphrastref01_Perm.l1 k x1 x5 (wrap64 (x6 + 1)))) else (none)) else (none)) else (none)) else (none)) else (paraphrastref01_Perm.l0 k x1 (wrap64 (x5 + 1)))
end
def paraphrastref01_Perm.f (k : Nat) (a0 : Int) (l1 : List Int) : Option (Bool) := if (l1.length : Int) = a0 then ((paraphrastref01_In.f k a0 l1).bind fun t455 => (paraphrastref01_Perm.j0 k l1 (!t455))) else (paraphrastref01_Perm.j0 k l1 true)
set_option maxHeartbeats 8000000 in
set_option maxRecDepth 100000 in
theorem paraphrastref01_Perm.calls (k : Nat) (a0 : Int) (A1 : Option Addr) (c1 : Nat) (l1 : List Int) (r : Bool) (w : World) (hr1 : Kd.C (Kd.int .i64) w A1 l1.length l1) (hc1 : l1.length ≤ c1) (h : paraphrastref01_Perm.f k a0 l1 = some r) :
  Calls Tryz.prog 30 #[.int .i64 a0, .slice A1 l1.length c1] w fun e w' => e = .returned (.bool r) ∧ Drawn0 w w' := by
 have HR1 := Aside0.mk hr1
 have HC1 := Aside0.mk hc1
 clear hr1 hc1
 have H : (if (l1.length : Int) = a0 then ((paraphrastref01_In.f k a0 l1).bind fun t455 => (paraphrastref01_Perm.j0 k l1 (!t455))) else (paraphrastref01_Perm.j0 k l1 true)) = some r := h
 clear h
 have HC3 := Aside0.mk H
 clear H
 go_enter Tryz.func30, Tryz.ntmps30
 go_upto_region 1 with (fail)
 repeat (go_quiet (fail); go_upto_region 1 with (fail))
 go_cut [16] (fun v16 wc => ∃ (kq : Nat) (x16_2 : Bool), v16 = .bool x16_2 ∧ Aside0 (paraphrastref01_Perm.j0 kq l1 x16_2 = some r) ∧ Aside0 (kq ≤ k) ∧ Drawn0 w wc)
 case first =>
  have H := HC3.out
  clear HC3
  by_cases c4 : (l1.length : Int) = a0
  ·rw [if_pos c4] at H
   have c4b0 : ((l1.length : Int) == a0) = true := beq_iff_eq.mpr c4
   have c4b1 : ((l1.length : Int) != a0) = false := bne_eq_false_iff_eq.mpr c4
   clear c4
   (first | rw [c4b0] | (simp only [i64_w, i32_w]; rw [c4b0]) | skip)
   replace H := Option.bind_eq_some_iff.mp H
   obtain ⟨t455, A50, H⟩ := H
   replace H : (paraphrastref01_Perm.j0 k l1 (!t455)) = some r := H
   have A5 := Aside0.mk A50
   clear A50
   have H' := Aside0.mk H
   clear H
   go_wp2_with (first | (go_at_call 27; (with_reducible refine (paraphrastref01_In.calls k a0 _ _ l1 t455 _ ?side1 ?side2 A5.out).mono ?_); (case side1 => exact cS HR1.out); (case side2 => exact HC1.out); rintro e w' ⟨rfl, ⟨nd, rfl⟩⟩; (try first | exact ⟨rfl, _, World.drewN_drewN _ _ _⟩ | exact ⟨rfl, _, Eq.trans (World.drewN_drewN _ _ _) (congrArg (World.drewN _) (Nat.add_assoc _ _ _))⟩)))
   repeat (go_quiet (first | (go_at_call 27; (with_reducible refine (paraphrastref01_In.calls k a0 _ _ l1 t455 _ ?side1 ?side2 A5.out).mono ?_); (case side1 => exact cS HR1.out); (case side2 => exact HC1.out); rintro e w' ⟨rfl, ⟨nd, rfl⟩⟩; (try first | exact ⟨rfl, _, World.drewN_drewN _ _ _⟩ | exact ⟨rfl, _, Eq.trans (World.drewN_drewN _ _ _) (congrArg (World.drewN _) (Nat.add_assoc _ _ _))⟩))); try go_wp2_with (first | (go_at_call 27; (with_reducible refine (paraphrastref01_In.calls k a0 _ _ l1 t455 _ ?side1 ?side2 A5.out).mono ?_); (case side1 => exact cS HR1.out); (case side2 => exact HC1.out); rintro e w' ⟨rfl, ⟨nd, rfl⟩⟩; (try first | exact ⟨rfl, _, World.drewN_drewN _ _ _⟩ | exact ⟨rfl, _, Eq.trans (World.drewN_drewN _ _ _) (congrArg (World.drewN _) (Nat.add_assoc _ _ _))⟩))))
   go_meet
   case rel => exact ⟨_, (!t455), eS, H', ⟨kle⟩, dr0⟩
  ·rw [if_neg c4] at H
   have c4b0 : ((l1.length : Int) == a0) = false := beq_eq_false_iff_ne.mpr c4
   have c4b1 : ((l1.length : Int) != a0) = true := bne_iff_ne.mpr c4
   (first | rw [c4b0] | (simp only [i64_w, i32_w]; rw [c4b0]) | skip)
   have H' := Aside0.mk H
   clear H
   go_wp2
   repeat (go_quiet (fail); try go_wp2)
   go_meet
   case rel => exact ⟨_, (true), eS, H', ⟨kle⟩, dr0⟩
 case rest =>
  clear HC3
  (try clear c1)
  obtain ⟨kq, x16_2, rfl, HA, HJ2, ⟨mc2, rfl⟩⟩ := hcut
  cases kq with
  | zero => exact absurd HA.out (by simp [paraphrastref01_Perm.j0])
  | succ kj2 =>
   have H := HA.out
   clear HA
   simp only [paraphrastref01_Perm.j0] at H
   by_cases c6 : x16_2 = true
   ·subst c6
    have H1 : (some false) = some r := by rw [if_pos rfl] at H; exact H
    clear H
    have H := H1
    clear H1
    obtain rfl := Option.some.inj H
    go_wp2
    repeat (go_quiet (fail); try go_wp2)
    go_ret
    exact ⟨eS, dr0⟩
   ·replace c6 := Bool.eq_false_iff.mpr c6
    subst c6
    have H1 : (paraphrastref01_Perm.l0 kj2 l1 0) = some r := by rw [if_neg (show ¬ (false = true) by decide)] at H; exact H
    clear H
    have H := H1
    clear H1
    have H' := Aside0.mk H
    clear H
    go_wp2
    repeat (go_quiet (fail); try go_wp2)
    go_loopg [5] kj2 (fun kq v5 w' => ∃ (x5_2 : Int), v5 = .int .i64 x5_2 ∧ Aside0 (paraphrastref01_Perm.l0 kq l1 x5_2 = some r) ∧ Aside0 (kq ≤ kj2) ∧ Drawn0 w w')
    case atStart => exact ⟨(0), eS, H', ⟨Nat.le_refl _⟩, dr0⟩
    case round =>
     clear H'
     (try clear c1); (try clear c6)
     obtain ⟨x5_2, rfl, HA, HK2, ⟨m2, rfl⟩⟩ := hrel
     cases gk with
     | zero => exact absurd HA.out (by simp [paraphrastref01_Perm.l0])
     | succ k2 =>
      have H := HA.out
      clear HA
      simp only [paraphrastref01_Perm.l0] at H
      by_cases c7 : x5_2 < (l1.length : Int)
      ·rw [if_pos c7] at H
       have c7b0 : decide (x5_2 < (l1.length : Int)) = true := decide_eq_true c7
       clear c7
       have H' := Aside0.mk H
       clear H
       go_wp2
       repeat (go_quiet (fail); try go_wp2)
       go_loopg [6] k2 (fun kq v6 w' => ∃ (x6_3 : Int), v6 = .int .i64 x6_3 ∧ Aside0 (paraphrastref01_Perm.l1 kq l1 x5_2 x6_3 = some r) ∧ Aside0 (kq ≤ k2) ∧ Drawn0 w w')
       case atStart => exact ⟨(0), eS, H', ⟨Nat.le_refl _⟩, dr0⟩
       case round =>
        clear H'
        (try clear c1); (try clear c6); (try clear c7); (try clear c7b0)
        obtain ⟨x6_3, rfl, HA, HK3, ⟨m3, rfl⟩⟩ := hrel
        cases gk with
        | zero => exact absurd HA.out (by simp [paraphrastref01_Perm.l1])
        | succ k3 =>
         have H := HA.out
         clear HA
         simp only [paraphrastref01_Perm.l1] at H
         by_cases c8 : x6_3 < x5_2
         ·rw [if_pos c8] at H
          have c8b0 : decide (x6_3 < x5_2) = true := decide_eq_true c8
          clear c8
          by_cases c9 : 0 ≤ x6_3
          ·rw [if_pos c9] at H
           have c9b0 : decide (0 ≤ x6_3) = true := decide_eq_true c9
           clear c9
           by_cases c10 : x6_3 < (l1.length : Int)
           ·rw [if_pos c10] at H
            have c10b0 : decide (x6_3 < (l1.length : Int)) = true := decide_eq_true c10
            clear c10
            by_cases c11 : 0 ≤ x5_2
            ·rw [if_pos c11] at H
             have c11b0 : decide (0 ≤ x5_2) = true := decide_eq_true c11
             clear c11
             by_cases c12 : x5_2 < (l1.length : Int)
             ·rw [if_pos c12] at H
              have c12b0 : decide (x5_2 < (l1.length : Int)) = true := decide_eq_true c12
              clear c12
              by_cases c13 : (rd l1 x6_3) = (rd l1 x5_2)
              ·rw [if_pos c13] at H
               have c13b0 : ((rd l1 x6_3) == (rd l1 x5_2)) = true := beq_iff_eq.mpr c13
               have c13b1 : ((rd l1 x6_3) != (rd l1 x5_2)) = false := bne_eq_false_iff_eq.mpr c13
               clear c13
               obtain rfl := Option.some.inj H
               have p456 : 0 ≤ (x6_3 : Int) := dtr
               have q456 : x6_3 < (l1.length : Int) := dtr
               obtain ⟨ad456, e456, hx456_0⟩ := Kd.at_int HR1.out x6_3 p456 q456
               cases e456
               replace p456 := eq_true p456
               replace q456 := eq_true q456
               have p457 : 0 ≤ (x5_2 : Int) := dtr
               have q457 : x5_2 < (l1.length : Int) := dtr
               obtain ⟨ad457, e457, hx457_0⟩ := Kd.at_int HR1.out x5_2 p457 q457
               obtain rfl : ad456 = ad457 := (by injection e457)
               replace p457 := eq_true p457
               replace q457 := eq_true q457
               go_wp2
               repeat (go_quiet (fail); try go_wp2)
               go_ret
               exact ⟨eS, dr0⟩
              ·rw [if_neg c13] at H
               have c13b0 : ((rd l1 x6_3) == (rd l1 x5_2)) = false := beq_eq_false_iff_ne.mpr c13
               have c13b1 : ((rd l1 x6_3) != (rd l1 x5_2)) = true := bne_iff_ne.mpr c13
               have H' := Aside0.mk H
               clear H
               have p456 : 0 ≤ (x6_3 : Int) := dtr
               have q456 : x6_3 < (l1.length : Int) := dtr
               obtain ⟨ad456, e456, hx456_0⟩ := Kd.at_int HR1.out x6_3 p456 q456
               cases e456
               replace p456 := eq_true p456
               replace q456 := eq_true q456
               have p457 : 0 ≤ (x5_2 : Int) := dtr
               have q457 : x5_2 < (l1.length : Int) := dtr
               obtain ⟨ad457, e457, hx457_0⟩ := Kd.at_int HR1.out x5_2 p457 q457
               obtain rfl : ad456 = ad457 := (by injection e457)
               replace p457 := eq_true p457
               replace q457 := eq_true q457
               go_wp2
               repeat (go_quiet (fail); try go_wp2)
               go_roundg k3
               case measure => have := HJ2.out; have := HK2.out; have := HK3.out; omega
               case rel => exact ⟨(wrap64 (x6_3 + 1)), eS, H', ⟨by have := HJ2.out; have := HK2.out; have := HK3.out; omega⟩, dr0⟩
             ·rw [if_neg c12] at H
              exact absurd H (by simp)
            ·rw [if_neg c11] at H
             exact absurd H (by simp)
           ·rw [if_neg c10] at H
            exact absurd H (by simp)
          ·rw [if_neg c9] at H
           exact absurd H (by simp)
         ·rw [if_neg c8] at H
          have c8b0 : decide (x6_3 < x5_2) = false := decide_eq_false c8
          clear c8
          have H' := Aside0.mk H
          clear H
          go_wp2
          repeat (go_quiet (fail); try go_wp2)
          go_roundg k3
          case measure => have := HJ2.out; have := HK2.out; have := HK3.out; omega
          case rel => exact ⟨(wrap64 (x5_2 + 1)), eS, H', ⟨by have := HJ2.out; have := HK2.out; have := HK3.out; omega⟩, dr0⟩
      ·rw [if_neg c7] at H
       have c7b0 : decide (x5_2 < (l1.length : Int)) = false := decide_eq_false c7
       clear c7
       obtain rfl := Option.some.inj H
       go_wp2
       repeat (go_quiet (fail); try go_wp2)
       go_ret
       exact ⟨eS, dr0⟩
end Go.Proofs.YtfmpaofbnjlniaaGreatDoor.F
namespace Go.Proofs.YtfmpaofbnjlniaaGreatDoor.F
open Go.RowKit Go.Proofs.YtfmpaofbnjlniaaGreatDoorW.PrintWords Go.Proofs.YtfmpaofbnjlniaaGreatDoorW.PrintLast Go.Proofs.YtfmpaofbnjlniaaGreatDoorW.PrintMore
attribute [local go_sem] max2_int min2_int max_two min_two max_three min_three max_four min_four
set_option linter.unusedVariables false
set_option linter.unusedSimpArgs false
/-! ### paraphrastref01_Renamed: function 35 -/
def paraphrastref01_Renamed.l0 : Nat → List Int → List Int → List Int → Int → Option (List Int)
 | 0, _, _, _, _ => none
 | k + 1, x0, x1, x5, x6 => if x6 < (x0.length : Int) then (if 0 ≤ x6 then (if 0 ≤ (rd x0 x6) then (if (rd x0 x6) < (x1.length : Int) then (if x5.length < 17592186044416 then (paraphrastref01_Renamed.l0 k x0 x1 (x5 ++ [rd x1 (rd x0 x6)]) (wrap64 (x6 + 1))) else (none)) else (none)) else (none)) else (none)) else (some x5)
def paraphrastref01_Renamed.f (k : Nat) (l0 : List Int) (l1 : List Int) : Option (List Int) := paraphrastref01_Renamed.l0 k l0 l1 ([] : List Int) 0
set_option maxHeartbeats 8000000 in
set_option maxRecDepth 100000 in
theorem paraphrastref01_Renamed.calls (k : Nat) (A0 : Option Addr) (c0 : Nat) (l0 : List Int) (A1 : Option Addr) (c1 : Nat) (l1 : List Int) (r : List Int) (w : World) (hr0 : Kd.C (Kd.int .i64) w A0 l0.length l0) (hc0 : l0.length ≤ c0) (hr1 : Kd.C (Kd.int .i64) w A1 l1.length l1) (hc1 : l1.length ≤ c1) (h : paraphrastref01_Renamed.f k l0 l1 = some r) :
  Calls Tryz.prog 35 #[.slice A0 l0.length c0, .slice A1 l1.length c1] w fun e w' => ∃ v0_ : Value, e = .returned (v0_) ∧ Kd.R (Kd.int .i64) 3 w' w.heap.size (fun _ => True) v0_ r ∧ Below w.heap.size w w' := by
 have HR0 := Aside0.mk hr0
 have HC0 := Aside0.mk hc0
 clear hr0 hc0
 have HR1 := Aside0.mk hr1
 have HC1 := Aside0.mk hc1
 clear hr1 hc1
 have HB := Aside0.mk (Below.refl w.heap.size w)
 have H : (paraphrastref01_Renamed.l0 k l0 l1 ([] : List Int) 0) = some r := h
 clear h
 have H' := Aside0.mk H
 clear H
 go_enter Tryz.func35, Tryz.ntmps35
 go_wp2
 go_loopg [5, 6] k (fun kq v5 v6 w' => ∃ (x5_1 : List Int) (x6_1 : Int), v6 = .int .i64 x6_1 ∧ Aside0 (paraphrastref01_Renamed.l0 kq l0 l1 x5_1 x6_1 = some r) ∧ Aside0 (kq ≤ k) ∧ Aside0 (Kd.R (Kd.int .i64) 3 w' w.heap.size (fun _ => True) v5 x5_1) ∧ Aside0 (Below w.heap.size w w'))
 case atStart => exact ⟨(([] : List Int)), (0), eS, H', ⟨Nat.le_refl _⟩, ⟨by first | exact Kd.R_nil _ _ _ _ _ | exact Kd.N_nil _ _ _ _ _ | exact Kd.V_nil _ _ _ _ _ | exact Kd.Q_nil _ _ _ _ _ | exact Kd.S_nil _ _ _ _ _⟩, ⟨bel⟩⟩
 case round =>
  clear H'
  (try clear c1)
  obtain ⟨x5_1, x6_1, rfl, HA, HK1, HO_5, HB⟩ := hrel
  cases gk with
  | zero => exact absurd HA.out (by simp [paraphrastref01_Renamed.l0])
  | succ k1 =>
   have H := HA.out
   clear HA
   simp only [paraphrastref01_Renamed.l0] at H
   by_cases c3 : x6_1 < (l0.length : Int)
   ·rw [if_pos c3] at H
    have c3b0 : decide (x6_1 < (l0.length : Int)) = true := decide_eq_true c3
    clear c3
    by_cases c4 : 0 ≤ x6_1
    ·rw [if_pos c4] at H
     have c4b0 : decide (0 ≤ x6_1) = true := decide_eq_true c4
     clear c4
     by_cases c5 : 0 ≤ (rd l0 x6_1)
     ·rw [if_pos c5] at H
      have c5b0 : decide (0 ≤ (rd l0 x6_1)) = true := decide_eq_true c5
      clear c5
      by_cases c6 : (rd l0 x6_1) < (l1.length : Int)
      ·rw [if_pos c6] at H
       have c6b0 : decide ((rd l0 x6_1) < (l1.length : Int)) = true := decide_eq_true c6
       clear c6
       by_cases c7 : x5_1.length < 17592186044416
       ·rw [if_pos c7] at H
        have LMc7 := Aside0.mk c7
        clear c7
        obtain ⟨y460, hy460⟩ : ∃ y_ : List Int, y_ = (x5_1 ++ [rd l1 (rd l0 x6_1)]) := ⟨_, rfl⟩
        replace H : (paraphrastref01_Renamed.l0 k1 l0 l1 y460 (wrap64 (x6_1 + 1))) = some r := by first | (rw [hy460]; with_reducible exact H) | (have H2_ := (Option.bind_some _ _).symm.trans H; rw [hy460]; with_reducible exact H2_) | (have H2_ := (Option.bind_some _ _).symm.trans H; with_reducible exact H2_) | with_reducible exact H | (rw [hy460]; exact H) | exact H
        have Ny460 := Aside0.mk hy460
        clear hy460
        have H' := Aside0.mk H
        clear H
        have p458 : 0 ≤ (x6_1 : Int) := dtr
        have q458 : x6_1 < (l0.length : Int) := dtr
        obtain ⟨ad458, e458, hx458_0⟩ := Kd.at_int HR0.out x6_1 p458 q458
        cases e458
        replace hx458_0 := oc hx458_0
        replace p458 := eq_true p458
        replace q458 := eq_true q458
        have p459 : 0 ≤ ((rd l0 x6_1) : Int) := dtr
        have q459 : (rd l0 x6_1) < (l1.length : Int) := dtr
        obtain ⟨ad459, e459, hx459_0⟩ := Kd.at_int HR1.out (rd l0 x6_1) p459 q459
        cases e459
        replace hx459_0 := oc hx459_0
        replace p459 := eq_true p459
        replace q459 := eq_true q459
        go_wp2_with (first | ((with_reducible refine gate_builtin (b := .append) (xs := #[.tmp 13, .tmp 21]) rfl ?_); at_builtin; refine Kd.R_append (Kd.int .i64) (w0 := w) w.heap.size rfl (.tmp 13) (.tmp 21) 46 3 (.int .i64 0) 8 rfl Tryz.underlying46 info3 rfl (by decide) (by omega) u5 x5_1 (rd l1 (rd l0 x6_1)) [.int .i64 (rd l1 (rd l0 x6_1))] (fun _ => True) (fun _ => False) rfl rfl ?aP (fun _ hk => hk.elim) ?aF ?aO ?aB ?aS ?aL ?_; (case aP => exact rfl); (case aB => exact bel); (case aF => exact (fun _ _ => trivial)); (case aO => exact (tw HO_5.out)); (case aS => exact (below_size bel)); (case aL => have := LMc7.out; omega); intro v461 w8 ho hb hg hat; rw [← Ny460.out] at ho; have HO462 := Aside0.mk (ho); replace HB := Aside0.mk (hb); clear HO_5; clear ho hb hg hat))
        go_roundg k1
        case measure => have := HK1.out; omega
        case rel => exact ⟨(y460), (wrap64 (x6_1 + 1)), eS, H', ⟨by have := HK1.out; omega⟩, ⟨by (with_reducible repeat (first | apply Kd.R_alloc | apply Kd.R_drewN | apply Kd.R_drew)); exact HO462.out⟩, ⟨bel⟩⟩
       ·rw [if_neg c7] at H
        exact absurd H (by simp)
      ·rw [if_neg c6] at H
       exact absurd H (by simp)
     ·rw [if_neg c5] at H
      exact absurd H (by simp)
    ·rw [if_neg c4] at H
     exact absurd H (by simp)
   ·rw [if_neg c3] at H
    have c3b0 : decide (x6_1 < (l0.length : Int)) = false := decide_eq_false c3
    clear c3
    obtain rfl := Option.some.inj H
    go_wp2
    go_ret
    exact ⟨_, eN, by (with_reducible repeat (first | apply Kd.R_alloc | apply Kd.R_drewN | apply Kd.R_drew)); exact HO_5.out, bel⟩
end Go.Proofs.YtfmpaofbnjlniaaGreatDoor.F
namespace Go.Proofs.YtfmpaofbnjlniaaGreatDoor.F
open Go.RowKit Go.Proofs.YtfmpaofbnjlniaaGreatDoorW.PrintWords Go.Proofs.YtfmpaofbnjlniaaGreatDoorW.PrintLast Go.Proofs.YtfmpaofbnjlniaaGreatDoorW.PrintMore
attribute [local go_sem] max2_int min2_int max_two min_two max_three min_three max_four min_four
set_option linter.unusedVariables false
set_option linter.unusedSimpArgs false
/-! ### paraphrastref01_Permute: function 31 -/
mutual
def paraphrastref01_Permute.l0 : Nat → List Int → Int → Int → List (S52) → Int → List (S52) → Option (Int × (List (S52)))
 | 0, _, _, _, _, _, _ => none
 | k + 1, x1, x6, x464000, x464001, x470000, x470001 => if x6 < (x464001.length : Int) then (paraphrastref01_Permute.l1 k x1 x6 ([] : List (List Int)) 0 x464000 x464001 x470000 x470001) else (some (x470000, x470001))
def paraphrastref01_Permute.l1 : Nat → List Int → Int → List (List Int) → Int → Int → List (S52) → Int → List (S52) → Option (Int × (List (S52)))
 | 0, _, _, _, _, _, _, _, _ => none
 | k + 1, x1, x6, x7, x8, x464000, x464001, x470000, x470001 => if 0 ≤ x6 then (if x6 < (x464001.length : Int) then (if x8 < (((rd_T52 x464001 x6).f2).length : Int) then (if 0 ≤ x8 then ((paraphrastref01_Renamed.f k (rd_L2 ((rd_T52 x464001 x6).f2) x8) x1).bind fun t473 => (if x7.length < 5864062014805 then (paraphrastref01_Permute.l1 k x1 x6 (x7 ++ [t473]) (wrap64 (x8 + 1)) x464000 x464001 x470000 x470001) else (none))) else (none)) else ((paraphrastref01_Sorted.f x7).bind fun t479 => (if x6 < (x470001.length : Int) then (paraphrastref01_Permute.l0 k x1 (wrap64 (x6 + 1)) x464000 x464001 x470000 (x470001.set (x6 : Int).toNat (⟨(rd_T52 x470001 x6).f0, (rd_T52 x470001 x6).f1, t479⟩ : S52))) else (none)))) else (none)) else (none)
end
def paraphrastref01_Permute.f (k : Nat) (a0_0 : Int) (l0_1 : List (S52)) (l1 : List Int) : Option (Int × (List (S52))) := (paraphrastref01_Copy.f k a0_0 l0_1).bind fun bt465 => (paraphrastref01_Permute.l0 k l1 0 a0_0 l0_1 bt465.1 bt465.2)
def paraphrastref01_Permute.T10 : Bool × List (List Nat × List Nat) := (true, [([], []), ([0], [0]), ([], []), ([], []), ([3], [3]), ([1, 2, 0, 1, 2, 3, 4], [1, 2]), ([5, 0, 1, 2, 3, 4], [5]), ([6, 4, 4, 0, 1, 2, 3, 4], [4, 6])])
def paraphrastref01_Permute.B10 : List Nat := [0, 1, 0, 0, 8, 31, 63, 127]
theorem paraphrastref01_Permute.tab10 : rtab .any (opsOf Tryz.f31 10) = paraphrastref01_Permute.T10 := by kernel_rfl
theorem paraphrastref01_Permute.bits10 : waitsOk paraphrastref01_Permute.T10.2 paraphrastref01_Permute.B10 = true := by kernel_rfl
set_option maxHeartbeats 8000000 in
set_option maxRecDepth 100000 in
theorem paraphrastref01_Permute.calls (k : Nat) (a0_0 : Int) (A0_1 : Option Addr) (c0_1 : Nat) (l0_1 : List (S52)) (A1 : Option Addr) (c1 : Nat) (l1 : List Int) (r1 : Int) (r2 : List (S52)) (w : World) (hr0_1 : Kd.C k52 w A0_1 l0_1.length l0_1) (hc0_1 : l0_1.length ≤ c0_1) (hr1 : Kd.C (Kd.int .i64) w A1 l1.length l1) (hc1 : l1.length ≤ c1) (h : paraphrastref01_Permute.f k a0_0 l0_1 l1 = some (r1, r2)) :
  Calls Tryz.prog 31 #[.agg #[.int .i64 a0_0, .slice A0_1 l0_1.length c0_1], .slice A1 l1.length c1] w fun e w' => ∃ v1_ : Value, e = .returned (.agg #[.int .i64 r1, v1_]) ∧ Kd.N k52 52 w' w.heap.size (fun k_ => (w.heap.size ≤ k_)) v1_ r2 ∧ Below w.heap.size w w' := by
 have hu24 := Tryz.underlying24
 have HR0_1 := Aside0.mk hr0_1
 have HC0_1 := Aside0.mk hc0_1
 clear hr0_1 hc0_1
 have HR1 := Aside0.mk hr1
 have HC1 := Aside0.mk hc1
 clear hr1 hc1
 have HB := Aside0.mk (Below.refl w.heap.size w)
 have H : ((paraphrastref01_Copy.f k a0_0 l0_1).bind fun bt465 => (paraphrastref01_Permute.l0 k l1 0 a0_0 l0_1 bt465.1 bt465.2)) = some (r1, r2) := h
 clear h
 replace H := Option.bind_eq_some_iff.mp H
 obtain ⟨⟨t465, t466⟩, A30, H⟩ := H
 replace H : (paraphrastref01_Permute.l0 k l1 0 a0_0 l0_1 t465 t466) = some (r1, r2) := H
 have A3 := Aside0.mk A30
 clear A30
 have H' := Aside0.mk H
 clear H
 go_enter Tryz.func31, Tryz.ntmps31
 go_wp2_with (first | ((with_reducible refine gate_dst (N := 2) rfl ?_); refine box_event ?hg (N := 2) ?hd (cs := #[.int .i64 a0_0, .slice A0_1 l0_1.length c0_1]) (t := 24) ?hr ?_; (case hd => rfl); (case hg => rfl); (case hr => first | (go_simp; done) | (go_simp; rfl)); intro gb463 hg w4 hbox hb; have BK463 := Aside0.mk (hbox); have GW463 := geB w hg; have GE463 := geB w hg; replace HB := Aside0.mk (below_step bel hb); clear hb hbox hg) | ((with_reducible refine gate_dst (N := 4) rfl ?_); refine box_event ?hg (N := 4) ?hd (cs := #[.int .i64 0, .slice none 0 0]) (t := 24) ?hr ?_; (case hd => rfl); (case hg => rfl); (case hr => first | (go_simp; done) | (go_simp; rfl)); intro gb464 hg w5 hbox hb; have BK464 := Aside0.mk (hbox); have GW464 := geB w hg; have GE464 := geB w hg; have NB463_464 := neL BK463 hg; have NB464_463 := neG BK463 hg; replace BK463 := blB BK463 hb; replace HB := Aside0.mk (below_step bel hb); clear hb hbox hg; have hnb6 := NB463_464.out; have hnc6 := NB464_463.out; obtain ⟨hcz7_0, hcz7_1, hfz7_0, hfz7_1⟩ := bq2 BK463) | ((with_reducible refine gate_callee (f := 36) rfl ?_); refine gL (some 10) Tryz.func36 #[.agg #[.int .i64 a0_0, .slice A0_1 l0_1.length c0_1]] ?_; (with_reducible refine (paraphrastref01_Copy.calls k a0_0 _ _ l0_1 t465 t466 _ ?side1 ?side2 A3.out).mono ?_); (case side1 => exact cS (Kd.C_below HR0_1.out HB.out)); (case side2 => exact HC0_1.out); rintro e w8 ⟨v467, rfl, ho0, hb⟩; refine ⟨_, rfl, ?_⟩; have HO468 := Aside0.mk (Kd.N_lower (Kd.N_mono (ok' := fun k_ => (w.heap.size ≤ k_) ∧ k_ ≠ gb463 ∧ k_ ≠ gb464) (Kd.R_N (Kd.R_bound ho0)) (fun k_ hk_ => ⟨(Nat.le_trans (below_size bel) hk_.2.1), (Kd.freshB (g := gb463) (o := .cells #[.int .i64 a0_0, .slice A0_1 l0_1.length c0_1] 24 (0, 0)) (bk BK463) k_ hk_.2.1), (Kd.freshB (g := gb464) (o := .cells #[.int .i64 0, .slice none 0 0] 24 (0, 0)) (bk BK464) k_ hk_.2.1)⟩)) (below_size bel)); replace BK463 := blB BK463 hb; replace BK464 := blB BK464 hb; replace HB := Aside0.mk (below_step bel hb); (try clear hb); (try clear hb2); (try clear hk); (try clear hi); (try clear ho0)) | ((with_reducible refine gate_dst (N := 5) rfl ?_); refine box_event ?hg (N := 5) ?hd (cs := #[.int .i64 0, .slice none 0 0]) (t := 24) ?hr ?_; (case hd => rfl); (case hg => rfl); (case hr => first | (go_simp; done) | (go_simp; rfl)); intro gb469 hg w9 hbox hb; have BK469 := Aside0.mk (hbox); have GW469 := geB w hg; have GE469 := geB w hg; have NB463_469 := neL BK463 hg; have NB469_463 := neG BK463 hg; have NB464_469 := neL BK464 hg; have NB469_464 := neG BK464 hg; replace HO468 := nB HO468 hg hb; replace BK463 := blB BK463 hb; replace BK464 := blB BK464 hb; replace HB := Aside0.mk (below_step bel hb); clear hb hbox hg; have hnb10 := NB469_463.out; have hnc10 := NB463_469.out; have hnb11 := NB469_464.out; have hnc11 := NB464_469.out; obtain ⟨hcz12_0, hcz12_1, hfz12_0, hfz12_1⟩ := bq2 BK469; obtain ⟨Ao13, co13, eo13⟩ := Kd.N_slice HO468.out; subst eo13))
 go_loopg [6] k (fun kq v6 w' => ∃ (x6_1 : Int) (x470001_1 : List (S52)) (u470001 : Value), v6 = .int .i64 x6_1 ∧ Aside0 (paraphrastref01_Permute.l0 kq l1 x6_1 a0_0 l0_1 t465 x470001_1 = some (r1, r2)) ∧ Aside0 (kq ≤ k) ∧ Aside0 (Kd.N k52 52 w' w.heap.size (fun k_ => (w.heap.size ≤ k_) ∧ k_ ≠ gb463 ∧ k_ ≠ gb464 ∧ k_ ≠ gb469) u470001 x470001_1) ∧ Aside0 (w'.heap[gb463]? = some (.cells #[.int .i64 a0_0, (.slice A0_1 l0_1.length c0_1)] 24 (0, 0))) ∧ Aside0 (w'.heap[gb464]? = some (.cells #[.int .i64 0, (.slice none 0 0)] 24 (0, 0))) ∧ Aside0 (w'.heap[gb469]? = some (.cells #[.int .i64 t465, u470001] 24 (0, 0))) ∧ Aside0 (Below w.heap.size w w'))
 case atStart => exact ⟨(0), (t466), (.slice Ao13 t466.length co13), eS, H', ⟨Nat.le_refl _⟩, ⟨by (with_reducible repeat (first | apply Kd.N_alloc | apply Kd.N_drewN | apply Kd.N_drew)); exact Kd.N_mono (Kd.N_far (p := ⟨gb469, 1, none⟩) (Kd.N_far (p := ⟨gb469, 0, none⟩) (Kd.N_mono HO468.out (fun k_ hk => (⟨hk, hk.2⟩ : _ ∧ k_ ≠ gb469))) (fun _ hk => hk.2) (.int .i64 t465)) (fun _ hk => hk.2) (.slice Ao13 t466.length co13)) (fun _ hk => ⟨hk.1.1.1, ⟨hk.1.1.2.1, ⟨hk.1.1.2.2, hk.1.2⟩⟩⟩)⟩, ⟨by (with_reducible repeat (first | refine blk_drewN ?_ _ | refine blk_drew ?_ | refine blk_alloc ?_ _)); refine blk_far ?_ NB463_469.out _; (with_reducible repeat (first | refine blk_drewN ?_ _ | refine blk_drew ?_ | refine blk_alloc ?_ _)); refine blk_far ?_ NB463_469.out _; (with_reducible repeat (first | refine blk_drewN ?_ _ | refine blk_drew ?_ | refine blk_alloc ?_ _)); exact BK463.out⟩, ⟨by (with_reducible repeat (first | refine blk_drewN ?_ _ | refine blk_drew ?_ | refine blk_alloc ?_ _)); refine blk_far ?_ NB464_469.out _; (with_reducible repeat (first | refine blk_drewN ?_ _ | refine blk_drew ?_ | refine blk_alloc ?_ _)); refine blk_far ?_ NB464_469.out _; (with_reducible repeat (first | refine blk_drewN ?_ _ | refine blk_drew ?_ | refine blk_alloc ?_ _)); exact BK464.out⟩, ⟨by (with_reducible repeat (first | refine blk_drewN ?_ _ | refine blk_drew ?_ | refine blk_alloc ?_ _)); refine blk_put (cs := #[.int .i64 t465, .slice none 0 0]) ?_ 1 _ rfl; (with_reducible repeat (first | refine blk_drewN ?_ _ | refine blk_drew ?_ | refine blk_alloc ?_ _)); refine blk_put (cs := #[.int .i64 0, .slice none 0 0]) ?_ 0 _ rfl; (with_reducible repeat (first | refine blk_drewN ?_ _ | refine blk_drew ?_ | refine blk_alloc ?_ _)); exact BK469.out⟩, ⟨bel⟩⟩
 case round =>
  clear H'
  (try clear c1); (try clear hcz12_0); (try clear hcz12_1); (try clear hcz7_0); (try clear hcz7_1); (try clear hfz12_0); (try clear hfz12_1); (try clear hfz7_0); (try clear hfz7_1)
  obtain ⟨x6_1, x470001_1, u470001, rfl, HA, HK1, HO_470001, BK463, BK464, BK469, HB⟩ := hrel
  cases gk with
  | zero => exact absurd HA.out (by simp [paraphrastref01_Permute.l0])
  | succ k1 =>
   have H := HA.out
   clear HA
   simp only [paraphrastref01_Permute.l0] at H
   by_cases c14 : x6_1 < (l0_1.length : Int)
   ·rw [if_pos c14] at H
    have c14b0 : decide (x6_1 < (l0_1.length : Int)) = true := decide_eq_true c14
    clear c14
    have H' := Aside0.mk H
    clear H
    have hnb15 := NB463_464.out
    have hnc15 := NB464_463.out
    have hnb16 := NB463_469.out
    have hnc16 := NB469_463.out
    obtain ⟨hcz17_0, hcz17_1, hfz17_0, hfz17_1⟩ := bq2 BK463
    go_wp2
    go_loopg [7, 8] k1 (fun kq v7 v8 w' => ∃ (x7_2 : List (List Int)) (x8_2 : Int), v8 = .int .i64 x8_2 ∧ Aside0 (paraphrastref01_Permute.l1 kq l1 x6_1 x7_2 x8_2 a0_0 l0_1 t465 x470001_1 = some (r1, r2)) ∧ Aside0 (kq ≤ k1) ∧ Aside0 (Kd.N (Kd.slice 3 (Kd.int .i64)) 46 w' w.heap.size (fun k_ => (w.heap.size ≤ k_) ∧ some k_ ≠ (u470001 : Value).ownBlock ∧ k_ ≠ gb463 ∧ k_ ≠ gb464 ∧ k_ ≠ gb469) v7 x7_2) ∧ Aside0 (Kd.N k52 52 w' w.heap.size (fun k_ => (w.heap.size ≤ k_) ∧ some k_ ≠ (v7 : Value).ownBlock ∧ k_ ≠ gb463 ∧ k_ ≠ gb464 ∧ k_ ≠ gb469) u470001 x470001_1) ∧ Aside0 (w'.heap[gb463]? = some (.cells #[.int .i64 a0_0, (.slice A0_1 l0_1.length c0_1)] 24 (0, 0))) ∧ Aside0 (w'.heap[gb464]? = some (.cells #[.int .i64 0, (.slice none 0 0)] 24 (0, 0))) ∧ Aside0 (w'.heap[gb469]? = some (.cells #[.int .i64 t465, u470001] 24 (0, 0))) ∧ Aside0 (Below w.heap.size w w'))
    case atStart => exact ⟨(([] : List (List Int))), (0), eS, H', ⟨Nat.le_refl _⟩, ⟨by first | exact Kd.S_nil _ _ _ _ _ | exact Kd.N_nil _ _ _ _ _ | exact Kd.V_nil _ _ _ _ _ | exact Kd.Q_nil _ _ _ _ _ | exact Kd.R_nil _ _ _ _ _⟩, ⟨by (with_reducible repeat (first | apply Kd.N_alloc | apply Kd.N_drewN | apply Kd.N_drew)); exact Kd.N_mono HO_470001.out (fun _ hk => ⟨hk.1, ⟨(by simp [Value.ownBlock]), ⟨hk.2.1, ⟨hk.2.2.1, hk.2.2.2⟩⟩⟩⟩)⟩, ⟨bk BK463⟩, ⟨bk BK464⟩, ⟨bk BK469⟩, ⟨bel⟩⟩
    case round =>
     clear H'
     (try clear c1); (try clear c14); (try clear c14b0); (try clear hcz12_0); (try clear hcz12_1); (try clear hcz17_0); (try clear hcz17_1); (try clear hcz7_0); (try clear hcz7_1); (try clear hfz12_0); (try clear hfz12_1); (try clear hfz17_0); (try clear hfz17_1); (try clear hfz7_0); (try clear hfz7_1)
     obtain ⟨x7_2, x8_2, rfl, HA, HK2, HO_7, HO_470001, BK463, BK464, BK469, HB⟩ := hrel
     cases gk with
     | zero => exact absurd HA.out (by simp [paraphrastref01_Permute.l1])
     | succ k2 =>
      have H := HA.out
      clear HA
      simp only [paraphrastref01_Permute.l1] at H
      by_cases c18 : 0 ≤ x6_1
      ·rw [if_pos c18] at H
       have c18b0 : decide (0 ≤ x6_1) = true := decide_eq_true c18
       clear c18
       by_cases c19 : x6_1 < (l0_1.length : Int)
       ·rw [if_pos c19] at H
        have c19b0 : decide (x6_1 < (l0_1.length : Int)) = true := decide_eq_true c19
        clear c19
        by_cases c20 : x8_2 < (((rd_T52 l0_1 x6_1).f2).length : Int)
        ·rw [if_pos c20] at H
         have c20b0 : decide (x8_2 < (((rd_T52 l0_1 x6_1).f2).length : Int)) = true := decide_eq_true c20
         clear c20
         by_cases c21 : 0 ≤ x8_2
         ·rw [if_pos c21] at H
          have c21b0 : decide (0 ≤ x8_2) = true := decide_eq_true c21
          clear c21
          replace H := Option.bind_eq_some_iff.mp H
          obtain ⟨t473, A220, H⟩ := H
          replace H : (if x7_2.length < 5864062014805 then (paraphrastref01_Permute.l1 k2 l1 x6_1 (x7_2 ++ [t473]) (wrap64 (x8_2 + 1)) a0_0 l0_1 t465 x470001_1) else (none)) = some (r1, r2) := H
          have A22 := Aside0.mk A220
          clear A220
          by_cases c23 : x7_2.length < 5864062014805
          ·rw [if_pos c23] at H
           have LMc23 := Aside0.mk c23
           clear c23
           obtain ⟨y476, hy476⟩ : ∃ y_ : List (List Int), y_ = (x7_2 ++ [t473]) := ⟨_, rfl⟩
           replace H : (paraphrastref01_Permute.l1 k2 l1 x6_1 y476 (wrap64 (x8_2 + 1)) a0_0 l0_1 t465 x470001_1) = some (r1, r2) := by first | (rw [hy476]; with_reducible exact H) | (have H2_ := (Option.bind_some _ _).symm.trans H; rw [hy476]; with_reducible exact H2_) | (have H2_ := (Option.bind_some _ _).symm.trans H; with_reducible exact H2_) | with_reducible exact H | (rw [hy476]; exact H) | exact H
           have Ny476 := Aside0.mk hy476
           clear hy476
           have H' := Aside0.mk H
           clear H
           have hnb24 := NB463_464.out
           have hnc24 := NB464_463.out
           have hnb25 := NB463_469.out
           have hnc25 := NB469_463.out
           obtain ⟨hcz26_0, hcz26_1, hfz26_0, hfz26_1⟩ := bq2 BK463
           have p470 : 0 ≤ (x6_1 : Int) := dtr
           have q470 : x6_1 < (l0_1.length : Int) := dtr
           obtain ⟨ad470, A470_2, c470_2, e470, hx470_0, hx470_1, hx470_2, hl470_2, hi470_2⟩ := at_T52 HR0_1.out x6_1 p470 q470
           cases e470
           replace hx470_0 := oc hx470_0
           replace hx470_1 := oc hx470_1
           replace hx470_2 := oc hx470_2
           have HR470_2 := Aside0.mk hi470_2
           have HC470_2 := Aside0.mk hl470_2
           clear hi470_2 hl470_2
           replace p470 := eq_true p470
           replace q470 := eq_true q470
           have p471 : 0 ≤ (x6_1 : Int) := dtr
           have q471 : x6_1 < (l0_1.length : Int) := dtr
           obtain ⟨ad471, A471_2, c471_2, e471, hx471_0, hx471_1, hx471_2, hl471_2, hi471_2⟩ := at_T52 HR0_1.out x6_1 p471 q471
           obtain rfl : ad470 = ad471 := (by injection e471)
           replace hx471_0 := oc hx471_0
           replace hx471_1 := oc hx471_1
           replace hx471_2 := oc hx471_2
           have HR471_2 := Aside0.mk hi471_2
           have HC471_2 := Aside0.mk hl471_2
           clear hi471_2 hl471_2
           replace p471 := eq_true p471
           replace q471 := eq_true q471
           have ea_ := Option.some.inj (hx470_2.symm.trans hx471_2)
           injection ea_ with ea_ en_ ec_
           subst ea_
           subst ec_
           clear en_
           have p472 : 0 ≤ (x8_2 : Int) := dtr
           have q472 : x8_2 < (((rd_T52 l0_1 x6_1).f2).length : Int) := dtr
           obtain ⟨ad472, A472_0, c472_0, e472, hx472_0, hl472_0, hi472_0⟩ := at_L2 HR471_2.out x8_2 p472 q472
           cases e472
           replace hx472_0 := oc hx472_0
           have HR472_0 := Aside0.mk hi472_0
           have HC472_0 := Aside0.mk hl472_0
           clear hi472_0 hl472_0
           replace p472 := eq_true p472
           replace q472 := eq_true q472
           go_wp2_with (first | ((with_reducible refine gate_callee (f := 35) rfl ?_); refine gL (some 40) Tryz.func35 #[.slice A472_0 (rd_L2 ((rd_T52 l0_1 x6_1).f2) x8_2).length c472_0, .slice A1 l1.length c1] ?_; (with_reducible refine (paraphrastref01_Renamed.calls k2 _ _ (rd_L2 ((rd_T52 l0_1 x6_1).f2) x8_2) _ _ l1 t473 _ ?side1 ?side2 ?side3 ?side4 A22.out).mono ?_); (case side1 => exact cS (Kd.C_below HR472_0.out HB.out)); (case side2 => exact HC472_0.out); (case side3 => exact cS (Kd.C_below HR1.out HB.out)); (case side4 => exact HC1.out); rintro e w27 ⟨v474, rfl, ho0, hb⟩; refine ⟨_, rfl, ?_⟩; have HO475 := Aside0.mk (Kd.R_lower (Kd.R_newM (M := fun k_ => (w.heap.size ≤ k_)) ho0 (below_size bel) (fun k_ h_ => h_)) (below_size bel)); replace HO_7 := Aside0.mk (Kd.N_elder' (tw HO_7.out) (Kd.R_base ho0) hb); replace HO_470001 := Aside0.mk (Kd.N_elder' (tw HO_470001.out) (Kd.R_base ho0) hb); replace BK463 := blB BK463 hb; replace BK464 := blB BK464 hb; replace BK469 := blB BK469 hb; replace HB := Aside0.mk (below_step bel hb); (try clear hb); (try clear hb2); (try clear hk); (try clear hi); (try clear ho0); obtain ⟨Ao29, co29, eo29⟩ := Kd.R_slice HO475.out; subst eo29) | ((with_reducible refine gate_builtin (b := .append) (xs := #[.tmp 29, .tmp 41]) rfl ?_); at_builtin; refine Kd.N_append (Kd.slice 3 (Kd.int .i64)) (w0 := w) w.heap.size rfl (.tmp 29) (.tmp 41) 50 46 (.slice none 0 0) 24 rfl Tryz.underlying50 info46 rfl (by decide) (by omega) u7 x7_2 t473 [.slice Ao29 t473.length co29] (fun k_ => (w.heap.size ≤ k_) ∧ some k_ ≠ (u470001 : Value).ownBlock ∧ k_ ≠ gb463 ∧ k_ ≠ gb464 ∧ k_ ≠ gb469) (fun k_ => ((fun k_ => (w.heap.size ≤ k_) ∧ some k_ ≠ (u470001 : Value).ownBlock ∧ k_ ≠ gb463 ∧ k_ ≠ gb464 ∧ k_ ≠ gb469)) k_ ∧ some k_ ≠ (u7 : Value).ownBlock) rfl rfl ?aP (fun _ hk => hk) ?aF ?aO ?aB ?aS ?aL ?_; (case aP => exact (Kd.FK_slice_mk (Kd.R_reads' (Kd.R_mono (ok' := (fun k_ => ((fun k_ => (w.heap.size ≤ k_) ∧ some k_ ≠ (u470001 : Value).ownBlock ∧ k_ ≠ gb463 ∧ k_ ≠ gb464 ∧ k_ ≠ gb469)) k_ ∧ some k_ ≠ (u7 : Value).ownBlock)) (Kd.R_types (Kd.R_types (Kd.R_types (Kd.R_apart' (Kd.R_apart' (HO475.out) (Kd.N_typed HO_470001.out) (by decide)) (Kd.N_typed HO_7.out) (by decide)) BK463.out (by decide)) BK464.out (by decide)) BK469.out (by decide)) (fun k_ hk => ⟨⟨hk.1.1.1.1.1.1, ⟨hk.1.1.1.1.2, ⟨hk.1.1.2, ⟨hk.1.2, hk.2⟩⟩⟩⟩, hk.1.1.1.2⟩))).2.1 (Kd.R_F (Kd.R_mono (ok' := (fun k_ => ((fun k_ => (w.heap.size ≤ k_) ∧ some k_ ≠ (u470001 : Value).ownBlock ∧ k_ ≠ gb463 ∧ k_ ≠ gb464 ∧ k_ ≠ gb469)) k_ ∧ some k_ ≠ (u7 : Value).ownBlock)) (Kd.R_types (Kd.R_types (Kd.R_types (Kd.R_apart' (Kd.R_apart' (HO475.out) (Kd.N_typed HO_470001.out) (by decide)) (Kd.N_typed HO_7.out) (by decide)) BK463.out (by decide)) BK464.out (by decide)) BK469.out (by decide)) (fun k_ hk => ⟨⟨hk.1.1.1.1.1.1, ⟨hk.1.1.1.1.2, ⟨hk.1.1.2, ⟨hk.1.2, hk.2⟩⟩⟩⟩, hk.1.1.1.2⟩))))); (case aB => exact bel); (case aF => exact (fun k_ hk => ⟨(Nat.le_trans (below_size bel) hk), Kd.fresh' (Kd.N_lt (tw HO_470001.out)) k_ hk, Kd.freshB (g := gb463) (o := .cells #[.int .i64 a0_0, .slice (some ad470) l0_1.length c0_1] 24 (0, 0)) (bk BK463) k_ hk, Kd.freshB (g := gb464) (o := .cells #[.int .i64 0, .slice none 0 0] 24 (0, 0)) (bk BK464) k_ hk, Kd.freshB (g := gb469) (o := .cells #[.int .i64 t465, u470001] 24 (0, 0)) (bk BK469) k_ hk⟩)); (case aO => exact (by (with_reducible repeat (first | apply Kd.N_alloc | apply Kd.N_drewN | apply Kd.N_drew)); exact Kd.N_mono HO_7.out (fun _ hk => ⟨hk.1.1, ⟨hk.1.2.1, ⟨hk.1.2.2.1, ⟨hk.1.2.2.2.1, hk.1.2.2.2.2⟩⟩⟩⟩))); (case aS => exact (below_size bel)); (case aL => have := LMc23.out; omega); intro v477 w28 ho hb hg hat; rw [← Ny476.out] at ho; have HO478 := Aside0.mk (ho); replace HO_470001 := Aside0.mk (Kd.N_afterv (ok := (fun k_ => (w.heap.size ≤ k_) ∧ some k_ ≠ (.slice Ao29 t473.length co29 : Value).ownBlock ∧ k_ ≠ gb463 ∧ k_ ≠ gb464 ∧ k_ ≠ gb469)) (by (with_reducible repeat (first | apply Kd.N_alloc | apply Kd.N_drewN | apply Kd.N_drew)); exact Kd.N_mono HO_470001.out (fun _ hk => ⟨⟨hk.1.1, ⟨hk.2, ⟨hk.1.2.2.1, ⟨hk.1.2.2.2.1, hk.1.2.2.2.2⟩⟩⟩⟩, hk.1.2.1⟩)) hg hat); replace BK463 := Aside0.mk (blk_grown (g := gb463) (o := .cells #[.int .i64 a0_0, .slice (some ad470) l0_1.length c0_1] 24 (0, 0)) (bk BK463) hg (Kd.N_ne HO_7.out BK463.out (by decide))); replace BK464 := Aside0.mk (blk_grown (g := gb464) (o := .cells #[.int .i64 0, .slice none 0 0] 24 (0, 0)) (bk BK464) hg (Kd.N_ne HO_7.out BK464.out (by decide))); replace BK469 := Aside0.mk (blk_grown (g := gb469) (o := .cells #[.int .i64 t465, u470001] 24 (0, 0)) (bk BK469) hg (Kd.N_ne HO_7.out BK469.out (by decide))); replace HB := Aside0.mk (hb); clear HO_7 HO475; clear ho hb hg hat))
           go_roundg k2
           case measure => have := HK1.out; have := HK2.out; omega
           case rel => exact ⟨(y476), (wrap64 (x8_2 + 1)), eS, H', ⟨by have := HK1.out; have := HK2.out; omega⟩, ⟨by (with_reducible repeat (first | apply Kd.N_alloc | apply Kd.N_drewN | apply Kd.N_drew)); exact HO478.out⟩, ⟨by (with_reducible repeat (first | apply Kd.N_alloc | apply Kd.N_drewN | apply Kd.N_drew)); exact Kd.N_mono HO_470001.out (fun _ hk => ⟨hk.1.1, ⟨hk.2, ⟨hk.1.2.2.1, ⟨hk.1.2.2.2.1, hk.1.2.2.2.2⟩⟩⟩⟩)⟩, ⟨bk BK463⟩, ⟨bk BK464⟩, ⟨bk BK469⟩, ⟨bel⟩⟩
          ·rw [if_neg c23] at H
           exact absurd H (by simp)
         ·rw [if_neg c21] at H
          exact absurd H (by simp)
        ·rw [if_neg c20] at H
         have c20b0 : decide (x8_2 < (((rd_T52 l0_1 x6_1).f2).length : Int)) = false := decide_eq_false c20
         clear c20
         replace H := Option.bind_eq_some_iff.mp H
         obtain ⟨t479, A300, H⟩ := H
         replace H : (if x6_1 < (x470001_1.length : Int) then (paraphrastref01_Permute.l0 k2 l1 (wrap64 (x6_1 + 1)) a0_0 l0_1 t465 (x470001_1.set (x6_1 : Int).toNat (⟨(rd_T52 x470001_1 x6_1).f0, (rd_T52 x470001_1 x6_1).f1, t479⟩ : S52))) else (none)) = some (r1, r2) := H
         have A30 := Aside0.mk A300
         clear A300
         by_cases c31 : x6_1 < (x470001_1.length : Int)
         ·rw [if_pos c31] at H
          have c31b0 : decide (x6_1 < (x470001_1.length : Int)) = true := decide_eq_true c31
          clear c31
          obtain ⟨y482, hy482⟩ : ∃ y_ : List (S52), y_ = (x470001_1.set (x6_1 : Int).toNat (⟨(rd_T52 x470001_1 x6_1).f0, (rd_T52 x470001_1 x6_1).f1, t479⟩ : S52)) := ⟨_, rfl⟩
          replace H : (paraphrastref01_Permute.l0 k2 l1 (wrap64 (x6_1 + 1)) a0_0 l0_1 t465 y482) = some (r1, r2) := by first | (rw [hy482]; with_reducible exact H) | (have H2_ := (Option.bind_some _ _).symm.trans H; rw [hy482]; with_reducible exact H2_) | (have H2_ := (Option.bind_some _ _).symm.trans H; with_reducible exact H2_) | with_reducible exact H | (rw [hy482]; exact H) | exact H
          have Ny482 := Aside0.mk hy482
          clear hy482
          have H' := Aside0.mk H
          clear H
          have hnb33 := NB463_464.out
          have hnc33 := NB464_463.out
          have hnb34 := NB463_469.out
          have hnc34 := NB469_463.out
          obtain ⟨hcz35_0, hcz35_1, hfz35_0, hfz35_1⟩ := bq2 BK463
          have p470 : 0 ≤ (x6_1 : Int) := dtr
          have q470 : x6_1 < (l0_1.length : Int) := dtr
          obtain ⟨ad470, A470_2, c470_2, e470, hx470_0, hx470_1, hx470_2, hl470_2, hi470_2⟩ := at_T52 HR0_1.out x6_1 p470 q470
          cases e470
          replace hx470_0 := oc hx470_0
          replace hx470_1 := oc hx470_1
          replace hx470_2 := oc hx470_2
          have HR470_2 := Aside0.mk hi470_2
          have HC470_2 := Aside0.mk hl470_2
          clear hi470_2 hl470_2
          replace p470 := eq_true p470
          replace q470 := eq_true q470
          try go_wp2
          replace HO_7 := Aside0.mk (Kd.N_drew HO_7.out)
          replace HO_470001 := Aside0.mk (Kd.N_drew HO_470001.out)
          replace BK463 := Aside0.mk (blk_drew BK463.out)
          replace BK464 := Aside0.mk (blk_drew BK464.out)
          replace BK469 := Aside0.mk (blk_drew BK469.out)
          replace HB := Aside0.mk (below_drew1 HB.out)
          obtain ⟨Ao37, co37, eo37⟩ := Kd.N_slice HO_7.out
          (first | subst eo37 | (injection eo37 with f1_ f2_ f3_; have f4_ := f1_.symm; have f5_ := f3_.symm; clear f1_ f2_ f3_; subst f4_; subst f5_))
          refine start_ (n := 8) (S := fun w' => w'.cell? ⟨gb469, 0, none⟩ = some (.int .i64 t465) ∧ w'.cell? ⟨gb469, 1, none⟩ = some (u470001)) (ds := [7]) #[false, false, false, false, false, false, false, false] (by kernel_rfl) rfl rfl ⟨(blk_cell BK469.out 0).trans rfl, (blk_cell BK469.out 1).trans rfl⟩ (fun hHeld => ?_); refine with_tabW paraphrastref01_Permute.tab10 paraphrastref01_Permute.bits10 (fun HT_ HW_ => ?_)
          generalize wr.drew = w36 at HO_7 HO_470001 BK463 BK464 BK469 HB hHeld ⊢
          refine sPu 0 (some 43) ?_
          refine sPu 2 (some 45) ?_
          refine sPu 3 (some 46) ?_
          refine sTk 1 (some 44) ?_
          refine sOn 4 (some 47) (fun K hK => ?_)
          refine goes_ Tryz.func62 (by kernel_rfl) rfl #[.slice Ao37 x7_2.length co37] (by rfl) rfl rfl (by (try simp only [List.map_toArray, List.map_cons, List.map_nil]); first | done | rfl | (simp only [List.length_drop, List.length_take]; rfl)) ?_
          with_reducible refine (paraphrastref01_Sorted.calls _ _ x7_2 t479 _ ?side1 ?side2 A30.out).mono ?_
          (case side1 => exact cS (Kd.N_reads' HO_7.out).2.2)
          (case side2 => exact (Kd.N_reads' HO_7.out).2.1)
          rintro e w38 ⟨v480_, rfl, ho0, hb⟩; obtain ⟨Av480, cv480, ev480⟩ := Kd.R_slice ho0; subst ev480
          refine ⟨_, rfl, ?_⟩
          have HO481 := Aside0.mk (Kd.N_lower (Kd.N_mono (ok' := fun k_ => (w.heap.size ≤ k_) ∧ some k_ ≠ (.slice Ao37 x7_2.length co37 : Value).ownBlock ∧ some k_ ≠ (u470001 : Value).ownBlock ∧ k_ ≠ gb463 ∧ k_ ≠ gb464 ∧ k_ ≠ gb469) (Kd.R_N (Kd.R_bound ho0)) (fun k_ hk_ => ⟨(Nat.le_trans (below_size bel) hk_.2.1), (Kd.fresh' (Kd.N_lt (tw HO_7.out)) k_ hk_.2.1), (Kd.fresh' (Kd.N_lt (tw HO_470001.out)) k_ hk_.2.1), (Kd.freshB (g := gb463) (o := .cells #[.int .i64 a0_0, .slice (some ad470) l0_1.length c0_1] 24 (0, 0)) (bk BK463) k_ hk_.2.1), (Kd.freshB (g := gb464) (o := .cells #[.int .i64 0, .slice none 0 0] 24 (0, 0)) (bk BK464) k_ hk_.2.1), (Kd.freshB (g := gb469) (o := .cells #[.int .i64 t465, u470001] 24 (0, 0)) (bk BK469) k_ hk_.2.1)⟩)) (below_size bel))
          replace HO_7 := Aside0.mk (Kd.N_elder' (tw HO_7.out) (by first | exact Kd.N_base ho0 | exact Kd.R_base ho0) hb)
          replace HO_470001 := Aside0.mk (Kd.N_elder' (tw HO_470001.out) (by first | exact Kd.N_base ho0 | exact Kd.R_base ho0) hb)
          replace BK463 := blB BK463 hb
          replace BK464 := blB BK464 hb
          replace BK469 := blB BK469 hb
          replace HB := Aside0.mk (below_step bel hb)
          (try clear hb)
          (try clear hb2)
          (try clear hk)
          (try clear hi)
          (try clear ho0)
          have p32 : 0 ≤ (x6_1 : Int) := dtr
          have q32 : (x6_1 : Int) < ((x470001_1.length : Int) : Int) := dtr
          obtain ⟨go32, co32, eo32, gb32, gl32, cl32, HG32⟩ := Kd.N_form HO_470001.out (by omega)
          (first | cases eo32 | (injection eo32 with ea_ en_ ec_; (first | subst ea_ | (injection ea_ with ea_; subst ea_)); subst ec_; clear en_))
          have GB32 := Aside0.mk gb32
          have GG32 := Aside0.mk HG32
          clear gb32 gl32 HG32
          obtain ⟨ce32, hcl32, hM32, hcc32, hfr32⟩ := Kd.N_elem HO_470001.out z52 (x6_1 : Int) p32 q32
          obtain ⟨ua32_2, uc32_2, rfl, ul32_2, ge32_2⟩ := k52_openF hM32
          have hx32_0 : World.cell? _ ⟨go32, (x6_1 : Int).toNat * 3, none⟩ = some (.string ((rd_T52 x470001_1 x6_1).f0)) := hcc32 0 _ rfl
          have hx32_1 : World.cell? _ ⟨go32, (x6_1 : Int).toNat * 3 + 1, none⟩ = some (.int .i64 ((rd_T52 x470001_1 x6_1).f1)) := hcc32 1 _ rfl
          have hx32_2 : World.cell? _ ⟨go32, (x6_1 : Int).toNat * 3 + 2, none⟩ = some (.slice ua32_2 ((rd_T52 x470001_1 x6_1).f2).length uc32_2) := hcc32 2 _ rfl
          have hf32_0 : World.frozen? _ ⟨go32, (x6_1 : Int).toNat * 3, none⟩ = false := hfr32 0
          have hf32_1 : World.frozen? _ ⟨go32, (x6_1 : Int).toNat * 3 + 1, none⟩ = false := hfr32 1
          have hf32_2 : World.frozen? _ ⟨go32, (x6_1 : Int).toNat * 3 + 2, none⟩ = false := hfr32 2
          clear hcl32 hcc32 hfr32 hM32
          replace p32 := eq_true p32
          replace q32 := eq_true q32
          have HX39 := Aside0.mk (show Kd.N k52 52 _ w.heap.size (fun k_ => (w.heap.size ≤ k_) ∧ some k_ ≠ (.slice Ao37 x7_2.length co37 : Value).ownBlock ∧ some k_ ≠ ((.slice Av480 t479.length cv480 : Value) : Value).ownBlock ∧ k_ ≠ gb463 ∧ k_ ≠ gb464 ∧ k_ ≠ gb469) (.slice (some ⟨go32, 0, none⟩) x470001_1.length co32) x470001_1 from (Kd.N_mono (HO_470001.out) (fun k_ hk => ⟨hk.1.1, ⟨hk.1.2.1, ⟨hk.2, ⟨hk.1.2.2.1, ⟨hk.1.2.2.2.1, hk.1.2.2.2.2⟩⟩⟩⟩⟩)))
          replace HX39 := Aside0.mk (show Kd.N k52 52 _ w.heap.size (fun k_ => (w.heap.size ≤ k_) ∧ some k_ ≠ (.slice Ao37 x7_2.length co37 : Value).ownBlock ∧ k_ ≠ gb463 ∧ k_ ≠ gb464 ∧ k_ ≠ gb469) (.slice (some ⟨go32, 0, none⟩) x470001_1.length co32) x470001_1 from Kd.N_mono HX39.out (fun k_ hk => ⟨hk.1, ⟨hk.2.1, ⟨hk.2.2.2.1, ⟨hk.2.2.2.2.1, hk.2.2.2.2.2⟩⟩⟩⟩))
          obtain ⟨ce39, hcl39, hM39, hcc39, hfr39⟩ := Kd.N_elem HX39.out z52 (x6_1 : Int) (dtr) (by have h_ : (x6_1 : Int) < ((x470001_1.length : Int) : Int) := dtr; first | exact h_ | (have e_ := (Kd.N_reads' HO_470001.out).1; omega) | simpa using h_)
          obtain ⟨ua39_2, uc39_2, rfl, ul39_2, ge39_2⟩ := k52_openF hM39
          have HP39 := (Kd.N_seg HX39.out (x6_1 : Int) (dtr) (by have h_ : (x6_1 : Int) < ((x470001_1.length : Int) : Int) := dtr; first | exact h_ | (have e_ := (Kd.N_reads' HO_470001.out).1; omega) | simpa using h_) (seg := [(.slice Av480 t479.length cv480 : Value)]) (j := 2) hcl39 hcc39 (show 3 ≤ 3 from by decide) (x' := (⟨(rd_T52 x470001_1 x6_1).f0, (rd_T52 x470001_1 x6_1).f1, t479⟩ : S52)) (k52_mkF _ _ (⟨(rd_T52 x470001_1 x6_1).f0, (rd_T52 x470001_1 x6_1).f1, t479⟩ : S52) (Kd.N_reads' (Kd.N_mono (ok' := (fun k_ => ((fun k_ => (w.heap.size ≤ k_) ∧ some k_ ≠ (.slice Ao37 x7_2.length co37 : Value).ownBlock ∧ k_ ≠ gb463 ∧ k_ ≠ gb464 ∧ k_ ≠ gb469)) k_ ∧ k_ ≠ go32)) (HO481.out) (fun k_ hk => ⟨⟨hk.1, ⟨hk.2.1, ⟨hk.2.2.2.1, ⟨hk.2.2.2.2.1, hk.2.2.2.2.2⟩⟩⟩⟩, fun e_ => (hk.2.2.1) (by rw [e_]; rfl)⟩))).2.1 (Kd.N_F (Kd.N_mono (ok' := (fun k_ => ((fun k_ => (w.heap.size ≤ k_) ∧ some k_ ≠ (.slice Ao37 x7_2.length co37 : Value).ownBlock ∧ k_ ≠ gb463 ∧ k_ ≠ gb464 ∧ k_ ≠ gb469)) k_ ∧ k_ ≠ go32)) (HO481.out) (fun k_ hk => ⟨⟨hk.1, ⟨hk.2.1, ⟨hk.2.2.2.1, ⟨hk.2.2.2.2.1, hk.2.2.2.2.2⟩⟩⟩⟩, fun e_ => (hk.2.2.1) (by rw [e_]; rfl)⟩)))) (fun _ hk => hk)).1
          rw [← Ny482.out] at HP39
          have HQ39 := Aside0.mk HP39
          clear hcl39 hcc39 hfr39 hM39 HP39
          refine hK.out _ _ ⟨(blk_cell BK469.out 0).trans rfl, (blk_cell BK469.out 1).trans rfl⟩ (fun hHeld => ?_)
          clear hK K
          refine norm_ (a' := ?_) ?_ ?_
          rotate_left
          ·show Act.put _ (some 47) _ = _
           simp only [Act.put, List.setIfInBounds_toArray, List.set_cons_zero, List.set_cons_succ, i64_w, i32_w]
           rfl
          refine sPu 5 (some 48) ?_
          refine sPu 6 (some 49) ?_
          refine last_ (i := 7) (N := none) #[true, true, true, true, true, true, true, true] rfl rfl (one_of HT_.out (by kernel_rfl)) (by decide) (fun K hK => ?_)
          refine skip_ (w1 := ?_) (by rfl) rfl ?_ ?_
          rotate_left
          ·go_simp
           rfl
          refine hK.out _ _ ?_
          clear hK K
          refine done_ (done_of HT_.out (by kernel_rfl)) ?_
          try go_wp2
          go_roundg k2
          case measure => have := HK1.out; have := HK2.out; omega
          case rel => exact ⟨(wrap64 (x6_1 + 1)), (y482), (.slice (some ⟨go32, 0, none⟩) x470001_1.length co32), eS, H', ⟨by have := HK1.out; have := HK2.out; omega⟩, ⟨by (with_reducible repeat (first | apply Kd.N_alloc | apply Kd.N_drewN | apply Kd.N_drew)); exact Kd.N_mono HQ39.out (fun _ hk => ⟨hk.1, ⟨hk.2.2.1, ⟨hk.2.2.2.1, hk.2.2.2.2⟩⟩⟩)⟩, ⟨by (with_reducible repeat (first | refine blk_drewN ?_ _ | refine blk_drew ?_ | refine blk_alloc ?_ _)); refine blk_far ?_ (by have h_ := Kd.N_away (g := gb463) HO_470001.out (fun _ hk => by omega); intro e_; exact h_ (by rw [e_]; rfl)) _; (with_reducible repeat (first | refine blk_drewN ?_ _ | refine blk_drew ?_ | refine blk_alloc ?_ _)); exact BK463.out⟩, ⟨by (with_reducible repeat (first | refine blk_drewN ?_ _ | refine blk_drew ?_ | refine blk_alloc ?_ _)); refine blk_far ?_ (by have h_ := Kd.N_away (g := gb464) HO_470001.out (fun _ hk => by omega); intro e_; exact h_ (by rw [e_]; rfl)) _; (with_reducible repeat (first | refine blk_drewN ?_ _ | refine blk_drew ?_ | refine blk_alloc ?_ _)); exact BK464.out⟩, ⟨by (with_reducible repeat (first | refine blk_drewN ?_ _ | refine blk_drew ?_ | refine blk_alloc ?_ _)); refine blk_far ?_ (by have h_ := Kd.N_away (g := gb469) HO_470001.out (fun _ hk => by omega); intro e_; exact h_ (by rw [e_]; rfl)) _; (with_reducible repeat (first | refine blk_drewN ?_ _ | refine blk_drew ?_ | refine blk_alloc ?_ _)); exact BK469.out⟩, ⟨by repeat (first | (with_reducible first | exact HB.out | apply below_alloc | apply pw_below_drewN | apply below_drew1 | refine below_set ?_ GB32.out | refine below_set ?_ GE463.out | refine below_set ?_ GE464.out | refine below_set ?_ GE469.out) | exact HB.out)⟩⟩
         ·rw [if_neg c31] at H
          exact absurd H (by simp)
       ·rw [if_neg c19] at H
        exact absurd H (by simp)
      ·rw [if_neg c18] at H
       exact absurd H (by simp)
   ·rw [if_neg c14] at H
    have c14b0 : decide (x6_1 < (l0_1.length : Int)) = false := decide_eq_false c14
    clear c14
    simp only [Option.some.injEq, Prod.mk.injEq] at H
    obtain ⟨rfl, rfl⟩ := H
    have hnb40 := NB463_464.out
    have hnc40 := NB464_463.out
    have hnb41 := NB463_469.out
    have hnc41 := NB469_463.out
    obtain ⟨hcz42_0, hcz42_1, hfz42_0, hfz42_1⟩ := bq2 BK463
    have hnb43 := NB469_464.out
    have hnc43 := NB464_469.out
    obtain ⟨hcz44_0, hcz44_1, hfz44_0, hfz44_1⟩ := bq2 BK469
    obtain ⟨hcz45_0, hcz45_1, hfz45_0, hfz45_1⟩ := bq2 BK464
    obtain ⟨Ao46, co46, eo46⟩ := Kd.N_slice HO_470001.out
    subst eo46
    go_wp2
    refine bodyPost_ret (results_cell_row rfl _ _ gb464 24 #[.int .i64 t465, .slice Ao46 x470001_1.length co46] (0, 0) _ rfl (by (with_reducible repeat (first | refine blk_drewN ?_ _ | refine blk_drew ?_ | refine blk_alloc ?_ _)); refine blk_put (cs := #[.int .i64 t465, .slice none 0 0]) ?_ 1 _ rfl; (with_reducible repeat (first | refine blk_drewN ?_ _ | refine blk_drew ?_ | refine blk_alloc ?_ _)); refine blk_put (cs := #[.int .i64 0, .slice none 0 0]) ?_ 0 _ rfl; (with_reducible repeat (first | refine blk_drewN ?_ _ | refine blk_drew ?_ | refine blk_alloc ?_ _)); exact BK464.out) Tryz.underlying24 rfl (by kernel_rfl)) rfl ?_
    exact ⟨_, eN, by (with_reducible repeat (first | apply Kd.N_alloc | apply Kd.N_drewN | apply Kd.N_drew)); exact Kd.N_mono (Kd.N_far (p := ⟨gb464, 1, none⟩) (Kd.N_far (p := ⟨gb464, 0, none⟩) (Kd.N_mono HO_470001.out (fun k_ hk => (⟨hk, hk.2.2.1⟩ : _ ∧ k_ ≠ gb464))) (fun _ hk => hk.2) (.int .i64 t465)) (fun _ hk => hk.2) (.slice Ao46 x470001_1.length co46)) (fun _ hk => hk.1.1), bel⟩
end Go.Proofs.YtfmpaofbnjlniaaGreatDoor.F
namespace Go.Proofs.YtfmpaofbnjlniaaGreatDoor.F
open Go.RowKit Go.Proofs.YtfmpaofbnjlniaaGreatDoorW.PrintWords Go.Proofs.YtfmpaofbnjlniaaGreatDoorW.PrintLast Go.Proofs.YtfmpaofbnjlniaaGreatDoorW.PrintMore
attribute [local go_sem] max2_int min2_int max_two min_two max_three min_three max_four min_four
set_option linter.unusedVariables false
set_option linter.unusedSimpArgs false
/-! ### paraphrastlaw01_ShapePermutes: function 6 -/
noncomputable def paraphrastlaw01_ShapePermutes.j0 : Nat → List Int → Bool → Int → List (S52) → Option (Bool)
 | 0, _, _, _, _ => none
 | k + 1, x1, x17, x484000, x484001 => if x17 = true then ((paraphrastlaw01_alive.f k).bind fun t488 => (some t488)) else ((paraphrastref01_Valid.f k x484000 x484001).bind fun t490 => (if t490 = true then ((paraphrastref01_Perm.f k x484000 x1).bind fun t491 => (if t491 = true then ((paraphrastref01_Permute.f k x484000 x484001 x1).bind fun bt492 => ((shape_Permute.f k x484000 x484001 x1).bind fun bt496 => ((paraphrastlaw01_is.f k bt496.1 bt496.2.1 bt496.2.2 bt492.1 bt492.2 0).bind fun t502 => (if t502 = true then ((paraphrastlaw01_alive.f k).bind fun t503 => (some t503)) else (some false))))) else ((shape_Permute.f k x484000 x484001 x1).bind fun bt504 => ((paraphrastlaw01_is.f k bt504.1 bt504.2.1 bt504.2.2 0 ([] : List (S52)) 2).bind fun t510 => (if t510 = true then ((paraphrastlaw01_alive.f k).bind fun t511 => (some t511)) else (some false)))))) else ((shape_Permute.f k x484000 x484001 x1).bind fun bt512 => ((paraphrastlaw01_is.f k bt512.1 bt512.2.1 bt512.2.2 0 ([] : List (S52)) 1).bind fun t518 => (if t518 = true then ((paraphrastlaw01_alive.f k).bind fun t519 => (some t519)) else (some false))))))
noncomputable def paraphrastlaw01_ShapePermutes.f (k : Nat) (a0_0 : Int) (l0_1 : List (S52)) (l1 : List Int) : Option (Bool) := (paraphrastlaw01_Few.f k (([(⟨a0_0, l0_1⟩ : S24)] : List (S24)))).bind fun t487 => (if t487 = true then (paraphrastlaw01_ShapePermutes.j0 k l1 (decide ((l1.length : Int) > 1000)) a0_0 l0_1) else (paraphrastlaw01_ShapePermutes.j0 k l1 true a0_0 l0_1))
set_option maxHeartbeats 8000000 in
set_option maxRecDepth 100000 in
theorem paraphrastlaw01_ShapePermutes.calls (k : Nat) (a0_0 : Int) (P0_1_ : Nat → Prop) (A0_1 : Option Addr) (c0_1 : Nat) (l0_1 : List (S52)) (A1 : Option Addr) (c1 : Nat) (l1 : List Int) (r : Bool) (w : World) (hG : Glob w) (hs0_1 : Kd.V k52 52 w w.heap.size (fun k_ => P0_1_ k_) (.slice A0_1 l0_1.length c0_1) l0_1) (hr1 : Kd.C (Kd.int .i64) w A1 l1.length l1) (hc1 : l1.length ≤ c1) (h : paraphrastlaw01_ShapePermutes.f k a0_0 l0_1 l1 = some r) :
  Calls Tryz.prog 6 #[.agg #[.int .i64 a0_0, .slice A0_1 l0_1.length c0_1], .slice A1 l1.length c1] w fun e w' => e = .returned (.bool r) ∧ Below w.heap.size w w' := by
 have hu24 := Tryz.underlying24
 have HO0_1 := Aside0.mk (show Kd.V k52 52 w w.heap.size (fun k_ => (P0_1_ k_ ∨ w.heap.size ≤ k_)) (.slice A0_1 l0_1.length c0_1) l0_1 from Kd.V_mono hs0_1 (fun k_ hk => .inl hk))
 have HR1 := Aside0.mk hr1
 have HC1 := Aside0.mk hc1
 clear hr1 hc1
 have HG := Aside0.mk hG
 clear hG
 have HB := Aside0.mk (Below.refl w.heap.size w)
 have H : ((paraphrastlaw01_Few.f k (([(⟨a0_0, l0_1⟩ : S24)] : List (S24)))).bind fun t487 => (if t487 = true then (paraphrastlaw01_ShapePermutes.j0 k l1 (decide ((l1.length : Int) > 1000)) a0_0 l0_1) else (paraphrastlaw01_ShapePermutes.j0 k l1 true a0_0 l0_1))) = some r := h
 clear h
 have HC3 := Aside0.mk H
 clear H
 go_enter Tryz.func6, Tryz.ntmps6
 go_upto_region 1 with (first | ((with_reducible refine gate_dst (N := 2) rfl ?_); (try (refine gate_guard (by rfl) ?_; dsimp only)); refine box_event ?hg (N := 2) ?hd (cs := #[.int .i64 a0_0, .slice A0_1 l0_1.length c0_1]) (t := 24) ?hr ?_; (case hd => rfl); (case hg => rfl); (case hr => first | (go_simp; done) | (go_simp; rfl)); intro gb483 hg w4 hbox hb; have BK483 := Aside0.mk (hbox); have GW483 := geB w hg; have GE483 := geB w hg; replace HO0_1 := vB HO0_1 hg hb; replace HB := Aside0.mk (below_step bel hb); clear hb hbox hg))
 (try simp only [Act.put, List.setIfInBounds_toArray, List.set_cons_zero, List.set_cons_succ])
 go_cut [17] (fun v17 wc => ∃ (kq : Nat) (x17_2 : Bool), v17 = .bool x17_2 ∧ Aside0 (paraphrastlaw01_ShapePermutes.j0 kq l1 x17_2 a0_0 l0_1 = some r) ∧ Aside0 (kq ≤ k) ∧ Aside0 (Kd.V k52 52 wc w.heap.size (fun k_ => (P0_1_ k_ ∨ w.heap.size ≤ k_) ∧ k_ ≠ gb483) (.slice A0_1 l0_1.length c0_1) l0_1) ∧ Aside0 (wc.heap[gb483]? = some (.cells #[.int .i64 a0_0, (.slice A0_1 l0_1.length c0_1)] 24 (0, 0))) ∧ Aside0 (Below w.heap.size w wc))
 case first =>
  have H := HC3.out
  clear HC3
  obtain ⟨y484, hy484⟩ : ∃ y_ : List (S24), y_ = (([(⟨a0_0, l0_1⟩ : S24)] : List (S24))) := ⟨_, rfl⟩
  replace H : ((paraphrastlaw01_Few.f k y484).bind fun t487 => (if t487 = true then (paraphrastlaw01_ShapePermutes.j0 k l1 (decide ((l1.length : Int) > 1000)) a0_0 l0_1) else (paraphrastlaw01_ShapePermutes.j0 k l1 true a0_0 l0_1))) = some r := by first | (rw [hy484]; with_reducible exact H) | (have H2_ := (Option.bind_some _ _).symm.trans H; rw [hy484]; with_reducible exact H2_) | (have H2_ := (Option.bind_some _ _).symm.trans H; with_reducible exact H2_) | with_reducible exact H | (rw [hy484]; exact H) | exact H
  have Ny484 := Aside0.mk hy484
  clear hy484
  replace H := Option.bind_eq_some_iff.mp H
  obtain ⟨t487, A50, H⟩ := H
  replace H : (if t487 = true then (paraphrastlaw01_ShapePermutes.j0 k l1 (decide ((l1.length : Int) > 1000)) a0_0 l0_1) else (paraphrastlaw01_ShapePermutes.j0 k l1 true a0_0 l0_1)) = some r := H
  have A5 := Aside0.mk A50
  clear A50
  by_cases c6 : t487 = true
  ·subst c6
   have H1 : (paraphrastlaw01_ShapePermutes.j0 k l1 (decide ((l1.length : Int) > 1000)) a0_0 l0_1) = some r := by rw [if_pos rfl] at H; exact H
   clear H
   have H := H1
   clear H1
   have H' := Aside0.mk H
   clear H
   obtain ⟨hcz7_0, hcz7_1, hfz7_0, hfz7_1⟩ := bq2 BK483
   go_wp2_with (first | ((with_reducible refine gate_dst (N := 10) rfl ?_); (try (refine gate_guard (by rfl) ?_; dsimp only)); refine Kd.N_lit k24 _ 24 ?hg (N' := 10) ?hd (xs := ([(⟨a0_0, l0_1⟩ : S24)] : List (S24))) (inner := [.int .i64 a0_0, .slice A0_1 l0_1.length c0_1]) (ok := (fun k_ => (P0_1_ k_ ∨ w.heap.size ≤ k_) ∧ k_ ≠ gb483)) (okp := (fun k_ => (P0_1_ k_ ∨ w.heap.size ≤ k_) ∧ k_ ≠ gb483)) ?hr ?hp (fun _ hk => hk) ((show ∀ k_, w4.heap.size ≤ k_ → (fun k_ => (P0_1_ k_ ∨ w.heap.size ≤ k_) ∧ k_ ≠ gb483) k_ from fun k_ hk => ⟨(.inr (Nat.le_trans (below_size bel) hk)), Kd.freshB (g := gb483) (o := .cells #[.int .i64 a0_0, .slice A0_1 l0_1.length c0_1] 24 (0, 0)) (bk BK483) k_ hk⟩) _ (Nat.le_refl _)) (Below.refl _ _) (Nat.le_refl _) (by simp) ?_; (case hd => rfl); (case hg => rfl); (case hr => first | (go_simp; done) | (go_simp; rfl)); (case hp => exact (Reps.c2 (show Kd.FK k24 _ _ (⟨a0_0, l0_1⟩ : S24) [.int .i64 a0_0, .slice A0_1 l0_1.length c0_1] from (k24_mkF _ _ (⟨a0_0, l0_1⟩ : S24) (Kd.V_reads' (Kd.V_mono (ok' := (fun k_ => (P0_1_ k_ ∨ w.heap.size ≤ k_) ∧ k_ ≠ gb483)) (HO0_1.out) (fun k_ hk => ⟨hk.1, hk.2⟩))).2.1 (Kd.V_F (Kd.V_mono (ok' := (fun k_ => (P0_1_ k_ ∨ w.heap.size ≤ k_) ∧ k_ ≠ gb483)) (HO0_1.out) (fun k_ hk => ⟨hk.1, hk.2⟩))))) (Reps.none _ _))); intro v485 w8 ho9 hb hg_ hnew_; clear hg_ hnew_; (first | rw [← Ny484.out] at ho9 | (simp only [Int.reduceToNat] at ho9; rw [← Ny484.out] at ho9)); have HO486 := Aside0.mk (Kd.N_lower ho9 (below_size bel)); replace HO0_1 := Aside0.mk (Kd.V_elder' (tw HO0_1.out) (Kd.N_base ho9) hb); replace BK483 := blB BK483 hb; replace HB := Aside0.mk (below_step bel hb); clear hb ho9; obtain ⟨Ao10, co10, eo10⟩ := Kd.N_slice HO486.out; subst eo10) | ((with_reducible refine gate_callee (f := 9) rfl ?_); refine gL (some 11) Tryz.func9 #[.slice Ao10 y484.length co10] ?_; (with_reducible refine (paraphrastlaw01_Few.calls k _ _ y484 true _ ?side1 ?side2 A5.out).mono ?_); (case side1 => exact cS (Kd.N_reads' HO486.out).2.2); (case side2 => exact (Kd.N_reads' HO486.out).2.1); rintro e w' ⟨rfl, ⟨nd, rfl⟩⟩; refine ⟨_, rfl, ?_⟩))
   go_meet
   case rel => exact ⟨_, (decide ((l1.length : Int) > 1000)), eS, H', ⟨kle⟩, ⟨by (with_reducible repeat (first | apply Kd.V_alloc | apply Kd.V_drewN | apply Kd.V_drew)); exact Kd.V_mono HO0_1.out (fun _ hk => ⟨hk.1.1, hk.1.2⟩)⟩, ⟨bk BK483⟩, ⟨bel⟩⟩
  ·replace c6 := Bool.eq_false_iff.mpr c6
   subst c6
   have H1 : (paraphrastlaw01_ShapePermutes.j0 k l1 true a0_0 l0_1) = some r := by rw [if_neg (show ¬ (false = true) by decide)] at H; exact H
   clear H
   have H := H1
   clear H1
   have H' := Aside0.mk H
   clear H
   obtain ⟨hcz11_0, hcz11_1, hfz11_0, hfz11_1⟩ := bq2 BK483
   go_wp2_with (first | ((with_reducible refine gate_dst (N := 10) rfl ?_); (try (refine gate_guard (by rfl) ?_; dsimp only)); refine Kd.N_lit k24 _ 24 ?hg (N' := 10) ?hd (xs := ([(⟨a0_0, l0_1⟩ : S24)] : List (S24))) (inner := [.int .i64 a0_0, .slice A0_1 l0_1.length c0_1]) (ok := (fun k_ => (P0_1_ k_ ∨ w.heap.size ≤ k_) ∧ k_ ≠ gb483)) (okp := (fun k_ => (P0_1_ k_ ∨ w.heap.size ≤ k_) ∧ k_ ≠ gb483)) ?hr ?hp (fun _ hk => hk) ((show ∀ k_, w4.heap.size ≤ k_ → (fun k_ => (P0_1_ k_ ∨ w.heap.size ≤ k_) ∧ k_ ≠ gb483) k_ from fun k_ hk => ⟨(.inr (Nat.le_trans (below_size bel) hk)), Kd.freshB (g := gb483) (o := .cells #[.int .i64 a0_0, .slice A0_1 l0_1.length c0_1] 24 (0, 0)) (bk BK483) k_ hk⟩) _ (Nat.le_refl _)) (Below.refl _ _) (Nat.le_refl _) (by simp) ?_; (case hd => rfl); (case hg => rfl); (case hr => first | (go_simp; done) | (go_simp; rfl)); (case hp => exact (Reps.c2 (show Kd.FK k24 _ _ (⟨a0_0, l0_1⟩ : S24) [.int .i64 a0_0, .slice A0_1 l0_1.length c0_1] from (k24_mkF _ _ (⟨a0_0, l0_1⟩ : S24) (Kd.V_reads' (Kd.V_mono (ok' := (fun k_ => (P0_1_ k_ ∨ w.heap.size ≤ k_) ∧ k_ ≠ gb483)) (HO0_1.out) (fun k_ hk => ⟨hk.1, hk.2⟩))).2.1 (Kd.V_F (Kd.V_mono (ok' := (fun k_ => (P0_1_ k_ ∨ w.heap.size ≤ k_) ∧ k_ ≠ gb483)) (HO0_1.out) (fun k_ hk => ⟨hk.1, hk.2⟩))))) (Reps.none _ _))); intro v485 w12 ho13 hb hg_ hnew_; clear hg_ hnew_; (first | rw [← Ny484.out] at ho13 | (simp only [Int.reduceToNat] at ho13; rw [← Ny484.out] at ho13)); have HO486 := Aside0.mk (Kd.N_lower ho13 (below_size bel)); replace HO0_1 := Aside0.mk (Kd.V_elder' (tw HO0_1.out) (Kd.N_base ho13) hb); replace BK483 := blB BK483 hb; replace HB := Aside0.mk (below_step bel hb); clear hb ho13; obtain ⟨Ao14, co14, eo14⟩ := Kd.N_slice HO486.out; subst eo14) | ((with_reducible refine gate_callee (f := 9) rfl ?_); refine gL (some 11) Tryz.func9 #[.slice Ao14 y484.length co14] ?_; (with_reducible refine (paraphrastlaw01_Few.calls k _ _ y484 false _ ?side1 ?side2 A5.out).mono ?_); (case side1 => exact cS (Kd.N_reads' HO486.out).2.2); (case side2 => exact (Kd.N_reads' HO486.out).2.1); rintro e w' ⟨rfl, ⟨nd, rfl⟩⟩; refine ⟨_, rfl, ?_⟩))
   go_meet
   case rel => exact ⟨_, (true), eS, H', ⟨kle⟩, ⟨by (with_reducible repeat (first | apply Kd.V_alloc | apply Kd.V_drewN | apply Kd.V_drew)); exact Kd.V_mono HO0_1.out (fun _ hk => ⟨hk.1.1, hk.1.2⟩)⟩, ⟨bk BK483⟩, ⟨bel⟩⟩
 case rest =>
  clear HC3
  (try clear c1)
  obtain ⟨kq, x17_2, rfl, HA, HJ2, HO_484001, BK483, HB⟩ := hcut
  cases kq with
  | zero => exact absurd HA.out (by simp [paraphrastlaw01_ShapePermutes.j0])
  | succ kj2 =>
   have H := HA.out
   clear HA
   simp only [paraphrastlaw01_ShapePermutes.j0] at H
   by_cases c15 : x17_2 = true
   ·subst c15
    have H1 : ((paraphrastlaw01_alive.f kj2).bind fun t488 => (some t488)) = some r := by rw [if_pos rfl] at H; exact H
    clear H
    have H := H1
    clear H1
    replace H := Option.bind_eq_some_iff.mp H
    obtain ⟨t488, A160, H⟩ := H
    replace H : (some t488) = some r := H
    have A16 := Aside0.mk A160
    clear A160
    obtain rfl := Option.some.inj H
    go_wp2_with (first | ((with_reducible refine gate_callee (f := 10) rfl ?_); refine gL (some 18) Tryz.func10 #[] ?_; (with_reducible refine (paraphrastlaw01_alive.calls kj2  t488 _ ?side1 A16.out).mono ?_); (case side1 => first | exact HG.out | exact Glob.below HG.out bel); rintro e w17 ⟨rfl, hb⟩; refine ⟨_, rfl, ?_⟩; replace HO_484001 := vD HO_484001 hb; replace BK483 := blB BK483 hb; replace HB := Aside0.mk (below_step bel hb); (try clear hb); (try clear hb2); (try clear hk); (try clear hi)))
    go_ret
    exact ⟨eN, bel⟩
   ·replace c15 := Bool.eq_false_iff.mpr c15
    subst c15
    have H1 : ((paraphrastref01_Valid.f kj2 a0_0 l0_1).bind fun t490 => (if t490 = true then ((paraphrastref01_Perm.f kj2 a0_0 l1).bind fun t491 => (if t491 = true then ((paraphrastref01_Permute.f kj2 a0_0 l0_1 l1).bind fun bt492 => ((shape_Permute.f kj2 a0_0 l0_1 l1).bind fun bt496 => ((paraphrastlaw01_is.f kj2 bt496.1 bt496.2.1 bt496.2.2 bt492.1 bt492.2 0).bind fun t502 => (if t502 = true then ((paraphrastlaw01_alive.f kj2).bind fun t503 => (some t503)) else (some false))))) else ((shape_Permute.f kj2 a0_0 l0_1 l1).bind fun bt504 => ((paraphrastlaw01_is.f kj2 bt504.1 bt504.2.1 bt504.2.2 0 ([] : List (S52)) 2).bind fun t510 => (if t510 = true then ((paraphrastlaw01_alive.f kj2).bind fun t511 => (some t511)) else (some false)))))) else ((shape_Permute.f kj2 a0_0 l0_1 l1).bind fun bt512 => ((paraphrastlaw01_is.f kj2 bt512.1 bt512.2.1 bt512.2.2 0 ([] : List (S52)) 1).bind fun t518 => (if t518 = true then ((paraphrastlaw01_alive.f kj2).bind fun t519 => (some t519)) else (some false)))))) = some r := by rw [if_neg (show ¬ (false = true) by decide)] at H; exact H
    clear H
    have H := H1
    clear H1
    replace H := Option.bind_eq_some_iff.mp H
    obtain ⟨t490, A180, H⟩ := H
    replace H : (if t490 = true then ((paraphrastref01_Perm.f kj2 a0_0 l1).bind fun t491 => (if t491 = true then ((paraphrastref01_Permute.f kj2 a0_0 l0_1 l1).bind fun bt492 => ((shape_Permute.f kj2 a0_0 l0_1 l1).bind fun bt496 => ((paraphrastlaw01_is.f kj2 bt496.1 bt496.2.1 bt496.2.2 bt492.1 bt492.2 0).bind fun t502 => (if t502 = true then ((paraphrastlaw01_alive.f kj2).bind fun t503 => (some t503)) else (some false))))) else ((shape_Permute.f kj2 a0_0 l0_1 l1).bind fun bt504 => ((paraphrastlaw01_is.f kj2 bt504.1 bt504.2.1 bt504.2.2 0 ([] : List (S52)) 2).bind fun t510 => (if t510 = true then ((paraphrastlaw01_alive.f kj2).bind fun t511 => (some t511)) else (some false)))))) else ((shape_Permute.f kj2 a0_0 l0_1 l1).bind fun bt512 => ((paraphrastlaw01_is.f kj2 bt512.1 bt512.2.1 bt512.2.2 0 ([] : List (S52)) 1).bind fun t518 => (if t518 = true then ((paraphrastlaw01_alive.f kj2).bind fun t519 => (some t519)) else (some false))))) = some r := H
    have A18 := Aside0.mk A180
    clear A180
    by_cases c19 : t490 = true
    ·subst c19
     have H1 : ((paraphrastref01_Perm.f kj2 a0_0 l1).bind fun t491 => (if t491 = true then ((paraphrastref01_Permute.f kj2 a0_0 l0_1 l1).bind fun bt492 => ((shape_Permute.f kj2 a0_0 l0_1 l1).bind fun bt496 => ((paraphrastlaw01_is.f kj2 bt496.1 bt496.2.1 bt496.2.2 bt492.1 bt492.2 0).bind fun t502 => (if t502 = true then ((paraphrastlaw01_alive.f kj2).bind fun t503 => (some t503)) else (some false))))) else ((shape_Permute.f kj2 a0_0 l0_1 l1).bind fun bt504 => ((paraphrastlaw01_is.f kj2 bt504.1 bt504.2.1 bt504.2.2 0 ([] : List (S52)) 2).bind fun t510 => (if t510 = true then ((paraphrastlaw01_alive.f kj2).bind fun t511 => (some t511)) else (some false)))))) = some r := by rw [if_pos rfl] at H; exact H
     clear H
     have H := H1
     clear H1
     replace H := Option.bind_eq_some_iff.mp H
     obtain ⟨t491, A200, H⟩ := H
     replace H : (if t491 = true then ((paraphrastref01_Permute.f kj2 a0_0 l0_1 l1).bind fun bt492 => ((shape_Permute.f kj2 a0_0 l0_1 l1).bind fun bt496 => ((paraphrastlaw01_is.f kj2 bt496.1 bt496.2.1 bt496.2.2 bt492.1 bt492.2 0).bind fun t502 => (if t502 = true then ((paraphrastlaw01_alive.f kj2).bind fun t503 => (some t503)) else (some false))))) else ((shape_Permute.f kj2 a0_0 l0_1 l1).bind fun bt504 => ((paraphrastlaw01_is.f kj2 bt504.1 bt504.2.1 bt504.2.2 0 ([] : List (S52)) 2).bind fun t510 => (if t510 = true then ((paraphrastlaw01_alive.f kj2).bind fun t511 => (some t511)) else (some false))))) = some r := H
     have A20 := Aside0.mk A200
     clear A200
     by_cases c21 : t491 = true
     ·subst c21
      have H1 : ((paraphrastref01_Permute.f kj2 a0_0 l0_1 l1).bind fun bt492 => ((shape_Permute.f kj2 a0_0 l0_1 l1).bind fun bt496 => ((paraphrastlaw01_is.f kj2 bt496.1 bt496.2.1 bt496.2.2 bt492.1 bt492.2 0).bind fun t502 => (if t502 = true then ((paraphrastlaw01_alive.f kj2).bind fun t503 => (some t503)) else (some false))))) = some r := by rw [if_pos rfl] at H; exact H
      clear H
      have H := H1
      clear H1
      replace H := Option.bind_eq_some_iff.mp H
      obtain ⟨⟨t492, t493⟩, A220, H⟩ := H
      replace H : ((shape_Permute.f kj2 a0_0 l0_1 l1).bind fun bt496 => ((paraphrastlaw01_is.f kj2 bt496.1 bt496.2.1 bt496.2.2 t492 t493 0).bind fun t502 => (if t502 = true then ((paraphrastlaw01_alive.f kj2).bind fun t503 => (some t503)) else (some false)))) = some r := H
      have A22 := Aside0.mk A220
      clear A220
      replace H := Option.bind_eq_some_iff.mp H
      obtain ⟨⟨t496, t497, t500⟩, A230, H⟩ := H
      replace H : ((paraphrastlaw01_is.f kj2 t496 t497 t500 t492 t493 0).bind fun t502 => (if t502 = true then ((paraphrastlaw01_alive.f kj2).bind fun t503 => (some t503)) else (some false))) = some r := H
      have A23 := Aside0.mk A230
      clear A230
      replace H := Option.bind_eq_some_iff.mp H
      obtain ⟨t502, A240, H⟩ := H
      replace H : (if t502 = true then ((paraphrastlaw01_alive.f kj2).bind fun t503 => (some t503)) else (some false)) = some r := H
      have A24 := Aside0.mk A240
      clear A240
      by_cases c25 : t502 = true
      ·subst c25
       have H1 : ((paraphrastlaw01_alive.f kj2).bind fun t503 => (some t503)) = some r := by rw [if_pos rfl] at H; exact H
       clear H
       have H := H1
       clear H1
       replace H := Option.bind_eq_some_iff.mp H
       obtain ⟨t503, A260, H⟩ := H
       replace H : (some t503) = some r := H
       have A26 := Aside0.mk A260
       clear A260
       obtain rfl := Option.some.inj H
       go_wp2_with (first | ((with_reducible refine gate_dst (N := 6) rfl ?_); (try (refine gate_guard (by rfl) ?_; dsimp only)); refine box_event ?hg (N := 6) ?hd (cs := #[.int .i64 0, .slice none 0 0]) (t := 24) ?hr ?_; (case hd => rfl); (case hg => rfl); (case hr => first | (go_simp; done) | (go_simp; rfl)); intro gb489 hg w27 hbox hb; have BK489 := Aside0.mk (hbox); have GW489 := geB w hg; have GE489 := geB w hg; have NB483_489 := neL BK483 hg; have NB489_483 := neG BK483 hg; replace HO_484001 := vB HO_484001 hg hb; replace BK483 := blB BK483 hb; replace HB := Aside0.mk (below_step bel hb); clear hb hbox hg; have hnb28 := NB483_489.out; have hnc28 := NB489_483.out; obtain ⟨hcz29_0, hcz29_1, hfz29_0, hfz29_1⟩ := bq2 BK483) | ((with_reducible refine gate_callee (f := 12) rfl ?_); refine gL (some 24) Tryz.func12 #[.agg #[.int .i64 a0_0, .slice A0_1 l0_1.length c0_1]] ?_; (with_reducible refine (paraphrastref01_Valid.calls kj2 a0_0 _ _ l0_1 true _ ?side1 ?side2 A18.out).mono ?_); (case side1 => exact cS (Kd.V_reads' HO_484001.out).2.2); (case side2 => exact (Kd.V_reads' HO_484001.out).2.1); rintro e w30 ⟨rfl, hb⟩; refine ⟨_, rfl, ?_⟩; replace HO_484001 := vD HO_484001 hb; replace BK483 := blB BK483 hb; replace BK489 := blB BK489 hb; replace HB := Aside0.mk (below_step bel hb); (try clear hb); (try clear hb2); (try clear hk); (try clear hi); obtain ⟨hcz31_0, hcz31_1, hfz31_0, hfz31_1⟩ := bq2 BK483) | ((with_reducible refine gate_callee (f := 30) rfl ?_); refine gL (some 30) Tryz.func30 #[.int .i64 a0_0, .slice A1 l1.length c1] ?_; (with_reducible refine (paraphrastref01_Perm.calls kj2 a0_0 _ _ l1 true _ ?side1 ?side2 A20.out).mono ?_); (case side1 => exact cS (Kd.C_below HR1.out HB.out)); (case side2 => exact HC1.out); rintro e w' ⟨rfl, ⟨nd, rfl⟩⟩; refine ⟨_, rfl, ?_⟩; (try (rw [drewN_self w30]; generalize hq_ : World.drewN w30 _ = w30; have n0_ : Aside0 (Kd.V k52 52 w30 w.heap.size (fun k_ => ((P0_1_ k_ ∨ w.heap.size ≤ k_) ∧ k_ ≠ gb483) ∧ k_ ≠ gb489) (.slice A0_1 l0_1.length c0_1) l0_1) := ⟨by rw [← hq_]; exact (by (with_reducible repeat (first | apply Kd.V_alloc | apply Kd.V_drewN | apply Kd.V_drew)); exact Kd.V_mono HO_484001.out (fun _ hk => hk))⟩; have n1_ : Aside0 (w30.heap[gb483]? = some (.cells #[.int .i64 a0_0, .slice A0_1 l0_1.length c0_1] 24 (0, 0))) := ⟨by rw [← hq_]; exact (bk BK483)⟩; have n2_ : Aside0 (w30.heap[gb489]? = some (.cells #[.int .i64 0, .slice none 0 0] 24 (0, 0))) := ⟨by rw [← hq_]; exact (bk BK489)⟩; have n3_ : Aside0 (Below w.heap.size w w30) := ⟨by rw [← hq_]; exact bel⟩; clear HO_484001 BK483 BK489 HB hq_; have HO_484001 := n0_; have BK483 := n1_; have BK489 := n2_; have HB := n3_; clear n0_ n1_ n2_ n3_; obtain ⟨hcBK483_1_0, hcBK483_1_1, hfBK483_1_0, hfBK483_1_1⟩ := bq2 BK483; obtain ⟨hcBK489_2_0, hcBK489_2_1, hfBK489_2_0, hfBK489_2_1⟩ := bq2 BK489))) | ((with_reducible refine gate_callee (f := 31) rfl ?_); refine gL (some 21) Tryz.func31 #[.agg #[.int .i64 a0_0, .slice A0_1 l0_1.length c0_1], .slice A1 l1.length c1] ?_; (with_reducible refine (paraphrastref01_Permute.calls kj2 a0_0 _ _ l0_1 _ _ l1 t492 t493 _ ?side1 ?side2 ?side3 ?side4 A22.out).mono ?_); (case side1 => exact cS (Kd.V_reads' HO_484001.out).2.2); (case side2 => exact (Kd.V_reads' HO_484001.out).2.1); (case side3 => exact cS (Kd.C_below HR1.out HB.out)); (case side4 => exact HC1.out); rintro e w32 ⟨v494, rfl, ho0, hb⟩; refine ⟨_, rfl, ?_⟩; have HO495 := Aside0.mk (Kd.N_lower (Kd.N_mono (ok' := fun k_ => (P0_1_ k_ ∨ w.heap.size ≤ k_) ∧ k_ ≠ gb483 ∧ k_ ≠ gb489) ho0 (fun k_ hk_ => ⟨(.inr (Nat.le_trans (below_size bel) hk_)), (Kd.freshB (g := gb483) (o := .cells #[.int .i64 a0_0, .slice A0_1 l0_1.length c0_1] 24 (0, 0)) (bk BK483) k_ hk_), (Kd.freshB (g := gb489) (o := .cells #[.int .i64 0, .slice none 0 0] 24 (0, 0)) (bk BK489) k_ hk_)⟩)) (below_size bel)); replace HO_484001 := vE HO_484001 (by first | exact Kd.N_base ho0 | exact Kd.R_base ho0) hb; replace BK483 := blB BK483 hb; replace BK489 := blB BK489 hb; replace HB := Aside0.mk (below_step bel hb); (try clear hb); (try clear hb2); (try clear hk); (try clear hi); (try clear ho0); obtain ⟨hcz33_0, hcz33_1, hfz33_0, hfz33_1⟩ := bq2 BK489; obtain ⟨Ao34, co34, eo34⟩ := Kd.N_slice HO495.out; subst eo34; obtain ⟨hcz35_0, hcz35_1, hfz35_0, hfz35_1⟩ := bq2 BK483) | ((with_reducible refine gate_callee (f := 32) rfl ?_); refine gL (some 35) Tryz.func32 #[.agg #[.int .i64 a0_0, .slice A0_1 l0_1.length c0_1], .slice A1 l1.length c1] ?_; (with_reducible refine (shape_Permute.calls kj2 a0_0 _ _ l0_1 _ _ l1 t496 t497 t500 _ ?side1 ?side2 ?side3 ?side4 A23.out).mono ?_); (case side1 => refine (Kd.V_reads' (e := 52) (base := w.heap.size) (ok := fun k_ => ((((P0_1_ k_ ∨ w.heap.size ≤ k_) ∧ k_ ≠ gb483) ∧ k_ ≠ gb489) ∧ some k_ ≠ (.slice Ao34 t493.length co34 : Value).ownBlock)) (n := l0_1.length) (c := c0_1) ?_).2.2; exact (by (with_reducible repeat (first | apply Kd.V_alloc | apply Kd.V_drewN | apply Kd.V_drew)); exact (Kd.V_mono (Kd.V_far (p := ⟨gb489, 1, none⟩) (Kd.V_far (p := ⟨gb489, 0, none⟩) (Kd.V_mono HO_484001.out (fun k_ hk => (⟨hk, hk.1.2⟩ : _ ∧ k_ ≠ gb489))) (fun _ hk => hk.2) (.int .i64 t492)) (fun _ hk => hk.2) (.slice Ao34 t493.length co34)) (fun _ h_ => h_.1)))); (case side2 => exact (Kd.V_reads' HO_484001.out).2.1); (case side3 => exact Kd.C_below HR1.out bel); (case side4 => exact HC1.out); rintro e w36 ⟨v498, rfl, ho0, hb⟩; refine ⟨_, rfl, ?_⟩; have HO499 := Aside0.mk (Kd.N_lower (Kd.N_mono (ok' := fun k_ => (P0_1_ k_ ∨ w.heap.size ≤ k_) ∧ some k_ ≠ (.slice Ao34 t493.length co34 : Value).ownBlock ∧ k_ ≠ gb483 ∧ k_ ≠ gb489) (Kd.R_N (Kd.R_bound ho0)) (fun k_ hk_ => ⟨(.inr (Nat.le_trans (below_size bel) hk_.2.1)), (Kd.fresh' (Kd.N_lt (by (with_reducible repeat (first | apply Kd.N_alloc | apply Kd.N_drewN | apply Kd.N_drew)); exact (Kd.N_mono (Kd.N_far (p := ⟨gb489, 1, none⟩) (Kd.N_far (p := ⟨gb489, 0, none⟩) (Kd.N_mono HO495.out (fun k_ hk => (⟨hk, hk.2.2⟩ : _ ∧ k_ ≠ gb489))) (fun _ hk => hk.2) (.int .i64 t492)) (fun _ hk => hk.2) (.slice Ao34 t493.length co34)) (fun _ h_ => h_.1)))) k_ hk_.2.1), (Kd.freshB (g := gb483) (o := .cells #[.int .i64 a0_0, .slice A0_1 l0_1.length c0_1] 24 (0, 0)) (by (with_reducible repeat (first | refine blk_drewN ?_ _ | refine blk_drew ?_ | refine blk_alloc ?_ _)); refine blk_far ?_ NB483_489.out _; (with_reducible repeat (first | refine blk_drewN ?_ _ | refine blk_drew ?_ | refine blk_alloc ?_ _)); refine blk_far ?_ NB483_489.out _; (with_reducible repeat (first | refine blk_drewN ?_ _ | refine blk_drew ?_ | refine blk_alloc ?_ _)); exact BK483.out) k_ hk_.2.1), (Kd.freshB (g := gb489) (o := .cells #[.int .i64 t492, .slice Ao34 t493.length co34] 24 (0, 0)) (by (with_reducible repeat (first | refine blk_drewN ?_ _ | refine blk_drew ?_ | refine blk_alloc ?_ _)); refine blk_put (cs := #[.int .i64 t492, .slice none 0 0]) ?_ 1 _ rfl; (with_reducible repeat (first | refine blk_drewN ?_ _ | refine blk_drew ?_ | refine blk_alloc ?_ _)); refine blk_put (cs := #[.int .i64 0, .slice none 0 0]) ?_ 0 _ rfl; (with_reducible repeat (first | refine blk_drewN ?_ _ | refine blk_drew ?_ | refine blk_alloc ?_ _)); exact BK489.out) k_ hk_.2.1)⟩)) (below_size bel)); replace HO_484001 := Aside0.mk (Kd.V_elder' (by (with_reducible repeat (first | apply Kd.V_alloc | apply Kd.V_drewN | apply Kd.V_drew)); exact (Kd.V_mono (Kd.V_far (p := ⟨gb489, 1, none⟩) (Kd.V_far (p := ⟨gb489, 0, none⟩) (Kd.V_mono HO_484001.out (fun k_ hk => (⟨hk, hk.1.2⟩ : _ ∧ k_ ≠ gb489))) (fun _ hk => hk.2) (.int .i64 t492)) (fun _ hk => hk.2) (.slice Ao34 t493.length co34)) (fun _ h_ => h_.1))) (by first | exact Kd.N_base ho0 | exact Kd.R_base ho0) hb); replace HO495 := Aside0.mk (Kd.N_elder' (by (with_reducible repeat (first | apply Kd.N_alloc | apply Kd.N_drewN | apply Kd.N_drew)); exact (Kd.N_mono (Kd.N_far (p := ⟨gb489, 1, none⟩) (Kd.N_far (p := ⟨gb489, 0, none⟩) (Kd.N_mono HO495.out (fun k_ hk => (⟨hk, hk.2.2⟩ : _ ∧ k_ ≠ gb489))) (fun _ hk => hk.2) (.int .i64 t492)) (fun _ hk => hk.2) (.slice Ao34 t493.length co34)) (fun _ h_ => h_.1))) (by first | exact Kd.N_base ho0 | exact Kd.R_base ho0) hb); replace BK483 := Aside0.mk (blk_below (g := gb483) (o := .cells #[.int .i64 a0_0, .slice A0_1 l0_1.length c0_1] 24 (0, 0)) (by (with_reducible repeat (first | refine blk_drewN ?_ _ | refine blk_drew ?_ | refine blk_alloc ?_ _)); refine blk_far ?_ NB483_489.out _; (with_reducible repeat (first | refine blk_drewN ?_ _ | refine blk_drew ?_ | refine blk_alloc ?_ _)); refine blk_far ?_ NB483_489.out _; (with_reducible repeat (first | refine blk_drewN ?_ _ | refine blk_drew ?_ | refine blk_alloc ?_ _)); exact BK483.out) hb); replace BK489 := Aside0.mk (blk_below (g := gb489) (o := .cells #[.int .i64 t492, .slice Ao34 t493.length co34] 24 (0, 0)) (by (with_reducible repeat (first | refine blk_drewN ?_ _ | refine blk_drew ?_ | refine blk_alloc ?_ _)); refine blk_put (cs := #[.int .i64 t492, .slice none 0 0]) ?_ 1 _ rfl; (with_reducible repeat (first | refine blk_drewN ?_ _ | refine blk_drew ?_ | refine blk_alloc ?_ _)); refine blk_put (cs := #[.int .i64 0, .slice none 0 0]) ?_ 0 _ rfl; (with_reducible repeat (first | refine blk_drewN ?_ _ | refine blk_drew ?_ | refine blk_alloc ?_ _)); exact BK489.out) hb); replace HB := Aside0.mk (below_step bel hb); (try clear hb); (try clear hb2); (try clear hk); (try clear hi); (try clear ho0)) | ((with_reducible refine gate_dst (N := 7) rfl ?_); (try (refine gate_guard (by rfl) ?_; dsimp only)); refine box_event ?hg (N := 7) ?hd (cs := #[.int .i64 0, .slice none 0 0]) (t := 24) ?hr ?_; (case hd => rfl); (case hg => rfl); (case hr => first | (go_simp; done) | (go_simp; rfl)); intro gb501 hg w37 hbox hb; have BK501 := Aside0.mk (hbox); have GW501 := geB w hg; have GE501 := geB w hg; have NB483_501 := neL BK483 hg; have NB501_483 := neG BK483 hg; have NB489_501 := neL BK489 hg; have NB501_489 := neG BK489 hg; replace HO_484001 := vB HO_484001 hg hb; replace HO495 := nB HO495 hg hb; replace HO499 := nB HO499 hg hb; replace BK483 := blB BK483 hb; replace BK489 := blB BK489 hb; replace HB := Aside0.mk (below_step bel hb); clear hb hbox hg; have hnb38 := NB501_483.out; have hnc38 := NB483_501.out; have hnb39 := NB501_489.out; have hnc39 := NB489_501.out; obtain ⟨hcz40_0, hcz40_1, hfz40_0, hfz40_1⟩ := bq2 BK501; obtain ⟨Ao41, co41, eo41⟩ := Kd.N_slice HO499.out; subst eo41; obtain ⟨hcz42_0, hcz42_1, hfz42_0, hfz42_1⟩ := bq2 BK489) | ((with_reducible refine gate_callee (f := 16) rfl ?_); refine gL (some 42) Tryz.func16 #[.agg #[.int .i64 t496, .slice Ao41 t497.length co41], .int .i64 t500, .agg #[.int .i64 t492, .slice Ao34 t493.length co34], .int .i64 0] ?_; (with_reducible refine (paraphrastlaw01_is.calls kj2 t496 _ _ t497 t500 t492 _ _ t493 0 true _ ?side1 ?side2 ?side3 ?side4 A24.out).mono ?_); (case side1 => refine (Kd.N_reads' (e := 52) (base := w.heap.size) (ok := fun k_ => (((P0_1_ k_ ∨ w.heap.size ≤ k_) ∧ (some k_ ≠ (.slice Ao34 t493.length co34 : Value).ownBlock ∧ (k_ ≠ gb483 ∧ k_ ≠ gb489))) ∧ k_ ≠ gb501)) (n := t497.length) (c := co41) ?_).2.2; exact (by (with_reducible repeat (first | apply Kd.N_alloc | apply Kd.N_drewN | apply Kd.N_drew)); exact (Kd.N_mono (Kd.N_far (p := ⟨gb501, 1, none⟩) (Kd.N_far (p := ⟨gb501, 0, none⟩) (Kd.N_mono HO499.out (fun k_ hk => (⟨hk, hk.2⟩ : _ ∧ k_ ≠ gb501))) (fun _ hk => hk.2) (.int .i64 t496)) (fun _ hk => hk.2) (.slice Ao41 t497.length co41)) (fun _ h_ => h_.1)))); (case side2 => exact (Kd.N_reads' HO499.out).2.1); (case side3 => refine (Kd.N_reads' (e := 52) (base := w.heap.size) (ok := fun k_ => ((((P0_1_ k_ ∨ w.heap.size ≤ k_) ∧ (k_ ≠ gb483 ∧ k_ ≠ gb489)) ∧ some k_ ≠ (.slice Ao41 t497.length co41 : Value).ownBlock) ∧ k_ ≠ gb501)) (n := t493.length) (c := co34) ?_).2.2; exact (by (with_reducible repeat (first | apply Kd.N_alloc | apply Kd.N_drewN | apply Kd.N_drew)); exact (Kd.N_mono (Kd.N_far (p := ⟨gb501, 1, none⟩) (Kd.N_far (p := ⟨gb501, 0, none⟩) (Kd.N_mono HO495.out (fun k_ hk => (⟨hk, hk.2⟩ : _ ∧ k_ ≠ gb501))) (fun _ hk => hk.2) (.int .i64 t496)) (fun _ hk => hk.2) (.slice Ao41 t497.length co41)) (fun _ h_ => h_.1)))); (case side4 => exact (Kd.N_reads' HO495.out).2.1); rintro e w43 ⟨rfl, hb⟩; refine ⟨_, rfl, ?_⟩; replace HO_484001 := Aside0.mk (Kd.V_below (by (with_reducible repeat (first | apply Kd.V_alloc | apply Kd.V_drewN | apply Kd.V_drew)); exact (Kd.V_mono (Kd.V_far (p := ⟨gb501, 1, none⟩) (Kd.V_far (p := ⟨gb501, 0, none⟩) (Kd.V_mono HO_484001.out (fun k_ hk => (⟨hk, hk.2⟩ : _ ∧ k_ ≠ gb501))) (fun _ hk => hk.2) (.int .i64 t496)) (fun _ hk => hk.2) (.slice Ao41 t497.length co41)) (fun _ h_ => h_.1))) hb); replace HO495 := Aside0.mk (Kd.N_below (by (with_reducible repeat (first | apply Kd.N_alloc | apply Kd.N_drewN | apply Kd.N_drew)); exact (Kd.N_mono (Kd.N_far (p := ⟨gb501, 1, none⟩) (Kd.N_far (p := ⟨gb501, 0, none⟩) (Kd.N_mono HO495.out (fun k_ hk => (⟨hk, hk.2⟩ : _ ∧ k_ ≠ gb501))) (fun _ hk => hk.2) (.int .i64 t496)) (fun _ hk => hk.2) (.slice Ao41 t497.length co41)) (fun _ h_ => h_.1))) hb); replace HO499 := Aside0.mk (Kd.N_below (by (with_reducible repeat (first | apply Kd.N_alloc | apply Kd.N_drewN | apply Kd.N_drew)); exact (Kd.N_mono (Kd.N_far (p := ⟨gb501, 1, none⟩) (Kd.N_far (p := ⟨gb501, 0, none⟩) (Kd.N_mono HO499.out (fun k_ hk => (⟨hk, hk.2⟩ : _ ∧ k_ ≠ gb501))) (fun _ hk => hk.2) (.int .i64 t496)) (fun _ hk => hk.2) (.slice Ao41 t497.length co41)) (fun _ h_ => h_.1))) hb); replace BK483 := Aside0.mk (blk_below (g := gb483) (o := .cells #[.int .i64 a0_0, .slice A0_1 l0_1.length c0_1] 24 (0, 0)) (by (with_reducible repeat (first | refine blk_drewN ?_ _ | refine blk_drew ?_ | refine blk_alloc ?_ _)); refine blk_far ?_ NB483_501.out _; (with_reducible repeat (first | refine blk_drewN ?_ _ | refine blk_drew ?_ | refine blk_alloc ?_ _)); refine blk_far ?_ NB483_501.out _; (with_reducible repeat (first | refine blk_drewN ?_ _ | refine blk_drew ?_ | refine blk_alloc ?_ _)); exact BK483.out) hb); replace BK489 := Aside0.mk (blk_below (g := gb489) (o := .cells #[.int .i64 t492, .slice Ao34 t493.length co34] 24 (0, 0)) (by (with_reducible repeat (first | refine blk_drewN ?_ _ | refine blk_drew ?_ | refine blk_alloc ?_ _)); refine blk_far ?_ NB489_501.out _; (with_reducible repeat (first | refine blk_drewN ?_ _ | refine blk_drew ?_ | refine blk_alloc ?_ _)); refine blk_far ?_ NB489_501.out _; (with_reducible repeat (first | refine blk_drewN ?_ _ | refine blk_drew ?_ | refine blk_alloc ?_ _)); exact BK489.out) hb); replace BK501 := Aside0.mk (blk_below (g := gb501) (o := .cells #[.int .i64 t496, .slice Ao41 t497.length co41] 24 (0, 0)) (by (with_reducible repeat (first | refine blk_drewN ?_ _ | refine blk_drew ?_ | refine blk_alloc ?_ _)); refine blk_put (cs := #[.int .i64 t496, .slice none 0 0]) ?_ 1 _ rfl; (with_reducible repeat (first | refine blk_drewN ?_ _ | refine blk_drew ?_ | refine blk_alloc ?_ _)); refine blk_put (cs := #[.int .i64 0, .slice none 0 0]) ?_ 0 _ rfl; (with_reducible repeat (first | refine blk_drewN ?_ _ | refine blk_drew ?_ | refine blk_alloc ?_ _)); exact BK501.out) hb); replace HB := Aside0.mk (below_step bel hb); (try clear hb); (try clear hb2); (try clear hk); (try clear hi)) | (go_at_call 10; (with_reducible refine (paraphrastlaw01_alive.calls kj2  t503 _ ?side1 A26.out).mono ?_); (case side1 => first | exact HG.out | exact Glob.below HG.out bel); rintro e w44 ⟨rfl, hb⟩; replace HO_484001 := vD HO_484001 hb; replace HO495 := nD HO495 hb; replace HO499 := nD HO499 hb; replace BK483 := blB BK483 hb; replace BK489 := blB BK489 hb; replace BK501 := blB BK501 hb; replace HB := Aside0.mk (below_step bel hb); (try clear hb); (try clear hb2); (try clear hk); (try clear hi)))
       go_ret
       exact ⟨eN, bel⟩
      ·replace c25 := Bool.eq_false_iff.mpr c25
       subst c25
       have H1 : (some false) = some r := by rw [if_neg (show ¬ (false = true) by decide)] at H; exact H
       clear H
       have H := H1
       clear H1
       obtain rfl := Option.some.inj H
       go_wp2_with (first | ((with_reducible refine gate_dst (N := 6) rfl ?_); (try (refine gate_guard (by rfl) ?_; dsimp only)); refine box_event ?hg (N := 6) ?hd (cs := #[.int .i64 0, .slice none 0 0]) (t := 24) ?hr ?_; (case hd => rfl); (case hg => rfl); (case hr => first | (go_simp; done) | (go_simp; rfl)); intro gb489 hg w45 hbox hb; have BK489 := Aside0.mk (hbox); have GW489 := geB w hg; have GE489 := geB w hg; have NB483_489 := neL BK483 hg; have NB489_483 := neG BK483 hg; replace HO_484001 := vB HO_484001 hg hb; replace BK483 := blB BK483 hb; replace HB := Aside0.mk (below_step bel hb); clear hb hbox hg; have hnb46 := NB483_489.out; have hnc46 := NB489_483.out; obtain ⟨hcz47_0, hcz47_1, hfz47_0, hfz47_1⟩ := bq2 BK483) | ((with_reducible refine gate_callee (f := 12) rfl ?_); refine gL (some 24) Tryz.func12 #[.agg #[.int .i64 a0_0, .slice A0_1 l0_1.length c0_1]] ?_; (with_reducible refine (paraphrastref01_Valid.calls kj2 a0_0 _ _ l0_1 true _ ?side1 ?side2 A18.out).mono ?_); (case side1 => exact cS (Kd.V_reads' HO_484001.out).2.2); (case side2 => exact (Kd.V_reads' HO_484001.out).2.1); rintro e w48 ⟨rfl, hb⟩; refine ⟨_, rfl, ?_⟩; replace HO_484001 := vD HO_484001 hb; replace BK483 := blB BK483 hb; replace BK489 := blB BK489 hb; replace HB := Aside0.mk (below_step bel hb); (try clear hb); (try clear hb2); (try clear hk); (try clear hi); obtain ⟨hcz49_0, hcz49_1, hfz49_0, hfz49_1⟩ := bq2 BK483) | ((with_reducible refine gate_callee (f := 30) rfl ?_); refine gL (some 30) Tryz.func30 #[.int .i64 a0_0, .slice A1 l1.length c1] ?_; (with_reducible refine (paraphrastref01_Perm.calls kj2 a0_0 _ _ l1 true _ ?side1 ?side2 A20.out).mono ?_); (case side1 => exact cS (Kd.C_below HR1.out HB.out)); (case side2 => exact HC1.out); rintro e w' ⟨rfl, ⟨nd, rfl⟩⟩; refine ⟨_, rfl, ?_⟩; (try (rw [drewN_self w48]; generalize hq_ : World.drewN w48 _ = w48; have n0_ : Aside0 (Kd.V k52 52 w48 w.heap.size (fun k_ => ((P0_1_ k_ ∨ w.heap.size ≤ k_) ∧ k_ ≠ gb483) ∧ k_ ≠ gb489) (.slice A0_1 l0_1.length c0_1) l0_1) := ⟨by rw [← hq_]; exact (by (with_reducible repeat (first | apply Kd.V_alloc | apply Kd.V_drewN | apply Kd.V_drew)); exact Kd.V_mono HO_484001.out (fun _ hk => hk))⟩; have n1_ : Aside0 (w48.heap[gb483]? = some (.cells #[.int .i64 a0_0, .slice A0_1 l0_1.length c0_1] 24 (0, 0))) := ⟨by rw [← hq_]; exact (bk BK483)⟩; have n2_ : Aside0 (w48.heap[gb489]? = some (.cells #[.int .i64 0, .slice none 0 0] 24 (0, 0))) := ⟨by rw [← hq_]; exact (bk BK489)⟩; have n3_ : Aside0 (Below w.heap.size w w48) := ⟨by rw [← hq_]; exact bel⟩; clear HO_484001 BK483 BK489 HB hq_; have HO_484001 := n0_; have BK483 := n1_; have BK489 := n2_; have HB := n3_; clear n0_ n1_ n2_ n3_; obtain ⟨hcBK483_3_0, hcBK483_3_1, hfBK483_3_0, hfBK483_3_1⟩ := bq2 BK483; obtain ⟨hcBK489_4_0, hcBK489_4_1, hfBK489_4_0, hfBK489_4_1⟩ := bq2 BK489))) | ((with_reducible refine gate_callee (f := 31) rfl ?_); refine gL (some 21) Tryz.func31 #[.agg #[.int .i64 a0_0, .slice A0_1 l0_1.length c0_1], .slice A1 l1.length c1] ?_; (with_reducible refine (paraphrastref01_Permute.calls kj2 a0_0 _ _ l0_1 _ _ l1 t492 t493 _ ?side1 ?side2 ?side3 ?side4 A22.out).mono ?_); (case side1 => exact cS (Kd.V_reads' HO_484001.out).2.2); (case side2 => exact (Kd.V_reads' HO_484001.out).2.1); (case side3 => exact cS (Kd.C_below HR1.out HB.out)); (case side4 => exact HC1.out); rintro e w50 ⟨v494, rfl, ho0, hb⟩; refine ⟨_, rfl, ?_⟩; have HO495 := Aside0.mk (Kd.N_lower (Kd.N_mono (ok' := fun k_ => (P0_1_ k_ ∨ w.heap.size ≤ k_) ∧ k_ ≠ gb483 ∧ k_ ≠ gb489) ho0 (fun k_ hk_ => ⟨(.inr (Nat.le_trans (below_size bel) hk_)), (Kd.freshB (g := gb483) (o := .cells #[.int .i64 a0_0, .slice A0_1 l0_1.length c0_1] 24 (0, 0)) (bk BK483) k_ hk_), (Kd.freshB (g := gb489) (o := .cells #[.int .i64 0, .slice none 0 0] 24 (0, 0)) (bk BK489) k_ hk_)⟩)) (below_size bel)); replace HO_484001 := vE HO_484001 (by first | exact Kd.N_base ho0 | exact Kd.R_base ho0) hb; replace BK483 := blB BK483 hb; replace BK489 := blB BK489 hb; replace HB := Aside0.mk (below_step bel hb); (try clear hb); (try clear hb2); (try clear hk); (try clear hi); (try clear ho0); obtain ⟨hcz51_0, hcz51_1, hfz51_0, hfz51_1⟩ := bq2 BK489; obtain ⟨Ao52, co52, eo52⟩ := Kd.N_slice HO495.out; subst eo52; obtain ⟨hcz53_0, hcz53_1, hfz53_0, hfz53_1⟩ := bq2 BK483) | ((with_reducible refine gate_callee (f := 32) rfl ?_); refine gL (some 35) Tryz.func32 #[.agg #[.int .i64 a0_0, .slice A0_1 l0_1.length c0_1], .slice A1 l1.length c1] ?_; (with_reducible refine (shape_Permute.calls kj2 a0_0 _ _ l0_1 _ _ l1 t496 t497 t500 _ ?side1 ?side2 ?side3 ?side4 A23.out).mono ?_); (case side1 => refine (Kd.V_reads' (e := 52) (base := w.heap.size) (ok := fun k_ => ((((P0_1_ k_ ∨ w.heap.size ≤ k_) ∧ k_ ≠ gb483) ∧ k_ ≠ gb489) ∧ some k_ ≠ (.slice Ao52 t493.length co52 : Value).ownBlock)) (n := l0_1.length) (c := c0_1) ?_).2.2; exact (by (with_reducible repeat (first | apply Kd.V_alloc | apply Kd.V_drewN | apply Kd.V_drew)); exact (Kd.V_mono (Kd.V_far (p := ⟨gb489, 1, none⟩) (Kd.V_far (p := ⟨gb489, 0, none⟩) (Kd.V_mono HO_484001.out (fun k_ hk => (⟨hk, hk.1.2⟩ : _ ∧ k_ ≠ gb489))) (fun _ hk => hk.2) (.int .i64 t492)) (fun _ hk => hk.2) (.slice Ao52 t493.length co52)) (fun _ h_ => h_.1)))); (case side2 => exact (Kd.V_reads' HO_484001.out).2.1); (case side3 => exact Kd.C_below HR1.out bel); (case side4 => exact HC1.out); rintro e w54 ⟨v498, rfl, ho0, hb⟩; refine ⟨_, rfl, ?_⟩; have HO499 := Aside0.mk (Kd.N_lower (Kd.N_mono (ok' := fun k_ => (P0_1_ k_ ∨ w.heap.size ≤ k_) ∧ some k_ ≠ (.slice Ao52 t493.length co52 : Value).ownBlock ∧ k_ ≠ gb483 ∧ k_ ≠ gb489) (Kd.R_N (Kd.R_bound ho0)) (fun k_ hk_ => ⟨(.inr (Nat.le_trans (below_size bel) hk_.2.1)), (Kd.fresh' (Kd.N_lt (by (with_reducible repeat (first | apply Kd.N_alloc | apply Kd.N_drewN | apply Kd.N_drew)); exact (Kd.N_mono (Kd.N_far (p := ⟨gb489, 1, none⟩) (Kd.N_far (p := ⟨gb489, 0, none⟩) (Kd.N_mono HO495.out (fun k_ hk => (⟨hk, hk.2.2⟩ : _ ∧ k_ ≠ gb489))) (fun _ hk => hk.2) (.int .i64 t492)) (fun _ hk => hk.2) (.slice Ao52 t493.length co52)) (fun _ h_ => h_.1)))) k_ hk_.2.1), (Kd.freshB (g := gb483) (o := .cells #[.int .i64 a0_0, .slice A0_1 l0_1.length c0_1] 24 (0, 0)) (by (with_reducible repeat (first | refine blk_drewN ?_ _ | refine blk_drew ?_ | refine blk_alloc ?_ _)); refine blk_far ?_ NB483_489.out _; (with_reducible repeat (first | refine blk_drewN ?_ _ | refine blk_drew ?_ | refine blk_alloc ?_ _)); refine blk_far ?_ NB483_489.out _; (with_reducible repeat (first | refine blk_drewN ?_ _ | refine blk_drew ?_ | refine blk_alloc ?_ _)); exact BK483.out) k_ hk_.2.1), (Kd.freshB (g := gb489) (o := .cells #[.int .i64 t492, .slice Ao52 t493.length co52] 24 (0, 0)) (by (with_reducible repeat (first | refine blk_drewN ?_ _ | refine blk_drew ?_ | refine blk_alloc ?_ _)); refine blk_put (cs := #[.int .i64 t492, .slice none 0 0]) ?_ 1 _ rfl; (with_reducible repeat (first | refine blk_drewN ?_ _ | refine blk_drew ?_ | refine blk_alloc ?_ _)); refine blk_put (cs := #[.int .i64 0, .slice none 0 0]) ?_ 0 _ rfl; (with_reducible repeat (first | refine blk_drewN ?_ _ | refine blk_drew ?_ | refine blk_alloc ?_ _)); exact BK489.out) k_ hk_.2.1)⟩)) (below_size bel)); replace HO_484001 := Aside0.mk (Kd.V_elder' (by (with_reducible repeat (first | apply Kd.V_alloc | apply Kd.V_drewN | apply Kd.V_drew)); exact (Kd.V_mono (Kd.V_far (p := ⟨gb489, 1, none⟩) (Kd.V_far (p := ⟨gb489, 0, none⟩) (Kd.V_mono HO_484001.out (fun k_ hk => (⟨hk, hk.1.2⟩ : _ ∧ k_ ≠ gb489))) (fun _ hk => hk.2) (.int .i64 t492)) (fun _ hk => hk.2) (.slice Ao52 t493.length co52)) (fun _ h_ => h_.1))) (by first | exact Kd.N_base ho0 | exact Kd.R_base ho0) hb); replace HO495 := Aside0.mk (Kd.N_elder' (by (with_reducible repeat (first | apply Kd.N_alloc | apply Kd.N_drewN | apply Kd.N_drew)); exact (Kd.N_mono (Kd.N_far (p := ⟨gb489, 1, none⟩) (Kd.N_far (p := ⟨gb489, 0, none⟩) (Kd.N_mono HO495.out (fun k_ hk => (⟨hk, hk.2.2⟩ : _ ∧ k_ ≠ gb489))) (fun _ hk => hk.2) (.int .i64 t492)) (fun _ hk => hk.2) (.slice Ao52 t493.length co52)) (fun _ h_ => h_.1))) (by first | exact Kd.N_base ho0 | exact Kd.R_base ho0) hb); replace BK483 := Aside0.mk (blk_below (g := gb483) (o := .cells #[.int .i64 a0_0, .slice A0_1 l0_1.length c0_1] 24 (0, 0)) (by (with_reducible repeat (first | refine blk_drewN ?_ _ | refine blk_drew ?_ | refine blk_alloc ?_ _)); refine blk_far ?_ NB483_489.out _; (with_reducible repeat (first | refine blk_drewN ?_ _ | refine blk_drew ?_ | refine blk_alloc ?_ _)); refine blk_far ?_ NB483_489.out _; (with_reducible repeat (first | refine blk_drewN ?_ _ | refine blk_drew ?_ | refine blk_alloc ?_ _)); exact BK483.out) hb); replace BK489 := Aside0.mk (blk_below (g := gb489) (o := .cells #[.int .i64 t492, .slice Ao52 t493.length co52] 24 (0, 0)) (by (with_reducible repeat (first | refine blk_drewN ?_ _ | refine blk_drew ?_ | refine blk_alloc ?_ _)); refine blk_put (cs := #[.int .i64 t492, .slice none 0 0]) ?_ 1 _ rfl; (with_reducible repeat (first | refine blk_drewN ?_ _ | refine blk_drew ?_ | refine blk_alloc ?_ _)); refine blk_put (cs := #[.int .i64 0, .slice none 0 0]) ?_ 0 _ rfl; (with_reducible repeat (first | refine blk_drewN ?_ _ | refine blk_drew ?_ | refine blk_alloc ?_ _)); exact BK489.out) hb); replace HB := Aside0.mk (below_step bel hb); (try clear hb); (try clear hb2); (try clear hk); (try clear hi); (try clear ho0)) | ((with_reducible refine gate_dst (N := 7) rfl ?_); (try (refine gate_guard (by rfl) ?_; dsimp only)); refine box_event ?hg (N := 7) ?hd (cs := #[.int .i64 0, .slice none 0 0]) (t := 24) ?hr ?_; (case hd => rfl); (case hg => rfl); (case hr => first | (go_simp; done) | (go_simp; rfl)); intro gb501 hg w55 hbox hb; have BK501 := Aside0.mk (hbox); have GW501 := geB w hg; have GE501 := geB w hg; have NB483_501 := neL BK483 hg; have NB501_483 := neG BK483 hg; have NB489_501 := neL BK489 hg; have NB501_489 := neG BK489 hg; replace HO_484001 := vB HO_484001 hg hb; replace HO495 := nB HO495 hg hb; replace HO499 := nB HO499 hg hb; replace BK483 := blB BK483 hb; replace BK489 := blB BK489 hb; replace HB := Aside0.mk (below_step bel hb); clear hb hbox hg; have hnb56 := NB501_483.out; have hnc56 := NB483_501.out; have hnb57 := NB501_489.out; have hnc57 := NB489_501.out; obtain ⟨hcz58_0, hcz58_1, hfz58_0, hfz58_1⟩ := bq2 BK501; obtain ⟨Ao59, co59, eo59⟩ := Kd.N_slice HO499.out; subst eo59; obtain ⟨hcz60_0, hcz60_1, hfz60_0, hfz60_1⟩ := bq2 BK489) | ((with_reducible refine gate_callee (f := 16) rfl ?_); refine gL (some 42) Tryz.func16 #[.agg #[.int .i64 t496, .slice Ao59 t497.length co59], .int .i64 t500, .agg #[.int .i64 t492, .slice Ao52 t493.length co52], .int .i64 0] ?_; (with_reducible refine (paraphrastlaw01_is.calls kj2 t496 _ _ t497 t500 t492 _ _ t493 0 false _ ?side1 ?side2 ?side3 ?side4 A24.out).mono ?_); (case side1 => refine (Kd.N_reads' (e := 52) (base := w.heap.size) (ok := fun k_ => (((P0_1_ k_ ∨ w.heap.size ≤ k_) ∧ (some k_ ≠ (.slice Ao52 t493.length co52 : Value).ownBlock ∧ (k_ ≠ gb483 ∧ k_ ≠ gb489))) ∧ k_ ≠ gb501)) (n := t497.length) (c := co59) ?_).2.2; exact (by (with_reducible repeat (first | apply Kd.N_alloc | apply Kd.N_drewN | apply Kd.N_drew)); exact (Kd.N_mono (Kd.N_far (p := ⟨gb501, 1, none⟩) (Kd.N_far (p := ⟨gb501, 0, none⟩) (Kd.N_mono HO499.out (fun k_ hk => (⟨hk, hk.2⟩ : _ ∧ k_ ≠ gb501))) (fun _ hk => hk.2) (.int .i64 t496)) (fun _ hk => hk.2) (.slice Ao59 t497.length co59)) (fun _ h_ => h_.1)))); (case side2 => exact (Kd.N_reads' HO499.out).2.1); (case side3 => refine (Kd.N_reads' (e := 52) (base := w.heap.size) (ok := fun k_ => ((((P0_1_ k_ ∨ w.heap.size ≤ k_) ∧ (k_ ≠ gb483 ∧ k_ ≠ gb489)) ∧ some k_ ≠ (.slice Ao59 t497.length co59 : Value).ownBlock) ∧ k_ ≠ gb501)) (n := t493.length) (c := co52) ?_).2.2; exact (by (with_reducible repeat (first | apply Kd.N_alloc | apply Kd.N_drewN | apply Kd.N_drew)); exact (Kd.N_mono (Kd.N_far (p := ⟨gb501, 1, none⟩) (Kd.N_far (p := ⟨gb501, 0, none⟩) (Kd.N_mono HO495.out (fun k_ hk => (⟨hk, hk.2⟩ : _ ∧ k_ ≠ gb501))) (fun _ hk => hk.2) (.int .i64 t496)) (fun _ hk => hk.2) (.slice Ao59 t497.length co59)) (fun _ h_ => h_.1)))); (case side4 => exact (Kd.N_reads' HO495.out).2.1); rintro e w61 ⟨rfl, hb⟩; refine ⟨_, rfl, ?_⟩; replace HO_484001 := Aside0.mk (Kd.V_below (by (with_reducible repeat (first | apply Kd.V_alloc | apply Kd.V_drewN | apply Kd.V_drew)); exact (Kd.V_mono (Kd.V_far (p := ⟨gb501, 1, none⟩) (Kd.V_far (p := ⟨gb501, 0, none⟩) (Kd.V_mono HO_484001.out (fun k_ hk => (⟨hk, hk.2⟩ : _ ∧ k_ ≠ gb501))) (fun _ hk => hk.2) (.int .i64 t496)) (fun _ hk => hk.2) (.slice Ao59 t497.length co59)) (fun _ h_ => h_.1))) hb); replace HO495 := Aside0.mk (Kd.N_below (by (with_reducible repeat (first | apply Kd.N_alloc | apply Kd.N_drewN | apply Kd.N_drew)); exact (Kd.N_mono (Kd.N_far (p := ⟨gb501, 1, none⟩) (Kd.N_far (p := ⟨gb501, 0, none⟩) (Kd.N_mono HO495.out (fun k_ hk => (⟨hk, hk.2⟩ : _ ∧ k_ ≠ gb501))) (fun _ hk => hk.2) (.int .i64 t496)) (fun _ hk => hk.2) (.slice Ao59 t497.length co59)) (fun _ h_ => h_.1))) hb); replace HO499 := Aside0.mk (Kd.N_below (by (with_reducible repeat (first | apply Kd.N_alloc | apply Kd.N_drewN | apply Kd.N_drew)); exact (Kd.N_mono (Kd.N_far (p := ⟨gb501, 1, none⟩) (Kd.N_far (p := ⟨gb501, 0, none⟩) (Kd.N_mono HO499.out (fun k_ hk => (⟨hk, hk.2⟩ : _ ∧ k_ ≠ gb501))) (fun _ hk => hk.2) (.int .i64 t496)) (fun _ hk => hk.2) (.slice Ao59 t497.length co59)) (fun _ h_ => h_.1))) hb); replace BK483 := Aside0.mk (blk_below (g := gb483) (o := .cells #[.int .i64 a0_0, .slice A0_1 l0_1.length c0_1] 24 (0, 0)) (by (with_reducible repeat (first | refine blk_drewN ?_ _ | refine blk_drew ?_ | refine blk_alloc ?_ _)); refine blk_far ?_ NB483_501.out _; (with_reducible repeat (first | refine blk_drewN ?_ _ | refine blk_drew ?_ | refine blk_alloc ?_ _)); refine blk_far ?_ NB483_501.out _; (with_reducible repeat (first | refine blk_drewN ?_ _ | refine blk_drew ?_ | refine blk_alloc ?_ _)); exact BK483.out) hb); replace BK489 := Aside0.mk (blk_below (g := gb489) (o := .cells #[.int .i64 t492, .slice Ao52 t493.length co52] 24 (0, 0)) (by (with_reducible repeat (first | refine blk_drewN ?_ _ | refine blk_drew ?_ | refine blk_alloc ?_ _)); refine blk_far ?_ NB489_501.out _; (with_reducible repeat (first | refine blk_drewN ?_ _ | refine blk_drew ?_ | refine blk_alloc ?_ _)); refine blk_far ?_ NB489_501.out _; (with_reducible repeat (first | refine blk_drewN ?_ _ | refine blk_drew ?_ | refine blk_alloc ?_ _)); exact BK489.out) hb); replace BK501 := Aside0.mk (blk_below (g := gb501) (o := .cells #[.int .i64 t496, .slice Ao59 t497.length co59] 24 (0, 0)) (by (with_reducible repeat (first | refine blk_drewN ?_ _ | refine blk_drew ?_ | refine blk_alloc ?_ _)); refine blk_put (cs := #[.int .i64 t496, .slice none 0 0]) ?_ 1 _ rfl; (with_reducible repeat (first | refine blk_drewN ?_ _ | refine blk_drew ?_ | refine blk_alloc ?_ _)); refine blk_put (cs := #[.int .i64 0, .slice none 0 0]) ?_ 0 _ rfl; (with_reducible repeat (first | refine blk_drewN ?_ _ | refine blk_drew ?_ | refine blk_alloc ?_ _)); exact BK501.out) hb); replace HB := Aside0.mk (below_step bel hb); (try clear hb); (try clear hb2); (try clear hk); (try clear hi)))
       go_ret
       exact ⟨eN, bel⟩
     ·replace c21 := Bool.eq_false_iff.mpr c21
      subst c21
      have H1 : ((shape_Permute.f kj2 a0_0 l0_1 l1).bind fun bt504 => ((paraphrastlaw01_is.f kj2 bt504.1 bt504.2.1 bt504.2.2 0 ([] : List (S52)) 2).bind fun t510 => (if t510 = true then ((paraphrastlaw01_alive.f kj2).bind fun t511 => (some t511)) else (some false)))) = some r := by rw [if_neg (show ¬ (false = true) by decide)] at H; exact H
      clear H
      have H := H1
      clear H1
      replace H := Option.bind_eq_some_iff.mp H
      obtain ⟨⟨t504, t505, t508⟩, A620, H⟩ := H
      replace H : ((paraphrastlaw01_is.f kj2 t504 t505 t508 0 ([] : List (S52)) 2).bind fun t510 => (if t510 = true then ((paraphrastlaw01_alive.f kj2).bind fun t511 => (some t511)) else (some false))) = some r := H
      have A62 := Aside0.mk A620
      clear A620
      replace H := Option.bind_eq_some_iff.mp H
      obtain ⟨t510, A630, H⟩ := H
      replace H : (if t510 = true then ((paraphrastlaw01_alive.f kj2).bind fun t511 => (some t511)) else (some false)) = some r := H
      have A63 := Aside0.mk A630
      clear A630
      by_cases c64 : t510 = true
      ·subst c64
       have H1 : ((paraphrastlaw01_alive.f kj2).bind fun t511 => (some t511)) = some r := by rw [if_pos rfl] at H; exact H
       clear H
       have H := H1
       clear H1
       replace H := Option.bind_eq_some_iff.mp H
       obtain ⟨t511, A650, H⟩ := H
       replace H : (some t511) = some r := H
       have A65 := Aside0.mk A650
       clear A650
       obtain rfl := Option.some.inj H
       go_wp2_with (first | ((with_reducible refine gate_dst (N := 6) rfl ?_); (try (refine gate_guard (by rfl) ?_; dsimp only)); refine box_event ?hg (N := 6) ?hd (cs := #[.int .i64 0, .slice none 0 0]) (t := 24) ?hr ?_; (case hd => rfl); (case hg => rfl); (case hr => first | (go_simp; done) | (go_simp; rfl)); intro gb489 hg w66 hbox hb; have BK489 := Aside0.mk (hbox); have GW489 := geB w hg; have GE489 := geB w hg; have NB483_489 := neL BK483 hg; have NB489_483 := neG BK483 hg; replace HO_484001 := vB HO_484001 hg hb; replace BK483 := blB BK483 hb; replace HB := Aside0.mk (below_step bel hb); clear hb hbox hg; have hnb67 := NB483_489.out; have hnc67 := NB489_483.out; obtain ⟨hcz68_0, hcz68_1, hfz68_0, hfz68_1⟩ := bq2 BK483) | ((with_reducible refine gate_callee (f := 12) rfl ?_); refine gL (some 24) Tryz.func12 #[.agg #[.int .i64 a0_0, .slice A0_1 l0_1.length c0_1]] ?_; (with_reducible refine (paraphrastref01_Valid.calls kj2 a0_0 _ _ l0_1 true _ ?side1 ?side2 A18.out).mono ?_); (case side1 => exact cS (Kd.V_reads' HO_484001.out).2.2); (case side2 => exact (Kd.V_reads' HO_484001.out).2.1); rintro e w69 ⟨rfl, hb⟩; refine ⟨_, rfl, ?_⟩; replace HO_484001 := vD HO_484001 hb; replace BK483 := blB BK483 hb; replace BK489 := blB BK489 hb; replace HB := Aside0.mk (below_step bel hb); (try clear hb); (try clear hb2); (try clear hk); (try clear hi); obtain ⟨hcz70_0, hcz70_1, hfz70_0, hfz70_1⟩ := bq2 BK483) | ((with_reducible refine gate_callee (f := 30) rfl ?_); refine gL (some 30) Tryz.func30 #[.int .i64 a0_0, .slice A1 l1.length c1] ?_; (with_reducible refine (paraphrastref01_Perm.calls kj2 a0_0 _ _ l1 false _ ?side1 ?side2 A20.out).mono ?_); (case side1 => exact cS (Kd.C_below HR1.out HB.out)); (case side2 => exact HC1.out); rintro e w' ⟨rfl, ⟨nd, rfl⟩⟩; refine ⟨_, rfl, ?_⟩; (try (rw [drewN_self w69]; generalize hq_ : World.drewN w69 _ = w69; have n0_ : Aside0 (Kd.V k52 52 w69 w.heap.size (fun k_ => (P0_1_ k_ ∨ w.heap.size ≤ k_) ∧ k_ ≠ gb483 ∧ k_ ≠ gb489) (.slice A0_1 l0_1.length c0_1) l0_1) := ⟨by rw [← hq_]; exact (by (with_reducible repeat (first | apply Kd.V_alloc | apply Kd.V_drewN | apply Kd.V_drew)); exact Kd.V_mono HO_484001.out (fun _ hk => ⟨hk.1.1, ⟨hk.1.2, hk.2⟩⟩))⟩; have n1_ : Aside0 (w69.heap[gb483]? = some (.cells #[.int .i64 a0_0, .slice A0_1 l0_1.length c0_1] 24 (0, 0))) := ⟨by rw [← hq_]; exact (bk BK483)⟩; have n2_ : Aside0 (w69.heap[gb489]? = some (.cells #[.int .i64 0, .slice none 0 0] 24 (0, 0))) := ⟨by rw [← hq_]; exact (bk BK489)⟩; have n3_ : Aside0 (Below w.heap.size w w69) := ⟨by rw [← hq_]; exact bel⟩; clear HO_484001 BK483 BK489 HB hq_; have HO_484001 := n0_; have BK483 := n1_; have BK489 := n2_; have HB := n3_; clear n0_ n1_ n2_ n3_; obtain ⟨hcBK483_5_0, hcBK483_5_1, hfBK483_5_0, hfBK483_5_1⟩ := bq2 BK483; obtain ⟨hcBK489_6_0, hcBK489_6_1, hfBK489_6_0, hfBK489_6_1⟩ := bq2 BK489))) | ((with_reducible refine gate_callee (f := 32) rfl ?_); refine gL (some 35) Tryz.func32 #[.agg #[.int .i64 a0_0, .slice A0_1 l0_1.length c0_1], .slice A1 l1.length c1] ?_; (with_reducible refine (shape_Permute.calls kj2 a0_0 _ _ l0_1 _ _ l1 t504 t505 t508 _ ?side1 ?side2 ?side3 ?side4 A62.out).mono ?_); (case side1 => exact cS (Kd.V_reads' HO_484001.out).2.2); (case side2 => exact (Kd.V_reads' HO_484001.out).2.1); (case side3 => exact cS (Kd.C_below HR1.out HB.out)); (case side4 => exact HC1.out); rintro e w71 ⟨v506, rfl, ho0, hb⟩; refine ⟨_, rfl, ?_⟩; have HO507 := Aside0.mk (Kd.N_lower (Kd.N_mono (ok' := fun k_ => (P0_1_ k_ ∨ w.heap.size ≤ k_) ∧ k_ ≠ gb483 ∧ k_ ≠ gb489) (Kd.R_N (Kd.R_bound ho0)) (fun k_ hk_ => ⟨(.inr (Nat.le_trans (below_size bel) hk_.2.1)), (Kd.freshB (g := gb483) (o := .cells #[.int .i64 a0_0, .slice A0_1 l0_1.length c0_1] 24 (0, 0)) (bk BK483) k_ hk_.2.1), (Kd.freshB (g := gb489) (o := .cells #[.int .i64 0, .slice none 0 0] 24 (0, 0)) (bk BK489) k_ hk_.2.1)⟩)) (below_size bel)); replace HO_484001 := vE HO_484001 (by first | exact Kd.N_base ho0 | exact Kd.R_base ho0) hb; replace BK483 := blB BK483 hb; replace BK489 := blB BK489 hb; replace HB := Aside0.mk (below_step bel hb); (try clear hb); (try clear hb2); (try clear hk); (try clear hi); (try clear ho0)) | ((with_reducible refine gate_dst (N := 7) rfl ?_); (try (refine gate_guard (by rfl) ?_; dsimp only)); refine box_event ?hg (N := 7) ?hd (cs := #[.int .i64 0, .slice none 0 0]) (t := 24) ?hr ?_; (case hd => rfl); (case hg => rfl); (case hr => first | (go_simp; done) | (go_simp; rfl)); intro gb509 hg w72 hbox hb; have BK509 := Aside0.mk (hbox); have GW509 := geB w hg; have GE509 := geB w hg; have NB483_509 := neL BK483 hg; have NB509_483 := neG BK483 hg; have NB489_509 := neL BK489 hg; have NB509_489 := neG BK489 hg; replace HO_484001 := vB HO_484001 hg hb; replace HO507 := nB HO507 hg hb; replace BK483 := blB BK483 hb; replace BK489 := blB BK489 hb; replace HB := Aside0.mk (below_step bel hb); clear hb hbox hg; have hnb73 := NB509_483.out; have hnc73 := NB483_509.out; have hnb74 := NB509_489.out; have hnc74 := NB489_509.out; obtain ⟨hcz75_0, hcz75_1, hfz75_0, hfz75_1⟩ := bq2 BK509; obtain ⟨Ao76, co76, eo76⟩ := Kd.N_slice HO507.out; subst eo76; obtain ⟨hcz77_0, hcz77_1, hfz77_0, hfz77_1⟩ := bq2 BK489) | ((with_reducible refine gate_callee (f := 16) rfl ?_); refine gL (some 42) Tryz.func16 #[.agg #[.int .i64 t504, .slice Ao76 t505.length co76], .int .i64 t508, .agg #[.int .i64 0, .slice none 0 0], .int .i64 2] ?_; (refine (paraphrastlaw01_is.calls kj2 t504 _ _ t505 t508 0 _ _ ([] : List (S52)) 2 true _ ?side1 ?side2 ?side3 ?side4 A63.out).mono ?_); (case side1 => refine (Kd.N_reads' (e := 52) (base := w.heap.size) (ok := fun k_ => (((P0_1_ k_ ∨ w.heap.size ≤ k_) ∧ (k_ ≠ gb483 ∧ k_ ≠ gb489)) ∧ k_ ≠ gb509)) (n := t505.length) (c := co76) ?_).2.2; exact (by (with_reducible repeat (first | apply Kd.N_alloc | apply Kd.N_drewN | apply Kd.N_drew)); exact (Kd.N_mono (Kd.N_far (p := ⟨gb509, 1, none⟩) (Kd.N_far (p := ⟨gb509, 0, none⟩) (Kd.N_mono HO507.out (fun k_ hk => (⟨hk, hk.2⟩ : _ ∧ k_ ≠ gb509))) (fun _ hk => hk.2) (.int .i64 t504)) (fun _ hk => hk.2) (.slice Ao76 t505.length co76)) (fun _ h_ => h_.1)))); (case side2 => exact (Kd.N_reads' HO507.out).2.1); (case side3 => exact Kd.C_nil _ _); (case side4 => exact Nat.le_refl _); rintro e w78 ⟨rfl, hb⟩; refine ⟨_, rfl, ?_⟩; replace HO_484001 := Aside0.mk (Kd.V_below (by (with_reducible repeat (first | apply Kd.V_alloc | apply Kd.V_drewN | apply Kd.V_drew)); exact (Kd.V_mono (Kd.V_far (p := ⟨gb509, 1, none⟩) (Kd.V_far (p := ⟨gb509, 0, none⟩) (Kd.V_mono HO_484001.out (fun k_ hk => (⟨hk, hk.2⟩ : _ ∧ k_ ≠ gb509))) (fun _ hk => hk.2) (.int .i64 t504)) (fun _ hk => hk.2) (.slice Ao76 t505.length co76)) (fun _ h_ => h_.1))) hb); replace HO507 := Aside0.mk (Kd.N_below (by (with_reducible repeat (first | apply Kd.N_alloc | apply Kd.N_drewN | apply Kd.N_drew)); exact (Kd.N_mono (Kd.N_far (p := ⟨gb509, 1, none⟩) (Kd.N_far (p := ⟨gb509, 0, none⟩) (Kd.N_mono HO507.out (fun k_ hk => (⟨hk, hk.2⟩ : _ ∧ k_ ≠ gb509))) (fun _ hk => hk.2) (.int .i64 t504)) (fun _ hk => hk.2) (.slice Ao76 t505.length co76)) (fun _ h_ => h_.1))) hb); replace BK483 := Aside0.mk (blk_below (g := gb483) (o := .cells #[.int .i64 a0_0, .slice A0_1 l0_1.length c0_1] 24 (0, 0)) (by (with_reducible repeat (first | refine blk_drewN ?_ _ | refine blk_drew ?_ | refine blk_alloc ?_ _)); refine blk_far ?_ NB483_509.out _; (with_reducible repeat (first | refine blk_drewN ?_ _ | refine blk_drew ?_ | refine blk_alloc ?_ _)); refine blk_far ?_ NB483_509.out _; (with_reducible repeat (first | refine blk_drewN ?_ _ | refine blk_drew ?_ | refine blk_alloc ?_ _)); exact BK483.out) hb); replace BK489 := Aside0.mk (blk_below (g := gb489) (o := .cells #[.int .i64 0, .slice none 0 0] 24 (0, 0)) (by (with_reducible repeat (first | refine blk_drewN ?_ _ | refine blk_drew ?_ | refine blk_alloc ?_ _)); refine blk_far ?_ NB489_509.out _; (with_reducible repeat (first | refine blk_drewN ?_ _ | refine blk_drew ?_ | refine blk_alloc ?_ _)); refine blk_far ?_ NB489_509.out _; (with_reducible repeat (first | refine blk_drewN ?_ _ | refine blk_drew ?_ | refine blk_alloc ?_ _)); exact BK489.out) hb); replace BK509 := Aside0.mk (blk_below (g := gb509) (o := .cells #[.int .i64 t504, .slice Ao76 t505.length co76] 24 (0, 0)) (by (with_reducible repeat (first | refine blk_drewN ?_ _ | refine blk_drew ?_ | refine blk_alloc ?_ _)); refine blk_put (cs := #[.int .i64 t504, .slice none 0 0]) ?_ 1 _ rfl; (with_reducible repeat (first | refine blk_drewN ?_ _ | refine blk_drew ?_ | refine blk_alloc ?_ _)); refine blk_put (cs := #[.int .i64 0, .slice none 0 0]) ?_ 0 _ rfl; (with_reducible repeat (first | refine blk_drewN ?_ _ | refine blk_drew ?_ | refine blk_alloc ?_ _)); exact BK509.out) hb); replace HB := Aside0.mk (below_step bel hb); (try clear hb); (try clear hb2); (try clear hk); (try clear hi)) | (go_at_call 10; (with_reducible refine (paraphrastlaw01_alive.calls kj2  t511 _ ?side1 A65.out).mono ?_); (case side1 => first | exact HG.out | exact Glob.below HG.out bel); rintro e w79 ⟨rfl, hb⟩; replace HO_484001 := vD HO_484001 hb; replace HO507 := nD HO507 hb; replace BK483 := blB BK483 hb; replace BK489 := blB BK489 hb; replace BK509 := blB BK509 hb; replace HB := Aside0.mk (below_step bel hb); (try clear hb); (try clear hb2); (try clear hk); (try clear hi)))
       go_ret
       exact ⟨eN, bel⟩
      ·replace c64 := Bool.eq_false_iff.mpr c64
       subst c64
       have H1 : (some false) = some r := by rw [if_neg (show ¬ (false = true) by decide)] at H; exact H
       clear H
       have H := H1
       clear H1
       obtain rfl := Option.some.inj H
       go_wp2_with (first | ((with_reducible refine gate_dst (N := 6) rfl ?_); (try (refine gate_guard (by rfl) ?_; dsimp only)); refine box_event ?hg (N := 6) ?hd (cs := #[.int .i64 0, .slice none 0 0]) (t := 24) ?hr ?_; (case hd => rfl); (case hg => rfl); (case hr => first | (go_simp; done) | (go_simp; rfl)); intro gb489 hg w80 hbox hb; have BK489 := Aside0.mk (hbox); have GW489 := geB w hg; have GE489 := geB w hg; have NB483_489 := neL BK483 hg; have NB489_483 := neG BK483 hg; replace HO_484001 := vB HO_484001 hg hb; replace BK483 := blB BK483 hb; replace HB := Aside0.mk (below_step bel hb); clear hb hbox hg; have hnb81 := NB483_489.out; have hnc81 := NB489_483.out; obtain ⟨hcz82_0, hcz82_1, hfz82_0, hfz82_1⟩ := bq2 BK483) | ((with_reducible refine gate_callee (f := 12) rfl ?_); refine gL (some 24) Tryz.func12 #[.agg #[.int .i64 a0_0, .slice A0_1 l0_1.length c0_1]] ?_; (with_reducible refine (paraphrastref01_Valid.calls kj2 a0_0 _ _ l0_1 true _ ?side1 ?side2 A18.out).mono ?_); (case side1 => exact cS (Kd.V_reads' HO_484001.out).2.2); (case side2 => exact (Kd.V_reads' HO_484001.out).2.1); rintro e w83 ⟨rfl, hb⟩; refine ⟨_, rfl, ?_⟩; replace HO_484001 := vD HO_484001 hb; replace BK483 := blB BK483 hb; replace BK489 := blB BK489 hb; replace HB := Aside0.mk (below_step bel hb); (try clear hb); (try clear hb2); (try clear hk); (try clear hi); obtain ⟨hcz84_0, hcz84_1, hfz84_0, hfz84_1⟩ := bq2 BK483) | ((with_reducible refine gate_callee (f := 30) rfl ?_); refine gL (some 30) Tryz.func30 #[.int .i64 a0_0, .slice A1 l1.length c1] ?_; (with_reducible refine (paraphrastref01_Perm.calls kj2 a0_0 _ _ l1 false _ ?side1 ?side2 A20.out).mono ?_); (case side1 => exact cS (Kd.C_below HR1.out HB.out)); (case side2 => exact HC1.out); rintro e w' ⟨rfl, ⟨nd, rfl⟩⟩; refine ⟨_, rfl, ?_⟩; (try (rw [drewN_self w83]; generalize hq_ : World.drewN w83 _ = w83; have n0_ : Aside0 (Kd.V k52 52 w83 w.heap.size (fun k_ => (P0_1_ k_ ∨ w.heap.size ≤ k_) ∧ k_ ≠ gb483 ∧ k_ ≠ gb489) (.slice A0_1 l0_1.length c0_1) l0_1) := ⟨by rw [← hq_]; exact (by (with_reducible repeat (first | apply Kd.V_alloc | apply Kd.V_drewN | apply Kd.V_drew)); exact Kd.V_mono HO_484001.out (fun _ hk => ⟨hk.1.1, ⟨hk.1.2, hk.2⟩⟩))⟩; have n1_ : Aside0 (w83.heap[gb483]? = some (.cells #[.int .i64 a0_0, .slice A0_1 l0_1.length c0_1] 24 (0, 0))) := ⟨by rw [← hq_]; exact (bk BK483)⟩; have n2_ : Aside0 (w83.heap[gb489]? = some (.cells #[.int .i64 0, .slice none 0 0] 24 (0, 0))) := ⟨by rw [← hq_]; exact (bk BK489)⟩; have n3_ : Aside0 (Below w.heap.size w w83) := ⟨by rw [← hq_]; exact bel⟩; clear HO_484001 BK483 BK489 HB hq_; have HO_484001 := n0_; have BK483 := n1_; have BK489 := n2_; have HB := n3_; clear n0_ n1_ n2_ n3_; obtain ⟨hcBK483_7_0, hcBK483_7_1, hfBK483_7_0, hfBK483_7_1⟩ := bq2 BK483; obtain ⟨hcBK489_8_0, hcBK489_8_1, hfBK489_8_0, hfBK489_8_1⟩ := bq2 BK489))) | ((with_reducible refine gate_callee (f := 32) rfl ?_); refine gL (some 35) Tryz.func32 #[.agg #[.int .i64 a0_0, .slice A0_1 l0_1.length c0_1], .slice A1 l1.length c1] ?_; (with_reducible refine (shape_Permute.calls kj2 a0_0 _ _ l0_1 _ _ l1 t504 t505 t508 _ ?side1 ?side2 ?side3 ?side4 A62.out).mono ?_); (case side1 => exact cS (Kd.V_reads' HO_484001.out).2.2); (case side2 => exact (Kd.V_reads' HO_484001.out).2.1); (case side3 => exact cS (Kd.C_below HR1.out HB.out)); (case side4 => exact HC1.out); rintro e w85 ⟨v506, rfl, ho0, hb⟩; refine ⟨_, rfl, ?_⟩; have HO507 := Aside0.mk (Kd.N_lower (Kd.N_mono (ok' := fun k_ => (P0_1_ k_ ∨ w.heap.size ≤ k_) ∧ k_ ≠ gb483 ∧ k_ ≠ gb489) (Kd.R_N (Kd.R_bound ho0)) (fun k_ hk_ => ⟨(.inr (Nat.le_trans (below_size bel) hk_.2.1)), (Kd.freshB (g := gb483) (o := .cells #[.int .i64 a0_0, .slice A0_1 l0_1.length c0_1] 24 (0, 0)) (bk BK483) k_ hk_.2.1), (Kd.freshB (g := gb489) (o := .cells #[.int .i64 0, .slice none 0 0] 24 (0, 0)) (bk BK489) k_ hk_.2.1)⟩)) (below_size bel)); replace HO_484001 := vE HO_484001 (by first | exact Kd.N_base ho0 | exact Kd.R_base ho0) hb; replace BK483 := blB BK483 hb; replace BK489 := blB BK489 hb; replace HB := Aside0.mk (below_step bel hb); (try clear hb); (try clear hb2); (try clear hk); (try clear hi); (try clear ho0)) | ((with_reducible refine gate_dst (N := 7) rfl ?_); (try (refine gate_guard (by rfl) ?_; dsimp only)); refine box_event ?hg (N := 7) ?hd (cs := #[.int .i64 0, .slice none 0 0]) (t := 24) ?hr ?_; (case hd => rfl); (case hg => rfl); (case hr => first | (go_simp; done) | (go_simp; rfl)); intro gb509 hg w86 hbox hb; have BK509 := Aside0.mk (hbox); have GW509 := geB w hg; have GE509 := geB w hg; have NB483_509 := neL BK483 hg; have NB509_483 := neG BK483 hg; have NB489_509 := neL BK489 hg; have NB509_489 := neG BK489 hg; replace HO_484001 := vB HO_484001 hg hb; replace HO507 := nB HO507 hg hb; replace BK483 := blB BK483 hb; replace BK489 := blB BK489 hb; replace HB := Aside0.mk (below_step bel hb); clear hb hbox hg; have hnb87 := NB509_483.out; have hnc87 := NB483_509.out; have hnb88 := NB509_489.out; have hnc88 := NB489_509.out; obtain ⟨hcz89_0, hcz89_1, hfz89_0, hfz89_1⟩ := bq2 BK509; obtain ⟨Ao90, co90, eo90⟩ := Kd.N_slice HO507.out; subst eo90; obtain ⟨hcz91_0, hcz91_1, hfz91_0, hfz91_1⟩ := bq2 BK489) | ((with_reducible refine gate_callee (f := 16) rfl ?_); refine gL (some 42) Tryz.func16 #[.agg #[.int .i64 t504, .slice Ao90 t505.length co90], .int .i64 t508, .agg #[.int .i64 0, .slice none 0 0], .int .i64 2] ?_; (refine (paraphrastlaw01_is.calls kj2 t504 _ _ t505 t508 0 _ _ ([] : List (S52)) 2 false _ ?side1 ?side2 ?side3 ?side4 A63.out).mono ?_); (case side1 => refine (Kd.N_reads' (e := 52) (base := w.heap.size) (ok := fun k_ => (((P0_1_ k_ ∨ w.heap.size ≤ k_) ∧ (k_ ≠ gb483 ∧ k_ ≠ gb489)) ∧ k_ ≠ gb509)) (n := t505.length) (c := co90) ?_).2.2; exact (by (with_reducible repeat (first | apply Kd.N_alloc | apply Kd.N_drewN | apply Kd.N_drew)); exact (Kd.N_mono (Kd.N_far (p := ⟨gb509, 1, none⟩) (Kd.N_far (p := ⟨gb509, 0, none⟩) (Kd.N_mono HO507.out (fun k_ hk => (⟨hk, hk.2⟩ : _ ∧ k_ ≠ gb509))) (fun _ hk => hk.2) (.int .i64 t504)) (fun _ hk => hk.2) (.slice Ao90 t505.length co90)) (fun _ h_ => h_.1)))); (case side2 => exact (Kd.N_reads' HO507.out).2.1); (case side3 => exact Kd.C_nil _ _); (case side4 => exact Nat.le_refl _); rintro e w92 ⟨rfl, hb⟩; refine ⟨_, rfl, ?_⟩; replace HO_484001 := Aside0.mk (Kd.V_below (by (with_reducible repeat (first | apply Kd.V_alloc | apply Kd.V_drewN | apply Kd.V_drew)); exact (Kd.V_mono (Kd.V_far (p := ⟨gb509, 1, none⟩) (Kd.V_far (p := ⟨gb509, 0, none⟩) (Kd.V_mono HO_484001.out (fun k_ hk => (⟨hk, hk.2⟩ : _ ∧ k_ ≠ gb509))) (fun _ hk => hk.2) (.int .i64 t504)) (fun _ hk => hk.2) (.slice Ao90 t505.length co90)) (fun _ h_ => h_.1))) hb); replace HO507 := Aside0.mk (Kd.N_below (by (with_reducible repeat (first | apply Kd.N_alloc | apply Kd.N_drewN | apply Kd.N_drew)); exact (Kd.N_mono (Kd.N_far (p := ⟨gb509, 1, none⟩) (Kd.N_far (p := ⟨gb509, 0, none⟩) (Kd.N_mono HO507.out (fun k_ hk => (⟨hk, hk.2⟩ : _ ∧ k_ ≠ gb509))) (fun _ hk => hk.2) (.int .i64 t504)) (fun _ hk => hk.2) (.slice Ao90 t505.length co90)) (fun _ h_ => h_.1))) hb); replace BK483 := Aside0.mk (blk_below (g := gb483) (o := .cells #[.int .i64 a0_0, .slice A0_1 l0_1.length c0_1] 24 (0, 0)) (by (with_reducible repeat (first | refine blk_drewN ?_ _ | refine blk_drew ?_ | refine blk_alloc ?_ _)); refine blk_far ?_ NB483_509.out _; (with_reducible repeat (first | refine blk_drewN ?_ _ | refine blk_drew ?_ | refine blk_alloc ?_ _)); refine blk_far ?_ NB483_509.out _; (with_reducible repeat (first | refine blk_drewN ?_ _ | refine blk_drew ?_ | refine blk_alloc ?_ _)); exact BK483.out) hb); replace BK489 := Aside0.mk (blk_below (g := gb489) (o := .cells #[.int .i64 0, .slice none 0 0] 24 (0, 0)) (by (with_reducible repeat (first | refine blk_drewN ?_ _ | refine blk_drew ?_ | refine blk_alloc ?_ _)); refine blk_far ?_ NB489_509.out _; (with_reducible repeat (first | refine blk_drewN ?_ _ | refine blk_drew ?_ | refine blk_alloc ?_ _)); refine blk_far ?_ NB489_509.out _; (with_reducible repeat (first | refine blk_drewN ?_ _ | refine blk_drew ?_ | refine blk_alloc ?_ _)); exact BK489.out) hb); replace BK509 := Aside0.mk (blk_below (g := gb509) (o := .cells #[.int .i64 t504, .slice Ao90 t505.length co90] 24 (0, 0)) (by (with_reducible repeat (first | refine blk_drewN ?_ _ | refine blk_drew ?_ | refine blk_alloc ?_ _)); refine blk_put (cs := #[.int .i64 t504, .slice none 0 0]) ?_ 1 _ rfl; (with_reducible repeat (first | refine blk_drewN ?_ _ | refine blk_drew ?_ | refine blk_alloc ?_ _)); refine blk_put (cs := #[.int .i64 0, .slice none 0 0]) ?_ 0 _ rfl; (with_reducible repeat (first | refine blk_drewN ?_ _ | refine blk_drew ?_ | refine blk_alloc ?_ _)); exact BK509.out) hb); replace HB := Aside0.mk (below_step bel hb); (try clear hb); (try clear hb2); (try clear hk); (try clear hi)))
       go_ret
       exact ⟨eN, bel⟩
    ·replace c19 := Bool.eq_false_iff.mpr c19
     subst c19
     have H1 : ((shape_Permute.f kj2 a0_0 l0_1 l1).bind fun bt512 => ((paraphrastlaw01_is.f kj2 bt512.1 bt512.2.1 bt512.2.2 0 ([] : List (S52)) 1).bind fun t518 => (if t518 = true then ((paraphrastlaw01_alive.f kj2).bind fun t519 => (some t519)) else (some false)))) = some r := by rw [if_neg (show ¬ (false = true) by decide)] at H; exact H
     clear H
     have H := H1
     clear H1
     replace H := Option.bind_eq_some_iff.mp H
     obtain ⟨⟨t512, t513, t516⟩, A930, H⟩ := H
     replace H : ((paraphrastlaw01_is.f kj2 t512 t513 t516 0 ([] : List (S52)) 1).bind fun t518 => (if t518 = true then ((paraphrastlaw01_alive.f kj2).bind fun t519 => (some t519)) else (some false))) = some r := H
     have A93 := Aside0.mk A930
     clear A930
     replace H := Option.bind_eq_some_iff.mp H
     obtain ⟨t518, A940, H⟩ := H
     replace H : (if t518 = true then ((paraphrastlaw01_alive.f kj2).bind fun t519 => (some t519)) else (some false)) = some r := H
     have A94 := Aside0.mk A940
     clear A940
     by_cases c95 : t518 = true
     ·subst c95
      have H1 : ((paraphrastlaw01_alive.f kj2).bind fun t519 => (some t519)) = some r := by rw [if_pos rfl] at H; exact H
      clear H
      have H := H1
      clear H1
      replace H := Option.bind_eq_some_iff.mp H
      obtain ⟨t519, A960, H⟩ := H
      replace H : (some t519) = some r := H
      have A96 := Aside0.mk A960
      clear A960
      obtain rfl := Option.some.inj H
      go_wp2_with (first | ((with_reducible refine gate_dst (N := 6) rfl ?_); (try (refine gate_guard (by rfl) ?_; dsimp only)); refine box_event ?hg (N := 6) ?hd (cs := #[.int .i64 0, .slice none 0 0]) (t := 24) ?hr ?_; (case hd => rfl); (case hg => rfl); (case hr => first | (go_simp; done) | (go_simp; rfl)); intro gb489 hg w97 hbox hb; have BK489 := Aside0.mk (hbox); have GW489 := geB w hg; have GE489 := geB w hg; have NB483_489 := neL BK483 hg; have NB489_483 := neG BK483 hg; replace HO_484001 := vB HO_484001 hg hb; replace BK483 := blB BK483 hb; replace HB := Aside0.mk (below_step bel hb); clear hb hbox hg; have hnb98 := NB483_489.out; have hnc98 := NB489_483.out; obtain ⟨hcz99_0, hcz99_1, hfz99_0, hfz99_1⟩ := bq2 BK483) | ((with_reducible refine gate_callee (f := 12) rfl ?_); refine gL (some 24) Tryz.func12 #[.agg #[.int .i64 a0_0, .slice A0_1 l0_1.length c0_1]] ?_; (with_reducible refine (paraphrastref01_Valid.calls kj2 a0_0 _ _ l0_1 false _ ?side1 ?side2 A18.out).mono ?_); (case side1 => exact cS (Kd.V_reads' HO_484001.out).2.2); (case side2 => exact (Kd.V_reads' HO_484001.out).2.1); rintro e w100 ⟨rfl, hb⟩; refine ⟨_, rfl, ?_⟩; replace HO_484001 := vD HO_484001 hb; replace BK483 := blB BK483 hb; replace BK489 := blB BK489 hb; replace HB := Aside0.mk (below_step bel hb); (try clear hb); (try clear hb2); (try clear hk); (try clear hi); obtain ⟨hcz101_0, hcz101_1, hfz101_0, hfz101_1⟩ := bq2 BK483) | ((with_reducible refine gate_callee (f := 32) rfl ?_); refine gL (some 35) Tryz.func32 #[.agg #[.int .i64 a0_0, .slice A0_1 l0_1.length c0_1], .slice A1 l1.length c1] ?_; (with_reducible refine (shape_Permute.calls kj2 a0_0 _ _ l0_1 _ _ l1 t512 t513 t516 _ ?side1 ?side2 ?side3 ?side4 A93.out).mono ?_); (case side1 => exact cS (Kd.V_reads' HO_484001.out).2.2); (case side2 => exact (Kd.V_reads' HO_484001.out).2.1); (case side3 => exact cS (Kd.C_below HR1.out HB.out)); (case side4 => exact HC1.out); rintro e w102 ⟨v514, rfl, ho0, hb⟩; refine ⟨_, rfl, ?_⟩; have HO515 := Aside0.mk (Kd.N_lower (Kd.N_mono (ok' := fun k_ => (P0_1_ k_ ∨ w.heap.size ≤ k_) ∧ k_ ≠ gb483 ∧ k_ ≠ gb489) (Kd.R_N (Kd.R_bound ho0)) (fun k_ hk_ => ⟨(.inr (Nat.le_trans (below_size bel) hk_.2.1)), (Kd.freshB (g := gb483) (o := .cells #[.int .i64 a0_0, .slice A0_1 l0_1.length c0_1] 24 (0, 0)) (bk BK483) k_ hk_.2.1), (Kd.freshB (g := gb489) (o := .cells #[.int .i64 0, .slice none 0 0] 24 (0, 0)) (bk BK489) k_ hk_.2.1)⟩)) (below_size bel)); replace HO_484001 := vE HO_484001 (by first | exact Kd.N_base ho0 | exact Kd.R_base ho0) hb; replace BK483 := blB BK483 hb; replace BK489 := blB BK489 hb; replace HB := Aside0.mk (below_step bel hb); (try clear hb); (try clear hb2); (try clear hk); (try clear hi); (try clear ho0)) | ((with_reducible refine gate_dst (N := 7) rfl ?_); (try (refine gate_guard (by rfl) ?_; dsimp only)); refine box_event ?hg (N := 7) ?hd (cs := #[.int .i64 0, .slice none 0 0]) (t := 24) ?hr ?_; (case hd => rfl); (case hg => rfl); (case hr => first | (go_simp; done) | (go_simp; rfl)); intro gb517 hg w103 hbox hb; have BK517 := Aside0.mk (hbox); have GW517 := geB w hg; have GE517 := geB w hg; have NB483_517 := neL BK483 hg; have NB517_483 := neG BK483 hg; have NB489_517 := neL BK489 hg; have NB517_489 := neG BK489 hg; replace HO_484001 := vB HO_484001 hg hb; replace HO515 := nB HO515 hg hb; replace BK483 := blB BK483 hb; replace BK489 := blB BK489 hb; replace HB := Aside0.mk (below_step bel hb); clear hb hbox hg; have hnb104 := NB517_483.out; have hnc104 := NB483_517.out; have hnb105 := NB517_489.out; have hnc105 := NB489_517.out; obtain ⟨hcz106_0, hcz106_1, hfz106_0, hfz106_1⟩ := bq2 BK517; obtain ⟨Ao107, co107, eo107⟩ := Kd.N_slice HO515.out; subst eo107; obtain ⟨hcz108_0, hcz108_1, hfz108_0, hfz108_1⟩ := bq2 BK489) | ((with_reducible refine gate_callee (f := 16) rfl ?_); refine gL (some 42) Tryz.func16 #[.agg #[.int .i64 t512, .slice Ao107 t513.length co107], .int .i64 t516, .agg #[.int .i64 0, .slice none 0 0], .int .i64 1] ?_; (refine (paraphrastlaw01_is.calls kj2 t512 _ _ t513 t516 0 _ _ ([] : List (S52)) 1 true _ ?side1 ?side2 ?side3 ?side4 A94.out).mono ?_); (case side1 => refine (Kd.N_reads' (e := 52) (base := w.heap.size) (ok := fun k_ => (((P0_1_ k_ ∨ w.heap.size ≤ k_) ∧ (k_ ≠ gb483 ∧ k_ ≠ gb489)) ∧ k_ ≠ gb517)) (n := t513.length) (c := co107) ?_).2.2; exact (by (with_reducible repeat (first | apply Kd.N_alloc | apply Kd.N_drewN | apply Kd.N_drew)); exact (Kd.N_mono (Kd.N_far (p := ⟨gb517, 1, none⟩) (Kd.N_far (p := ⟨gb517, 0, none⟩) (Kd.N_mono HO515.out (fun k_ hk => (⟨hk, hk.2⟩ : _ ∧ k_ ≠ gb517))) (fun _ hk => hk.2) (.int .i64 t512)) (fun _ hk => hk.2) (.slice Ao107 t513.length co107)) (fun _ h_ => h_.1)))); (case side2 => exact (Kd.N_reads' HO515.out).2.1); (case side3 => exact Kd.C_nil _ _); (case side4 => exact Nat.le_refl _); rintro e w109 ⟨rfl, hb⟩; refine ⟨_, rfl, ?_⟩; replace HO_484001 := Aside0.mk (Kd.V_below (by (with_reducible repeat (first | apply Kd.V_alloc | apply Kd.V_drewN | apply Kd.V_drew)); exact (Kd.V_mono (Kd.V_far (p := ⟨gb517, 1, none⟩) (Kd.V_far (p := ⟨gb517, 0, none⟩) (Kd.V_mono HO_484001.out (fun k_ hk => (⟨hk, hk.2⟩ : _ ∧ k_ ≠ gb517))) (fun _ hk => hk.2) (.int .i64 t512)) (fun _ hk => hk.2) (.slice Ao107 t513.length co107)) (fun _ h_ => h_.1))) hb); replace HO515 := Aside0.mk (Kd.N_below (by (with_reducible repeat (first | apply Kd.N_alloc | apply Kd.N_drewN | apply Kd.N_drew)); exact (Kd.N_mono (Kd.N_far (p := ⟨gb517, 1, none⟩) (Kd.N_far (p := ⟨gb517, 0, none⟩) (Kd.N_mono HO515.out (fun k_ hk => (⟨hk, hk.2⟩ : _ ∧ k_ ≠ gb517))) (fun _ hk => hk.2) (.int .i64 t512)) (fun _ hk => hk.2) (.slice Ao107 t513.length co107)) (fun _ h_ => h_.1))) hb); replace BK483 := Aside0.mk (blk_below (g := gb483) (o := .cells #[.int .i64 a0_0, .slice A0_1 l0_1.length c0_1] 24 (0, 0)) (by (with_reducible repeat (first | refine blk_drewN ?_ _ | refine blk_drew ?_ | refine blk_alloc ?_ _)); refine blk_far ?_ NB483_517.out _; (with_reducible repeat (first | refine blk_drewN ?_ _ | refine blk_drew ?_ | refine blk_alloc ?_ _)); refine blk_far ?_ NB483_517.out _; (with_reducible repeat (first | refine blk_drewN ?_ _ | refine blk_drew ?_ | refine blk_alloc ?_ _)); exact BK483.out) hb); replace BK489 := Aside0.mk (blk_below (g := gb489) (o := .cells #[.int .i64 0, .slice none 0 0] 24 (0, 0)) (by (with_reducible repeat (first | refine blk_drewN ?_ _ | refine blk_drew ?_ | refine blk_alloc ?_ _)); refine blk_far ?_ NB489_517.out _; (with_reducible repeat (first | refine blk_drewN ?_ _ | refine blk_drew ?_ | refine blk_alloc ?_ _)); refine blk_far ?_ NB489_517.out _; (with_reducible repeat (first | refine blk_drewN ?_ _ | refine blk_drew ?_ | refine blk_alloc ?_ _)); exact BK489.out) hb); replace BK517 := Aside0.mk (blk_below (g := gb517) (o := .cells #[.int .i64 t512, .slice Ao107 t513.length co107] 24 (0, 0)) (by (with_reducible repeat (first | refine blk_drewN ?_ _ | refine blk_drew ?_ | refine blk_alloc ?_ _)); refine blk_put (cs := #[.int .i64 t512, .slice none 0 0]) ?_ 1 _ rfl; (with_reducible repeat (first | refine blk_drewN ?_ _ | refine blk_drew ?_ | refine blk_alloc ?_ _)); refine blk_put (cs := #[.int .i64 0, .slice none 0 0]) ?_ 0 _ rfl; (with_reducible repeat (first | refine blk_drewN ?_ _ | refine blk_drew ?_ | refine blk_alloc ?_ _)); exact BK517.out) hb); replace HB := Aside0.mk (below_step bel hb); (try clear hb); (try clear hb2); (try clear hk); (try clear hi)) | (go_at_call 10; (with_reducible refine (paraphrastlaw01_alive.calls kj2  t519 _ ?side1 A96.out).mono ?_); (case side1 => first | exact HG.out | exact Glob.below HG.out bel); rintro e w110 ⟨rfl, hb⟩; replace HO_484001 := vD HO_484001 hb; replace HO515 := nD HO515 hb; replace BK483 := blB BK483 hb; replace BK489 := blB BK489 hb; replace BK517 := blB BK517 hb; replace HB := Aside0.mk (below_step bel hb); (try clear hb); (try clear hb2); (try clear hk); (try clear hi)))
      go_ret
      exact ⟨eN, bel⟩
     ·replace c95 := Bool.eq_false_iff.mpr c95
      subst c95
      have H1 : (some false) = some r := by rw [if_neg (show ¬ (false = true) by decide)] at H; exact H
      clear H
      have H := H1
      clear H1
      obtain rfl := Option.some.inj H
      go_wp2_with (first | ((with_reducible refine gate_dst (N := 6) rfl ?_); (try (refine gate_guard (by rfl) ?_; dsimp only)); refine box_event ?hg (N := 6) ?hd (cs := #[.int .i64 0, .slice none 0 0]) (t := 24) ?hr ?_; (case hd => rfl); (case hg => rfl); (case hr => first | (go_simp; done) | (go_simp; rfl)); intro gb489 hg w111 hbox hb; have BK489 := Aside0.mk (hbox); have GW489 := geB w hg; have GE489 := geB w hg; have NB483_489 := neL BK483 hg; have NB489_483 := neG BK483 hg; replace HO_484001 := vB HO_484001 hg hb; replace BK483 := blB BK483 hb; replace HB := Aside0.mk (below_step bel hb); clear hb hbox hg; have hnb112 := NB483_489.out; have hnc112 := NB489_483.out; obtain ⟨hcz113_0, hcz113_1, hfz113_0, hfz113_1⟩ := bq2 BK483) | ((with_reducible refine gate_callee (f := 12) rfl ?_); refine gL (some 24) Tryz.func12 #[.agg #[.int .i64 a0_0, .slice A0_1 l0_1.length c0_1]] ?_; (with_reducible refine (paraphrastref01_Valid.calls kj2 a0_0 _ _ l0_1 false _ ?side1 ?side2 A18.out).mono ?_); (case side1 => exact cS (Kd.V_reads' HO_484001.out).2.2); (case side2 => exact (Kd.V_reads' HO_484001.out).2.1); rintro e w114 ⟨rfl, hb⟩; refine ⟨_, rfl, ?_⟩; replace HO_484001 := vD HO_484001 hb; replace BK483 := blB BK483 hb; replace BK489 := blB BK489 hb; replace HB := Aside0.mk (below_step bel hb); (try clear hb); (try clear hb2); (try clear hk); (try clear hi); obtain ⟨hcz115_0, hcz115_1, hfz115_0, hfz115_1⟩ := bq2 BK483) | ((with_reducible refine gate_callee (f := 32) rfl ?_); refine gL (some 35) Tryz.func32 #[.agg #[.int .i64 a0_0, .slice A0_1 l0_1.length c0_1], .slice A1 l1.length c1] ?_; (with_reducible refine (shape_Permute.calls kj2 a0_0 _ _ l0_1 _ _ l1 t512 t513 t516 _ ?side1 ?side2 ?side3 ?side4 A93.out).mono ?_); (case side1 => exact cS (Kd.V_reads' HO_484001.out).2.2); (case side2 => exact (Kd.V_reads' HO_484001.out).2.1); (case side3 => exact cS (Kd.C_below HR1.out HB.out)); (case side4 => exact HC1.out); rintro e w116 ⟨v514, rfl, ho0, hb⟩; refine ⟨_, rfl, ?_⟩; have HO515 := Aside0.mk (Kd.N_lower (Kd.N_mono (ok' := fun k_ => (P0_1_ k_ ∨ w.heap.size ≤ k_) ∧ k_ ≠ gb483 ∧ k_ ≠ gb489) (Kd.R_N (Kd.R_bound ho0)) (fun k_ hk_ => ⟨(.inr (Nat.le_trans (below_size bel) hk_.2.1)), (Kd.freshB (g := gb483) (o := .cells #[.int .i64 a0_0, .slice A0_1 l0_1.length c0_1] 24 (0, 0)) (bk BK483) k_ hk_.2.1), (Kd.freshB (g := gb489) (o := .cells #[.int .i64 0, .slice none 0 0] 24 (0, 0)) (bk BK489) k_ hk_.2.1)⟩)) (below_size bel)); replace HO_484001 := vE HO_484001 (by first | exact Kd.N_base ho0 | exact Kd.R_base ho0) hb; replace BK483 := blB BK483 hb; replace BK489 := blB BK489 hb; replace HB := Aside0.mk (below_step bel hb); (try clear hb); (try clear hb2); (try clear hk); (try clear hi); (try clear ho0)) | ((with_reducible refine gate_dst (N := 7) rfl ?_); (try (refine gate_guard (by rfl) ?_; dsimp only)); refine box_event ?hg (N := 7) ?hd (cs := #[.int .i64 0, .slice none 0 0]) (t := 24) ?hr ?_; (case hd => rfl); (case hg => rfl); (case hr => first | (go_simp; done) | (go_simp; rfl)); intro gb517 hg w117 hbox hb; have BK517 := Aside0.mk (hbox); have GW517 := geB w hg; have GE517 := geB w hg; have NB483_517 := neL BK483 hg; have NB517_483 := neG BK483 hg; have NB489_517 := neL BK489 hg; have NB517_489 := neG BK489 hg; replace HO_484001 := vB HO_484001 hg hb; replace HO515 := nB HO515 hg hb; replace BK483 := blB BK483 hb; replace BK489 := blB BK489 hb; replace HB := Aside0.mk (below_step bel hb); clear hb hbox hg; have hnb118 := NB517_483.out; have hnc118 := NB483_517.out; have hnb119 := NB517_489.out; have hnc119 := NB489_517.out; obtain ⟨hcz120_0, hcz120_1, hfz120_0, hfz120_1⟩ := bq2 BK517; obtain ⟨Ao121, co121, eo121⟩ := Kd.N_slice HO515.out; subst eo121; obtain ⟨hcz122_0, hcz122_1, hfz122_0, hfz122_1⟩ := bq2 BK489) | ((with_reducible refine gate_callee (f := 16) rfl ?_); refine gL (some 42) Tryz.func16 #[.agg #[.int .i64 t512, .slice Ao121 t513.length co121], .int .i64 t516, .agg #[.int .i64 0, .slice none 0 0], .int .i64 1] ?_; (refine (paraphrastlaw01_is.calls kj2 t512 _ _ t513 t516 0 _ _ ([] : List (S52)) 1 false _ ?side1 ?side2 ?side3 ?side4 A94.out).mono ?_); (case side1 => refine (Kd.N_reads' (e := 52) (base := w.heap.size) (ok := fun k_ => (((P0_1_ k_ ∨ w.heap.size ≤ k_) ∧ (k_ ≠ gb483 ∧ k_ ≠ gb489)) ∧ k_ ≠ gb517)) (n := t513.length) (c := co121) ?_).2.2; exact (by (with_reducible repeat (first | apply Kd.N_alloc | apply Kd.N_drewN | apply Kd.N_drew)); exact (Kd.N_mono (Kd.N_far (p := ⟨gb517, 1, none⟩) (Kd.N_far (p := ⟨gb517, 0, none⟩) (Kd.N_mono HO515.out (fun k_ hk => (⟨hk, hk.2⟩ : _ ∧ k_ ≠ gb517))) (fun _ hk => hk.2) (.int .i64 t512)) (fun _ hk => hk.2) (.slice Ao121 t513.length co121)) (fun _ h_ => h_.1)))); (case side2 => exact (Kd.N_reads' HO515.out).2.1); (case side3 => exact Kd.C_nil _ _); (case side4 => exact Nat.le_refl _); rintro e w123 ⟨rfl, hb⟩; refine ⟨_, rfl, ?_⟩; replace HO_484001 := Aside0.mk (Kd.V_below (by (with_reducible repeat (first | apply Kd.V_alloc | apply Kd.V_drewN | apply Kd.V_drew)); exact (Kd.V_mono (Kd.V_far (p := ⟨gb517, 1, none⟩) (Kd.V_far (p := ⟨gb517, 0, none⟩) (Kd.V_mono HO_484001.out (fun k_ hk => (⟨hk, hk.2⟩ : _ ∧ k_ ≠ gb517))) (fun _ hk => hk.2) (.int .i64 t512)) (fun _ hk => hk.2) (.slice Ao121 t513.length co121)) (fun _ h_ => h_.1))) hb); replace HO515 := Aside0.mk (Kd.N_below (by (with_reducible repeat (first | apply Kd.N_alloc | apply Kd.N_drewN | apply Kd.N_drew)); exact (Kd.N_mono (Kd.N_far (p := ⟨gb517, 1, none⟩) (Kd.N_far (p := ⟨gb517, 0, none⟩) (Kd.N_mono HO515.out (fun k_ hk => (⟨hk, hk.2⟩ : _ ∧ k_ ≠ gb517))) (fun _ hk => hk.2) (.int .i64 t512)) (fun _ hk => hk.2) (.slice Ao121 t513.length co121)) (fun _ h_ => h_.1))) hb); replace BK483 := Aside0.mk (blk_below (g := gb483) (o := .cells #[.int .i64 a0_0, .slice A0_1 l0_1.length c0_1] 24 (0, 0)) (by (with_reducible repeat (first | refine blk_drewN ?_ _ | refine blk_drew ?_ | refine blk_alloc ?_ _)); refine blk_far ?_ NB483_517.out _; (with_reducible repeat (first | refine blk_drewN ?_ _ | refine blk_drew ?_ | refine blk_alloc ?_ _)); refine blk_far ?_ NB483_517.out _; (with_reducible repeat (first | refine blk_drewN ?_ _ | refine blk_drew ?_ | refine blk_alloc ?_ _)); exact BK483.out) hb); replace BK489 := Aside0.mk (blk_below (g := gb489) (o := .cells #[.int .i64 0, .slice none 0 0] 24 (0, 0)) (by (with_reducible repeat (first | refine blk_drewN ?_ _ | refine blk_drew ?_ | refine blk_alloc ?_ _)); refine blk_far ?_ NB489_517.out _; (with_reducible repeat (first | refine blk_drewN ?_ _ | refine blk_drew ?_ | refine blk_alloc ?_ _)); refine blk_far ?_ NB489_517.out _; (with_reducible repeat (first | refine blk_drewN ?_ _ | refine blk_drew ?_ | refine blk_alloc ?_ _)); exact BK489.out) hb); replace BK517 := Aside0.mk (blk_below (g := gb517) (o := .cells #[.int .i64 t512, .slice Ao121 t513.length co121] 24 (0, 0)) (by (with_reducible repeat (first | refine blk_drewN ?_ _ | refine blk_drew ?_ | refine blk_alloc ?_ _)); refine blk_put (cs := #[.int .i64 t512, .slice none 0 0]) ?_ 1 _ rfl; (with_reducible repeat (first | refine blk_drewN ?_ _ | refine blk_drew ?_ | refine blk_alloc ?_ _)); refine blk_put (cs := #[.int .i64 0, .slice none 0 0]) ?_ 0 _ rfl; (with_reducible repeat (first | refine blk_drewN ?_ _ | refine blk_drew ?_ | refine blk_alloc ?_ _)); exact BK517.out) hb); replace HB := Aside0.mk (below_step bel hb); (try clear hb); (try clear hb2); (try clear hk); (try clear hi)))
      go_ret
      exact ⟨eN, bel⟩
end Go.Proofs.YtfmpaofbnjlniaaGreatDoor.F
