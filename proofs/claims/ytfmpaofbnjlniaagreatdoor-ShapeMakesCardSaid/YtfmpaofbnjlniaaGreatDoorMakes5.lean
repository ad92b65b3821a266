/- Part 5 of the proof: ShapeMakes: Make and Keep answer as the reference says, for all numbers, symbols and structures. -/
import Derived.Test.YtfmpaofbnjlniaaGreatDoorMakes4
namespace Go.Proofs.YtfmpaofbnjlniaaGreatDoor.F
open Go.RowKit Go.Proofs.YtfmpaofbnjlniaaGreatDoorW.PrintWords Go.Proofs.YtfmpaofbnjlniaaGreatDoorW.PrintLast Go.Proofs.YtfmpaofbnjlniaaGreatDoorW.PrintMore
attribute [local go_sem] max2_int min2_int max_two min_two max_three min_three max_four min_four
set_option linter.unusedVariables false
set_option linter.unusedSimpArgs false
/-! ### paraphrastref01_Fits: function 20 -/
def paraphrastref01_Fits.l0 : Nat → List (S96) → Int → Int → List (S52) → Option (Bool)
 | 0, _, _, _, _ => none
 | k + 1, x1, x5, x295000, x295001 => if x5 < (x1.length : Int) then (if 0 ≤ x5 then ((paraphrastref01_Find.f k x295000 x295001 ((rd_T96 x1 x5).f0)).bind fun t296 => (if t296 < 0 then (some false) else (if 0 ≤ t296 then (if t296 < (x295001.length : Int) then (if ((rd_T52 x295001 t296).f1) = ((rd_T96 x1 x5).f1) then (paraphrastref01_Fits.l0 k x1 (wrap64 (x5 + 1)) x295000 x295001) else (some false)) else (none)) else (none)))) else (none)) else (some true)
def paraphrastref01_Fits.f (k : Nat) (a0_0 : Int) (l0_1 : List (S52)) (l1 : List (S96)) : Option (Bool) := paraphrastref01_Fits.l0 k l1 0 a0_0 l0_1
def paraphrastref01_Fits.T4 : Bool × List (List Nat × List Nat) := (true, [([], []), ([], []), ([], []), ([1, 2], [1, 2]), ([3], [3]), ([4], [4]), ([0, 5], [0, 5]), ([6, 6, 0, 1, 2, 3, 4, 5, 6], [6])])
def paraphrastref01_Fits.B4 : List Nat := [0, 0, 0, 6, 14, 30, 63, 127]
theorem paraphrastref01_Fits.tab4 : rtab .any (opsOf Tryz.f20 4) = paraphrastref01_Fits.T4 := by kernel_rfl
theorem paraphrastref01_Fits.bits4 : waitsOk paraphrastref01_Fits.T4.2 paraphrastref01_Fits.B4 = true := by kernel_rfl
def paraphrastref01_Fits.T5 : Bool × List (List Nat × List Nat) := (true, [([], []), ([0], [0]), ([1], [1]), ([2], [2]), ([3, 2], [2, 3]), ([2], [2]), ([4, 5, 2], [2, 4, 5]), ([6, 2], [2, 6]), ([7, 2], [2, 7]), ([2], [2]), ([2], [2]), ([9, 10, 2], [2, 9, 10]), ([11, 2], [2, 11]), ([12, 2], [2, 12]), ([8, 13, 2], [2, 8, 13]), ([2, 14], [2, 14])])
def paraphrastref01_Fits.B5 : List Nat := [0, 1, 3, 7, 15, 7, 63, 127, 255, 7, 7, 1543, 3591, 7687, 16383, 32767]
theorem paraphrastref01_Fits.tab5 : rtab .any (opsOf Tryz.f20 5) = paraphrastref01_Fits.T5 := by kernel_rfl
theorem paraphrastref01_Fits.bits5 : waitsOk paraphrastref01_Fits.T5.2 paraphrastref01_Fits.B5 = true := by kernel_rfl
set_option maxHeartbeats 8000000 in
set_option maxRecDepth 100000 in
theorem paraphrastref01_Fits.calls (k : Nat) (a0_0 : Int) (A0_1 : Option Addr) (c0_1 : Nat) (l0_1 : List (S52)) (A1 : Option Addr) (c1 : Nat) (l1 : List (S96)) (r : Bool) (w : World) (hr0_1 : Kd.C k52 w A0_1 l0_1.length l0_1) (hc0_1 : l0_1.length ≤ c0_1) (hr1 : Kd.C k96 w A1 l1.length l1) (hc1 : l1.length ≤ c1) (h : paraphrastref01_Fits.f k a0_0 l0_1 l1 = some r) :
  Calls Tryz.prog 20 #[.agg #[.int .i64 a0_0, .slice A0_1 l0_1.length c0_1], .slice A1 l1.length c1] w fun e w' => e = .returned (.bool r) ∧ Below w.heap.size w w' := by
 have hu24 := Tryz.underlying24
 have HR0_1 := Aside0.mk hr0_1
 have HC0_1 := Aside0.mk hc0_1
 clear hr0_1 hc0_1
 have HR1 := Aside0.mk hr1
 have HC1 := Aside0.mk hc1
 clear hr1 hc1
 have HB := Aside0.mk (Below.refl w.heap.size w)
 have H : (paraphrastref01_Fits.l0 k l1 0 a0_0 l0_1) = some r := h
 clear h
 have H' := Aside0.mk H
 clear H
 go_enter Tryz.func20, Tryz.ntmps20
 go_wp2_with (first | ((with_reducible refine gate_dst (N := 2) rfl ?_); refine box_event ?hg (N := 2) ?hd (cs := #[.int .i64 a0_0, .slice A0_1 l0_1.length c0_1]) (t := 24) ?hr ?_; (case hd => rfl); (case hg => rfl); (case hr => first | (go_simp; done) | (go_simp; rfl)); intro gb294 hg w3 hbox hb; have BK294 := Aside0.mk (hbox); have GW294 := geB w hg; have GE294 := geB w hg; replace HB := Aside0.mk (below_step bel hb); clear hb hbox hg))
 go_loopg [5] k (fun kq v5 w' => ∃ (x5_1 : Int), v5 = .int .i64 x5_1 ∧ Aside0 (paraphrastref01_Fits.l0 kq l1 x5_1 a0_0 l0_1 = some r) ∧ Aside0 (kq ≤ k) ∧ Aside0 (w'.heap[gb294]? = some (.cells #[.int .i64 a0_0, (.slice A0_1 l0_1.length c0_1)] 24 (0, 0))) ∧ Aside0 (Below w.heap.size w w'))
 case atStart => exact ⟨(0), eS, H', ⟨Nat.le_refl _⟩, ⟨bk BK294⟩, ⟨bel⟩⟩
 case round =>
  clear H'
  (try clear c1)
  obtain ⟨x5_1, rfl, HA, HK1, BK294, HB⟩ := hrel
  cases gk with
  | zero => exact absurd HA.out (by simp [paraphrastref01_Fits.l0])
  | succ k1 =>
   have H := HA.out
   clear HA
   simp only [paraphrastref01_Fits.l0] at H
   by_cases c4 : x5_1 < (l1.length : Int)
   ·rw [if_pos c4] at H
    have c4b0 : decide (x5_1 < (l1.length : Int)) = true := decide_eq_true c4
    clear c4
    by_cases c5 : 0 ≤ x5_1
    ·rw [if_pos c5] at H
     have c5b0 : decide (0 ≤ x5_1) = true := decide_eq_true c5
     clear c5
     replace H := Option.bind_eq_some_iff.mp H
     obtain ⟨t296, A60, H⟩ := H
     replace H : (if t296 < 0 then (some false) else (if 0 ≤ t296 then (if t296 < (l0_1.length : Int) then (if ((rd_T52 l0_1 t296).f1) = ((rd_T96 l1 x5_1).f1) then (paraphrastref01_Fits.l0 k1 l1 (wrap64 (x5_1 + 1)) a0_0 l0_1) else (some false)) else (none)) else (none))) = some r := H
     have A6 := Aside0.mk A60
     clear A60
     by_cases c7 : t296 < 0
     ·rw [if_pos c7] at H
      have c7b0 : decide (t296 < 0) = true := decide_eq_true c7
      clear c7
      obtain rfl := Option.some.inj H
      try go_wp2
      replace BK294 := Aside0.mk (blk_drew BK294.out)
      replace HB := Aside0.mk (below_drew1 HB.out)
      have p295 : 0 ≤ (x5_1 : Int) := dtr
      have q295 : x5_1 < (l1.length : Int) := dtr
      obtain ⟨ad295, e295, hx295_0, hx295_1⟩ := at_T96 HR1.out x5_1 p295 q295
      have hw295_1 := hx295_1
      have hw295_0 := hx295_0
      cases e295
      replace hx295_0 := oc hx295_0
      replace hx295_1 := oc hx295_1
      replace p295 := eq_true p295
      replace q295 := eq_true q295
      refine start_ (n := 8) (S := fun w' => w'.cell? ⟨gb294, 0, none⟩ = some (.int .i64 a0_0) ∧ w'.cell? ⟨gb294, 1, none⟩ = some (.slice A0_1 l0_1.length c0_1) ∧ w'.cell? (ad295.add ((x5_1).toNat * 2)) = some (.string ((rd_T96 l1 x5_1).f0)) ∧ w'.cell? ⟨(ad295.add ((x5_1).toNat * 2)).block, (ad295.add ((x5_1).toNat * 2)).off + 1, none⟩ = some (.int .i64 ((rd_T96 l1 x5_1).f1))) (ds := []) #[false, false, false, false, false, false, false, false] (by kernel_rfl) rfl rfl ⟨(blk_cell BK294.out 0).trans rfl, (blk_cell BK294.out 1).trans rfl, (oc hw295_0), (oc hw295_1)⟩ (fun hHeld => ?_); refine with_tabW paraphrastref01_Fits.tab4 paraphrastref01_Fits.bits4 (fun HT_ HW_ => ?_)
      generalize wr.drew = w8 at BK294 HB hx295_0 hx295_1 hHeld ⊢
      refine sPu 1 (some 14) ?_
      refine sPu 2 (some 15) ?_
      refine sPu 3 (some 16) ?_
      refine sPu 4 (some 17) ?_
      refine sTk 0 (some 13) ?_
      refine sTk 5 (some 18) ?_
      refine sOn 6 (some 19) (fun K hK => ?_)
      refine goes_ Tryz.func24 (by kernel_rfl) rfl #[.agg #[.int .i64 a0_0, .slice A0_1 l0_1.length c0_1], .string ((rd_T96 l1 x5_1).f0)] (by rfl) rfl rfl (by (try simp only [List.map_toArray, List.map_cons, List.map_nil]); first | done | rfl | (simp only [List.length_drop, List.length_take]; rfl)) ?_
      with_reducible refine (paraphrastref01_Find.calls k1 a0_0 _ _ l0_1 ((rd_T96 l1 x5_1).f0) t296 _ ?side1 ?side2 A6.out).mono ?_
      (case side1 => exact cS (Kd.C_below HR0_1.out HB.out))
      (case side2 => exact HC0_1.out)
      rintro e w9 ⟨rfl, hb⟩
      refine ⟨_, rfl, ?_⟩
      replace BK294 := blB BK294 hb
      replace HB := Aside0.mk (below_step bel hb)
      (try clear hb)
      (try clear hb2)
      (try clear hk)
      (try clear hi)
      refine hK.out _ _ ⟨(blk_cell BK294.out 0).trans rfl, (blk_cell BK294.out 1).trans rfl, (oc hw295_0), (oc hw295_1)⟩ (fun hHeld => ?_)
      clear hK K
      refine norm_ (a' := ?_) ?_ ?_
      rotate_left
      ·show Act.put _ (some 19) _ = _
       simp only [Act.put, List.setIfInBounds_toArray, List.set_cons_zero, List.set_cons_succ, i64_w, i32_w]
       rfl
      refine sPu 7 (some 6) ?_
      refine done_ (done_of HT_.out (by kernel_rfl)) ?_
      try go_wp2
      replace BK294 := Aside0.mk (blk_drew BK294.out)
      replace HB := Aside0.mk (below_drew1 HB.out)
      refine start_ (n := 16) (S := fun w' => True) (ds := []) #[false, false, false, false, false, false, false, false, false, false, false, false, false, false, false, false] (by kernel_rfl) rfl rfl trivial (fun hHeld => ?_); refine with_tabW paraphrastref01_Fits.tab5 paraphrastref01_Fits.bits5 (fun HT_ HW_ => ?_)
      generalize w9.drew = w10 at BK294 HB hHeld ⊢
      refine sPu 0 (some 20) ?_
      refine sPu 1 (some 21) ?_
      refine sPu 2 (some 22) ?_
      refine sPv 3 (some 23) ?_
      refine sPv 4 (some 24) ?_
      refine sPv 5 (some 25) ?_
      refine sPv 6 (some 26) ?_
      refine sPv 7 (some 27) ?_
      refine sPv 8 (some 28) ?_
      refine sPv 9 (some 29) ?_
      refine sPv 10 (some 30) ?_
      refine sPv 11 (some 31) ?_
      refine sPv 12 (some 32) ?_
      refine sPv 13 (some 33) ?_
      refine sPv 14 (some 34) ?_
      refine sPu 15 (some 35) ?_
      refine done_ (done_of HT_.out (by kernel_rfl)) ?_
      try go_wp2
      go_ret
      exact ⟨eN, bel⟩
     ·rw [if_neg c7] at H
      have c7b0 : decide (t296 < 0) = false := decide_eq_false c7
      clear c7
      by_cases c11 : 0 ≤ t296
      ·rw [if_pos c11] at H
       have c11b0 : decide (0 ≤ t296) = true := decide_eq_true c11
       clear c11
       by_cases c12 : t296 < (l0_1.length : Int)
       ·rw [if_pos c12] at H
        have c12b0 : decide (t296 < (l0_1.length : Int)) = true := decide_eq_true c12
        clear c12
        by_cases c13 : ((rd_T52 l0_1 t296).f1) = ((rd_T96 l1 x5_1).f1)
        ·rw [if_pos c13] at H
         have c13b0 : (((rd_T52 l0_1 t296).f1) == ((rd_T96 l1 x5_1).f1)) = true := beq_iff_eq.mpr c13
         have c13b1 : (((rd_T52 l0_1 t296).f1) != ((rd_T96 l1 x5_1).f1)) = false := bne_eq_false_iff_eq.mpr c13
         clear c13
         have H' := Aside0.mk H
         clear H
         try go_wp2
         replace BK294 := Aside0.mk (blk_drew BK294.out)
         replace HB := Aside0.mk (below_drew1 HB.out)
         have p295 : 0 ≤ (x5_1 : Int) := dtr
         have q295 : x5_1 < (l1.length : Int) := dtr
         obtain ⟨ad295, e295, hx295_0, hx295_1⟩ := at_T96 HR1.out x5_1 p295 q295
         have hw295_1 := hx295_1
         have hw295_0 := hx295_0
         cases e295
         replace hx295_0 := oc hx295_0
         replace hx295_1 := oc hx295_1
         replace p295 := eq_true p295
         replace q295 := eq_true q295
         refine start_ (n := 8) (S := fun w' => w'.cell? ⟨gb294, 0, none⟩ = some (.int .i64 a0_0) ∧ w'.cell? ⟨gb294, 1, none⟩ = some (.slice A0_1 l0_1.length c0_1) ∧ w'.cell? (ad295.add ((x5_1).toNat * 2)) = some (.string ((rd_T96 l1 x5_1).f0)) ∧ w'.cell? ⟨(ad295.add ((x5_1).toNat * 2)).block, (ad295.add ((x5_1).toNat * 2)).off + 1, none⟩ = some (.int .i64 ((rd_T96 l1 x5_1).f1))) (ds := []) #[false, false, false, false, false, false, false, false] (by kernel_rfl) rfl rfl ⟨(blk_cell BK294.out 0).trans rfl, (blk_cell BK294.out 1).trans rfl, (oc hw295_0), (oc hw295_1)⟩ (fun hHeld => ?_); refine with_tabW paraphrastref01_Fits.tab4 paraphrastref01_Fits.bits4 (fun HT_ HW_ => ?_)
         generalize wr.drew = w14 at BK294 HB hx295_0 hx295_1 hHeld ⊢
         refine sPu 1 (some 14) ?_
         refine sPu 2 (some 15) ?_
         refine sPu 3 (some 16) ?_
         refine sPu 4 (some 17) ?_
         refine sTk 0 (some 13) ?_
         refine sTk 5 (some 18) ?_
         refine sOn 6 (some 19) (fun K hK => ?_)
         refine goes_ Tryz.func24 (by kernel_rfl) rfl #[.agg #[.int .i64 a0_0, .slice A0_1 l0_1.length c0_1], .string ((rd_T96 l1 x5_1).f0)] (by rfl) rfl rfl (by (try simp only [List.map_toArray, List.map_cons, List.map_nil]); first | done | rfl | (simp only [List.length_drop, List.length_take]; rfl)) ?_
         with_reducible refine (paraphrastref01_Find.calls k1 a0_0 _ _ l0_1 ((rd_T96 l1 x5_1).f0) t296 _ ?side1 ?side2 A6.out).mono ?_
         (case side1 => exact cS (Kd.C_below HR0_1.out HB.out))
         (case side2 => exact HC0_1.out)
         rintro e w15 ⟨rfl, hb⟩
         refine ⟨_, rfl, ?_⟩
         replace BK294 := blB BK294 hb
         replace HB := Aside0.mk (below_step bel hb)
         (try clear hb)
         (try clear hb2)
         (try clear hk)
         (try clear hi)
         refine hK.out _ _ ⟨(blk_cell BK294.out 0).trans rfl, (blk_cell BK294.out 1).trans rfl, (oc hw295_0), (oc hw295_1)⟩ (fun hHeld => ?_)
         clear hK K
         refine norm_ (a' := ?_) ?_ ?_
         rotate_left
         ·show Act.put _ (some 19) _ = _
          simp only [Act.put, List.setIfInBounds_toArray, List.set_cons_zero, List.set_cons_succ, i64_w, i32_w]
          rfl
         refine sPu 7 (some 6) ?_
         refine done_ (done_of HT_.out (by kernel_rfl)) ?_
         try go_wp2
         replace BK294 := Aside0.mk (blk_drew BK294.out)
         replace HB := Aside0.mk (below_drew1 HB.out)
         have p297 : 0 ≤ (t296 : Int) := dtr
         have q297 : t296 < (l0_1.length : Int) := dtr
         obtain ⟨ad297, A297_2, c297_2, e297, hx297_0, hx297_1, hx297_2, hl297_2, hi297_2⟩ := at_T52 HR0_1.out t296 p297 q297
         have hw297_2 := hx297_2
         have hw297_1 := hx297_1
         have hw297_0 := hx297_0
         cases e297
         replace hx297_0 := oc hx297_0
         replace hx297_1 := oc hx297_1
         replace hx297_2 := oc hx297_2
         have HR297_2 := Aside0.mk hi297_2
         have HC297_2 := Aside0.mk hl297_2
         clear hi297_2 hl297_2
         replace p297 := eq_true p297
         replace q297 := eq_true q297
         have p298 : 0 ≤ (x5_1 : Int) := dtr
         have q298 : x5_1 < (l1.length : Int) := dtr
         obtain ⟨ad298, e298, hx298_0, hx298_1⟩ := at_T96 HR1.out x5_1 p298 q298
         have hw298_1 := hx298_1
         have hw298_0 := hx298_0
         obtain rfl : ad295 = ad298 := (by injection e298)
         replace hx298_0 := oc hx298_0
         replace hx298_1 := oc hx298_1
         replace p298 := eq_true p298
         replace q298 := eq_true q298
         refine start_ (n := 16) (S := fun w' => w'.cell? ⟨gb294, 0, none⟩ = some (.int .i64 a0_0) ∧ w'.cell? ⟨gb294, 1, none⟩ = some (.slice (some ad297) l0_1.length c0_1) ∧ w'.cell? (ad297.add ((t296).toNat * 3)) = some (.string ((rd_T52 l0_1 t296).f0)) ∧ w'.cell? ⟨(ad297.add ((t296).toNat * 3)).block, (ad297.add ((t296).toNat * 3)).off + 1, none⟩ = some (.int .i64 ((rd_T52 l0_1 t296).f1)) ∧ w'.cell? ⟨(ad297.add ((t296).toNat * 3)).block, (ad297.add ((t296).toNat * 3)).off + 2, none⟩ = some (.slice A297_2 ((rd_T52 l0_1 t296).f2).length c297_2) ∧ w'.cell? (ad295.add ((x5_1).toNat * 2)) = some (.string ((rd_T96 l1 x5_1).f0)) ∧ w'.cell? ⟨(ad295.add ((x5_1).toNat * 2)).block, (ad295.add ((x5_1).toNat * 2)).off + 1, none⟩ = some (.int .i64 ((rd_T96 l1 x5_1).f1))) (ds := []) #[false, false, false, false, false, false, false, false, false, false, false, false, false, false, false, false] (by kernel_rfl) rfl rfl ⟨(blk_cell BK294.out 0).trans rfl, (blk_cell BK294.out 1).trans rfl, (oc hw297_0), (oc hw297_1), (oc hw297_2), (oc hw298_0), (oc hw298_1)⟩ (fun hHeld => ?_); refine with_tabW paraphrastref01_Fits.tab5 paraphrastref01_Fits.bits5 (fun HT_ HW_ => ?_)
         generalize w15.drew = w16 at BK294 HB HR297_2 hx297_0 hx297_1 hx297_2 hx298_0 hx298_1 hHeld ⊢
         refine sPu 0 (some 20) ?_
         refine sPu 1 (some 21) ?_
         refine sPu 2 (some 22) ?_
         refine sPu 3 (some 23) ?_
         refine sPu 5 (some 25) ?_
         refine sPu 9 (some 29) ?_
         refine sPu 10 (some 30) ?_
         refine sPu 11 (some 31) ?_
         refine sPu 12 (some 32) ?_
         refine sTk 4 (some 24) ?_
         refine sPu 6 (some 26) ?_
         refine sPu 7 (some 27) ?_
         refine sTk 8 (some 28) ?_
         refine sTk 13 (some 33) ?_
         refine sPu 14 (some 34) ?_
         refine sPu 15 (some 35) ?_
         refine done_ (done_of HT_.out (by kernel_rfl)) ?_
         try go_wp2
         go_roundg k1
         case measure => have := HK1.out; omega
         case rel => exact ⟨(wrap64 (x5_1 + 1)), eS, H', ⟨by have := HK1.out; omega⟩, ⟨bk BK294⟩, ⟨bel⟩⟩
        ·rw [if_neg c13] at H
         have c13b0 : (((rd_T52 l0_1 t296).f1) == ((rd_T96 l1 x5_1).f1)) = false := beq_eq_false_iff_ne.mpr c13
         have c13b1 : (((rd_T52 l0_1 t296).f1) != ((rd_T96 l1 x5_1).f1)) = true := bne_iff_ne.mpr c13
         obtain rfl := Option.some.inj H
         try go_wp2
         replace BK294 := Aside0.mk (blk_drew BK294.out)
         replace HB := Aside0.mk (below_drew1 HB.out)
         have p295 : 0 ≤ (x5_1 : Int) := dtr
         have q295 : x5_1 < (l1.length : Int) := dtr
         obtain ⟨ad295, e295, hx295_0, hx295_1⟩ := at_T96 HR1.out x5_1 p295 q295
         have hw295_1 := hx295_1
         have hw295_0 := hx295_0
         cases e295
         replace hx295_0 := oc hx295_0
         replace hx295_1 := oc hx295_1
         replace p295 := eq_true p295
         replace q295 := eq_true q295
         refine start_ (n := 8) (S := fun w' => w'.cell? ⟨gb294, 0, none⟩ = some (.int .i64 a0_0) ∧ w'.cell? ⟨gb294, 1, none⟩ = some (.slice A0_1 l0_1.length c0_1) ∧ w'.cell? (ad295.add ((x5_1).toNat * 2)) = some (.string ((rd_T96 l1 x5_1).f0)) ∧ w'.cell? ⟨(ad295.add ((x5_1).toNat * 2)).block, (ad295.add ((x5_1).toNat * 2)).off + 1, none⟩ = some (.int .i64 ((rd_T96 l1 x5_1).f1))) (ds := []) #[false, false, false, false, false, false, false, false] (by kernel_rfl) rfl rfl ⟨(blk_cell BK294.out 0).trans rfl, (blk_cell BK294.out 1).trans rfl, (oc hw295_0), (oc hw295_1)⟩ (fun hHeld => ?_); refine with_tabW paraphrastref01_Fits.tab4 paraphrastref01_Fits.bits4 (fun HT_ HW_ => ?_)
         generalize wr.drew = w17 at BK294 HB hx295_0 hx295_1 hHeld ⊢
         refine sPu 1 (some 14) ?_
         refine sPu 2 (some 15) ?_
         refine sPu 3 (some 16) ?_
         refine sPu 4 (some 17) ?_
         refine sTk 0 (some 13) ?_
         refine sTk 5 (some 18) ?_
         refine sOn 6 (some 19) (fun K hK => ?_)
         refine goes_ Tryz.func24 (by kernel_rfl) rfl #[.agg #[.int .i64 a0_0, .slice A0_1 l0_1.length c0_1], .string ((rd_T96 l1 x5_1).f0)] (by rfl) rfl rfl (by (try simp only [List.map_toArray, List.map_cons, List.map_nil]); first | done | rfl | (simp only [List.length_drop, List.length_take]; rfl)) ?_
         with_reducible refine (paraphrastref01_Find.calls k1 a0_0 _ _ l0_1 ((rd_T96 l1 x5_1).f0) t296 _ ?side1 ?side2 A6.out).mono ?_
         (case side1 => exact cS (Kd.C_below HR0_1.out HB.out))
         (case side2 => exact HC0_1.out)
         rintro e w18 ⟨rfl, hb⟩
         refine ⟨_, rfl, ?_⟩
         replace BK294 := blB BK294 hb
         replace HB := Aside0.mk (below_step bel hb)
         (try clear hb)
         (try clear hb2)
         (try clear hk)
         (try clear hi)
         refine hK.out _ _ ⟨(blk_cell BK294.out 0).trans rfl, (blk_cell BK294.out 1).trans rfl, (oc hw295_0), (oc hw295_1)⟩ (fun hHeld => ?_)
         clear hK K
         refine norm_ (a' := ?_) ?_ ?_
         rotate_left
         ·show Act.put _ (some 19) _ = _
          simp only [Act.put, List.setIfInBounds_toArray, List.set_cons_zero, List.set_cons_succ, i64_w, i32_w]
          rfl
         refine sPu 7 (some 6) ?_
         refine done_ (done_of HT_.out (by kernel_rfl)) ?_
         try go_wp2
         replace BK294 := Aside0.mk (blk_drew BK294.out)
         replace HB := Aside0.mk (below_drew1 HB.out)
         have p297 : 0 ≤ (t296 : Int) := dtr
         have q297 : t296 < (l0_1.length : Int) := dtr
         obtain ⟨ad297, A297_2, c297_2, e297, hx297_0, hx297_1, hx297_2, hl297_2, hi297_2⟩ := at_T52 HR0_1.out t296 p297 q297
         have hw297_2 := hx297_2
         have hw297_1 := hx297_1
         have hw297_0 := hx297_0
         cases e297
         replace hx297_0 := oc hx297_0
         replace hx297_1 := oc hx297_1
         replace hx297_2 := oc hx297_2
         have HR297_2 := Aside0.mk hi297_2
         have HC297_2 := Aside0.mk hl297_2
         clear hi297_2 hl297_2
         replace p297 := eq_true p297
         replace q297 := eq_true q297
         have p298 : 0 ≤ (x5_1 : Int) := dtr
         have q298 : x5_1 < (l1.length : Int) := dtr
         obtain ⟨ad298, e298, hx298_0, hx298_1⟩ := at_T96 HR1.out x5_1 p298 q298
         have hw298_1 := hx298_1
         have hw298_0 := hx298_0
         obtain rfl : ad295 = ad298 := (by injection e298)
         replace hx298_0 := oc hx298_0
         replace hx298_1 := oc hx298_1
         replace p298 := eq_true p298
         replace q298 := eq_true q298
         refine start_ (n := 16) (S := fun w' => w'.cell? ⟨gb294, 0, none⟩ = some (.int .i64 a0_0) ∧ w'.cell? ⟨gb294, 1, none⟩ = some (.slice (some ad297) l0_1.length c0_1) ∧ w'.cell? (ad297.add ((t296).toNat * 3)) = some (.string ((rd_T52 l0_1 t296).f0)) ∧ w'.cell? ⟨(ad297.add ((t296).toNat * 3)).block, (ad297.add ((t296).toNat * 3)).off + 1, none⟩ = some (.int .i64 ((rd_T52 l0_1 t296).f1)) ∧ w'.cell? ⟨(ad297.add ((t296).toNat * 3)).block, (ad297.add ((t296).toNat * 3)).off + 2, none⟩ = some (.slice A297_2 ((rd_T52 l0_1 t296).f2).length c297_2) ∧ w'.cell? (ad295.add ((x5_1).toNat * 2)) = some (.string ((rd_T96 l1 x5_1).f0)) ∧ w'.cell? ⟨(ad295.add ((x5_1).toNat * 2)).block, (ad295.add ((x5_1).toNat * 2)).off + 1, none⟩ = some (.int .i64 ((rd_T96 l1 x5_1).f1))) (ds := []) #[false, false, false, false, false, false, false, false, false, false, false, false, false, false, false, false] (by kernel_rfl) rfl rfl ⟨(blk_cell BK294.out 0).trans rfl, (blk_cell BK294.out 1).trans rfl, (oc hw297_0), (oc hw297_1), (oc hw297_2), (oc hw298_0), (oc hw298_1)⟩ (fun hHeld => ?_); refine with_tabW paraphrastref01_Fits.tab5 paraphrastref01_Fits.bits5 (fun HT_ HW_ => ?_)
         generalize w18.drew = w19 at BK294 HB HR297_2 hx297_0 hx297_1 hx297_2 hx298_0 hx298_1 hHeld ⊢
         refine sPu 0 (some 20) ?_
         refine sPu 1 (some 21) ?_
         refine sPu 2 (some 22) ?_
         refine sPu 3 (some 23) ?_
         refine sPu 5 (some 25) ?_
         refine sPu 9 (some 29) ?_
         refine sPu 10 (some 30) ?_
         refine sPu 11 (some 31) ?_
         refine sPu 12 (some 32) ?_
         refine sTk 4 (some 24) ?_
         refine sPu 6 (some 26) ?_
         refine sPu 7 (some 27) ?_
         refine sTk 8 (some 28) ?_
         refine sTk 13 (some 33) ?_
         refine sPu 14 (some 34) ?_
         refine sPu 15 (some 35) ?_
         refine done_ (done_of HT_.out (by kernel_rfl)) ?_
         try go_wp2
         go_ret
         exact ⟨eN, bel⟩
       ·rw [if_neg c12] at H
        exact absurd H (by simp)
      ·rw [if_neg c11] at H
       exact absurd H (by simp)
    ·rw [if_neg c5] at H
     exact absurd H (by simp)
   ·rw [if_neg c4] at H
    have c4b0 : decide (x5_1 < (l1.length : Int)) = false := decide_eq_false c4
    clear c4
    obtain rfl := Option.some.inj H
    go_wp2
    go_ret
    exact ⟨eN, bel⟩
end Go.Proofs.YtfmpaofbnjlniaaGreatDoor.F
namespace Go.Proofs.YtfmpaofbnjlniaaGreatDoor.F
open Go.RowKit Go.Proofs.YtfmpaofbnjlniaaGreatDoorW.PrintWords Go.Proofs.YtfmpaofbnjlniaaGreatDoorW.PrintLast Go.Proofs.YtfmpaofbnjlniaaGreatDoorW.PrintMore
attribute [local go_sem] max2_int min2_int max_two min_two max_three min_three max_four min_four
set_option linter.unusedVariables false
set_option linter.unusedSimpArgs false
/-! ### paraphrastref01_Twice: function 21 -/
mutual
def paraphrastref01_Twice.l0 : Nat → List (S96) → Int → Option (Bool)
 | 0, _, _ => none
 | k + 1, x0, x3 => if x3 < (x0.length : Int) then (paraphrastref01_Twice.l1 k x0 x3 0) else (some false)
def paraphrastref01_Twice.l1 : Nat → List (S96) → Int → Int → Option (Bool)
 | 0, _, _, _ => none
 | k + 1, x0, x3, x4 => if x4 < x3 then (if 0 ≤ x4 then (if x4 < (x0.length : Int) then (if 0 ≤ x3 then (if x3 < (x0.length : Int) then (if ((rd_T96 x0 x4).f0).toList = ((rd_T96 x0 x3).f0).toList then (some true) else (paraphrastref01_Twice.l1 k x0 x3 (wrap64 (x4 + 1)))) else (none)) else (none)) else (none)) else (none)) else (paraphrastref01_Twice.l0 k x0 (wrap64 (x3 + 1)))
end
def paraphrastref01_Twice.f (k : Nat) (l0 : List (S96)) : Option (Bool) := paraphrastref01_Twice.l0 k l0 0
set_option maxHeartbeats 8000000 in
set_option maxRecDepth 100000 in
theorem paraphrastref01_Twice.calls (k : Nat) (A0 : Option Addr) (c0 : Nat) (l0 : List (S96)) (r : Bool) (w : World) (hr0 : Kd.C k96 w A0 l0.length l0) (hc0 : l0.length ≤ c0) (h : paraphrastref01_Twice.f k l0 = some r) :
  Calls Tryz.prog 21 #[.slice A0 l0.length c0] w fun e w' => e = .returned (.bool r) ∧ Drawn0 w w' := by
 have HR0 := Aside0.mk hr0
 have HC0 := Aside0.mk hc0
 clear hr0 hc0
 have H : (paraphrastref01_Twice.l0 k l0 0) = some r := h
 clear h
 have H' := Aside0.mk H
 clear H
 go_enter Tryz.func21, Tryz.ntmps21
 go_wp2
 repeat (go_quiet (fail); try go_wp2)
 go_loopg [3] k (fun kq v3 w' => ∃ (x3_1 : Int), v3 = .int .i64 x3_1 ∧ Aside0 (paraphrastref01_Twice.l0 kq l0 x3_1 = some r) ∧ Aside0 (kq ≤ k) ∧ Drawn0 w w')
 case atStart => exact ⟨(0), eS, H', ⟨Nat.le_refl _⟩, dr0⟩
 case round =>
  clear H'
  obtain ⟨x3_1, rfl, HA, HK1, ⟨m1, rfl⟩⟩ := hrel
  cases gk with
  | zero => exact absurd HA.out (by simp [paraphrastref01_Twice.l0])
  | succ k1 =>
   have H := HA.out
   clear HA
   simp only [paraphrastref01_Twice.l0] at H
   by_cases c2 : x3_1 < (l0.length : Int)
   ·rw [if_pos c2] at H
    have c2b0 : decide (x3_1 < (l0.length : Int)) = true := decide_eq_true c2
    clear c2
    have H' := Aside0.mk H
    clear H
    go_wp2
    repeat (go_quiet (fail); try go_wp2)
    go_loopg [4] k1 (fun kq v4 w' => ∃ (x4_2 : Int), v4 = .int .i64 x4_2 ∧ Aside0 (paraphrastref01_Twice.l1 kq l0 x3_1 x4_2 = some r) ∧ Aside0 (kq ≤ k1) ∧ Drawn0 w w')
    case atStart => exact ⟨(0), eS, H', ⟨Nat.le_refl _⟩, dr0⟩
    case round =>
     clear H'
     (try clear c2); (try clear c2b0)
     obtain ⟨x4_2, rfl, HA, HK2, ⟨m2, rfl⟩⟩ := hrel
     cases gk with
     | zero => exact absurd HA.out (by simp [paraphrastref01_Twice.l1])
     | succ k2 =>
      have H := HA.out
      clear HA
      simp only [paraphrastref01_Twice.l1] at H
      by_cases c3 : x4_2 < x3_1
      ·rw [if_pos c3] at H
       have c3b0 : decide (x4_2 < x3_1) = true := decide_eq_true c3
       clear c3
       by_cases c4 : 0 ≤ x4_2
       ·rw [if_pos c4] at H
        have c4b0 : decide (0 ≤ x4_2) = true := decide_eq_true c4
        clear c4
        by_cases c5 : x4_2 < (l0.length : Int)
        ·rw [if_pos c5] at H
         have c5b0 : decide (x4_2 < (l0.length : Int)) = true := decide_eq_true c5
         clear c5
         by_cases c6 : 0 ≤ x3_1
         ·rw [if_pos c6] at H
          have c6b0 : decide (0 ≤ x3_1) = true := decide_eq_true c6
          clear c6
          by_cases c7 : x3_1 < (l0.length : Int)
          ·rw [if_pos c7] at H
           have c7b0 : decide (x3_1 < (l0.length : Int)) = true := decide_eq_true c7
           clear c7
           by_cases c8 : ((rd_T96 l0 x4_2).f0).toList = ((rd_T96 l0 x3_1).f0).toList
           ·rw [if_pos c8] at H
            have c8b0 : (((rd_T96 l0 x4_2).f0).toList == ((rd_T96 l0 x3_1).f0).toList) = true := beq_iff_eq.mpr c8
            have c8b1 : (((rd_T96 l0 x4_2).f0).toList != ((rd_T96 l0 x3_1).f0).toList) = false := bne_eq_false_iff_eq.mpr c8
            clear c8
            obtain rfl := Option.some.inj H
            have p299 : 0 ≤ (x4_2 : Int) := dtr
            have q299 : x4_2 < (l0.length : Int) := dtr
            obtain ⟨ad299, e299, hx299_0, hx299_1⟩ := at_T96 HR0.out x4_2 p299 q299
            cases e299
            replace p299 := eq_true p299
            replace q299 := eq_true q299
            have p300 : 0 ≤ (x3_1 : Int) := dtr
            have q300 : x3_1 < (l0.length : Int) := dtr
            obtain ⟨ad300, e300, hx300_0, hx300_1⟩ := at_T96 HR0.out x3_1 p300 q300
            obtain rfl : ad299 = ad300 := (by injection e300)
            replace p300 := eq_true p300
            replace q300 := eq_true q300
            go_wp2
            repeat (go_quiet (fail); try go_wp2)
            go_ret
            exact ⟨eS, dr0⟩
           ·rw [if_neg c8] at H
            have c8b0 : (((rd_T96 l0 x4_2).f0).toList == ((rd_T96 l0 x3_1).f0).toList) = false := beq_eq_false_iff_ne.mpr c8
            have c8b1 : (((rd_T96 l0 x4_2).f0).toList != ((rd_T96 l0 x3_1).f0).toList) = true := bne_iff_ne.mpr c8
            have H' := Aside0.mk H
            clear H
            have p299 : 0 ≤ (x4_2 : Int) := dtr
            have q299 : x4_2 < (l0.length : Int) := dtr
            obtain ⟨ad299, e299, hx299_0, hx299_1⟩ := at_T96 HR0.out x4_2 p299 q299
            cases e299
            replace p299 := eq_true p299
            replace q299 := eq_true q299
            have p300 : 0 ≤ (x3_1 : Int) := dtr
            have q300 : x3_1 < (l0.length : Int) := dtr
            obtain ⟨ad300, e300, hx300_0, hx300_1⟩ := at_T96 HR0.out x3_1 p300 q300
            obtain rfl : ad299 = ad300 := (by injection e300)
            replace p300 := eq_true p300
            replace q300 := eq_true q300
            go_wp2
            repeat (go_quiet (fail); try go_wp2)
            go_roundg k2
            case measure => have := HK1.out; have := HK2.out; omega
            case rel => exact ⟨(wrap64 (x4_2 + 1)), eS, H', ⟨by have := HK1.out; have := HK2.out; omega⟩, dr0⟩
          ·rw [if_neg c7] at H
           exact absurd H (by simp)
         ·rw [if_neg c6] at H
          exact absurd H (by simp)
        ·rw [if_neg c5] at H
         exact absurd H (by simp)
       ·rw [if_neg c4] at H
        exact absurd H (by simp)
      ·rw [if_neg c3] at H
       have c3b0 : decide (x4_2 < x3_1) = false := decide_eq_false c3
       clear c3
       have H' := Aside0.mk H
       clear H
       go_wp2
       repeat (go_quiet (fail); try go_wp2)
       go_roundg k2
       case measure => have := HK1.out; have := HK2.out; omega
       case rel => exact ⟨(wrap64 (x3_1 + 1)), eS, H', ⟨by have := HK1.out; have := HK2.out; omega⟩, dr0⟩
   ·rw [if_neg c2] at H
    have c2b0 : decide (x3_1 < (l0.length : Int)) = false := decide_eq_false c2
    clear c2
    obtain rfl := Option.some.inj H
    go_wp2
    repeat (go_quiet (fail); try go_wp2)
    go_ret
    exact ⟨eS, dr0⟩
end Go.Proofs.YtfmpaofbnjlniaaGreatDoor.F
namespace Go.Proofs.YtfmpaofbnjlniaaGreatDoor.F
open Go.RowKit Go.Proofs.YtfmpaofbnjlniaaGreatDoorW.PrintWords Go.Proofs.YtfmpaofbnjlniaaGreatDoorW.PrintLast Go.Proofs.YtfmpaofbnjlniaaGreatDoorW.PrintMore
attribute [local go_sem] max2_int min2_int max_two min_two max_three min_three max_four min_four
set_option linter.unusedVariables false
set_option linter.unusedSimpArgs false
/-! ### paraphrastref01_Keep: function 22 -/
def paraphrastref01_Keep.l0 : Nat → List (S96) → Int → Int → List (S52) → Int → List (S52) → Option (Int × (List (S52)))
 | 0, _, _, _, _, _, _ => none
 | k + 1, x1, x6, x312000, x312001, x314000, x314001 => if x6 < (x1.length : Int) then (if 0 ≤ x6 then ((paraphrastref01_Find.f k x312000 x312001 ((rd_T96 x1 x6).f0)).bind fun t315 => (if 0 ≤ t315 then (if t315 < (x312001.length : Int) then ((paraphrastref01_copied.f k ((rd_T52 x312001 t315).f2)).bind fun t318 => (if x314001.length < 2932031007402 then (paraphrastref01_Keep.l0 k x1 (wrap64 (x6 + 1)) x312000 x312001 x314000 (x314001 ++ [(⟨(rd_T52 x312001 t315).f0, (rd_T52 x312001 t315).f1, t318⟩ : S52)])) else (none))) else (none)) else (none))) else (none)) else (some (x314000, x314001))
def paraphrastref01_Keep.f (k : Nat) (a0_0 : Int) (l0_1 : List (S52)) (l1 : List (S96)) : Option (Int × (List (S52))) := paraphrastref01_Keep.l0 k l1 0 a0_0 l0_1 a0_0 ([] : List (S52))
def paraphrastref01_Keep.T5 : Bool × List (List Nat × List Nat) := (true, [([], []), ([0], [0]), ([], []), ([], []), ([], []), ([3, 4], [3, 4]), ([5], [5]), ([6], [6]), ([2, 7], [2, 7]), ([1, 8], [1, 8]), ([9], [9]), ([], []), ([11, 10, 8, 0, 1, 2, 3, 4, 5, 6, 7, 8, 9, 10, 11], [10, 11])])
def paraphrastref01_Keep.B5 : List Nat := [0, 1, 0, 0, 0, 24, 56, 120, 252, 511, 1023, 0, 4095]
theorem paraphrastref01_Keep.tab5 : rtab .any (opsOf Tryz.f22 5) = paraphrastref01_Keep.T5 := by kernel_rfl
theorem paraphrastref01_Keep.bits5 : waitsOk paraphrastref01_Keep.T5.2 paraphrastref01_Keep.B5 = true := by kernel_rfl
def paraphrastref01_Keep.T6 : Bool × List (List Nat × List Nat) := (true, [([], []), ([0], [0]), ([], []), ([2], [2]), ([], []), ([4], [4]), ([], []), ([6], [6]), ([7], [7]), ([3, 5, 8], [3, 5, 8]), ([9], [9]), ([1, 10, 8], [1, 10]), ([0, 1, 2, 3, 4, 5, 6, 7, 8, 9, 10, 11], []), ([12, 11, 11, 0, 1, 2, 3, 4, 5, 6, 7, 8, 9, 10, 11], [11, 12])])
def paraphrastref01_Keep.B6 : List Nat := [0, 1, 0, 4, 0, 16, 0, 64, 192, 508, 1020, 2047, 4095, 8191]
theorem paraphrastref01_Keep.tab6 : rtab .any (opsOf Tryz.f22 6) = paraphrastref01_Keep.T6 := by kernel_rfl
theorem paraphrastref01_Keep.bits6 : waitsOk paraphrastref01_Keep.T6.2 paraphrastref01_Keep.B6 = true := by kernel_rfl
set_option maxHeartbeats 8000000 in
set_option maxRecDepth 100000 in
theorem paraphrastref01_Keep.calls (k : Nat) (a0_0 : Int) (A0_1 : Option Addr) (c0_1 : Nat) (l0_1 : List (S52)) (A1 : Option Addr) (c1 : Nat) (l1 : List (S96)) (r1 : Int) (r2 : List (S52)) (w : World) (hr0_1 : Kd.C k52 w A0_1 l0_1.length l0_1) (hc0_1 : l0_1.length ≤ c0_1) (hr1 : Kd.C k96 w A1 l1.length l1) (hc1 : l1.length ≤ c1) (h : paraphrastref01_Keep.f k a0_0 l0_1 l1 = some (r1, r2)) :
  Calls Tryz.prog 22 #[.agg #[.int .i64 a0_0, .slice A0_1 l0_1.length c0_1], .slice A1 l1.length c1] w fun e w' => ∃ v1_ : Value, e = .returned (.agg #[.int .i64 r1, v1_]) ∧ Kd.R k52 52 w' w.heap.size (fun _ => True) v1_ r2 ∧ Below w.heap.size w w' := by
 have hu24 := Tryz.underlying24
 have hu52 := Tryz.underlying52
 have HR0_1 := Aside0.mk hr0_1
 have HC0_1 := Aside0.mk hc0_1
 clear hr0_1 hc0_1
 have HR1 := Aside0.mk hr1
 have HC1 := Aside0.mk hc1
 clear hr1 hc1
 have HB := Aside0.mk (Below.refl w.heap.size w)
 have H : (paraphrastref01_Keep.l0 k l1 0 a0_0 l0_1 a0_0 ([] : List (S52))) = some (r1, r2) := h
 clear h
 have H' := Aside0.mk H
 clear H
 go_enter Tryz.func22, Tryz.ntmps22
 go_wp2_with (first | ((with_reducible refine gate_dst (N := 2) rfl ?_); refine box_event ?hg (N := 2) ?hd (cs := #[.int .i64 a0_0, .slice A0_1 l0_1.length c0_1]) (t := 24) ?hr ?_; (case hd => rfl); (case hg => rfl); (case hr => first | (go_simp; done) | (go_simp; rfl)); intro gb311 hg w3 hbox hb; have BK311 := Aside0.mk (hbox); have GW311 := geB w hg; have GE311 := geB w hg; replace HB := Aside0.mk (below_step bel hb); clear hb hbox hg) | ((with_reducible refine gate_dst (N := 4) rfl ?_); refine box_event ?hg (N := 4) ?hd (cs := #[.int .i64 0, .slice none 0 0]) (t := 24) ?hr ?_; (case hd => rfl); (case hg => rfl); (case hr => first | (go_simp; done) | (go_simp; rfl)); intro gb312 hg w4 hbox hb; have BK312 := Aside0.mk (hbox); have GW312 := geB w hg; have GE312 := geB w hg; have NB311_312 := neL BK311 hg; have NB312_311 := neG BK311 hg; replace BK311 := blB BK311 hb; replace HB := Aside0.mk (below_step bel hb); clear hb hbox hg; have hnb5 := NB311_312.out; have hnc5 := NB312_311.out; obtain ⟨hcz6_0, hcz6_1, hfz6_0, hfz6_1⟩ := bq2 BK311) | ((with_reducible refine gate_dst (N := 5) rfl ?_); refine box_event ?hg (N := 5) ?hd (cs := #[.int .i64 0, .slice none 0 0]) (t := 24) ?hr ?_; (case hd => rfl); (case hg => rfl); (case hr => first | (go_simp; done) | (go_simp; rfl)); intro gb313 hg w7 hbox hb; have BK313 := Aside0.mk (hbox); have GW313 := geB w hg; have GE313 := geB w hg; have NB311_313 := neL BK311 hg; have NB313_311 := neG BK311 hg; have NB312_313 := neL BK312 hg; have NB313_312 := neG BK312 hg; replace BK311 := blB BK311 hb; replace BK312 := blB BK312 hb; replace HB := Aside0.mk (below_step bel hb); clear hb hbox hg; have hnb8 := NB313_311.out; have hnc8 := NB311_313.out; have hnb9 := NB313_312.out; have hnc9 := NB312_313.out; obtain ⟨hcz10_0, hcz10_1, hfz10_0, hfz10_1⟩ := bq2 BK313))
 go_loopg [6] k (fun kq v6 w' => ∃ (x6_1 : Int) (x314001_1 : List (S52)) (u314001 : Value), v6 = .int .i64 x6_1 ∧ Aside0 (paraphrastref01_Keep.l0 kq l1 x6_1 a0_0 l0_1 a0_0 x314001_1 = some (r1, r2)) ∧ Aside0 (kq ≤ k) ∧ Aside0 (Kd.R k52 52 w' w.heap.size (fun _ => True) u314001 x314001_1) ∧ Aside0 (w'.heap[gb311]? = some (.cells #[.int .i64 a0_0, (.slice A0_1 l0_1.length c0_1)] 24 (0, 0))) ∧ Aside0 (w'.heap[gb312]? = some (.cells #[.int .i64 0, (.slice none 0 0)] 24 (0, 0))) ∧ Aside0 (w'.heap[gb313]? = some (.cells #[.int .i64 a0_0, u314001] 24 (0, 0))) ∧ Aside0 (Below w.heap.size w w'))
 case atStart => exact ⟨(0), (([] : List (S52))), (.slice none 0 0), eS, H', ⟨Nat.le_refl _⟩, ⟨by first | exact Kd.R_nil _ _ _ _ _ | exact Kd.N_nil _ _ _ _ _ | exact Kd.V_nil _ _ _ _ _ | exact Kd.Q_nil _ _ _ _ _ | exact Kd.S_nil _ _ _ _ _⟩, ⟨by (with_reducible repeat (first | refine blk_drewN ?_ _ | refine blk_drew ?_ | refine blk_alloc ?_ _)); refine blk_far ?_ NB311_313.out _; (with_reducible repeat (first | refine blk_drewN ?_ _ | refine blk_drew ?_ | refine blk_alloc ?_ _)); refine blk_far ?_ NB311_313.out _; (with_reducible repeat (first | refine blk_drewN ?_ _ | refine blk_drew ?_ | refine blk_alloc ?_ _)); exact BK311.out⟩, ⟨by (with_reducible repeat (first | refine blk_drewN ?_ _ | refine blk_drew ?_ | refine blk_alloc ?_ _)); refine blk_far ?_ NB312_313.out _; (with_reducible repeat (first | refine blk_drewN ?_ _ | refine blk_drew ?_ | refine blk_alloc ?_ _)); refine blk_far ?_ NB312_313.out _; (with_reducible repeat (first | refine blk_drewN ?_ _ | refine blk_drew ?_ | refine blk_alloc ?_ _)); exact BK312.out⟩, ⟨by (with_reducible repeat (first | refine blk_drewN ?_ _ | refine blk_drew ?_ | refine blk_alloc ?_ _)); refine blk_put (cs := #[.int .i64 a0_0, .slice none 0 0]) ?_ 1 _ rfl; (with_reducible repeat (first | refine blk_drewN ?_ _ | refine blk_drew ?_ | refine blk_alloc ?_ _)); refine blk_put (cs := #[.int .i64 0, .slice none 0 0]) ?_ 0 _ rfl; (with_reducible repeat (first | refine blk_drewN ?_ _ | refine blk_drew ?_ | refine blk_alloc ?_ _)); exact BK313.out⟩, ⟨bel⟩⟩
 case round =>
  clear H'
  (try clear c1); (try clear hcz10_0); (try clear hcz10_1); (try clear hcz6_0); (try clear hcz6_1); (try clear hfz10_0); (try clear hfz10_1); (try clear hfz6_0); (try clear hfz6_1)
  obtain ⟨x6_1, x314001_1, u314001, rfl, HA, HK1, HO_314001, BK311, BK312, BK313, HB⟩ := hrel
  cases gk with
  | zero => exact absurd HA.out (by simp [paraphrastref01_Keep.l0])
  | succ k1 =>
   have H := HA.out
   clear HA
   simp only [paraphrastref01_Keep.l0] at H
   by_cases c11 : x6_1 < (l1.length : Int)
   ·rw [if_pos c11] at H
    have c11b0 : decide (x6_1 < (l1.length : Int)) = true := decide_eq_true c11
    clear c11
    by_cases c12 : 0 ≤ x6_1
    ·rw [if_pos c12] at H
     have c12b0 : decide (0 ≤ x6_1) = true := decide_eq_true c12
     clear c12
     replace H := Option.bind_eq_some_iff.mp H
     obtain ⟨t315, A130, H⟩ := H
     replace H : (if 0 ≤ t315 then (if t315 < (l0_1.length : Int) then ((paraphrastref01_copied.f k1 ((rd_T52 l0_1 t315).f2)).bind fun t318 => (if x314001_1.length < 2932031007402 then (paraphrastref01_Keep.l0 k1 l1 (wrap64 (x6_1 + 1)) a0_0 l0_1 a0_0 (x314001_1 ++ [(⟨(rd_T52 l0_1 t315).f0, (rd_T52 l0_1 t315).f1, t318⟩ : S52)])) else (none))) else (none)) else (none)) = some (r1, r2) := H
     have A13 := Aside0.mk A130
     clear A130
     by_cases c14 : 0 ≤ t315
     ·rw [if_pos c14] at H
      have c14b0 : decide (0 ≤ t315) = true := decide_eq_true c14
      clear c14
      by_cases c15 : t315 < (l0_1.length : Int)
      ·rw [if_pos c15] at H
       have c15b0 : decide (t315 < (l0_1.length : Int)) = true := decide_eq_true c15
       clear c15
       replace H := Option.bind_eq_some_iff.mp H
       obtain ⟨t318, A160, H⟩ := H
       replace H : (if x314001_1.length < 2932031007402 then (paraphrastref01_Keep.l0 k1 l1 (wrap64 (x6_1 + 1)) a0_0 l0_1 a0_0 (x314001_1 ++ [(⟨(rd_T52 l0_1 t315).f0, (rd_T52 l0_1 t315).f1, t318⟩ : S52)])) else (none)) = some (r1, r2) := H
       have A16 := Aside0.mk A160
       clear A160
       by_cases c17 : x314001_1.length < 2932031007402
       ·rw [if_pos c17] at H
        have LMc17 := Aside0.mk c17
        clear c17
        obtain ⟨y321, hy321⟩ : ∃ y_ : List (S52), y_ = (x314001_1 ++ [(⟨(rd_T52 l0_1 t315).f0, (rd_T52 l0_1 t315).f1, t318⟩ : S52)]) := ⟨_, rfl⟩
        replace H : (paraphrastref01_Keep.l0 k1 l1 (wrap64 (x6_1 + 1)) a0_0 l0_1 a0_0 y321) = some (r1, r2) := by first | (rw [hy321]; with_reducible exact H) | (have H2_ := (Option.bind_some _ _).symm.trans H; rw [hy321]; with_reducible exact H2_) | (have H2_ := (Option.bind_some _ _).symm.trans H; with_reducible exact H2_) | with_reducible exact H | (rw [hy321]; exact H) | exact H
        have Ny321 := Aside0.mk hy321
        clear hy321
        have H' := Aside0.mk H
        clear H
        try go_wp2
        replace HO_314001 := Aside0.mk (Kd.R_drew HO_314001.out)
        replace BK311 := Aside0.mk (blk_drew BK311.out)
        replace BK312 := Aside0.mk (blk_drew BK312.out)
        replace BK313 := Aside0.mk (blk_drew BK313.out)
        replace HB := Aside0.mk (below_drew1 HB.out)
        have p314 : 0 ≤ (x6_1 : Int) := dtr
        have q314 : x6_1 < (l1.length : Int) := dtr
        obtain ⟨ad314, e314, hx314_0, hx314_1⟩ := at_T96 HR1.out x6_1 p314 q314
        have hw314_1 := hx314_1
        have hw314_0 := hx314_0
        cases e314
        replace hx314_0 := oc hx314_0
        replace hx314_1 := oc hx314_1
        replace p314 := eq_true p314
        replace q314 := eq_true q314
        have p316 : 0 ≤ (t315 : Int) := dtr
        have q316 : t315 < (l0_1.length : Int) := dtr
        obtain ⟨ad316, A316_2, c316_2, e316, hx316_0, hx316_1, hx316_2, hl316_2, hi316_2⟩ := at_T52 HR0_1.out t315 p316 q316
        have hw316_2 := hx316_2
        have hw316_1 := hx316_1
        have hw316_0 := hx316_0
        cases e316
        replace hx316_0 := oc hx316_0
        replace hx316_1 := oc hx316_1
        replace hx316_2 := oc hx316_2
        have HR316_2 := Aside0.mk hi316_2
        have HC316_2 := Aside0.mk hl316_2
        clear hi316_2 hl316_2
        replace p316 := eq_true p316
        replace q316 := eq_true q316
        refine start_ (n := 13) (S := fun w' => w'.cell? ⟨gb311, 0, none⟩ = some (.int .i64 a0_0) ∧ w'.cell? ⟨gb311, 1, none⟩ = some (.slice (some ad316) l0_1.length c0_1) ∧ w'.cell? (ad314.add ((x6_1).toNat * 2)) = some (.string ((rd_T96 l1 x6_1).f0)) ∧ w'.cell? ⟨(ad314.add ((x6_1).toNat * 2)).block, (ad314.add ((x6_1).toNat * 2)).off + 1, none⟩ = some (.int .i64 ((rd_T96 l1 x6_1).f1)) ∧ w'.cell? (ad316.add ((t315).toNat * 3)) = some (.string ((rd_T52 l0_1 t315).f0)) ∧ w'.cell? ⟨(ad316.add ((t315).toNat * 3)).block, (ad316.add ((t315).toNat * 3)).off + 1, none⟩ = some (.int .i64 ((rd_T52 l0_1 t315).f1)) ∧ w'.cell? ⟨(ad316.add ((t315).toNat * 3)).block, (ad316.add ((t315).toNat * 3)).off + 2, none⟩ = some (.slice A316_2 ((rd_T52 l0_1 t315).f2).length c316_2)) (ds := []) #[false, false, false, false, false, false, false, false, false, false, false, false, false] (by kernel_rfl) rfl rfl ⟨(blk_cell BK311.out 0).trans rfl, (blk_cell BK311.out 1).trans rfl, (oc hw314_0), (oc hw314_1), (oc hw316_0), (oc hw316_1), (oc hw316_2)⟩ (fun hHeld => ?_); refine with_tabW paraphrastref01_Keep.tab5 paraphrastref01_Keep.bits5 (fun HT_ HW_ => ?_)
        generalize wr.drew = w18 at HO_314001 BK311 BK312 BK313 HB HR316_2 hx314_0 hx314_1 hx316_0 hx316_1 hx316_2 hHeld ⊢
        refine sPu 0 (some 17) ?_
        refine sPu 3 (some 20) ?_
        refine sPu 4 (some 21) ?_
        refine sPu 5 (some 22) ?_
        refine sPu 6 (some 23) ?_
        refine sTk 1 (some 18) ?_
        refine sTk 2 (some 19) ?_
        refine sTk 7 (some 24) ?_
        refine join_ (σ := Nat) 1 #[true, true, true, true, true, true, true, true, true, true, true, true, false] (fun s_ => [(25, .int .i64 t315), (7, .pointer (some ⟨s_, 0, none⟩)), (26, .pointer (some (ad316.add ((t315).toNat * 3)))), (27, .agg #[.string ((rd_T52 l0_1 t315).f0), .int .i64 ((rd_T52 l0_1 t315).f1), .slice A316_2 ((rd_T52 l0_1 t315).f2).length c316_2])]) (fun s_ w' => (w'.cell? ⟨gb311, 0, none⟩ = some (.int .i64 a0_0) ∧ w'.cell? ⟨gb311, 1, none⟩ = some (.slice (some ad316) l0_1.length c0_1) ∧ w'.cell? (ad314.add ((x6_1).toNat * 2)) = some (.string ((rd_T96 l1 x6_1).f0)) ∧ w'.cell? ⟨(ad314.add ((x6_1).toNat * 2)).block, (ad314.add ((x6_1).toNat * 2)).off + 1, none⟩ = some (.int .i64 ((rd_T96 l1 x6_1).f1)) ∧ w'.cell? (ad316.add ((t315).toNat * 3)) = some (.string ((rd_T52 l0_1 t315).f0)) ∧ w'.cell? ⟨(ad316.add ((t315).toNat * 3)).block, (ad316.add ((t315).toNat * 3)).off + 1, none⟩ = some (.int .i64 ((rd_T52 l0_1 t315).f1)) ∧ w'.cell? ⟨(ad316.add ((t315).toNat * 3)).block, (ad316.add ((t315).toNat * 3)).off + 2, none⟩ = some (.slice A316_2 ((rd_T52 l0_1 t315).f2).length c316_2)) ∧ (Kd.R k52 52 w' w.heap.size (fun k_ => k_ ≠ s_) u314001 x314001_1) ∧ (w'.heap[gb311]? = some (.cells #[.int .i64 a0_0, .slice (some ad316) l0_1.length c0_1] 24 (0, 0))) ∧ (w'.heap[gb312]? = some (.cells #[.int .i64 0, .slice none 0 0] 24 (0, 0))) ∧ (w'.heap[gb313]? = some (.cells #[.int .i64 a0_0, u314001] 24 (0, 0))) ∧ (w'.heap[s_]? = some (.cells #[.string (⟨#[]⟩ : ByteArray), .int .i64 0, .slice none 0 0] 52 (0, 0))) ∧ (w.heap.size ≤ s_) ∧ (w.heap.size ≤ s_) ∧ (gb311 ≠ s_) ∧ (s_ ≠ gb311) ∧ (gb312 ≠ s_) ∧ (s_ ≠ gb312) ∧ (gb313 ≠ s_) ∧ (s_ ≠ gb313) ∧ (Below w.heap.size w w')) ?_ ?_
        rotate_left
        ·intro hCont
         refine two_ (i := 8) (j := 11) (Ni := some 25) (Nj := some 7) #[true, true, true, true, true, true, true, true, true, false, false, false, false] #[true, true, true, true, true, true, true, true, false, false, false, true, false] rfl rfl rfl rfl (two_of HT_.out (by kernel_rfl)) (by decide) (by decide) (fun K hK => ?_) (fun K hK => ?_)
         ·skip
          refine goes_ Tryz.func24 (by kernel_rfl) rfl #[.agg #[.int .i64 a0_0, .slice (some ad316) l0_1.length c0_1], .string ((rd_T96 l1 x6_1).f0)] (by rfl) rfl rfl (by (try simp only [List.map_toArray, List.map_cons, List.map_nil]); first | done | rfl | (simp only [List.length_drop, List.length_take]; rfl)) ?_
          with_reducible refine (paraphrastref01_Find.calls k1 a0_0 _ _ l0_1 ((rd_T96 l1 x6_1).f0) t315 _ ?side1 ?side2 A13.out).mono ?_
          (case side1 => exact cS (Kd.C_below HR0_1.out HB.out))
          (case side2 => exact HC0_1.out)
          rintro e w19 ⟨rfl, hb⟩
          refine ⟨_, rfl, ?_⟩
          replace HO_314001 := rD HO_314001 hb
          replace BK311 := blB BK311 hb
          replace BK312 := blB BK312 hb
          replace BK313 := blB BK313 hb
          replace HB := Aside0.mk (below_step bel hb)
          (try clear hb)
          (try clear hb2)
          (try clear hk)
          (try clear hi)
          refine hK.out _ _ ⟨(blk_cell BK311.out 0).trans rfl, (blk_cell BK311.out 1).trans rfl, (oc hw314_0), (oc hw314_1), (oc hw316_0), (oc hw316_1), (oc hw316_2)⟩ (fun hHeld => ?_)
          clear hK K
          refine norm_ (a' := ?_) ?_ ?_
          rotate_left
          ·show Act.put _ (some 25) _ = _
           simp only [Act.put, List.setIfInBounds_toArray, List.set_cons_zero, List.set_cons_succ, i64_w, i32_w]
           rfl
          refine sPu 9 (some 26) ?_
          refine sTk 10 (some 27) ?_
          refine sOn 11 (some 7) (fun K hK => ?_)
          refine box_step ?hg (N := 7) ?hd (cs := #[.string (⟨#[]⟩ : ByteArray), .int .i64 0, .slice none 0 0]) (t := 52) ?hr ?_; (case hd => rfl); (case hg => rfl); (case hr => first | (go_simp; done) | (go_simp; rfl))
          intro gb317 hg w20 hbox hb
          have BK317 := Aside0.mk (hbox)
          have GW317 := geB w hg
          have GE317 := geB w hg
          have NB311_317 := neL BK311 hg
          have NB317_311 := neG BK311 hg
          have NB312_317 := neL BK312 hg
          have NB317_312 := neG BK312 hg
          have NB313_317 := neL BK313 hg
          have NB317_313 := neG BK313 hg
          replace HO_314001 := Aside0.mk (Kd.R_below (Kd.R_elderB (tw HO_314001.out) gb317 (Nat.le_of_eq hg.symm)) hb)
          replace BK311 := blB BK311 hb
          replace BK312 := blB BK312 hb
          replace BK313 := blB BK313 hb
          replace HB := Aside0.mk (below_step bel hb)
          clear hb hbox hg
          refine hK.out _ _ ⟨(blk_cell BK311.out 0).trans rfl, (blk_cell BK311.out 1).trans rfl, (oc hw314_0), (oc hw314_1), (oc hw316_0), (oc hw316_1), (oc hw316_2)⟩ (fun hHeld => ?_)
          clear hK K
          refine norm_ (a' := ?_) ?_ ?_
          rotate_left
          ·show Act.put _ (some 7) _ = _
           simp only [Act.put, List.setIfInBounds_toArray, List.set_cons_zero, List.set_cons_succ, i64_w, i32_w]
           rfl
          exact norm_ (by simp only [putAll, Act.put, List.setIfInBounds_toArray, List.set_cons_zero, List.set_cons_succ]) (hCont (gb317) _ ⟨hHeld, (by (with_reducible repeat (first | apply Kd.R_alloc | apply Kd.R_drewN | apply Kd.R_drew)); exact Kd.R_mono HO_314001.out (fun _ hk => hk.2)), (bk BK311), (bk BK312), (bk BK313), (bk BK317), GW317.out, GE317.out, NB311_317.out, NB317_311.out, NB312_317.out, NB317_312.out, NB313_317.out, NB317_313.out, bel⟩)
         ·skip
          refine box_step ?hg (N := 7) ?hd (cs := #[.string (⟨#[]⟩ : ByteArray), .int .i64 0, .slice none 0 0]) (t := 52) ?hr ?_; (case hd => rfl); (case hg => rfl); (case hr => first | (go_simp; done) | (go_simp; rfl))
          intro gb317 hg w19 hbox hb
          have BK317 := Aside0.mk (hbox)
          have GW317 := geB w hg
          have GE317 := geB w hg
          have NB311_317 := neL BK311 hg
          have NB317_311 := neG BK311 hg
          have NB312_317 := neL BK312 hg
          have NB317_312 := neG BK312 hg
          have NB313_317 := neL BK313 hg
          have NB317_313 := neG BK313 hg
          replace HO_314001 := Aside0.mk (Kd.R_below (Kd.R_elderB (tw HO_314001.out) gb317 (Nat.le_of_eq hg.symm)) hb)
          replace BK311 := blB BK311 hb
          replace BK312 := blB BK312 hb
          replace BK313 := blB BK313 hb
          replace HB := Aside0.mk (below_step bel hb)
          clear hb hbox hg
          refine hK.out _ _ ⟨(blk_cell BK311.out 0).trans rfl, (blk_cell BK311.out 1).trans rfl, (oc hw314_0), (oc hw314_1), (oc hw316_0), (oc hw316_1), (oc hw316_2)⟩ (fun hHeld => ?_)
          clear hK K
          refine norm_ (a' := ?_) ?_ ?_
          rotate_left
          ·show Act.put _ (some 7) _ = _
           simp only [Act.put, List.setIfInBounds_toArray, List.set_cons_zero, List.set_cons_succ, i64_w, i32_w]
           rfl
          refine sOn 8 (some 25) (fun K hK => ?_)
          refine goes_ Tryz.func24 (by kernel_rfl) rfl #[.agg #[.int .i64 a0_0, .slice (some ad316) l0_1.length c0_1], .string ((rd_T96 l1 x6_1).f0)] (by rfl) rfl rfl (by (try simp only [List.map_toArray, List.map_cons, List.map_nil]); first | done | rfl | (simp only [List.length_drop, List.length_take]; rfl)) ?_
          with_reducible refine (paraphrastref01_Find.calls k1 a0_0 _ _ l0_1 ((rd_T96 l1 x6_1).f0) t315 _ ?side1 ?side2 A13.out).mono ?_
          (case side1 => exact cS (Kd.C_below HR0_1.out HB.out))
          (case side2 => exact HC0_1.out)
          rintro e w20 ⟨rfl, hb⟩
          refine ⟨_, rfl, ?_⟩
          replace HO_314001 := rD HO_314001 hb
          replace BK311 := blB BK311 hb
          replace BK312 := blB BK312 hb
          replace BK313 := blB BK313 hb
          replace BK317 := blB BK317 hb
          replace HB := Aside0.mk (below_step bel hb)
          (try clear hb)
          (try clear hb2)
          (try clear hk)
          (try clear hi)
          refine hK.out _ _ ⟨(blk_cell BK311.out 0).trans rfl, (blk_cell BK311.out 1).trans rfl, (oc hw314_0), (oc hw314_1), (oc hw316_0), (oc hw316_1), (oc hw316_2)⟩ (fun hHeld => ?_)
          clear hK K
          refine norm_ (a' := ?_) ?_ ?_
          rotate_left
          ·show Act.put _ (some 25) _ = _
           simp only [Act.put, List.setIfInBounds_toArray, List.set_cons_zero, List.set_cons_succ, i64_w, i32_w]
           rfl
          refine sPu 9 (some 26) ?_
          refine sTk 10 (some 27) ?_
          exact norm_ (by simp only [putAll, Act.put, List.setIfInBounds_toArray, List.set_cons_zero, List.set_cons_succ]) (hCont (gb317) _ ⟨hHeld, (by (with_reducible repeat (first | apply Kd.R_alloc | apply Kd.R_drewN | apply Kd.R_drew)); exact Kd.R_mono HO_314001.out (fun _ hk => hk.2)), (bk BK311), (bk BK312), (bk BK313), (bk BK317), GW317.out, GE317.out, NB311_317.out, NB317_311.out, NB312_317.out, NB317_312.out, NB313_317.out, NB317_313.out, bel⟩)
        rintro gb317 w21 ⟨hS_, h0_, h1_, h2_, h3_, h4_, h5_, h6_, h7_, h8_, h9_, h10_, h11_, h12_, h13_⟩
        have n0_ : Aside0 (Kd.R k52 52 w21 w.heap.size (fun k_ => k_ ≠ gb317) u314001 x314001_1) := ⟨h0_⟩
        have n1_ : Aside0 (w21.heap[gb311]? = some (.cells #[.int .i64 a0_0, .slice (some ad316) l0_1.length c0_1] 24 (0, 0))) := ⟨h1_⟩
        have n2_ : Aside0 (w21.heap[gb312]? = some (.cells #[.int .i64 0, .slice none 0 0] 24 (0, 0))) := ⟨h2_⟩
        have n3_ : Aside0 (w21.heap[gb313]? = some (.cells #[.int .i64 a0_0, u314001] 24 (0, 0))) := ⟨h3_⟩
        have n4_ : Aside0 (w21.heap[gb317]? = some (.cells #[.string (⟨#[]⟩ : ByteArray), .int .i64 0, .slice none 0 0] 52 (0, 0))) := ⟨h4_⟩
        have n5_ : Aside0 (w.heap.size ≤ gb317) := ⟨h5_⟩
        have n6_ : Aside0 (w.heap.size ≤ gb317) := ⟨h6_⟩
        have n7_ : Aside0 (gb311 ≠ gb317) := ⟨h7_⟩
        have n8_ : Aside0 (gb317 ≠ gb311) := ⟨h8_⟩
        have n9_ : Aside0 (gb312 ≠ gb317) := ⟨h9_⟩
        have n10_ : Aside0 (gb317 ≠ gb312) := ⟨h10_⟩
        have n11_ : Aside0 (gb313 ≠ gb317) := ⟨h11_⟩
        have n12_ : Aside0 (gb317 ≠ gb313) := ⟨h12_⟩
        have n13_ : Aside0 (Below w.heap.size w w21) := ⟨h13_⟩
        clear HO_314001
        clear BK311
        clear BK312
        clear BK313
        clear HB
        clear h0_ h1_ h2_ h3_ h4_ h5_ h6_ h7_ h8_ h9_ h10_ h11_ h12_ h13_
        have HO_314001 := n0_
        have BK311 := n1_
        have BK312 := n2_
        have BK313 := n3_
        have BK317 := n4_
        have GW317 := n5_
        have GE317 := n6_
        have NB311_317 := n7_
        have NB317_311 := n8_
        have NB312_317 := n9_
        have NB317_312 := n10_
        have NB313_317 := n11_
        have NB317_313 := n12_
        have HB := n13_
        clear n0_ n1_ n2_ n3_ n4_ n5_ n6_ n7_ n8_ n9_ n10_ n11_ n12_ n13_
        have hHeld : w21.cell? ⟨gb311, 0, none⟩ = some (.int .i64 a0_0) ∧ w21.cell? ⟨gb311, 1, none⟩ = some (.slice (some ad316) l0_1.length c0_1) ∧ w21.cell? (ad314.add ((x6_1).toNat * 2)) = some (.string ((rd_T96 l1 x6_1).f0)) ∧ w21.cell? ⟨(ad314.add ((x6_1).toNat * 2)).block, (ad314.add ((x6_1).toNat * 2)).off + 1, none⟩ = some (.int .i64 ((rd_T96 l1 x6_1).f1)) ∧ w21.cell? (ad316.add ((t315).toNat * 3)) = some (.string ((rd_T52 l0_1 t315).f0)) ∧ w21.cell? ⟨(ad316.add ((t315).toNat * 3)).block, (ad316.add ((t315).toNat * 3)).off + 1, none⟩ = some (.int .i64 ((rd_T52 l0_1 t315).f1)) ∧ w21.cell? ⟨(ad316.add ((t315).toNat * 3)).block, (ad316.add ((t315).toNat * 3)).off + 2, none⟩ = some (.slice A316_2 ((rd_T52 l0_1 t315).f2).length c316_2) := hS_
        refine norm_ (a' := ?_) ?_ ?_
        rotate_left
        ·simp only [putAll, Act.put, List.setIfInBounds_toArray, List.set_cons_zero, List.set_cons_succ]
         rfl
        refine sOn 12 none (fun K hK => ?_)
        have hs22 : w21.cell? ⟨gb317, 0, none⟩ = some (.string (⟨#[]⟩ : ByteArray)) := (blk_cell BK317.out 0).trans rfl
        have hfs22 := blk_frozen BK317.out 0
        have hns22_0 := NB311_317.out
        have hns22_1 := NB312_317.out
        have hns22_2 := NB313_317.out
        have hms22_0 := NB317_311.out
        have hms22_1 := NB317_312.out
        have hms22_2 := NB317_313.out
        have hs23 : w21.cell? ⟨gb317, 1, none⟩ = some (.int .i64 0) := (blk_cell BK317.out 1).trans rfl
        have hfs23 := blk_frozen BK317.out 1
        have hns23_0 := NB311_317.out
        have hns23_1 := NB312_317.out
        have hns23_2 := NB313_317.out
        have hms23_0 := NB317_311.out
        have hms23_1 := NB317_312.out
        have hms23_2 := NB317_313.out
        have hs24 : w21.cell? ⟨gb317, 2, none⟩ = some (.slice none 0 0) := (blk_cell BK317.out 2).trans rfl
        have hfs24 := blk_frozen BK317.out 2
        have hns24_0 := NB311_317.out
        have hns24_1 := NB312_317.out
        have hns24_2 := NB313_317.out
        have hms24_0 := NB317_311.out
        have hms24_1 := NB317_312.out
        have hms24_2 := NB317_313.out
        refine skip_ (w1 := ?_) (by rfl) rfl ?_ ?_
        rotate_left
        ·go_simp
         rfl
        refine hK.out _ _ ⟨((cell_far (p := ⟨gb317, _, none⟩) NB311_317.out _).trans (((cell_far (p := ⟨gb317, _, none⟩) NB311_317.out _).trans (((cell_far (p := ⟨gb317, _, none⟩) NB311_317.out _).trans (hHeld.1)))))), ((cell_far (p := ⟨gb317, _, none⟩) NB311_317.out _).trans (((cell_far (p := ⟨gb317, _, none⟩) NB311_317.out _).trans (((cell_far (p := ⟨gb317, _, none⟩) NB311_317.out _).trans (hHeld.2.1)))))), ((cell_far (p := ⟨gb317, _, none⟩) (by first | exact Nat.ne_of_lt (Nat.lt_of_lt_of_le (by have := World.block_lt_of_cell? _ _ hw314_0; first | rwa [add_block] at this | exact this) GW317.out) | (rw [add_block]; exact Nat.ne_of_lt (Nat.lt_of_lt_of_le (by have := World.block_lt_of_cell? _ _ hw314_0; first | rwa [add_block] at this | exact this) GW317.out)) | (show (Addr.add _ _).block ≠ _; rw [add_block]; exact Nat.ne_of_lt (Nat.lt_of_lt_of_le (by have := World.block_lt_of_cell? _ _ hw314_0; first | rwa [add_block] at this | exact this) GW317.out)) | (dsimp only; exact Nat.ne_of_lt (Nat.lt_of_lt_of_le (by have := World.block_lt_of_cell? _ _ hw314_0; first | rwa [add_block] at this | exact this) GW317.out))) _).trans (((cell_far (p := ⟨gb317, _, none⟩) (by first | exact Nat.ne_of_lt (Nat.lt_of_lt_of_le (by have := World.block_lt_of_cell? _ _ hw314_0; first | rwa [add_block] at this | exact this) GW317.out) | (rw [add_block]; exact Nat.ne_of_lt (Nat.lt_of_lt_of_le (by have := World.block_lt_of_cell? _ _ hw314_0; first | rwa [add_block] at this | exact this) GW317.out)) | (show (Addr.add _ _).block ≠ _; rw [add_block]; exact Nat.ne_of_lt (Nat.lt_of_lt_of_le (by have := World.block_lt_of_cell? _ _ hw314_0; first | rwa [add_block] at this | exact this) GW317.out)) | (dsimp only; exact Nat.ne_of_lt (Nat.lt_of_lt_of_le (by have := World.block_lt_of_cell? _ _ hw314_0; first | rwa [add_block] at this | exact this) GW317.out))) _).trans (((cell_far (p := ⟨gb317, _, none⟩) (by first | exact Nat.ne_of_lt (Nat.lt_of_lt_of_le (by have := World.block_lt_of_cell? _ _ hw314_0; first | rwa [add_block] at this | exact this) GW317.out) | (rw [add_block]; exact Nat.ne_of_lt (Nat.lt_of_lt_of_le (by have := World.block_lt_of_cell? _ _ hw314_0; first | rwa [add_block] at this | exact this) GW317.out)) | (show (Addr.add _ _).block ≠ _; rw [add_block]; exact Nat.ne_of_lt (Nat.lt_of_lt_of_le (by have := World.block_lt_of_cell? _ _ hw314_0; first | rwa [add_block] at this | exact this) GW317.out)) | (dsimp only; exact Nat.ne_of_lt (Nat.lt_of_lt_of_le (by have := World.block_lt_of_cell? _ _ hw314_0; first | rwa [add_block] at this | exact this) GW317.out))) _).trans (hHeld.2.2.1)))))), ((cell_far (p := ⟨gb317, _, none⟩) (by first | exact Nat.ne_of_lt (Nat.lt_of_lt_of_le (by have := World.block_lt_of_cell? _ _ hw314_1; first | rwa [add_block] at this | exact this) GW317.out) | (rw [add_block]; exact Nat.ne_of_lt (Nat.lt_of_lt_of_le (by have := World.block_lt_of_cell? _ _ hw314_1; first | rwa [add_block] at this | exact this) GW317.out)) | (show (Addr.add _ _).block ≠ _; rw [add_block]; exact Nat.ne_of_lt (Nat.lt_of_lt_of_le (by have := World.block_lt_of_cell? _ _ hw314_1; first | rwa [add_block] at this | exact this) GW317.out)) | (dsimp only; exact Nat.ne_of_lt (Nat.lt_of_lt_of_le (by have := World.block_lt_of_cell? _ _ hw314_1; first | rwa [add_block] at this | exact this) GW317.out))) _).trans (((cell_far (p := ⟨gb317, _, none⟩) (by first | exact Nat.ne_of_lt (Nat.lt_of_lt_of_le (by have := World.block_lt_of_cell? _ _ hw314_1; first | rwa [add_block] at this | exact this) GW317.out) | (rw [add_block]; exact Nat.ne_of_lt (Nat.lt_of_lt_of_le (by have := World.block_lt_of_cell? _ _ hw314_1; first | rwa [add_block] at this | exact this) GW317.out)) | (show (Addr.add _ _).block ≠ _; rw [add_block]; exact Nat.ne_of_lt (Nat.lt_of_lt_of_le (by have := World.block_lt_of_cell? _ _ hw314_1; first | rwa [add_block] at this | exact this) GW317.out)) | (dsimp only; exact Nat.ne_of_lt (Nat.lt_of_lt_of_le (by have := World.block_lt_of_cell? _ _ hw314_1; first | rwa [add_block] at this | exact this) GW317.out))) _).trans (((cell_far (p := ⟨gb317, _, none⟩) (by first | exact Nat.ne_of_lt (Nat.lt_of_lt_of_le (by have := World.block_lt_of_cell? _ _ hw314_1; first | rwa [add_block] at this | exact this) GW317.out) | (rw [add_block]; exact Nat.ne_of_lt (Nat.lt_of_lt_of_le (by have := World.block_lt_of_cell? _ _ hw314_1; first | rwa [add_block] at this | exact this) GW317.out)) | (show (Addr.add _ _).block ≠ _; rw [add_block]; exact Nat.ne_of_lt (Nat.lt_of_lt_of_le (by have := World.block_lt_of_cell? _ _ hw314_1; first | rwa [add_block] at this | exact this) GW317.out)) | (dsimp only; exact Nat.ne_of_lt (Nat.lt_of_lt_of_le (by have := World.block_lt_of_cell? _ _ hw314_1; first | rwa [add_block] at this | exact this) GW317.out))) _).trans (hHeld.2.2.2.1)))))), ((cell_far (p := ⟨gb317, _, none⟩) (by first | exact Nat.ne_of_lt (Nat.lt_of_lt_of_le (by have := World.block_lt_of_cell? _ _ hw316_0; first | rwa [add_block] at this | exact this) GW317.out) | (rw [add_block]; exact Nat.ne_of_lt (Nat.lt_of_lt_of_le (by have := World.block_lt_of_cell? _ _ hw316_0; first | rwa [add_block] at this | exact this) GW317.out)) | (show (Addr.add _ _).block ≠ _; rw [add_block]; exact Nat.ne_of_lt (Nat.lt_of_lt_of_le (by have := World.block_lt_of_cell? _ _ hw316_0; first | rwa [add_block] at this | exact this) GW317.out)) | (dsimp only; exact Nat.ne_of_lt (Nat.lt_of_lt_of_le (by have := World.block_lt_of_cell? _ _ hw316_0; first | rwa [add_block] at this | exact this) GW317.out))) _).trans (((cell_far (p := ⟨gb317, _, none⟩) (by first | exact Nat.ne_of_lt (Nat.lt_of_lt_of_le (by have := World.block_lt_of_cell? _ _ hw316_0; first | rwa [add_block] at this | exact this) GW317.out) | (rw [add_block]; exact Nat.ne_of_lt (Nat.lt_of_lt_of_le (by have := World.block_lt_of_cell? _ _ hw316_0; first | rwa [add_block] at this | exact this) GW317.out)) | (show (Addr.add _ _).block ≠ _; rw [add_block]; exact Nat.ne_of_lt (Nat.lt_of_lt_of_le (by have := World.block_lt_of_cell? _ _ hw316_0; first | rwa [add_block] at this | exact this) GW317.out)) | (dsimp only; exact Nat.ne_of_lt (Nat.lt_of_lt_of_le (by have := World.block_lt_of_cell? _ _ hw316_0; first | rwa [add_block] at this | exact this) GW317.out))) _).trans (((cell_far (p := ⟨gb317, _, none⟩) (by first | exact Nat.ne_of_lt (Nat.lt_of_lt_of_le (by have := World.block_lt_of_cell? _ _ hw316_0; first | rwa [add_block] at this | exact this) GW317.out) | (rw [add_block]; exact Nat.ne_of_lt (Nat.lt_of_lt_of_le (by have := World.block_lt_of_cell? _ _ hw316_0; first | rwa [add_block] at this | exact this) GW317.out)) | (show (Addr.add _ _).block ≠ _; rw [add_block]; exact Nat.ne_of_lt (Nat.lt_of_lt_of_le (by have := World.block_lt_of_cell? _ _ hw316_0; first | rwa [add_block] at this | exact this) GW317.out)) | (dsimp only; exact Nat.ne_of_lt (Nat.lt_of_lt_of_le (by have := World.block_lt_of_cell? _ _ hw316_0; first | rwa [add_block] at this | exact this) GW317.out))) _).trans (hHeld.2.2.2.2.1)))))), ((cell_far (p := ⟨gb317, _, none⟩) (by first | exact Nat.ne_of_lt (Nat.lt_of_lt_of_le (by have := World.block_lt_of_cell? _ _ hw316_1; first | rwa [add_block] at this | exact this) GW317.out) | (rw [add_block]; exact Nat.ne_of_lt (Nat.lt_of_lt_of_le (by have := World.block_lt_of_cell? _ _ hw316_1; first | rwa [add_block] at this | exact this) GW317.out)) | (show (Addr.add _ _).block ≠ _; rw [add_block]; exact Nat.ne_of_lt (Nat.lt_of_lt_of_le (by have := World.block_lt_of_cell? _ _ hw316_1; first | rwa [add_block] at this | exact this) GW317.out)) | (dsimp only; exact Nat.ne_of_lt (Nat.lt_of_lt_of_le (by have := World.block_lt_of_cell? _ _ hw316_1; first | rwa [add_block] at this | exact this) GW317.out))) _).trans (((cell_far (p := ⟨gb317, _, none⟩) (by first | exact Nat.ne_of_lt (Nat.lt_of_lt_of_le (by have := World.block_lt_of_cell? _ _ hw316_1; first | rwa [add_block] at this | exact this) GW317.out) | (rw [add_block]; exact Nat.ne_of_lt (Nat.lt_of_lt_of_le (by have := World.block_lt_of_cell? _ _ hw316_1; first | rwa [add_block] at this | exact this) GW317.out)) | (show (Addr.add _ _).block ≠ _; rw [add_block]; exact Nat.ne_of_lt (Nat.lt_of_lt_of_le (by have := World.block_lt_of_cell? _ _ hw316_1; first | rwa [add_block] at this | exact this) GW317.out)) | (dsimp only; exact Nat.ne_of_lt (Nat.lt_of_lt_of_le (by have := World.block_lt_of_cell? _ _ hw316_1; first | rwa [add_block] at this | exact this) GW317.out))) _).trans (((cell_far (p := ⟨gb317, _, none⟩) (by first | exact Nat.ne_of_lt (Nat.lt_of_lt_of_le (by have := World.block_lt_of_cell? _ _ hw316_1; first | rwa [add_block] at this | exact this) GW317.out) | (rw [add_block]; exact Nat.ne_of_lt (Nat.lt_of_lt_of_le (by have := World.block_lt_of_cell? _ _ hw316_1; first | rwa [add_block] at this | exact this) GW317.out)) | (show (Addr.add _ _).block ≠ _; rw [add_block]; exact Nat.ne_of_lt (Nat.lt_of_lt_of_le (by have := World.block_lt_of_cell? _ _ hw316_1; first | rwa [add_block] at this | exact this) GW317.out)) | (dsimp only; exact Nat.ne_of_lt (Nat.lt_of_lt_of_le (by have := World.block_lt_of_cell? _ _ hw316_1; first | rwa [add_block] at this | exact this) GW317.out))) _).trans (hHeld.2.2.2.2.2.1)))))), ((cell_far (p := ⟨gb317, _, none⟩) (by first | exact Nat.ne_of_lt (Nat.lt_of_lt_of_le (by have := World.block_lt_of_cell? _ _ hw316_2; first | rwa [add_block] at this | exact this) GW317.out) | (rw [add_block]; exact Nat.ne_of_lt (Nat.lt_of_lt_of_le (by have := World.block_lt_of_cell? _ _ hw316_2; first | rwa [add_block] at this | exact this) GW317.out)) | (show (Addr.add _ _).block ≠ _; rw [add_block]; exact Nat.ne_of_lt (Nat.lt_of_lt_of_le (by have := World.block_lt_of_cell? _ _ hw316_2; first | rwa [add_block] at this | exact this) GW317.out)) | (dsimp only; exact Nat.ne_of_lt (Nat.lt_of_lt_of_le (by have := World.block_lt_of_cell? _ _ hw316_2; first | rwa [add_block] at this | exact this) GW317.out))) _).trans (((cell_far (p := ⟨gb317, _, none⟩) (by first | exact Nat.ne_of_lt (Nat.lt_of_lt_of_le (by have := World.block_lt_of_cell? _ _ hw316_2; first | rwa [add_block] at this | exact this) GW317.out) | (rw [add_block]; exact Nat.ne_of_lt (Nat.lt_of_lt_of_le (by have := World.block_lt_of_cell? _ _ hw316_2; first | rwa [add_block] at this | exact this) GW317.out)) | (show (Addr.add _ _).block ≠ _; rw [add_block]; exact Nat.ne_of_lt (Nat.lt_of_lt_of_le (by have := World.block_lt_of_cell? _ _ hw316_2; first | rwa [add_block] at this | exact this) GW317.out)) | (dsimp only; exact Nat.ne_of_lt (Nat.lt_of_lt_of_le (by have := World.block_lt_of_cell? _ _ hw316_2; first | rwa [add_block] at this | exact this) GW317.out))) _).trans (((cell_far (p := ⟨gb317, _, none⟩) (by first | exact Nat.ne_of_lt (Nat.lt_of_lt_of_le (by have := World.block_lt_of_cell? _ _ hw316_2; first | rwa [add_block] at this | exact this) GW317.out) | (rw [add_block]; exact Nat.ne_of_lt (Nat.lt_of_lt_of_le (by have := World.block_lt_of_cell? _ _ hw316_2; first | rwa [add_block] at this | exact this) GW317.out)) | (show (Addr.add _ _).block ≠ _; rw [add_block]; exact Nat.ne_of_lt (Nat.lt_of_lt_of_le (by have := World.block_lt_of_cell? _ _ hw316_2; first | rwa [add_block] at this | exact this) GW317.out)) | (dsimp only; exact Nat.ne_of_lt (Nat.lt_of_lt_of_le (by have := World.block_lt_of_cell? _ _ hw316_2; first | rwa [add_block] at this | exact this) GW317.out))) _).trans (hHeld.2.2.2.2.2.2))))))⟩ (fun hHeld => ?_)
        clear hK K
        refine done_ (done_of HT_.out (by kernel_rfl)) ?_
        try go_wp2
        have n0_ : Aside0 (Kd.R k52 52 (((w21.setCell ⟨gb317, 0, none⟩ (.string ((rd_T52 l0_1 t315).f0))).setCell ⟨gb317, 1, none⟩ (.int .i64 ((rd_T52 l0_1 t315).f1))).setCell ⟨gb317, 2, none⟩ (.slice A316_2 ((rd_T52 l0_1 t315).f2).length c316_2)) w.heap.size (fun k_ => k_ ≠ gb317) u314001 x314001_1) := ⟨by (with_reducible repeat (first | apply Kd.R_alloc | apply Kd.R_drewN | apply Kd.R_drew)); exact Kd.R_mono (Kd.R_far (p := ⟨gb317, 2, none⟩) (Kd.R_far (p := ⟨gb317, 1, none⟩) (Kd.R_far (p := ⟨gb317, 0, none⟩) (Kd.R_mono HO_314001.out (fun k_ hk => (⟨hk, hk⟩ : _ ∧ k_ ≠ gb317))) (fun _ hk => hk.2) (.string ((rd_T52 l0_1 t315).f0))) (fun _ hk => hk.2) (.int .i64 ((rd_T52 l0_1 t315).f1))) (fun _ hk => hk.2) (.slice A316_2 ((rd_T52 l0_1 t315).f2).length c316_2)) (fun _ hk => hk.1)⟩
        have n1_ : Aside0 ((((w21.setCell ⟨gb317, 0, none⟩ (.string ((rd_T52 l0_1 t315).f0))).setCell ⟨gb317, 1, none⟩ (.int .i64 ((rd_T52 l0_1 t315).f1))).setCell ⟨gb317, 2, none⟩ (.slice A316_2 ((rd_T52 l0_1 t315).f2).length c316_2)).heap[gb311]? = some (.cells #[.int .i64 a0_0, .slice (some ad316) l0_1.length c0_1] 24 (0, 0))) := ⟨by (with_reducible repeat (first | refine blk_drewN ?_ _ | refine blk_drew ?_ | refine blk_alloc ?_ _)); refine blk_far ?_ NB311_317.out _; (with_reducible repeat (first | refine blk_drewN ?_ _ | refine blk_drew ?_ | refine blk_alloc ?_ _)); refine blk_far ?_ NB311_317.out _; (with_reducible repeat (first | refine blk_drewN ?_ _ | refine blk_drew ?_ | refine blk_alloc ?_ _)); refine blk_far ?_ NB311_317.out _; (with_reducible repeat (first | refine blk_drewN ?_ _ | refine blk_drew ?_ | refine blk_alloc ?_ _)); exact BK311.out⟩
        have n2_ : Aside0 ((((w21.setCell ⟨gb317, 0, none⟩ (.string ((rd_T52 l0_1 t315).f0))).setCell ⟨gb317, 1, none⟩ (.int .i64 ((rd_T52 l0_1 t315).f1))).setCell ⟨gb317, 2, none⟩ (.slice A316_2 ((rd_T52 l0_1 t315).f2).length c316_2)).heap[gb312]? = some (.cells #[.int .i64 0, .slice none 0 0] 24 (0, 0))) := ⟨by (with_reducible repeat (first | refine blk_drewN ?_ _ | refine blk_drew ?_ | refine blk_alloc ?_ _)); refine blk_far ?_ NB312_317.out _; (with_reducible repeat (first | refine blk_drewN ?_ _ | refine blk_drew ?_ | refine blk_alloc ?_ _)); refine blk_far ?_ NB312_317.out _; (with_reducible repeat (first | refine blk_drewN ?_ _ | refine blk_drew ?_ | refine blk_alloc ?_ _)); refine blk_far ?_ NB312_317.out _; (with_reducible repeat (first | refine blk_drewN ?_ _ | refine blk_drew ?_ | refine blk_alloc ?_ _)); exact BK312.out⟩
        have n3_ : Aside0 ((((w21.setCell ⟨gb317, 0, none⟩ (.string ((rd_T52 l0_1 t315).f0))).setCell ⟨gb317, 1, none⟩ (.int .i64 ((rd_T52 l0_1 t315).f1))).setCell ⟨gb317, 2, none⟩ (.slice A316_2 ((rd_T52 l0_1 t315).f2).length c316_2)).heap[gb313]? = some (.cells #[.int .i64 a0_0, u314001] 24 (0, 0))) := ⟨by (with_reducible repeat (first | refine blk_drewN ?_ _ | refine blk_drew ?_ | refine blk_alloc ?_ _)); refine blk_far ?_ NB313_317.out _; (with_reducible repeat (first | refine blk_drewN ?_ _ | refine blk_drew ?_ | refine blk_alloc ?_ _)); refine blk_far ?_ NB313_317.out _; (with_reducible repeat (first | refine blk_drewN ?_ _ | refine blk_drew ?_ | refine blk_alloc ?_ _)); refine blk_far ?_ NB313_317.out _; (with_reducible repeat (first | refine blk_drewN ?_ _ | refine blk_drew ?_ | refine blk_alloc ?_ _)); exact BK313.out⟩
        have n4_ : Aside0 ((((w21.setCell ⟨gb317, 0, none⟩ (.string ((rd_T52 l0_1 t315).f0))).setCell ⟨gb317, 1, none⟩ (.int .i64 ((rd_T52 l0_1 t315).f1))).setCell ⟨gb317, 2, none⟩ (.slice A316_2 ((rd_T52 l0_1 t315).f2).length c316_2)).heap[gb317]? = some (.cells #[.string ((rd_T52 l0_1 t315).f0), .int .i64 ((rd_T52 l0_1 t315).f1), .slice A316_2 ((rd_T52 l0_1 t315).f2).length c316_2] 52 (0, 0))) := ⟨by (with_reducible repeat (first | refine blk_drewN ?_ _ | refine blk_drew ?_ | refine blk_alloc ?_ _)); refine blk_put (cs := #[.string ((rd_T52 l0_1 t315).f0), .int .i64 ((rd_T52 l0_1 t315).f1), .slice none 0 0]) ?_ 2 _ rfl; (with_reducible repeat (first | refine blk_drewN ?_ _ | refine blk_drew ?_ | refine blk_alloc ?_ _)); refine blk_put (cs := #[.string ((rd_T52 l0_1 t315).f0), .int .i64 0, .slice none 0 0]) ?_ 1 _ rfl; (with_reducible repeat (first | refine blk_drewN ?_ _ | refine blk_drew ?_ | refine blk_alloc ?_ _)); refine blk_put (cs := #[.string (⟨#[]⟩ : ByteArray), .int .i64 0, .slice none 0 0]) ?_ 0 _ rfl; (with_reducible repeat (first | refine blk_drewN ?_ _ | refine blk_drew ?_ | refine blk_alloc ?_ _)); exact BK317.out⟩
        have n5_ : Aside0 (Below w.heap.size w (((w21.setCell ⟨gb317, 0, none⟩ (.string ((rd_T52 l0_1 t315).f0))).setCell ⟨gb317, 1, none⟩ (.int .i64 ((rd_T52 l0_1 t315).f1))).setCell ⟨gb317, 2, none⟩ (.slice A316_2 ((rd_T52 l0_1 t315).f2).length c316_2))) := ⟨bel⟩
        (try clear HO_314001)
        (try clear BK311)
        (try clear BK312)
        (try clear BK313)
        (try clear BK317)
        (try clear HB)
        generalize (((w21.setCell ⟨gb317, 0, none⟩ (.string ((rd_T52 l0_1 t315).f0))).setCell ⟨gb317, 1, none⟩ (.int .i64 ((rd_T52 l0_1 t315).f1))).setCell ⟨gb317, 2, none⟩ (.slice A316_2 ((rd_T52 l0_1 t315).f2).length c316_2)) = w25 at n0_ n1_ n2_ n3_ n4_ n5_ ⊢
        have HO_314001 := n0_
        have BK311 := n1_
        have BK312 := n2_
        have BK313 := n3_
        have BK317 := n4_
        have HB := n5_
        clear n0_ n1_ n2_ n3_ n4_ n5_
        replace HO_314001 := Aside0.mk (Kd.R_drew HO_314001.out)
        replace BK311 := Aside0.mk (blk_drew BK311.out)
        replace BK312 := Aside0.mk (blk_drew BK312.out)
        replace BK313 := Aside0.mk (blk_drew BK313.out)
        replace BK317 := Aside0.mk (blk_drew BK317.out)
        replace HB := Aside0.mk (below_drew1 HB.out)
        refine start_ (n := 14) (S := fun w' => w'.cell? ⟨gb313, 0, none⟩ = some (.int .i64 a0_0) ∧ w'.cell? ⟨gb313, 1, none⟩ = some (u314001) ∧ w'.cell? ⟨gb317, 0, none⟩ = some (.string ((rd_T52 l0_1 t315).f0)) ∧ w'.cell? ⟨gb317, 1, none⟩ = some (.int .i64 ((rd_T52 l0_1 t315).f1)) ∧ w'.cell? ⟨gb317, 2, none⟩ = some (.slice A316_2 ((rd_T52 l0_1 t315).f2).length c316_2)) (ds := [13]) #[false, false, false, false, false, false, false, false, false, false, false, false, false, false] (by kernel_rfl) rfl rfl ⟨(blk_cell BK313.out 0).trans rfl, (blk_cell BK313.out 1).trans rfl, (blk_cell BK317.out 0).trans rfl, (blk_cell BK317.out 1).trans rfl, (blk_cell BK317.out 2).trans rfl⟩ (fun hHeld => ?_); refine with_tabW paraphrastref01_Keep.tab6 paraphrastref01_Keep.bits6 (fun HT_ HW_ => ?_)
        generalize w25.drew = w26 at HO_314001 BK311 BK312 BK313 BK317 HB hHeld ⊢
        refine sPu 0 (some 28) ?_
        refine sPu 2 (some 30) ?_
        refine sPu 4 (some 32) ?_
        refine sPu 6 (some 34) ?_
        refine sTk 1 (some 29) ?_
        refine sTk 3 (some 31) ?_
        refine sTk 5 (some 33) ?_
        refine sTk 7 (some 35) ?_
        refine sOn 8 (some 36) (fun K hK => ?_)
        refine goes_ Tryz.func53 (by kernel_rfl) rfl #[.slice A316_2 ((rd_T52 l0_1 t315).f2).length c316_2] (by rfl) rfl rfl (by (try simp only [List.map_toArray, List.map_cons, List.map_nil]); first | done | rfl | (simp only [List.length_drop, List.length_take]; rfl)) ?_
        with_reducible refine (paraphrastref01_copied.calls k1 _ _ ((rd_T52 l0_1 t315).f2) t318 _ ?side1 ?side2 A16.out).mono ?_
        (case side1 => exact cS (Kd.C_below HR316_2.out HB.out))
        (case side2 => exact HC316_2.out)
        rintro e w27 ⟨v319, rfl, ho0, hb⟩
        refine ⟨_, rfl, ?_⟩
        have HO320 := Aside0.mk (Kd.S_lower ho0 (below_size bel))
        replace HO_314001 := rE HO_314001 (Kd.S_base ho0) hb
        replace BK311 := blB BK311 hb
        replace BK312 := blB BK312 hb
        replace BK313 := blB BK313 hb
        replace BK317 := blB BK317 hb
        replace HB := Aside0.mk (below_step bel hb)
        (try clear hb)
        (try clear hb2)
        (try clear hk)
        (try clear hi)
        (try clear ho0)
        obtain ⟨Ao28, co28, eo28⟩ := Kd.S_slice HO320.out
        (first | subst eo28 | (injection eo28 with f1_ f2_ f3_; have f4_ := f1_.symm; have f5_ := f3_.symm; clear f1_ f2_ f3_; subst f4_; subst f5_))
        refine hK.out _ _ ⟨(blk_cell BK313.out 0).trans rfl, (blk_cell BK313.out 1).trans rfl, (blk_cell BK317.out 0).trans rfl, (blk_cell BK317.out 1).trans rfl, (blk_cell BK317.out 2).trans rfl⟩ (fun hHeld => ?_)
        clear hK K
        refine norm_ (a' := ?_) ?_ ?_
        rotate_left
        ·show Act.put _ (some 36) _ = _
         simp only [Act.put, List.setIfInBounds_toArray, List.set_cons_zero, List.set_cons_succ, i64_w, i32_w]
         rfl
        refine sPu 9 (some 37) ?_
        refine sOn 10 (some 38) (fun K hK => ?_)
        refine value_ (w1 := ?_) (v := ?_) (by rfl) rfl ?_ ?_
        rotate_left 2
        ·go_simp
         constructor
         ·rfl
         ·rfl
        refine hK.out _ _ ⟨(blk_cell (blk_alloc BK313.out _) 0).trans rfl, (blk_cell (blk_alloc BK313.out _) 1).trans rfl, (blk_cell (blk_alloc BK317.out _) 0).trans rfl, (blk_cell (blk_alloc BK317.out _) 1).trans rfl, (blk_cell (blk_alloc BK317.out _) 2).trans rfl⟩ (fun hHeld => ?_)
        clear hK K
        refine norm_ (a' := ?_) ?_ ?_
        rotate_left
        ·show Act.put _ (some 38) _ = _
         simp only [Act.put, List.setIfInBounds_toArray, List.set_cons_zero, List.set_cons_succ, i64_w, i32_w]
         rfl
        refine sOn 11 (some 39) (fun K hK => ?_)
        refine Kd.R_append_step k52 (w0 := w) w.heap.size (by rfl) (.tmp 29) (.tmp 38) 22 52 (.agg #[(.string ⟨#[]⟩), (.int .i64 0), (.slice none 0 0)]) 48 rfl Tryz.underlying22 info52 rfl (by decide) (by omega) u314001 x314001_1 (⟨(rd_T52 l0_1 t315).f0, (rd_T52 l0_1 t315).f1, t318⟩ : S52) [.string ((rd_T52 l0_1 t315).f0), .int .i64 ((rd_T52 l0_1 t315).f1), .slice Ao28 t318.length co28] (fun k_ => k_ ≠ gb317) (fun k_ => ((fun k_ => k_ ≠ gb317)) k_ ∧ some k_ ≠ (u314001 : Value).ownBlock) rfl rfl ?aP (fun _ hk => hk) ?aF ?aO ?aB ?aS ?aL ?_
        (case aP => exact k52_mkM _ _ _ (⟨(rd_T52 l0_1 t315).f0, (rd_T52 l0_1 t315).f1, t318⟩ : S52) (Kd.R_mono (Kd.R_types (Kd.R_apart' ((Kd.S_R HO320.out)) (Kd.R_typed HO_314001.out) (by decide)) BK317.out (by decide)) (fun k_ hk => ⟨hk.2, hk.1.2⟩)))
        (case aB => exact bel)
        (case aF => exact (fun k_ hk => Kd.freshB (g := gb317) (o := .cells #[.string ((rd_T52 l0_1 t315).f0), .int .i64 ((rd_T52 l0_1 t315).f1), .slice A316_2 ((rd_T52 l0_1 t315).f2).length c316_2] 52 (0, 0)) (bk BK317) k_ hk))
        (case aO => exact (by (with_reducible repeat (first | apply Kd.R_alloc | apply Kd.R_drewN | apply Kd.R_drew)); exact Kd.R_mono HO_314001.out (fun _ hk => hk.1)))
        (case aS => exact (below_size bel))
        (case aL => have := LMc17.out; omega)
        intro v322 w29 ho hb hg hat
        rw [← Ny321.out] at ho
        have HO323 := Aside0.mk (ho)
        replace BK311 := Aside0.mk (blk_grown (g := gb311) (o := .cells #[.int .i64 a0_0, .slice (some ad316) l0_1.length c0_1] 24 (0, 0)) (bk BK311) hg (Kd.R_ne HO_314001.out BK311.out (by decide)))
        replace BK312 := Aside0.mk (blk_grown (g := gb312) (o := .cells #[.int .i64 0, .slice none 0 0] 24 (0, 0)) (bk BK312) hg (Kd.R_ne HO_314001.out BK312.out (by decide)))
        replace BK313 := Aside0.mk (blk_grown (g := gb313) (o := .cells #[.int .i64 a0_0, u314001] 24 (0, 0)) (bk BK313) hg (Kd.R_ne HO_314001.out BK313.out (by decide)))
        replace BK317 := Aside0.mk (blk_grown (g := gb317) (o := .cells #[.string ((rd_T52 l0_1 t315).f0), .int .i64 ((rd_T52 l0_1 t315).f1), .slice A316_2 ((rd_T52 l0_1 t315).f2).length c316_2] 52 (0, 0)) (bk BK317) hg (Kd.R_away HO_314001.out (fun _ hk => hk.1)))
        replace HB := Aside0.mk (hb)
        clear HO_314001 HO320
        clear ho hb hg hat
        obtain ⟨Ao30, co30, eo30⟩ := Kd.R_slice HO323.out
        (first | subst eo30 | (injection eo30 with f1_ f2_ f3_; have f4_ := f1_.symm; have f5_ := f3_.symm; clear f1_ f2_ f3_; subst f4_; subst f5_))
        refine hK.out _ _ ⟨(blk_cell BK313.out 0).trans rfl, (blk_cell BK313.out 1).trans rfl, (blk_cell BK317.out 0).trans rfl, (blk_cell BK317.out 1).trans rfl, (blk_cell BK317.out 2).trans rfl⟩ (fun hHeld => ?_)
        clear hK K
        refine norm_ (a' := ?_) ?_ ?_
        rotate_left
        ·show Act.put _ (some 39) _ = _
         simp only [Act.put, List.setIfInBounds_toArray, List.set_cons_zero, List.set_cons_succ, i64_w, i32_w]
         rfl
        refine sPu 12 (some 40) ?_
        refine last_ (i := 13) (N := none) #[true, true, true, true, true, true, true, true, true, true, true, true, true, true] rfl rfl (one_of HT_.out (by kernel_rfl)) (by decide) (fun K hK => ?_)
        have hs31 : w29.cell? ⟨gb313, 1, none⟩ = some (u314001) := (blk_cell BK313.out 1).trans rfl
        have hfs31 := blk_frozen BK313.out 1
        have hns31_0 := NB311_313.out
        have hns31_1 := NB312_313.out
        have hns31_3 := NB317_313.out
        have hms31_0 := NB313_311.out
        have hms31_1 := NB313_312.out
        have hms31_3 := NB313_317.out
        refine skip_ (w1 := ?_) (by rfl) rfl ?_ ?_
        rotate_left
        ·go_simp
         rfl
        refine hK.out _ _ ?_
        clear hK K
        refine done_ (done_of HT_.out (by kernel_rfl)) ?_
        try go_wp2
        go_roundg k1
        case measure => have := HK1.out; omega
        case rel => exact ⟨(wrap64 (x6_1 + 1)), (y321), (.slice Ao30 y321.length co30), eS, H', ⟨by have := HK1.out; omega⟩, ⟨by (with_reducible repeat (first | apply Kd.R_alloc | apply Kd.R_drewN | apply Kd.R_drew)); exact Kd.R_mono (Kd.R_far (p := ⟨gb313, 1, none⟩) (Kd.R_types HO323.out BK313.out (by decide)) (fun _ hk => hk.2) (.slice Ao30 y321.length co30)) (fun _ hk => trivial)⟩, ⟨by (with_reducible repeat (first | refine blk_drewN ?_ _ | refine blk_drew ?_ | refine blk_alloc ?_ _)); refine blk_far ?_ NB311_313.out _; (with_reducible repeat (first | refine blk_drewN ?_ _ | refine blk_drew ?_ | refine blk_alloc ?_ _)); exact BK311.out⟩, ⟨by (with_reducible repeat (first | refine blk_drewN ?_ _ | refine blk_drew ?_ | refine blk_alloc ?_ _)); refine blk_far ?_ NB312_313.out _; (with_reducible repeat (first | refine blk_drewN ?_ _ | refine blk_drew ?_ | refine blk_alloc ?_ _)); exact BK312.out⟩, ⟨by (with_reducible repeat (first | refine blk_drewN ?_ _ | refine blk_drew ?_ | refine blk_alloc ?_ _)); refine blk_put (cs := #[.int .i64 a0_0, u314001]) ?_ 1 _ rfl; (with_reducible repeat (first | refine blk_drewN ?_ _ | refine blk_drew ?_ | refine blk_alloc ?_ _)); exact BK313.out⟩, ⟨bel⟩⟩
       ·rw [if_neg c17] at H
        exact absurd H (by simp)
      ·rw [if_neg c15] at H
       exact absurd H (by simp)
     ·rw [if_neg c14] at H
      exact absurd H (by simp)
    ·rw [if_neg c12] at H
     exact absurd H (by simp)
   ·rw [if_neg c11] at H
    have c11b0 : decide (x6_1 < (l1.length : Int)) = false := decide_eq_false c11
    clear c11
    simp only [Option.some.injEq, Prod.mk.injEq] at H
    obtain ⟨rfl, rfl⟩ := H
    have hnb32 := NB313_311.out
    have hnc32 := NB311_313.out
    have hnb33 := NB313_312.out
    have hnc33 := NB312_313.out
    obtain ⟨hcz34_0, hcz34_1, hfz34_0, hfz34_1⟩ := bq2 BK313
    have hnb35 := NB312_311.out
    have hnc35 := NB311_312.out
    obtain ⟨hcz36_0, hcz36_1, hfz36_0, hfz36_1⟩ := bq2 BK312
    obtain ⟨Ao37, co37, eo37⟩ := Kd.R_slice HO_314001.out
    subst eo37
    go_wp2
    refine bodyPost_ret (results_cell_row rfl _ _ gb312 24 #[.int .i64 a0_0, .slice Ao37 x314001_1.length co37] (0, 0) _ rfl (by (with_reducible repeat (first | refine blk_drewN ?_ _ | refine blk_drew ?_ | refine blk_alloc ?_ _)); refine blk_put (cs := #[.int .i64 a0_0, .slice none 0 0]) ?_ 1 _ rfl; (with_reducible repeat (first | refine blk_drewN ?_ _ | refine blk_drew ?_ | refine blk_alloc ?_ _)); refine blk_put (cs := #[.int .i64 0, .slice none 0 0]) ?_ 0 _ rfl; (with_reducible repeat (first | refine blk_drewN ?_ _ | refine blk_drew ?_ | refine blk_alloc ?_ _)); exact BK312.out) Tryz.underlying24 rfl (by kernel_rfl)) rfl ?_
    exact ⟨_, eN, by (with_reducible repeat (first | apply Kd.R_alloc | apply Kd.R_drewN | apply Kd.R_drew)); exact Kd.R_mono (Kd.R_far (p := ⟨gb312, 1, none⟩) (Kd.R_far (p := ⟨gb312, 0, none⟩) (Kd.R_types HO_314001.out BK312.out (by decide)) (fun _ hk => hk.2) (.int .i64 a0_0)) (fun _ hk => hk.2) (.slice Ao37 x314001_1.length co37)) (fun _ hk => trivial), bel⟩
end Go.Proofs.YtfmpaofbnjlniaaGreatDoor.F
namespace Go.Proofs.YtfmpaofbnjlniaaGreatDoor.F
open Go.RowKit Go.Proofs.YtfmpaofbnjlniaaGreatDoorW.PrintWords Go.Proofs.YtfmpaofbnjlniaaGreatDoorW.PrintLast Go.Proofs.YtfmpaofbnjlniaaGreatDoorW.PrintMore
attribute [local go_sem] max2_int min2_int max_two min_two max_three min_three max_four min_four
set_option linter.unusedVariables false
set_option linter.unusedSimpArgs false
/-! ### paraphrastref01_Made: function 19 -/
def paraphrastref01_Made.l0 : Nat → List (S96) → Int → Int → List (S52) → Option (Int × (List (S52)))
 | 0, _, _, _, _ => none
 | k + 1, x1, x6, x287000, x287001 => if x6 < (x1.length : Int) then (if 0 ≤ x6 then (if x287001.length < 2932031007402 then (paraphrastref01_Made.l0 k x1 (wrap64 (x6 + 1)) x287000 (x287001 ++ [(⟨(rd_T96 x1 x6).f0, (rd_T96 x1 x6).f1, ([] : List (List Int))⟩ : S52)])) else (none)) else (none)) else (some (x287000, x287001))
def paraphrastref01_Made.f (k : Nat) (a0 : Int) (l1 : List (S96)) : Option (Int × (List (S52))) := paraphrastref01_Made.l0 k l1 0 a0 ([] : List (S52))
def paraphrastref01_Made.T5 : Bool × List (List Nat × List Nat) := (true, [([], []), ([0], [0]), ([], []), ([], []), ([2, 3], [2, 3]), ([4], [4]), ([5], [5]), ([], []), ([], []), ([7, 8], [7, 8]), ([9], [9]), ([10], [10]), ([6, 11], [6, 11]), ([12], [12]), ([1, 13], [1, 13]), ([0, 1, 2, 3, 4, 5, 6, 7, 8, 9, 10, 11, 12, 13, 14], []), ([15, 14, 14, 0, 1, 2, 3, 4, 5, 6, 7, 8, 9, 10, 11, 12, 13, 14], [14, 15])])
def paraphrastref01_Made.B5 : List Nat := [0, 1, 0, 0, 12, 28, 60, 0, 0, 384, 896, 1920, 4092, 8188, 16383, 32767, 65535]
theorem paraphrastref01_Made.tab5 : rtab .any (opsOf Tryz.f19 5) = paraphrastref01_Made.T5 := by kernel_rfl
theorem paraphrastref01_Made.bits5 : waitsOk paraphrastref01_Made.T5.2 paraphrastref01_Made.B5 = true := by kernel_rfl
set_option maxHeartbeats 8000000 in
set_option maxRecDepth 100000 in
theorem paraphrastref01_Made.calls (k : Nat) (a0 : Int) (A1 : Option Addr) (c1 : Nat) (l1 : List (S96)) (r1 : Int) (r2 : List (S52)) (w : World) (hr1 : Kd.C k96 w A1 l1.length l1) (hc1 : l1.length ≤ c1) (h : paraphrastref01_Made.f k a0 l1 = some (r1, r2)) :
  Calls Tryz.prog 19 #[.int .i64 a0, .slice A1 l1.length c1] w fun e w' => ∃ v1_ : Value, e = .returned (.agg #[.int .i64 r1, v1_]) ∧ Kd.R k52 52 w' w.heap.size (fun _ => True) v1_ r2 ∧ Below w.heap.size w w' := by
 have hu24 := Tryz.underlying24
 have hu52 := Tryz.underlying52
 have HR1 := Aside0.mk hr1
 have HC1 := Aside0.mk hc1
 clear hr1 hc1
 have HB := Aside0.mk (Below.refl w.heap.size w)
 have H : (paraphrastref01_Made.l0 k l1 0 a0 ([] : List (S52))) = some (r1, r2) := h
 clear h
 have H' := Aside0.mk H
 clear H
 go_enter Tryz.func19, Tryz.ntmps19
 go_wp2_with (first | ((with_reducible refine gate_dst (N := 4) rfl ?_); refine box_event ?hg (N := 4) ?hd (cs := #[.int .i64 0, .slice none 0 0]) (t := 24) ?hr ?_; (case hd => rfl); (case hg => rfl); (case hr => first | (go_simp; done) | (go_simp; rfl)); intro gb285 hg w3 hbox hb; have BK285 := Aside0.mk (hbox); have GW285 := geB w hg; have GE285 := geB w hg; replace HB := Aside0.mk (below_step bel hb); clear hb hbox hg) | ((with_reducible refine gate_dst (N := 5) rfl ?_); refine box_event ?hg (N := 5) ?hd (cs := #[.int .i64 0, .slice none 0 0]) (t := 24) ?hr ?_; (case hd => rfl); (case hg => rfl); (case hr => first | (go_simp; done) | (go_simp; rfl)); intro gb286 hg w4 hbox hb; have BK286 := Aside0.mk (hbox); have GW286 := geB w hg; have GE286 := geB w hg; have NB285_286 := neL BK285 hg; have NB286_285 := neG BK285 hg; replace BK285 := blB BK285 hb; replace HB := Aside0.mk (below_step bel hb); clear hb hbox hg; have hnb5 := NB286_285.out; have hnc5 := NB285_286.out; obtain ⟨hcz6_0, hcz6_1, hfz6_0, hfz6_1⟩ := bq2 BK286))
 go_loopg [6] k (fun kq v6 w' => ∃ (x6_1 : Int) (x287001_1 : List (S52)) (u287001 : Value), v6 = .int .i64 x6_1 ∧ Aside0 (paraphrastref01_Made.l0 kq l1 x6_1 a0 x287001_1 = some (r1, r2)) ∧ Aside0 (kq ≤ k) ∧ Aside0 (Kd.R k52 52 w' w.heap.size (fun _ => True) u287001 x287001_1) ∧ Aside0 (w'.heap[gb285]? = some (.cells #[.int .i64 0, (.slice none 0 0)] 24 (0, 0))) ∧ Aside0 (w'.heap[gb286]? = some (.cells #[.int .i64 a0, u287001] 24 (0, 0))) ∧ Aside0 (Below w.heap.size w w'))
 case atStart => exact ⟨(0), (([] : List (S52))), (.slice none 0 0), eS, H', ⟨Nat.le_refl _⟩, ⟨by first | exact Kd.R_nil _ _ _ _ _ | exact Kd.N_nil _ _ _ _ _ | exact Kd.V_nil _ _ _ _ _ | exact Kd.Q_nil _ _ _ _ _ | exact Kd.S_nil _ _ _ _ _⟩, ⟨by (with_reducible repeat (first | refine blk_drewN ?_ _ | refine blk_drew ?_ | refine blk_alloc ?_ _)); refine blk_far ?_ NB285_286.out _; (with_reducible repeat (first | refine blk_drewN ?_ _ | refine blk_drew ?_ | refine blk_alloc ?_ _)); refine blk_far ?_ NB285_286.out _; (with_reducible repeat (first | refine blk_drewN ?_ _ | refine blk_drew ?_ | refine blk_alloc ?_ _)); exact BK285.out⟩, ⟨by (with_reducible repeat (first | refine blk_drewN ?_ _ | refine blk_drew ?_ | refine blk_alloc ?_ _)); refine blk_put (cs := #[.int .i64 a0, .slice none 0 0]) ?_ 1 _ rfl; (with_reducible repeat (first | refine blk_drewN ?_ _ | refine blk_drew ?_ | refine blk_alloc ?_ _)); refine blk_put (cs := #[.int .i64 0, .slice none 0 0]) ?_ 0 _ rfl; (with_reducible repeat (first | refine blk_drewN ?_ _ | refine blk_drew ?_ | refine blk_alloc ?_ _)); exact BK286.out⟩, ⟨bel⟩⟩
 case round =>
  clear H'
  (try clear c1); (try clear hcz6_0); (try clear hcz6_1); (try clear hfz6_0); (try clear hfz6_1)
  obtain ⟨x6_1, x287001_1, u287001, rfl, HA, HK1, HO_287001, BK285, BK286, HB⟩ := hrel
  cases gk with
  | zero => exact absurd HA.out (by simp [paraphrastref01_Made.l0])
  | succ k1 =>
   have H := HA.out
   clear HA
   simp only [paraphrastref01_Made.l0] at H
   by_cases c7 : x6_1 < (l1.length : Int)
   ·rw [if_pos c7] at H
    have c7b0 : decide (x6_1 < (l1.length : Int)) = true := decide_eq_true c7
    clear c7
    by_cases c8 : 0 ≤ x6_1
    ·rw [if_pos c8] at H
     have c8b0 : decide (0 ≤ x6_1) = true := decide_eq_true c8
     clear c8
     by_cases c9 : x287001_1.length < 2932031007402
     ·rw [if_pos c9] at H
      have LMc9 := Aside0.mk c9
      clear c9
      obtain ⟨y289, hy289⟩ : ∃ y_ : List (S52), y_ = (x287001_1 ++ [(⟨(rd_T96 l1 x6_1).f0, (rd_T96 l1 x6_1).f1, ([] : List (List Int))⟩ : S52)]) := ⟨_, rfl⟩
      replace H : (paraphrastref01_Made.l0 k1 l1 (wrap64 (x6_1 + 1)) a0 y289) = some (r1, r2) := by first | (rw [hy289]; with_reducible exact H) | (have H2_ := (Option.bind_some _ _).symm.trans H; rw [hy289]; with_reducible exact H2_) | (have H2_ := (Option.bind_some _ _).symm.trans H; with_reducible exact H2_) | with_reducible exact H | (rw [hy289]; exact H) | exact H
      have Ny289 := Aside0.mk hy289
      clear hy289
      have H' := Aside0.mk H
      clear H
      try go_wp2
      replace HO_287001 := Aside0.mk (Kd.R_drew HO_287001.out)
      replace BK285 := Aside0.mk (blk_drew BK285.out)
      replace BK286 := Aside0.mk (blk_drew BK286.out)
      replace HB := Aside0.mk (below_drew1 HB.out)
      have p287 : 0 ≤ (x6_1 : Int) := dtr
      have q287 : x6_1 < (l1.length : Int) := dtr
      obtain ⟨ad287, e287, hx287_0, hx287_1⟩ := at_T96 HR1.out x6_1 p287 q287
      have hw287_1 := hx287_1
      have hw287_0 := hx287_0
      cases e287
      replace hx287_0 := oc hx287_0
      replace hx287_1 := oc hx287_1
      replace p287 := eq_true p287
      replace q287 := eq_true q287
      have p288 : 0 ≤ (x6_1 : Int) := dtr
      have q288 : x6_1 < (l1.length : Int) := dtr
      obtain ⟨ad288, e288, hx288_0, hx288_1⟩ := at_T96 HR1.out x6_1 p288 q288
      have hw288_1 := hx288_1
      have hw288_0 := hx288_0
      obtain rfl : ad287 = ad288 := (by injection e288)
      replace hx288_0 := oc hx288_0
      replace hx288_1 := oc hx288_1
      replace p288 := eq_true p288
      replace q288 := eq_true q288
      refine start_ (n := 17) (S := fun w' => w'.cell? ⟨gb286, 0, none⟩ = some (.int .i64 a0) ∧ w'.cell? ⟨gb286, 1, none⟩ = some (u287001) ∧ w'.cell? (ad287.add ((x6_1).toNat * 2)) = some (.string ((rd_T96 l1 x6_1).f0)) ∧ w'.cell? ⟨(ad287.add ((x6_1).toNat * 2)).block, (ad287.add ((x6_1).toNat * 2)).off + 1, none⟩ = some (.int .i64 ((rd_T96 l1 x6_1).f1)) ∧ w'.cell? (ad287.add ((x6_1).toNat * 2)) = some (.string ((rd_T96 l1 x6_1).f0)) ∧ w'.cell? ⟨(ad287.add ((x6_1).toNat * 2)).block, (ad287.add ((x6_1).toNat * 2)).off + 1, none⟩ = some (.int .i64 ((rd_T96 l1 x6_1).f1))) (ds := [16]) #[false, false, false, false, false, false, false, false, false, false, false, false, false, false, false, false, false] (by kernel_rfl) rfl rfl ⟨(blk_cell BK286.out 0).trans rfl, (blk_cell BK286.out 1).trans rfl, (oc hw287_0), (oc hw287_1), (oc hw288_0), (oc hw288_1)⟩ (fun hHeld => ?_); refine with_tabW paraphrastref01_Made.tab5 paraphrastref01_Made.bits5 (fun HT_ HW_ => ?_)
      generalize wr.drew = w10 at HO_287001 BK285 BK286 HB hx287_0 hx287_1 hx288_0 hx288_1 hHeld ⊢
      refine sPu 0 (some 15) ?_
      refine sPu 2 (some 17) ?_
      refine sPu 3 (some 18) ?_
      refine sPu 4 (some 19) ?_
      refine sPu 5 (some 20) ?_
      refine sPu 7 (some 22) ?_
      refine sPu 8 (some 23) ?_
      refine sPu 9 (some 24) ?_
      refine sPu 10 (some 25) ?_
      refine sTk 1 (some 16) ?_
      refine sTk 6 (some 21) ?_
      refine sTk 11 (some 26) ?_
      refine sPu 12 (some 27) ?_
      refine sOn 13 (some 28) (fun K hK => ?_)
      refine value_ (w1 := ?_) (v := ?_) (by rfl) rfl ?_ ?_
      rotate_left 2
      ·go_simp
       constructor
       ·rfl
       ·rfl
      refine hK.out _ _ ⟨(blk_cell (blk_alloc BK286.out _) 0).trans rfl, (blk_cell (blk_alloc BK286.out _) 1).trans rfl, (World.cell?_alloc_lt _ _ _ (World.block_lt_of_cell? _ _ ((oc hw287_0)))).trans ((oc hw287_0)), (World.cell?_alloc_lt _ _ _ (World.block_lt_of_cell? _ _ ((oc hw287_1)))).trans ((oc hw287_1)), (World.cell?_alloc_lt _ _ _ (World.block_lt_of_cell? _ _ ((oc hw288_0)))).trans ((oc hw288_0)), (World.cell?_alloc_lt _ _ _ (World.block_lt_of_cell? _ _ ((oc hw288_1)))).trans ((oc hw288_1))⟩ (fun hHeld => ?_)
      clear hK K
      refine norm_ (a' := ?_) ?_ ?_
      rotate_left
      ·show Act.put _ (some 28) _ = _
       simp only [Act.put, List.setIfInBounds_toArray, List.set_cons_zero, List.set_cons_succ, i64_w, i32_w]
       rfl
      refine sOn 14 (some 29) (fun K hK => ?_)
      refine Kd.R_append_step k52 (w0 := w) w.heap.size (by rfl) (.tmp 16) (.tmp 28) 22 52 (.agg #[(.string ⟨#[]⟩), (.int .i64 0), (.slice none 0 0)]) 48 rfl Tryz.underlying22 info52 rfl (by decide) (by omega) u287001 x287001_1 (⟨(rd_T96 l1 x6_1).f0, (rd_T96 l1 x6_1).f1, ([] : List (List Int))⟩ : S52) [.string ((rd_T96 l1 x6_1).f0), .int .i64 ((rd_T96 l1 x6_1).f1), .slice none 0 0] (fun _ => True) (fun k_ => ((fun _ => True)) k_ ∧ some k_ ≠ (u287001 : Value).ownBlock) rfl rfl ?aP (fun _ hk => hk) ?aF ?aO ?aB ?aS ?aL ?_
      (case aP => exact k52_mkM _ _ _ (⟨(rd_T96 l1 x6_1).f0, (rd_T96 l1 x6_1).f1, ([] : List (List Int))⟩ : S52) (Kd.R_nil _ _ _ _ _))
      (case aB => exact bel)
      (case aF => exact (fun _ _ => trivial))
      (case aO => exact (tw HO_287001.out))
      (case aS => exact (below_size bel))
      (case aL => have := LMc9.out; omega)
      intro v290 w11 ho hb hg hat
      rw [← Ny289.out] at ho
      have HO291 := Aside0.mk (ho)
      replace BK285 := Aside0.mk (blk_grown (g := gb285) (o := .cells #[.int .i64 0, .slice none 0 0] 24 (0, 0)) (bk BK285) hg (Kd.R_ne HO_287001.out BK285.out (by decide)))
      replace BK286 := Aside0.mk (blk_grown (g := gb286) (o := .cells #[.int .i64 a0, u287001] 24 (0, 0)) (bk BK286) hg (Kd.R_ne HO_287001.out BK286.out (by decide)))
      replace HB := Aside0.mk (hb)
      clear HO_287001
      clear ho hb hg hat
      obtain ⟨Ao12, co12, eo12⟩ := Kd.R_slice HO291.out
      (first | subst eo12 | (injection eo12 with f1_ f2_ f3_; have f4_ := f1_.symm; have f5_ := f3_.symm; clear f1_ f2_ f3_; subst f4_; subst f5_))
      refine hK.out _ _ ⟨(blk_cell BK286.out 0).trans rfl, (blk_cell BK286.out 1).trans rfl, (oc hw287_0), (oc hw287_1), (oc hw288_0), (oc hw288_1)⟩ (fun hHeld => ?_)
      clear hK K
      refine norm_ (a' := ?_) ?_ ?_
      rotate_left
      ·show Act.put _ (some 29) _ = _
       simp only [Act.put, List.setIfInBounds_toArray, List.set_cons_zero, List.set_cons_succ, i64_w, i32_w]
       rfl
      refine sPu 15 (some 30) ?_
      refine last_ (i := 16) (N := none) #[true, true, true, true, true, true, true, true, true, true, true, true, true, true, true, true, true] rfl rfl (one_of HT_.out (by kernel_rfl)) (by decide) (fun K hK => ?_)
      have hs13 : w11.cell? ⟨gb286, 1, none⟩ = some (u287001) := (blk_cell BK286.out 1).trans rfl
      have hfs13 := blk_frozen BK286.out 1
      have hns13_0 := NB285_286.out
      have hms13_0 := NB286_285.out
      refine skip_ (w1 := ?_) (by rfl) rfl ?_ ?_
      rotate_left
      ·go_simp
       rfl
      refine hK.out _ _ ?_
      clear hK K
      refine done_ (done_of HT_.out (by kernel_rfl)) ?_
      try go_wp2
      go_roundg k1
      case measure => have := HK1.out; omega
      case rel => exact ⟨(wrap64 (x6_1 + 1)), (y289), (.slice Ao12 y289.length co12), eS, H', ⟨by have := HK1.out; omega⟩, ⟨by (with_reducible repeat (first | apply Kd.R_alloc | apply Kd.R_drewN | apply Kd.R_drew)); exact Kd.R_mono (Kd.R_far (p := ⟨gb286, 1, none⟩) (Kd.R_types HO291.out BK286.out (by decide)) (fun _ hk => hk.2) (.slice Ao12 y289.length co12)) (fun _ hk => trivial)⟩, ⟨by (with_reducible repeat (first | refine blk_drewN ?_ _ | refine blk_drew ?_ | refine blk_alloc ?_ _)); refine blk_far ?_ NB285_286.out _; (with_reducible repeat (first | refine blk_drewN ?_ _ | refine blk_drew ?_ | refine blk_alloc ?_ _)); exact BK285.out⟩, ⟨by (with_reducible repeat (first | refine blk_drewN ?_ _ | refine blk_drew ?_ | refine blk_alloc ?_ _)); refine blk_put (cs := #[.int .i64 a0, u287001]) ?_ 1 _ rfl; (with_reducible repeat (first | refine blk_drewN ?_ _ | refine blk_drew ?_ | refine blk_alloc ?_ _)); exact BK286.out⟩, ⟨bel⟩⟩
     ·rw [if_neg c9] at H
      exact absurd H (by simp)
    ·rw [if_neg c8] at H
     exact absurd H (by simp)
   ·rw [if_neg c7] at H
    have c7b0 : decide (x6_1 < (l1.length : Int)) = false := decide_eq_false c7
    clear c7
    simp only [Option.some.injEq, Prod.mk.injEq] at H
    obtain ⟨rfl, rfl⟩ := H
    have hnb14 := NB286_285.out
    have hnc14 := NB285_286.out
    obtain ⟨hcz15_0, hcz15_1, hfz15_0, hfz15_1⟩ := bq2 BK286
    obtain ⟨hcz16_0, hcz16_1, hfz16_0, hfz16_1⟩ := bq2 BK285
    obtain ⟨Ao17, co17, eo17⟩ := Kd.R_slice HO_287001.out
    subst eo17
    go_wp2
    refine bodyPost_ret (results_cell_row rfl _ _ gb285 24 #[.int .i64 a0, .slice Ao17 x287001_1.length co17] (0, 0) _ rfl (by (with_reducible repeat (first | refine blk_drewN ?_ _ | refine blk_drew ?_ | refine blk_alloc ?_ _)); refine blk_put (cs := #[.int .i64 a0, .slice none 0 0]) ?_ 1 _ rfl; (with_reducible repeat (first | refine blk_drewN ?_ _ | refine blk_drew ?_ | refine blk_alloc ?_ _)); refine blk_put (cs := #[.int .i64 0, .slice none 0 0]) ?_ 0 _ rfl; (with_reducible repeat (first | refine blk_drewN ?_ _ | refine blk_drew ?_ | refine blk_alloc ?_ _)); exact BK285.out) Tryz.underlying24 rfl (by kernel_rfl)) rfl ?_
    exact ⟨_, eN, by (with_reducible repeat (first | apply Kd.R_alloc | apply Kd.R_drewN | apply Kd.R_drew)); exact Kd.R_mono (Kd.R_far (p := ⟨gb285, 1, none⟩) (Kd.R_far (p := ⟨gb285, 0, none⟩) (Kd.R_types HO_287001.out BK285.out (by decide)) (fun _ hk => hk.2) (.int .i64 a0)) (fun _ hk => hk.2) (.slice Ao17 x287001_1.length co17)) (fun _ hk => trivial), bel⟩
end Go.Proofs.YtfmpaofbnjlniaaGreatDoor.F
namespace Go.Proofs.YtfmpaofbnjlniaaGreatDoor.F
open Go.RowKit Go.Proofs.YtfmpaofbnjlniaaGreatDoorW.PrintWords Go.Proofs.YtfmpaofbnjlniaaGreatDoorW.PrintLast Go.Proofs.YtfmpaofbnjlniaaGreatDoorW.PrintMore
attribute [local go_sem] max2_int min2_int max_two min_two max_three min_three max_four min_four
set_option linter.unusedVariables false
set_option linter.unusedSimpArgs false
/-! ### shape_Make: function 18 -/
def shape_Make.l0 : Nat → List (S96) → Int → Int → Int → List (S52) → Option (Int × (List (S52)) × Int)
 | 0, _, _, _, _, _ => none
 | k + 1, x11, x12, x13, x279000, x279001 => if x13 < x12 then (if 0 ≤ x13 then (if x13 < (x11.length : Int) then (if x279001.length < 2932031007402 then (shape_Make.l0 k x11 x12 (wrap64 (x13 + 1)) x279000 (x279001 ++ [(⟨(rd_T96 x11 x13).f0, (rd_T96 x11 x13).f1, ([] : List (List Int))⟩ : S52)])) else (none)) else (none)) else (none)) else ((shape_Valid.f k x279000 x279001).bind fun t284 => (if t284 = true then (some (x279000, x279001, 0)) else (some (0, ([] : List (S52)), 1))))
def shape_Make.f (k : Nat) (a0 : Int) (l1 : List (S96)) : Option (Int × (List (S52)) × Int) := shape_Make.l0 k l1 (l1.length : Int) 0 a0 ([] : List (S52))
set_option maxHeartbeats 8000000 in
set_option maxRecDepth 100000 in
theorem shape_Make.calls (k : Nat) (a0 : Int) (A1 : Option Addr) (c1 : Nat) (l1 : List (S96)) (r1 : Int) (r2 : List (S52)) (r3 : Int) (w : World) (hr1 : Kd.C k96 w A1 l1.length l1) (hc1 : l1.length ≤ c1) (h : shape_Make.f k a0 l1 = some (r1, r2, r3)) :
  Calls Tryz.prog 18 #[.int .i64 a0, .slice A1 l1.length c1] w fun e w' => ∃ v1_ : Value, e = .returned (.tuple #[.agg #[.int .i64 r1, v1_], .int .i64 r3]) ∧ Kd.R k52 52 w' w.heap.size (fun _ => True) v1_ r2 ∧ Below w.heap.size w w' := by
 have hu24 := Tryz.underlying24
 have hu96 := Tryz.underlying96
 have hu52 := Tryz.underlying52
 have HR1 := Aside0.mk hr1
 have HC1 := Aside0.mk hc1
 clear hr1 hc1
 have HB := Aside0.mk (Below.refl w.heap.size w)
 have H : (shape_Make.l0 k l1 (l1.length : Int) 0 a0 ([] : List (S52))) = some (r1, r2, r3) := h
 clear h
 have H' := Aside0.mk H
 clear H
 go_enter Tryz.func18, Tryz.ntmps18
 go_wp2_with (first | ((with_reducible refine gate_dst (N := 4) rfl ?_); refine box_event ?hg (N := 4) ?hd (cs := #[.int .i64 0, .slice none 0 0]) (t := 24) ?hr ?_; (case hd => rfl); (case hg => rfl); (case hr => first | (go_simp; done) | (go_simp; rfl)); intro gb277 hg w3 hbox hb; have BK277 := Aside0.mk (hbox); have GW277 := geB w hg; have GE277 := geB w hg; replace HB := Aside0.mk (below_step bel hb); clear hb hbox hg) | ((with_reducible refine gate_dst (N := 6) rfl ?_); refine box_event ?hg (N := 6) ?hd (cs := #[.int .i64 0, .slice none 0 0]) (t := 24) ?hr ?_; (case hd => rfl); (case hg => rfl); (case hr => first | (go_simp; done) | (go_simp; rfl)); intro gb278 hg w4 hbox hb; have BK278 := Aside0.mk (hbox); have GW278 := geB w hg; have GE278 := geB w hg; have NB277_278 := neL BK277 hg; have NB278_277 := neG BK277 hg; replace BK277 := blB BK277 hb; replace HB := Aside0.mk (below_step bel hb); clear hb hbox hg; have hnb5 := NB278_277.out; have hnc5 := NB277_278.out; obtain ⟨hcz6_0, hcz6_1, hfz6_0, hfz6_1⟩ := bq2 BK278))
 go_loopg [13] k (fun kq v13 w' => ∃ (x13_1 : Int) (x279001_1 : List (S52)) (u279001 : Value), v13 = .int .i64 x13_1 ∧ Aside0 (shape_Make.l0 kq l1 (l1.length : Int) x13_1 a0 x279001_1 = some (r1, r2, r3)) ∧ Aside0 (kq ≤ k) ∧ Aside0 (Kd.R k52 52 w' w.heap.size (fun _ => True) u279001 x279001_1) ∧ Aside0 (w'.heap[gb277]? = some (.cells #[.int .i64 0, (.slice none 0 0)] 24 (0, 0))) ∧ Aside0 (w'.heap[gb278]? = some (.cells #[.int .i64 a0, u279001] 24 (0, 0))) ∧ Aside0 (Below w.heap.size w w'))
 case atStart => exact ⟨(0), (([] : List (S52))), (.slice none 0 0), eS, H', ⟨Nat.le_refl _⟩, ⟨by first | exact Kd.R_nil _ _ _ _ _ | exact Kd.N_nil _ _ _ _ _ | exact Kd.V_nil _ _ _ _ _ | exact Kd.Q_nil _ _ _ _ _ | exact Kd.S_nil _ _ _ _ _⟩, ⟨by (with_reducible repeat (first | refine blk_drewN ?_ _ | refine blk_drew ?_ | refine blk_alloc ?_ _)); refine blk_far ?_ NB277_278.out _; (with_reducible repeat (first | refine blk_drewN ?_ _ | refine blk_drew ?_ | refine blk_alloc ?_ _)); refine blk_far ?_ NB277_278.out _; (with_reducible repeat (first | refine blk_drewN ?_ _ | refine blk_drew ?_ | refine blk_alloc ?_ _)); exact BK277.out⟩, ⟨by (with_reducible repeat (first | refine blk_drewN ?_ _ | refine blk_drew ?_ | refine blk_alloc ?_ _)); refine blk_put (cs := #[.int .i64 a0, .slice none 0 0]) ?_ 1 _ rfl; (with_reducible repeat (first | refine blk_drewN ?_ _ | refine blk_drew ?_ | refine blk_alloc ?_ _)); refine blk_put (cs := #[.int .i64 0, .slice none 0 0]) ?_ 0 _ rfl; (with_reducible repeat (first | refine blk_drewN ?_ _ | refine blk_drew ?_ | refine blk_alloc ?_ _)); exact BK278.out⟩, ⟨bel⟩⟩
 case round =>
  clear H'
  (try clear c1); (try clear hcz6_0); (try clear hcz6_1); (try clear hfz6_0); (try clear hfz6_1)
  obtain ⟨x13_1, x279001_1, u279001, rfl, HA, HK1, HO_279001, BK277, BK278, HB⟩ := hrel
  cases gk with
  | zero => exact absurd HA.out (by simp [shape_Make.l0])
  | succ k1 =>
   have H := HA.out
   clear HA
   simp only [shape_Make.l0] at H
   by_cases c7 : x13_1 < (l1.length : Int)
   ·rw [if_pos c7] at H
    have c7b0 : decide (x13_1 < (l1.length : Int)) = true := decide_eq_true c7
    clear c7
    by_cases c8 : 0 ≤ x13_1
    ·rw [if_pos c8] at H
     have c8b0 : decide (0 ≤ x13_1) = true := decide_eq_true c8
     clear c8
     by_cases c9 : x13_1 < (l1.length : Int)
     ·rw [if_pos c9] at H
      have c9b0 : decide (x13_1 < (l1.length : Int)) = true := decide_eq_true c9
      clear c9
      by_cases c10 : x279001_1.length < 2932031007402
      ·rw [if_pos c10] at H
       have LMc10 := Aside0.mk c10
       clear c10
       obtain ⟨y281, hy281⟩ : ∃ y_ : List (S52), y_ = (x279001_1 ++ [(⟨(rd_T96 l1 x13_1).f0, (rd_T96 l1 x13_1).f1, ([] : List (List Int))⟩ : S52)]) := ⟨_, rfl⟩
       replace H : (shape_Make.l0 k1 l1 (l1.length : Int) (wrap64 (x13_1 + 1)) a0 y281) = some (r1, r2, r3) := by first | (rw [hy281]; with_reducible exact H) | (have H2_ := (Option.bind_some _ _).symm.trans H; rw [hy281]; with_reducible exact H2_) | (have H2_ := (Option.bind_some _ _).symm.trans H; with_reducible exact H2_) | with_reducible exact H | (rw [hy281]; exact H) | exact H
       have Ny281 := Aside0.mk hy281
       clear hy281
       have H' := Aside0.mk H
       clear H
       have p279 : 0 ≤ (x13_1 : Int) := dtr
       have q279 : x13_1 < (l1.length : Int) := dtr
       obtain ⟨ad279, e279, hx279_0, hx279_1⟩ := at_T96 HR1.out x13_1 p279 q279
       cases e279
       replace hx279_0 := oc hx279_0
       replace hx279_1 := oc hx279_1
       replace p279 := eq_true p279
       replace q279 := eq_true q279
       go_wp2_with (first | ((with_reducible refine gate_dst (N := 8) rfl ?_); refine box_event ?hg (N := 8) ?hd (cs := #[.string (⟨#[]⟩ : ByteArray), .int .i64 0]) (t := 96) ?hr ?_; (case hd => rfl); (case hg => rfl); (case hr => first | (go_simp; done) | (go_simp; rfl)); intro gb280 hg w11 hbox hb; have BK280 := Aside0.mk (hbox); have GW280 := geB w hg; have GE280 := geB w hg; have NB277_280 := neL BK277 hg; have NB280_277 := neG BK277 hg; have NB278_280 := neL BK278 hg; have NB280_278 := neG BK278 hg; replace HO_279001 := rD HO_279001 hb; replace BK277 := blB BK277 hb; replace BK278 := blB BK278 hb; replace HB := Aside0.mk (below_step bel hb); clear hb hbox hg; have hnb12 := NB280_277.out; have hnc12 := NB277_280.out; have hnb13 := NB280_278.out; have hnc13 := NB278_280.out; obtain ⟨hcz14_0, hcz14_1, hfz14_0, hfz14_1⟩ := bq2 BK280; have hnb15 := NB278_277.out; have hnc15 := NB277_278.out; obtain ⟨hcz16_0, hcz16_1, hfz16_0, hfz16_1⟩ := bq2 BK278) | ((with_reducible refine gate_builtin (b := .append) (xs := #[.tmp 18, .tmp 24]) rfl ?_); at_builtin; refine Kd.R_append k52 (w0 := w) w.heap.size rfl (.tmp 18) (.tmp 24) 22 52 (.agg #[(.string ⟨#[]⟩), (.int .i64 0), (.slice none 0 0)]) 48 rfl Tryz.underlying22 info52 rfl (by decide) (by omega) u279001 x279001_1 (⟨(rd_T96 l1 x13_1).f0, (rd_T96 l1 x13_1).f1, ([] : List (List Int))⟩ : S52) [.string ((rd_T96 l1 x13_1).f0), .int .i64 ((rd_T96 l1 x13_1).f1), .slice none 0 0] (fun _ => True) (fun k_ => ((fun _ => True)) k_ ∧ some k_ ≠ (u279001 : Value).ownBlock) rfl (by first | (go_simp; done) | (go_simp; rfl)) ?aP (fun _ hk => hk) ?aF ?aO ?aB ?aS ?aL ?_; (case aP => exact k52_mkM _ _ _ (⟨(rd_T96 l1 x13_1).f0, (rd_T96 l1 x13_1).f1, ([] : List (List Int))⟩ : S52) (Kd.R_nil _ _ _ _ _)); (case aB => exact bel); (case aF => exact (fun _ _ => trivial)); (case aO => exact (by (with_reducible repeat (first | apply Kd.R_alloc | apply Kd.R_drewN | apply Kd.R_drew)); exact Kd.R_mono (Kd.R_far (p := ⟨gb280, 1, none⟩) (Kd.R_far (p := ⟨gb280, 0, none⟩) (Kd.R_types HO_279001.out BK280.out (by decide)) (fun _ hk => hk.2) (.string ((rd_T96 l1 x13_1).f0))) (fun _ hk => hk.2) (.int .i64 ((rd_T96 l1 x13_1).f1))) (fun _ hk => trivial))); (case aS => exact (below_size bel)); (case aL => have := LMc10.out; omega); intro v282 w17 ho hb hg hat; rw [← Ny281.out] at ho; have HO283 := Aside0.mk (ho); replace BK277 := Aside0.mk (blk_grown (g := gb277) (o := .cells #[.int .i64 0, .slice none 0 0] 24 (0, 0)) (by (with_reducible repeat (first | refine blk_drewN ?_ _ | refine blk_drew ?_ | refine blk_alloc ?_ _)); refine blk_far ?_ NB277_280.out _; (with_reducible repeat (first | refine blk_drewN ?_ _ | refine blk_drew ?_ | refine blk_alloc ?_ _)); refine blk_far ?_ NB277_280.out _; (with_reducible repeat (first | refine blk_drewN ?_ _ | refine blk_drew ?_ | refine blk_alloc ?_ _)); exact BK277.out) hg (Kd.R_ne HO_279001.out BK277.out (by decide))); replace BK278 := Aside0.mk (blk_grown (g := gb278) (o := .cells #[.int .i64 a0, u279001] 24 (0, 0)) (by (with_reducible repeat (first | refine blk_drewN ?_ _ | refine blk_drew ?_ | refine blk_alloc ?_ _)); refine blk_far ?_ NB278_280.out _; (with_reducible repeat (first | refine blk_drewN ?_ _ | refine blk_drew ?_ | refine blk_alloc ?_ _)); refine blk_far ?_ NB278_280.out _; (with_reducible repeat (first | refine blk_drewN ?_ _ | refine blk_drew ?_ | refine blk_alloc ?_ _)); exact BK278.out) hg (Kd.R_ne HO_279001.out BK278.out (by decide))); replace BK280 := Aside0.mk (blk_grown (g := gb280) (o := .cells #[.string ((rd_T96 l1 x13_1).f0), .int .i64 ((rd_T96 l1 x13_1).f1)] 96 (0, 0)) (by (with_reducible repeat (first | refine blk_drewN ?_ _ | refine blk_drew ?_ | refine blk_alloc ?_ _)); refine blk_put (cs := #[.string ((rd_T96 l1 x13_1).f0), .int .i64 0]) ?_ 1 _ rfl; (with_reducible repeat (first | refine blk_drewN ?_ _ | refine blk_drew ?_ | refine blk_alloc ?_ _)); refine blk_put (cs := #[.string (⟨#[]⟩ : ByteArray), .int .i64 0]) ?_ 0 _ rfl; (with_reducible repeat (first | refine blk_drewN ?_ _ | refine blk_drew ?_ | refine blk_alloc ?_ _)); exact BK280.out) hg (Kd.R_ne HO_279001.out BK280.out (by decide))); replace HB := Aside0.mk (hb); clear HO_279001; clear ho hb hg hat; obtain ⟨Ao18, co18, eo18⟩ := Kd.R_slice HO283.out; subst eo18; obtain ⟨hcz19_0, hcz19_1, hfz19_0, hfz19_1⟩ := bq2 BK278))
       go_roundg k1
       case measure => have := HK1.out; omega
       case rel => exact ⟨(wrap64 (x13_1 + 1)), (y281), (.slice Ao18 y281.length co18), eS, H', ⟨by have := HK1.out; omega⟩, ⟨by (with_reducible repeat (first | apply Kd.R_alloc | apply Kd.R_drewN | apply Kd.R_drew)); exact Kd.R_mono (Kd.R_far (p := ⟨gb278, 1, none⟩) (Kd.R_types HO283.out BK278.out (by decide)) (fun _ hk => hk.2) (.slice Ao18 y281.length co18)) (fun _ hk => trivial)⟩, ⟨by (with_reducible repeat (first | refine blk_drewN ?_ _ | refine blk_drew ?_ | refine blk_alloc ?_ _)); refine blk_far ?_ NB277_278.out _; (with_reducible repeat (first | refine blk_drewN ?_ _ | refine blk_drew ?_ | refine blk_alloc ?_ _)); exact BK277.out⟩, ⟨by (with_reducible repeat (first | refine blk_drewN ?_ _ | refine blk_drew ?_ | refine blk_alloc ?_ _)); refine blk_put (cs := #[.int .i64 a0, u279001]) ?_ 1 _ rfl; (with_reducible repeat (first | refine blk_drewN ?_ _ | refine blk_drew ?_ | refine blk_alloc ?_ _)); exact BK278.out⟩, ⟨bel⟩⟩
      ·rw [if_neg c10] at H
       exact absurd H (by simp)
     ·rw [if_neg c9] at H
      exact absurd H (by simp)
    ·rw [if_neg c8] at H
     exact absurd H (by simp)
   ·rw [if_neg c7] at H
    have c7b0 : decide (x13_1 < (l1.length : Int)) = false := decide_eq_false c7
    clear c7
    replace H := Option.bind_eq_some_iff.mp H
    obtain ⟨t284, A200, H⟩ := H
    replace H : (if t284 = true then (some (a0, x279001_1, 0)) else (some (0, ([] : List (S52)), 1))) = some (r1, r2, r3) := H
    have A20 := Aside0.mk A200
    clear A200
    by_cases c21 : t284 = true
    ·subst c21
     have H1 : (some (a0, x279001_1, 0)) = some (r1, r2, r3) := by rw [if_pos rfl] at H; exact H
     clear H
     have H := H1
     clear H1
     simp only [Option.some.injEq, Prod.mk.injEq] at H
     obtain ⟨rfl, rfl, rfl⟩ := H
     have hnb22 := NB278_277.out
     have hnc22 := NB277_278.out
     obtain ⟨hcz23_0, hcz23_1, hfz23_0, hfz23_1⟩ := bq2 BK278
     obtain ⟨Ao24, co24, eo24⟩ := Kd.R_slice HO_279001.out
     subst eo24
     go_wp2_with (first | ((with_reducible refine gate_callee (f := 33) rfl ?_); refine gL (some 29) Tryz.func33 #[.agg #[.int .i64 a0, .slice Ao24 x279001_1.length co24]] ?_; (with_reducible refine (shape_Valid.calls k1 a0 _ _ x279001_1 true _ ?side1 ?side2 A20.out).mono ?_); (case side1 => exact cS (Kd.R_reads' HO_279001.out).2.2); (case side2 => exact (Kd.R_reads' HO_279001.out).2.1); rintro e w25 ⟨rfl, hb⟩; refine ⟨_, rfl, ?_⟩; replace HO_279001 := rD HO_279001 hb; replace BK277 := blB BK277 hb; replace BK278 := blB BK278 hb; replace HB := Aside0.mk (below_step bel hb); (try clear hb); (try clear hb2); (try clear hk); (try clear hi); obtain ⟨hcz26_0, hcz26_1, hfz26_0, hfz26_1⟩ := bq2 BK278; obtain ⟨hcz27_0, hcz27_1, hfz27_0, hfz27_1⟩ := bq2 BK277))
     refine bodyPost_ret (results_ct rfl _ _ gb277 24 #[.int .i64 a0, .slice Ao24 x279001_1.length co24] (0, 0) _ rfl (by (with_reducible repeat (first | refine blk_drewN ?_ _ | refine blk_drew ?_ | refine blk_alloc ?_ _)); refine blk_put (cs := #[.int .i64 a0, .slice none 0 0]) ?_ 1 _ rfl; (with_reducible repeat (first | refine blk_drewN ?_ _ | refine blk_drew ?_ | refine blk_alloc ?_ _)); refine blk_put (cs := #[.int .i64 0, .slice none 0 0]) ?_ 0 _ rfl; (with_reducible repeat (first | refine blk_drewN ?_ _ | refine blk_drew ?_ | refine blk_alloc ?_ _)); exact BK277.out) Tryz.underlying24 rfl (by kernel_rfl)) rfl ?_
     exact ⟨_, eN, by (with_reducible repeat (first | apply Kd.R_alloc | apply Kd.R_drewN | apply Kd.R_drew)); exact Kd.R_mono (Kd.R_far (p := ⟨gb277, 1, none⟩) (Kd.R_far (p := ⟨gb277, 0, none⟩) (Kd.R_types HO_279001.out BK277.out (by decide)) (fun _ hk => hk.2) (.int .i64 a0)) (fun _ hk => hk.2) (.slice Ao24 x279001_1.length co24)) (fun _ hk => trivial), bel⟩
    ·replace c21 := Bool.eq_false_iff.mpr c21
     subst c21
     have H1 : (some (0, ([] : List (S52)), 1)) = some (r1, r2, r3) := by rw [if_neg (show ¬ (false = true) by decide)] at H; exact H
     clear H
     have H := H1
     clear H1
     simp only [Option.some.injEq, Prod.mk.injEq] at H
     obtain ⟨rfl, rfl, rfl⟩ := H
     have hnb28 := NB278_277.out
     have hnc28 := NB277_278.out
     obtain ⟨hcz29_0, hcz29_1, hfz29_0, hfz29_1⟩ := bq2 BK278
     obtain ⟨Ao30, co30, eo30⟩ := Kd.R_slice HO_279001.out
     subst eo30
     go_wp2_with (first | ((with_reducible refine gate_callee (f := 33) rfl ?_); refine gL (some 29) Tryz.func33 #[.agg #[.int .i64 a0, .slice Ao30 x279001_1.length co30]] ?_; (with_reducible refine (shape_Valid.calls k1 a0 _ _ x279001_1 false _ ?side1 ?side2 A20.out).mono ?_); (case side1 => exact cS (Kd.R_reads' HO_279001.out).2.2); (case side2 => exact (Kd.R_reads' HO_279001.out).2.1); rintro e w31 ⟨rfl, hb⟩; refine ⟨_, rfl, ?_⟩; replace HO_279001 := rD HO_279001 hb; replace BK277 := blB BK277 hb; replace BK278 := blB BK278 hb; replace HB := Aside0.mk (below_step bel hb); (try clear hb); (try clear hb2); (try clear hk); (try clear hi); obtain ⟨hcz32_0, hcz32_1, hfz32_0, hfz32_1⟩ := bq2 BK277))
     refine bodyPost_ret (results_ct rfl _ _ gb277 24 #[.int .i64 0, .slice none 0 0] (0, 0) _ rfl (by (with_reducible repeat (first | refine blk_drewN ?_ _ | refine blk_drew ?_ | refine blk_alloc ?_ _)); refine blk_put (cs := #[.int .i64 0, .slice none 0 0]) ?_ 1 _ rfl; (with_reducible repeat (first | refine blk_drewN ?_ _ | refine blk_drew ?_ | refine blk_alloc ?_ _)); refine blk_put (cs := #[.int .i64 0, .slice none 0 0]) ?_ 0 _ rfl; (with_reducible repeat (first | refine blk_drewN ?_ _ | refine blk_drew ?_ | refine blk_alloc ?_ _)); exact BK277.out) Tryz.underlying24 rfl (by kernel_rfl)) rfl ?_
     exact ⟨_, eN, by first | exact Kd.R_nil _ _ _ _ _ | exact Kd.N_nil _ _ _ _ _ | exact Kd.V_nil _ _ _ _ _ | exact Kd.Q_nil _ _ _ _ _ | exact Kd.S_nil _ _ _ _ _, bel⟩
end Go.Proofs.YtfmpaofbnjlniaaGreatDoor.F
namespace Go.Proofs.YtfmpaofbnjlniaaGreatDoor.F
open Go.RowKit Go.Proofs.YtfmpaofbnjlniaaGreatDoorW.PrintWords Go.Proofs.YtfmpaofbnjlniaaGreatDoorW.PrintLast Go.Proofs.YtfmpaofbnjlniaaGreatDoorW.PrintMore
attribute [local go_sem] max2_int min2_int max_two min_two max_three min_three max_four min_four
set_option linter.unusedVariables false
set_option linter.unusedSimpArgs false
/-! ### paraphrastlaw01_FewSymbols: function 17 -/
mutual
def paraphrastlaw01_FewSymbols.l0 : Nat → List (S96) → Int → Option (Bool)
 | 0, _, _ => none
 | k + 1, x0, x3 => if x3 < (x0.length : Int) then (paraphrastlaw01_FewSymbols.j1 k x0 x3 (decide (x3 < 41))) else (paraphrastlaw01_FewSymbols.j1 k x0 x3 false)
def paraphrastlaw01_FewSymbols.j1 : Nat → List (S96) → Int → Bool → Option (Bool)
 | 0, _, _, _ => none
 | k + 1, x0, x3, x11 => if x11 = true then (if 0 ≤ x3 then (if x3 < (x0.length : Int) then (if (((rd_T96 x0 x3).f0).size : Int) > 1000 then (some false) else (paraphrastlaw01_FewSymbols.l0 k x0 (wrap64 (x3 + 1)))) else (none)) else (none)) else (some (decide ((x0.length : Int) ≤ 40)))
end
def paraphrastlaw01_FewSymbols.f (k : Nat) (l0 : List (S96)) : Option (Bool) := paraphrastlaw01_FewSymbols.l0 k l0 0
set_option maxHeartbeats 8000000 in
set_option maxRecDepth 100000 in
theorem paraphrastlaw01_FewSymbols.calls (k : Nat) (A0 : Option Addr) (c0 : Nat) (l0 : List (S96)) (r : Bool) (w : World) (hr0 : Kd.C k96 w A0 l0.length l0) (hc0 : l0.length ≤ c0) (h : paraphrastlaw01_FewSymbols.f k l0 = some r) :
  Calls Tryz.prog 17 #[.slice A0 l0.length c0] w fun e w' => e = .returned (.bool r) ∧ Drawn0 w w' := by
 have HR0 := Aside0.mk hr0
 have HC0 := Aside0.mk hc0
 clear hr0 hc0
 have H : (paraphrastlaw01_FewSymbols.l0 k l0 0) = some r := h
 clear h
 have H' := Aside0.mk H
 clear H
 go_enter Tryz.func17, Tryz.ntmps17
 go_wp2
 go_loopg [3] k (fun kq v3 w' => ∃ (x3_1 : Int), v3 = .int .i64 x3_1 ∧ Aside0 (paraphrastlaw01_FewSymbols.l0 kq l0 x3_1 = some r) ∧ Aside0 (kq ≤ k) ∧ Drawn0 w w')
 case atStart => exact ⟨(0), eS, H', ⟨Nat.le_refl _⟩, dr0⟩
 case round =>
  clear H'
  obtain ⟨x3_1, rfl, HA, HK1, ⟨m1, rfl⟩⟩ := hrel
  cases gk with
  | zero => exact absurd HA.out (by simp [paraphrastlaw01_FewSymbols.l0])
  | succ k1 =>
   have H := HA.out
   clear HA
   simp only [paraphrastlaw01_FewSymbols.l0] at H
   have HC2 := Aside0.mk H
   clear H
   go_upto_region 2 with (fail)
   go_cut [11] (fun v11 wc => ∃ (kq : Nat) (x11_1 : Bool), v11 = .bool x11_1 ∧ Aside0 (paraphrastlaw01_FewSymbols.j1 kq l0 x3_1 x11_1 = some r) ∧ Aside0 (kq ≤ k1) ∧ Drawn0 w wc)
   case first =>
    have H := HC2.out
    clear HC2
    by_cases c3 : x3_1 < (l0.length : Int)
    ·rw [if_pos c3] at H
     have c3b0 : decide (x3_1 < (l0.length : Int)) = true := decide_eq_true c3
     clear c3
     (first | rw [c3b0] | (simp only [i64_w, i32_w]; rw [c3b0]) | skip)
     have H' := Aside0.mk H
     clear H
     go_wp2
     go_meet
     case rel => exact ⟨_, (decide (x3_1 < 41)), eS, H', ⟨by have := HK1.out; first | omega | exact Nat.le_refl _⟩, dr0⟩
    ·rw [if_neg c3] at H
     have c3b0 : decide (x3_1 < (l0.length : Int)) = false := decide_eq_false c3
     clear c3
     (first | rw [c3b0] | (simp only [i64_w, i32_w]; rw [c3b0]) | skip)
     have H' := Aside0.mk H
     clear H
     go_wp2
     go_meet
     case rel => exact ⟨_, (false), eS, H', ⟨by have := HK1.out; first | omega | exact Nat.le_refl _⟩, dr0⟩
   case rest =>
    clear HC2
    obtain ⟨kq, x11_1, rfl, HA, HJ1, ⟨mc1, rfl⟩⟩ := hcut
    cases kq with
    | zero => exact absurd HA.out (by simp [paraphrastlaw01_FewSymbols.j1])
    | succ kj1 =>
     have H := HA.out
     clear HA
     simp only [paraphrastlaw01_FewSymbols.j1] at H
     by_cases c4 : x11_1 = true
     ·subst c4
      have H1 : (if 0 ≤ x3_1 then (if x3_1 < (l0.length : Int) then (if (((rd_T96 l0 x3_1).f0).size : Int) > 1000 then (some false) else (paraphrastlaw01_FewSymbols.l0 kj1 l0 (wrap64 (x3_1 + 1)))) else (none)) else (none)) = some r := by rw [if_pos rfl] at H; exact H
      clear H
      have H := H1
      clear H1
      by_cases c5 : 0 ≤ x3_1
      ·rw [if_pos c5] at H
       have c5b0 : decide (0 ≤ x3_1) = true := decide_eq_true c5
       clear c5
       by_cases c6 : x3_1 < (l0.length : Int)
       ·rw [if_pos c6] at H
        have c6b0 : decide (x3_1 < (l0.length : Int)) = true := decide_eq_true c6
        clear c6
        by_cases c7 : (((rd_T96 l0 x3_1).f0).size : Int) > 1000
        ·rw [if_pos c7] at H
         have c7b0 : decide (1000 < (((rd_T96 l0 x3_1).f0).size : Int)) = true := decide_eq_true c7
         have c7b1 : decide (1000 < ((rd_T96 l0 x3_1).f0).size) = true := decide_eq_true (by omega)
         clear c7
         obtain rfl := Option.some.inj H
         have p276 : 0 ≤ (x3_1 : Int) := dtr
         have q276 : x3_1 < (l0.length : Int) := dtr
         obtain ⟨ad276, e276, hx276_0, hx276_1⟩ := at_T96 HR0.out x3_1 p276 q276
         cases e276
         replace p276 := eq_true p276
         replace q276 := eq_true q276
         go_wp2
         go_ret
         exact ⟨eS, dr0⟩
        ·rw [if_neg c7] at H
         have c7b0 : decide (1000 < (((rd_T96 l0 x3_1).f0).size : Int)) = false := decide_eq_false c7
         have c7b1 : decide (1000 < ((rd_T96 l0 x3_1).f0).size) = false := decide_eq_false (by omega)
         clear c7
         have H' := Aside0.mk H
         clear H
         have p276 : 0 ≤ (x3_1 : Int) := dtr
         have q276 : x3_1 < (l0.length : Int) := dtr
         obtain ⟨ad276, e276, hx276_0, hx276_1⟩ := at_T96 HR0.out x3_1 p276 q276
         cases e276
         replace p276 := eq_true p276
         replace q276 := eq_true q276
         go_wp2
         go_roundg kj1
         case measure => have := HK1.out; have := HJ1.out; omega
         case rel => exact ⟨(wrap64 (x3_1 + 1)), eS, H', ⟨by have := HK1.out; have := HJ1.out; omega⟩, dr0⟩
       ·rw [if_neg c6] at H
        exact absurd H (by simp)
      ·rw [if_neg c5] at H
       exact absurd H (by simp)
     ·replace c4 := Bool.eq_false_iff.mpr c4
      subst c4
      have H1 : (some (decide ((l0.length : Int) ≤ 40))) = some r := by rw [if_neg (show ¬ (false = true) by decide)] at H; exact H
      clear H
      have H := H1
      clear H1
      obtain rfl := Option.some.inj H
      go_wp2
      go_ret
      exact ⟨eS, dr0⟩
end Go.Proofs.YtfmpaofbnjlniaaGreatDoor.F
/- Make, Keep and what the reference says of symbols: what they answer. -/
namespace Go.Proofs.YtfmpaofbnjlniaaGreatDoor.F
open Go.RowKit Go.Maps Go.Proofs.YtfmpaofbnjlniaaGreatDoorW.PrintWords Go.Proofs.YtfmpaofbnjlniaaGreatDoorW.PrintLast Go.Proofs.YtfmpaofbnjlniaaGreatDoorW.PrintMore
set_option linter.unusedVariables false
theorem rdS_nat (l : List S96) (i : Nat) (h : i < l.length) : rd_T96 l (i : Int) = l[i] := by unfold rd_T96; rw [Int.toNat_natCast, List.getD_eq_getElem?_getD, List.getElem?_eq_getElem h]; rfl
/-! ### FewSymbols -/
theorem fews_from (sy : List S96) (hS : sy.length ≤ 9223372036854775807) : ∀ (d i : Nat), i ≤ sy.length → i ≤ 41 → 41 ≤ i + d → ∃ b, (∀ k, 2 * d + 2 ≤ k → paraphrastlaw01_FewSymbols.l0 k sy (i : Int) = some b) ∧ (b = true → sy.length ≤ 40 ∧ ∀ x ∈ sy.drop i, x.f0.size ≤ 1000)
  | 0, i, h, h2, h3 => by
    refine ⟨decide ((sy.length : Int) ≤ 40), fun k hk => ?_, fun h => ?_⟩
    · obtain ⟨k, rfl⟩ : ∃ k', k = k' + 1 + 1 := ⟨k - 2, by omega⟩
      unfold paraphrastlaw01_FewSymbols.l0
      split
      · rw [decide_eq_false (by omega)]; unfold paraphrastlaw01_FewSymbols.j1; rw [if_neg (by simp)]
      · unfold paraphrastlaw01_FewSymbols.j1; rw [if_neg (by simp)]
    · have := of_decide_eq_true h
      exact ⟨by omega, fun x hx => by rw [List.drop_eq_nil_of_le (by omega)] at hx; cases hx⟩
  | d + 1, i, h, h2, h3 => by
    by_cases hi : i < sy.length
    · by_cases h41 : i < 41
      · by_cases hx : (sy[i].f0.size : Int) > 1000
        · refine ⟨false, fun k hk => ?_, fun h => by cases h⟩
          obtain ⟨k, rfl⟩ : ∃ k', k = k' + 1 + 1 := ⟨k - 2, by omega⟩
          unfold paraphrastlaw01_FewSymbols.l0
          rw [if_pos (by omega), decide_eq_true (by omega)]
          unfold paraphrastlaw01_FewSymbols.j1
          rw [if_pos rfl, if_pos (by omega), if_pos (by omega), rdS_nat sy i hi, if_pos hx]
        · obtain ⟨b, hb, hp⟩ := fews_from sy hS d (i + 1) (by omega) (by omega) (by omega)
          refine ⟨b, fun k hk => ?_, fun e => ?_⟩
          · obtain ⟨k, rfl⟩ : ∃ k', k = k' + 1 + 1 := ⟨k - 2, by omega⟩
            unfold paraphrastlaw01_FewSymbols.l0
            rw [if_pos (by omega), decide_eq_true (by omega)]
            unfold paraphrastlaw01_FewSymbols.j1
            rw [if_pos rfl, if_pos (by omega), if_pos (by omega), rdS_nat sy i hi, if_neg hx, w64 (by omega) (by omega), show (i : Int) + 1 = ((i + 1 : Nat) : Int) by omega]
            exact hb k (by omega)
          · obtain ⟨g1, g2⟩ := hp e
            refine ⟨g1, fun x hxm => ?_⟩
            rw [List.drop_eq_getElem_cons hi] at hxm
            rcases List.mem_cons.1 hxm with rfl | hxm
            · omega
            · exact g2 x hxm
      · refine ⟨false, fun k hk => ?_, fun h => by cases h⟩
        obtain ⟨k, rfl⟩ : ∃ k', k = k' + 1 + 1 := ⟨k - 2, by omega⟩
        unfold paraphrastlaw01_FewSymbols.l0
        rw [if_pos (by omega), decide_eq_false (by omega)]
        unfold paraphrastlaw01_FewSymbols.j1
        rw [if_neg (by simp), decide_eq_false (by omega)]
    · refine ⟨decide ((sy.length : Int) ≤ 40), fun k hk => ?_, fun h => ?_⟩
      · obtain ⟨k, rfl⟩ : ∃ k', k = k' + 1 + 1 := ⟨k - 2, by omega⟩
        unfold paraphrastlaw01_FewSymbols.l0
        rw [if_neg (by omega)]
        unfold paraphrastlaw01_FewSymbols.j1
        rw [if_neg (by simp)]
      · have := of_decide_eq_true h
        exact ⟨by omega, fun x hx => by rw [List.drop_eq_nil_of_le (by omega)] at hx; cases hx⟩
theorem fews_ex (sy : List S96) (hS : sy.length ≤ 9223372036854775807) : ∃ b, (∀ k, 100 ≤ k → paraphrastlaw01_FewSymbols.f k sy = some b) ∧ (b = true → keepOk sy ∧ sy.length ≤ 40) := by
  obtain ⟨b, h1, h2⟩ := fews_from sy hS 41 0 (by omega) (by omega) (by omega)
  exact ⟨b, fun k hk => h1 k (by omega), fun e => ⟨⟨by have := (h2 e).1; omega, fun x hx => (h2 e).2 x (by simpa using hx)⟩, (h2 e).1⟩⟩
/-! ### Make and Made -/
def madeL (sy : List S96) : List S52 := sy.map fun x => ⟨x.f0, x.f1, []⟩
theorem made_snoc {sy : List S96} {i : Nat} (h : i < sy.length) : madeL (sy.take i) ++ [⟨sy[i].f0, sy[i].f1, []⟩] = madeL (sy.take (i + 1)) := by
  unfold madeL
  rw [take_snoc' (List.getElem?_eq_getElem h), List.map_append]
  rfl
theorem make_from (n : Int) (sy : List S96) (hs : sy.length ≤ 1000) : ∀ (d i k : Nat), i + d = sy.length → d + 301 ≤ k → shape_Make.l0 k sy (sy.length : Int) (i : Int) n (madeL (sy.take i)) = some (if validB n (madeL sy) = true then (n, madeL sy, 0) else (0, [], 1))
  | 0, i, k + 1, h, hk => by
    unfold shape_Make.l0
    rw [if_neg (by omega), List.take_of_length_le (by omega), valid_eq n (madeL sy) 0 (by omega) (fun r hr => by unfold madeL at hr; obtain ⟨x, _, rfl⟩ := List.mem_map.1 hr; exact Nat.le_refl _) k (by omega), Option.bind_some]
    split <;> rfl
  | d + 1, i, k + 1, h, hk => by
    have hi : i < sy.length := by omega
    unfold shape_Make.l0
    rw [if_pos (by omega), if_pos (by omega), if_pos (by omega), if_pos (by unfold madeL; rw [List.length_map, List.length_take]; omega), rdS_nat sy i hi, made_snoc hi, w64 (by omega) (by omega), show (i : Int) + 1 = ((i + 1 : Nat) : Int) by omega]
    exact make_from n sy hs d (i + 1) k (by omega) (by omega)
theorem make_eq (n : Int) (sy : List S96) (hs : sy.length ≤ 1000) (k : Nat) (hk : 1400 ≤ k) : shape_Make.f k n sy = some (if validB n (madeL sy) = true then (n, madeL sy, 0) else (0, [], 1)) :=
  make_from n sy hs sy.length 0 k (by omega) (by omega)
theorem made_from (n : Int) (sy : List S96) (hs : sy.length ≤ 1000) : ∀ (d i k : Nat), i + d = sy.length → d + 1 ≤ k → paraphrastref01_Made.l0 k sy (i : Int) n (madeL (sy.take i)) = some (n, madeL sy)
  | 0, i, k + 1, h, hk => by
    unfold paraphrastref01_Made.l0
    rw [if_neg (by omega), List.take_of_length_le (by omega)]
  | d + 1, i, k + 1, h, hk => by
    have hi : i < sy.length := by omega
    unfold paraphrastref01_Made.l0
    rw [if_pos (by omega), if_pos (by omega), if_pos (by unfold madeL; rw [List.length_map, List.length_take]; omega), rdS_nat sy i hi, made_snoc hi, w64 (by omega) (by omega), show (i : Int) + 1 = ((i + 1 : Nat) : Int) by omega]
    exact made_from n sy hs d (i + 1) k (by omega) (by omega)
theorem made_eq (n : Int) (sy : List S96) (hs : sy.length ≤ 1000) (k : Nat) (hk : 1400 ≤ k) : paraphrastref01_Made.f k n sy = some (n, madeL sy) :=
  made_from n sy hs sy.length 0 k (by omega) (by omega)
/-! ### symbols in a valid structure -/
theorem keepAt_at (n : Int) (l : List S52) (hv : validB n l = true) (x : S96) (q : Nat) (hq : q < l.length) (hn : l[q].f0 = x.f0) (ha : l[q].f1 = x.f1) : keepAt l x = (q : Int) := by
  have h := find_at n l hv q hq x.f1 ha
  rw [hn] at h
  exact Option.some.inj h
theorem keepAt_none (l : List S52) (x : S96) (h : ∀ j (hj : j < l.length), l[j].f0 = x.f0 → l[j].f1 ≠ x.f1) : keepAt l x = -1 := by
  unfold keepAt
  refine fidx_none (fun j y hj hy => ?_)
  rw [List.getElem?_eq_getElem hj] at hy
  obtain rfl := Option.some.inj hy
  cases hs : symIs x.f0 x.f1 l[j] with
  | false => rfl
  | true =>
    unfold symIs at hs
    simp only [Bool.and_eq_true, beq_iff_eq] at hs
    exact absurd hs.2 (h j hj (toList_inj hs.1))
theorem find_keep (n : Int) (l : List S52) (hv : validB n l = true) (x : S96) (k : Nat) (hk : 20 ≤ k) :
    (∃ (q : Nat) (hq : q < l.length), paraphrastref01_Find.f k n l x.f0 = some (q : Int) ∧ ((l[q].f1 = x.f1 ∧ keepAt l x = (q : Int)) ∨ (l[q].f1 ≠ x.f1 ∧ keepAt l x = -1))) ∨ (paraphrastref01_Find.f k n l x.f0 = some (-1) ∧ keepAt l x = -1) := by
  have h8 := (valid_facts n l hv).2.2.1
  rcases find_cases n l x.f0 (by omega) with ⟨q, hq, e1, e2, e3⟩ | ⟨e1, e3⟩
  · refine Or.inl ⟨q, hq, e3 k (by omega), ?_⟩
    by_cases ha : l[q].f1 = x.f1
    · exact Or.inl ⟨ha, keepAt_at n l hv x q hq e1 ha⟩
    · refine Or.inr ⟨ha, keepAt_none l x (fun j hj e4 => ?_)⟩
      have : j = q := by
        rcases Nat.lt_trichotomy j q with hlt | e | hlt
        · exact absurd e4 (e2 j hj hlt)
        · exact e
        · exact absurd (by rw [e1, e4]) (names_ne n l hv q j hlt hj)
      subst this
      exact ha
  · exact Or.inr ⟨e3 k (by omega), keepAt_none l x (fun j hj e4 => absurd e4 (e1 j hj))⟩
theorem fits_from (n : Int) (l : List S52) (hv : validB n l = true) (sy : List S96) (hs : sy.length ≤ 1000) : ∀ (d i k : Nat), i + d = sy.length → d + 21 ≤ k → paraphrastref01_Fits.l0 k sy (i : Int) n l = some ((sy.drop i).all fun x => decide (0 ≤ keepAt l x))
  | 0, i, k + 1, h, hk => by
    unfold paraphrastref01_Fits.l0
    rw [if_neg (by omega), List.drop_eq_nil_of_le (by omega)]
    rfl
  | d + 1, i, k + 1, h, hk => by
    have hi : i < sy.length := by omega
    unfold paraphrastref01_Fits.l0
    rw [if_pos (by omega), if_pos (by omega), rdS_nat sy i hi, List.drop_eq_getElem_cons hi, List.all_cons]
    rcases find_keep n l hv sy[i] k (by omega) with ⟨q, hq, e1, ⟨ha, hk2⟩ | ⟨ha, hk2⟩⟩ | ⟨e1, hk2⟩
    · rw [e1, Option.bind_some, if_neg (by omega), if_pos (by omega), if_pos (by omega), rdT_nat l q hq, if_pos ha, hk2, decide_eq_true (by omega), Bool.true_and, w64 (by omega) (by omega), show (i : Int) + 1 = ((i + 1 : Nat) : Int) by omega]
      exact fits_from n l hv sy hs d (i + 1) k (by omega) (by omega)
    · rw [e1, Option.bind_some, if_neg (by omega), if_pos (by omega), if_pos (by omega), rdT_nat l q hq, if_neg ha, hk2]
      rfl
    · rw [e1, Option.bind_some, if_pos (by omega), hk2]
      rfl
theorem fits_eq (n : Int) (l : List S52) (hv : validB n l = true) (sy : List S96) (hs : sy.length ≤ 1000) (k : Nat) (hk : 1100 ≤ k) : paraphrastref01_Fits.f k n l sy = some (sy.all fun x => decide (0 ≤ keepAt l x)) :=
  fits_from n l hv sy hs sy.length 0 k (by omega) (by omega)
theorem rkeep_from (n : Int) (l : List S52) (hv : validB n l = true) (sy : List S96) (hs : sy.length ≤ 1000) (hall : ∀ x ∈ sy, 0 ≤ keepAt l x) : ∀ (d i k : Nat), i + d = sy.length → d + 110000 ≤ k → paraphrastref01_Keep.l0 k sy (i : Int) n l n (keepRels l (sy.take i)) = some (n, keepRels l sy)
  | 0, i, k + 1, h, hk => by
    unfold paraphrastref01_Keep.l0
    rw [if_neg (by omega), List.take_of_length_le (by omega)]
  | d + 1, i, k + 1, h, hk => by
    have hi : i < sy.length := by omega
    have ha := hall _ (List.getElem_mem hi)
    have hsn := keepRels_snoc (l := l) (List.getElem?_eq_getElem hi)
    unfold paraphrastref01_Keep.l0
    rw [if_pos (by omega), if_pos (by omega), rdS_nat sy i hi]
    rcases find_keep n l hv sy[i] k (by omega) with ⟨q, hq, e1, ⟨ha, hk2⟩ | ⟨ha, hk2⟩⟩ | ⟨e1, hk2⟩
    · obtain ⟨_, g1, g2, g3⟩ := (valid_facts n l hv).2.2.2 _ (List.getElem_mem hq)
      rw [hk2, rdT_nat l q hq] at hsn
      rw [e1, Option.bind_some, if_pos (by omega), if_pos (by omega), rdT_nat l q hq, copied_eq l[q].f2 (by omega) (fun a ha => by have := (g2 a ha).1; omega) k (by omega), Option.bind_some, if_pos (by unfold keepRels; rw [List.length_map, List.length_take]; omega), ← hsn, w64 (by omega) (by omega), show (i : Int) + 1 = ((i + 1 : Nat) : Int) by omega]
      exact rkeep_from n l hv sy hs hall d (i + 1) k (by omega) (by omega)
    · omega
    · omega
theorem rkeep_eq (n : Int) (l : List S52) (hv : validB n l = true) (sy : List S96) (hs : sy.length ≤ 1000) (hall : ∀ x ∈ sy, 0 ≤ keepAt l x) (k : Nat) (hk : 112000 ≤ k) : paraphrastref01_Keep.f k n l sy = some (n, keepRels l sy) :=
  rkeep_from n l hv sy hs hall sy.length 0 k (by omega) (by omega)
/-! ### names that are there twice -/
def nameS (x : S96) : List UInt8 := x.f0.toList
theorem addKey_len : ∀ (xs acc : List Lit), acc.Nodup → (∀ x ∈ xs, WideAt.IsKeyLit x) → (xs.foldl addKey acc).length ≤ acc.length + xs.length ∧ ((xs.foldl addKey acc).length = acc.length + xs.length ↔ (acc ++ xs).Nodup)
  | [], acc, h, _ => ⟨Nat.le_refl _, by simpa using h⟩
  | x :: xs, acc, h, hk => by
    have hkx := hk x List.mem_cons_self
    have hks : ∀ y ∈ xs, WideAt.IsKeyLit y := fun y hy => hk y (List.mem_cons_of_mem _ hy)
    rw [List.foldl_cons]
    by_cases hm : x ∈ acc
    · have e : addKey acc x = acc := by
        show (if acc.any (fun y => y.sameKey x) = true then acc else acc ++ [x]) = acc
        have h2 : acc.any (fun y => y.sameKey x) = true := List.any_eq_true.2 ⟨x, hm, WideAt.sameKey_self hkx⟩
        rw [if_pos h2]
      rw [e]
      obtain ⟨h1, h2⟩ := addKey_len xs acc h hks
      refine ⟨by rw [List.length_cons]; omega, ⟨fun e2 => by rw [List.length_cons] at e2; omega, fun e2 => ?_⟩⟩
      rw [List.nodup_append] at e2
      exact absurd rfl (e2.2.2 x hm x List.mem_cons_self)
    · have e : addKey acc x = acc ++ [x] := by
        show (if acc.any (fun y => y.sameKey x) = true then acc else acc ++ [x]) = acc ++ [x]
        rw [if_neg (fun e2 => by
          obtain ⟨y, hy, hs⟩ := List.any_eq_true.1 e2
          exact hm (WideAt.sameKey_eq hs ▸ hy))]
      rw [e]
      have hn : (acc ++ [x]).Nodup := by
        rw [List.nodup_append]
        exact ⟨h, by simp, fun a ha b hb e3 => by rw [List.mem_singleton] at hb; subst hb; subst e3; exact hm ha⟩
      obtain ⟨h1, h2⟩ := addKey_len xs (acc ++ [x]) hn hks
      rw [List.length_append, List.length_singleton] at h1 h2
      rw [List.append_assoc, List.singleton_append] at h2
      rw [List.length_cons]
      refine ⟨by omega, ?_⟩
      rw [← h2]
      constructor
      · intro h3; omega
      · intro h3; omega
theorem count_nodup (sy : List S96) : keepCount sy = sy.length ↔ (sy.map nameS).Nodup := by
  unfold keepCount keepSet
  have hk : ∀ x ∈ sy.map keyS, WideAt.IsKeyLit x := fun x hx => by
    obtain ⟨y, _, rfl⟩ := List.mem_map.1 hx
    trivial
  rw [size_setOf _ _ hk]
  have h := (addKey_len (sy.map keyS) [] List.nodup_nil hk).2
  rw [List.length_nil, Nat.zero_add, List.length_map, List.nil_append] at h
  rw [h]
  have e : sy.map keyS = (sy.map nameS).map Lit.string := by
    rw [List.map_map]
    refine List.map_congr_left (fun x _ => ?_)
    show Lit.string x.f0.data.toList = Lit.string x.f0.toList
    rw [toList_data]
  rw [e]
  unfold List.Nodup
  rw [List.pairwise_map]
  exact ⟨fun h => h.imp (fun h2 e2 => h2 (by rw [e2])), fun h => h.imp (fun h2 e2 => h2 (by injection e2))⟩
end Go.Proofs.YtfmpaofbnjlniaaGreatDoor.F
namespace Go.Proofs.YtfmpaofbnjlniaaGreatDoor.F
open Go.RowKit Go.Proofs.YtfmpaofbnjlniaaGreatDoorW.PrintWords Go.Proofs.YtfmpaofbnjlniaaGreatDoorW.PrintLast Go.Proofs.YtfmpaofbnjlniaaGreatDoorW.PrintMore
attribute [local go_sem] max2_int min2_int max_two min_two max_three min_three max_four min_four
set_option linter.unusedVariables false
set_option linter.unusedSimpArgs false
/-! ### paraphrastlaw01_is: function 16 -/
def paraphrastlaw01_is.f (k : Nat) (a0_0 : Int) (l0_1 : List (S52)) (a1 : Int) (a2_0 : Int) (l2_1 : List (S52)) (a3 : Int) : Option (Bool) := if a3 = 0 then (if a1 = 0 then ((paraphrastref01_Same.f k a0_0 l0_1 a2_0 l2_1).bind fun t265 => (some t265)) else (some false)) else (if a1 = a3 then ((paraphrastref01_Same.f k a0_0 l0_1 0 ([] : List (S52))).bind fun t266 => (some t266)) else (some false))
set_option maxHeartbeats 8000000 in
set_option maxRecDepth 100000 in
theorem paraphrastlaw01_is.calls (k : Nat) (a0_0 : Int) (A0_1 : Option Addr) (c0_1 : Nat) (l0_1 : List (S52)) (a1 : Int) (a2_0 : Int) (A2_1 : Option Addr) (c2_1 : Nat) (l2_1 : List (S52)) (a3 : Int) (r : Bool) (w : World) (hr0_1 : Kd.C k52 w A0_1 l0_1.length l0_1) (hc0_1 : l0_1.length ≤ c0_1) (hr2_1 : Kd.C k52 w A2_1 l2_1.length l2_1) (hc2_1 : l2_1.length ≤ c2_1) (h : paraphrastlaw01_is.f k a0_0 l0_1 a1 a2_0 l2_1 a3 = some r) :
  Calls Tryz.prog 16 #[.agg #[.int .i64 a0_0, .slice A0_1 l0_1.length c0_1], .int .i64 a1, .agg #[.int .i64 a2_0, .slice A2_1 l2_1.length c2_1], .int .i64 a3] w fun e w' => e = .returned (.bool r) ∧ Below w.heap.size w w' := by
 have hu24 := Tryz.underlying24
 have HR0_1 := Aside0.mk hr0_1
 have HC0_1 := Aside0.mk hc0_1
 clear hr0_1 hc0_1
 have HR2_1 := Aside0.mk hr2_1
 have HC2_1 := Aside0.mk hc2_1
 clear hr2_1 hc2_1
 have HB := Aside0.mk (Below.refl w.heap.size w)
 have H : (if a3 = 0 then (if a1 = 0 then ((paraphrastref01_Same.f k a0_0 l0_1 a2_0 l2_1).bind fun t265 => (some t265)) else (some false)) else (if a1 = a3 then ((paraphrastref01_Same.f k a0_0 l0_1 0 ([] : List (S52))).bind fun t266 => (some t266)) else (some false))) = some r := h
 clear h
 by_cases c5 : a3 = 0
 ·rw [if_pos c5] at H
  have c5b0 : (a3 == 0) = true := beq_iff_eq.mpr c5
  have c5b1 : (a3 != 0) = false := bne_eq_false_iff_eq.mpr c5
  clear c5
  by_cases c6 : a1 = 0
  ·rw [if_pos c6] at H
   have c6b0 : (a1 == 0) = true := beq_iff_eq.mpr c6
   have c6b1 : (a1 != 0) = false := bne_eq_false_iff_eq.mpr c6
   clear c6
   replace H := Option.bind_eq_some_iff.mp H
   obtain ⟨t265, A70, H⟩ := H
   replace H : (some t265) = some r := H
   have A7 := Aside0.mk A70
   clear A70
   obtain rfl := Option.some.inj H
   go_enter Tryz.func16, Tryz.ntmps16
   go_wp2_with (first | ((with_reducible refine gate_dst (N := 4) rfl ?_); refine box_event ?hg (N := 4) ?hd (cs := #[.int .i64 a0_0, .slice A0_1 l0_1.length c0_1]) (t := 24) ?hr ?_; (case hd => rfl); (case hg => rfl); (case hr => first | (go_simp; done) | (go_simp; rfl)); intro gb263 hg w8 hbox hb; have BK263 := Aside0.mk (hbox); have GW263 := geB w hg; have GE263 := geB w hg; replace HB := Aside0.mk (below_step bel hb); clear hb hbox hg) | ((with_reducible refine gate_dst (N := 6) rfl ?_); refine box_event ?hg (N := 6) ?hd (cs := #[.int .i64 a2_0, .slice A2_1 l2_1.length c2_1]) (t := 24) ?hr ?_; (case hd => rfl); (case hg => rfl); (case hr => first | (go_simp; done) | (go_simp; rfl)); intro gb264 hg w9 hbox hb; have BK264 := Aside0.mk (hbox); have GW264 := geB w hg; have GE264 := geB w hg; have NB263_264 := neL BK263 hg; have NB264_263 := neG BK263 hg; replace BK263 := blB BK263 hb; replace HB := Aside0.mk (below_step bel hb); clear hb hbox hg; have hnb10 := NB263_264.out; have hnc10 := NB264_263.out; obtain ⟨hcz11_0, hcz11_1, hfz11_0, hfz11_1⟩ := bq2 BK263; obtain ⟨hcz12_0, hcz12_1, hfz12_0, hfz12_1⟩ := bq2 BK264) | (go_at_call 34; (with_reducible refine (paraphrastref01_Same.calls k a0_0 _ _ l0_1 a2_0 _ _ l2_1 t265 _ ?side1 ?side2 ?side3 ?side4 A7.out).mono ?_); (case side1 => exact cS (Kd.C_below HR0_1.out HB.out)); (case side2 => exact HC0_1.out); (case side3 => exact cS (Kd.C_below HR2_1.out HB.out)); (case side4 => exact HC2_1.out); rintro e w13 ⟨rfl, hb⟩; replace BK263 := blB BK263 hb; replace BK264 := blB BK264 hb; replace HB := Aside0.mk (below_step bel hb); (try clear hb); (try clear hb2); (try clear hk); (try clear hi)))
   go_ret
   exact ⟨eN, bel⟩
  ·rw [if_neg c6] at H
   have c6b0 : (a1 == 0) = false := beq_eq_false_iff_ne.mpr c6
   have c6b1 : (a1 != 0) = true := bne_iff_ne.mpr c6
   obtain rfl := Option.some.inj H
   go_enter Tryz.func16, Tryz.ntmps16
   go_wp2_with (first | ((with_reducible refine gate_dst (N := 4) rfl ?_); refine box_event ?hg (N := 4) ?hd (cs := #[.int .i64 a0_0, .slice A0_1 l0_1.length c0_1]) (t := 24) ?hr ?_; (case hd => rfl); (case hg => rfl); (case hr => first | (go_simp; done) | (go_simp; rfl)); intro gb263 hg w14 hbox hb; have BK263 := Aside0.mk (hbox); have GW263 := geB w hg; have GE263 := geB w hg; replace HB := Aside0.mk (below_step bel hb); clear hb hbox hg) | ((with_reducible refine gate_dst (N := 6) rfl ?_); refine box_event ?hg (N := 6) ?hd (cs := #[.int .i64 a2_0, .slice A2_1 l2_1.length c2_1]) (t := 24) ?hr ?_; (case hd => rfl); (case hg => rfl); (case hr => first | (go_simp; done) | (go_simp; rfl)); intro gb264 hg w15 hbox hb; have BK264 := Aside0.mk (hbox); have GW264 := geB w hg; have GE264 := geB w hg; have NB263_264 := neL BK263 hg; have NB264_263 := neG BK263 hg; replace BK263 := blB BK263 hb; replace HB := Aside0.mk (below_step bel hb); clear hb hbox hg))
   go_ret
   exact ⟨eN, bel⟩
 ·rw [if_neg c5] at H
  have c5b0 : (a3 == 0) = false := beq_eq_false_iff_ne.mpr c5
  have c5b1 : (a3 != 0) = true := bne_iff_ne.mpr c5
  by_cases c16 : a1 = a3
  ·rw [if_pos c16] at H
   have c16b0 : (a1 == a3) = true := beq_iff_eq.mpr c16
   have c16b1 : (a1 != a3) = false := bne_eq_false_iff_eq.mpr c16
   clear c16
   replace H := Option.bind_eq_some_iff.mp H
   obtain ⟨t266, A170, H⟩ := H
   replace H : (some t266) = some r := H
   have A17 := Aside0.mk A170
   clear A170
   obtain rfl := Option.some.inj H
   go_enter Tryz.func16, Tryz.ntmps16
   go_wp2_with (first | ((with_reducible refine gate_dst (N := 4) rfl ?_); refine box_event ?hg (N := 4) ?hd (cs := #[.int .i64 a0_0, .slice A0_1 l0_1.length c0_1]) (t := 24) ?hr ?_; (case hd => rfl); (case hg => rfl); (case hr => first | (go_simp; done) | (go_simp; rfl)); intro gb263 hg w18 hbox hb; have BK263 := Aside0.mk (hbox); have GW263 := geB w hg; have GE263 := geB w hg; replace HB := Aside0.mk (below_step bel hb); clear hb hbox hg) | ((with_reducible refine gate_dst (N := 6) rfl ?_); refine box_event ?hg (N := 6) ?hd (cs := #[.int .i64 a2_0, .slice A2_1 l2_1.length c2_1]) (t := 24) ?hr ?_; (case hd => rfl); (case hg => rfl); (case hr => first | (go_simp; done) | (go_simp; rfl)); intro gb264 hg w19 hbox hb; have BK264 := Aside0.mk (hbox); have GW264 := geB w hg; have GE264 := geB w hg; have NB263_264 := neL BK263 hg; have NB264_263 := neG BK263 hg; replace BK263 := blB BK263 hb; replace HB := Aside0.mk (below_step bel hb); clear hb hbox hg; have hnb20 := NB263_264.out; have hnc20 := NB264_263.out; obtain ⟨hcz21_0, hcz21_1, hfz21_0, hfz21_1⟩ := bq2 BK263) | (go_at_call 34; (refine (paraphrastref01_Same.calls k a0_0 _ _ l0_1 0 _ _ ([] : List (S52)) t266 _ ?side1 ?side2 ?side3 ?side4 A17.out).mono ?_); (case side1 => exact cS (Kd.C_below HR0_1.out HB.out)); (case side2 => exact HC0_1.out); (case side3 => exact Kd.C_nil _ _); (case side4 => exact Nat.le_refl _); rintro e w22 ⟨rfl, hb⟩; replace BK263 := blB BK263 hb; replace BK264 := blB BK264 hb; replace HB := Aside0.mk (below_step bel hb); (try clear hb); (try clear hb2); (try clear hk); (try clear hi)))
   go_ret
   exact ⟨eN, bel⟩
  ·rw [if_neg c16] at H
   have c16b0 : (a1 == a3) = false := beq_eq_false_iff_ne.mpr c16
   have c16b1 : (a1 != a3) = true := bne_iff_ne.mpr c16
   obtain rfl := Option.some.inj H
   go_enter Tryz.func16, Tryz.ntmps16
   go_wp2_with (first | ((with_reducible refine gate_dst (N := 4) rfl ?_); refine box_event ?hg (N := 4) ?hd (cs := #[.int .i64 a0_0, .slice A0_1 l0_1.length c0_1]) (t := 24) ?hr ?_; (case hd => rfl); (case hg => rfl); (case hr => first | (go_simp; done) | (go_simp; rfl)); intro gb263 hg w23 hbox hb; have BK263 := Aside0.mk (hbox); have GW263 := geB w hg; have GE263 := geB w hg; replace HB := Aside0.mk (below_step bel hb); clear hb hbox hg) | ((with_reducible refine gate_dst (N := 6) rfl ?_); refine box_event ?hg (N := 6) ?hd (cs := #[.int .i64 a2_0, .slice A2_1 l2_1.length c2_1]) (t := 24) ?hr ?_; (case hd => rfl); (case hg => rfl); (case hr => first | (go_simp; done) | (go_simp; rfl)); intro gb264 hg w24 hbox hb; have BK264 := Aside0.mk (hbox); have GW264 := geB w hg; have GE264 := geB w hg; have NB263_264 := neL BK263 hg; have NB264_263 := neG BK263 hg; replace BK263 := blB BK263 hb; replace HB := Aside0.mk (below_step bel hb); clear hb hbox hg))
   go_ret
   exact ⟨eN, bel⟩
end Go.Proofs.YtfmpaofbnjlniaaGreatDoor.F
/- ShapePuts, the plain law. -/
namespace Go.Proofs.YtfmpaofbnjlniaaGreatDoor.F
open Go.RowKit Go.Proofs.YtfmpaofbnjlniaaGreatDoorW.PrintWords Go.Proofs.YtfmpaofbnjlniaaGreatDoorW.PrintLast Go.Proofs.YtfmpaofbnjlniaaGreatDoorW.PrintMore
set_option linter.unusedVariables false
theorem same_empty (k : Nat) (hk : 102300 ≤ k) : paraphrastref01_Same.f k 0 [] 0 [] = some true := same_refl 0 [] (by simp) (fun r hr => by cases hr) k hk
end Go.Proofs.YtfmpaofbnjlniaaGreatDoor.F
