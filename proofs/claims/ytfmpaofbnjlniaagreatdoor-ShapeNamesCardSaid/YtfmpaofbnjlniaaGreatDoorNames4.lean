/- Part 4 of the proof: ShapeNames: a renamed tuple is in the permuted structure just when the tuple is in the structure, and the inverse permutation restores it. -/
import Derived.Test.YtfmpaofbnjlniaaGreatDoorNames3
import Derived.Lib.SliceRun
import Derived.Maps.OwnSet
import Derived.Shelf.SlSortCmp.Kit1
import Derived.Shelf.SlLaysF
import Derived.Ground.SlsfProg
import Derived.Test.YtfmpaofbnjlniaaGreatDoorProg
import Derived.Shelf.SlSortCmp.NoneTotal
namespace Go.Proofs.YtfmpaofbnjlniaaGreatDoor.F
open Go.RowKit Go.Proofs.YtfmpaofbnjlniaaGreatDoorW.PrintWords Go.Proofs.YtfmpaofbnjlniaaGreatDoorW.PrintLast Go.Proofs.YtfmpaofbnjlniaaGreatDoorW.PrintMore
attribute [local go_sem] max2_int min2_int max_two min_two max_three min_three max_four min_four
set_option linter.unusedVariables false
set_option linter.unusedSimpArgs false
theorem far_ne34 {W : World} {p : Addr} {v : Value} {g : Nat} (h : W.cell? p = some v) (hg : W.heap.size ≤ g) : p.block ≠ g := Nat.ne_of_lt (Nat.lt_of_lt_of_le (World.block_lt_of_cell? _ _ h) hg)
/-! ### paraphrastref01_Same: function 34 -/
mutual
def paraphrastref01_Same.j0 : Nat → Bool → Int → List (S52) → Int → List (S52) → Option (Bool)
 | 0, _, _, _, _, _ => none
 | k + 1, x21, x255000, x255001, x256000, x256001 => if x21 = true then (some false) else (paraphrastref01_Same.l0 k 0 x255000 x255001 x256000 x256001)
def paraphrastref01_Same.l0 : Nat → Int → Int → List (S52) → Int → List (S52) → Option (Bool)
 | 0, _, _, _, _, _ => none
 | k + 1, x5, x255000, x255001, x256000, x256001 => if x5 < (x255001.length : Int) then (if 0 ≤ x5 then (if x5 < (x256001.length : Int) then (if ((rd_T52 x255001 x5).f0).toList = ((rd_T52 x256001 x5).f0).toList then (if ((rd_T52 x255001 x5).f1) = ((rd_T52 x256001 x5).f1) then ((paraphrastref01_SameTuples.f k ((rd_T52 x255001 x5).f2) ((rd_T52 x256001 x5).f2)).bind fun t260 => (if t260 = true then (paraphrastref01_Same.l0 k (wrap64 (x5 + 1)) x255000 x255001 x256000 x256001) else (some false))) else (some false)) else (some false)) else (none)) else (none)) else (some true)
end
def paraphrastref01_Same.f (k : Nat) (a0_0 : Int) (l0_1 : List (S52)) (a1_0 : Int) (l1_1 : List (S52)) : Option (Bool) := if a0_0 = a1_0 then (paraphrastref01_Same.j0 k ((l0_1.length : Int) != (l1_1.length : Int)) a0_0 l0_1 a1_0 l1_1) else (paraphrastref01_Same.j0 k true a0_0 l0_1 a1_0 l1_1)
def paraphrastref01_Same.T6 : Bool × List (List Nat × List Nat) := (true, [([], []), ([0], [0]), ([], []), ([1, 2], [1, 2]), ([3], [3]), ([], []), ([5], [5]), ([], []), ([6, 7], [6, 7]), ([8], [8]), ([], []), ([], []), ([10, 4, 0, 1, 2, 3, 4, 10, 11], [4, 10]), ([11, 9, 12, 0, 1, 2, 3, 4, 5, 6, 7, 8, 9, 10, 11, 12], [9, 11])])
def paraphrastref01_Same.B6 : List Nat := [0, 1, 0, 7, 15, 0, 32, 0, 224, 480, 0, 0, 3103, 8191]
theorem paraphrastref01_Same.tab6 : rtab .any (opsOf Tryz.f34 6) = paraphrastref01_Same.T6 := by kernel_rfl
theorem paraphrastref01_Same.bits6 : waitsOk paraphrastref01_Same.T6.2 paraphrastref01_Same.B6 = true := by kernel_rfl
set_option maxHeartbeats 8000000 in
set_option maxRecDepth 100000 in
theorem paraphrastref01_Same.calls (k : Nat) (a0_0 : Int) (A0_1 : Option Addr) (c0_1 : Nat) (l0_1 : List (S52)) (a1_0 : Int) (A1_1 : Option Addr) (c1_1 : Nat) (l1_1 : List (S52)) (r : Bool) (w : World) (hr0_1 : Kd.C k52 w A0_1 l0_1.length l0_1) (hc0_1 : l0_1.length ≤ c0_1) (hr1_1 : Kd.C k52 w A1_1 l1_1.length l1_1) (hc1_1 : l1_1.length ≤ c1_1) (h : paraphrastref01_Same.f k a0_0 l0_1 a1_0 l1_1 = some r) :
  Calls Tryz.prog 34 #[.agg #[.int .i64 a0_0, .slice A0_1 l0_1.length c0_1], .agg #[.int .i64 a1_0, .slice A1_1 l1_1.length c1_1]] w fun e w' => e = .returned (.bool r) ∧ Below w.heap.size w w' := by
 have hu24 := Tryz.underlying24
 have hu52 := Tryz.underlying52
 have HR0_1 := Aside0.mk hr0_1
 have HC0_1 := Aside0.mk hc0_1
 clear hr0_1 hc0_1
 have HR1_1 := Aside0.mk hr1_1
 have HC1_1 := Aside0.mk hc1_1
 clear hr1_1 hc1_1
 have HB := Aside0.mk (Below.refl w.heap.size w)
 have H : (if a0_0 = a1_0 then (paraphrastref01_Same.j0 k ((l0_1.length : Int) != (l1_1.length : Int)) a0_0 l0_1 a1_0 l1_1) else (paraphrastref01_Same.j0 k true a0_0 l0_1 a1_0 l1_1)) = some r := h
 clear h
 have HC3 := Aside0.mk H
 clear H
 go_enter Tryz.func34, Tryz.ntmps34
 go_upto_region 1 with (first | ((with_reducible refine gate_dst (N := 2) rfl ?_); (try (refine gate_guard (by rfl) ?_; dsimp only)); refine box_event ?hg (N := 2) ?hd (cs := #[.int .i64 a0_0, .slice A0_1 l0_1.length c0_1]) (t := 24) ?hr ?_; (case hd => rfl); (case hg => rfl); (case hr => first | (go_simp; done) | (go_simp; rfl)); intro gb254 hg w4 hbox hb; have BK254 := Aside0.mk (hbox); have GW254 := geB w hg; have GE254 := geB w hg; replace HB := Aside0.mk (below_step bel hb); clear hb hbox hg) | ((with_reducible refine gate_dst (N := 3) rfl ?_); (try (refine gate_guard (by rfl) ?_; dsimp only)); refine box_event ?hg (N := 3) ?hd (cs := #[.int .i64 a1_0, .slice A1_1 l1_1.length c1_1]) (t := 24) ?hr ?_; (case hd => rfl); (case hg => rfl); (case hr => first | (go_simp; done) | (go_simp; rfl)); intro gb255 hg w5 hbox hb; have BK255 := Aside0.mk (hbox); have GW255 := geB w hg; have GE255 := geB w hg; have NB254_255 := neL BK254 hg; have NB255_254 := neG BK254 hg; replace BK254 := blB BK254 hb; replace HB := Aside0.mk (below_step bel hb); clear hb hbox hg))
 (try simp only [Act.put, List.setIfInBounds_toArray, List.set_cons_zero, List.set_cons_succ])
 go_cut [21] (fun v21 wc => ∃ (kq : Nat) (x21_2 : Bool), v21 = .bool x21_2 ∧ Aside0 (paraphrastref01_Same.j0 kq x21_2 a0_0 l0_1 a1_0 l1_1 = some r) ∧ Aside0 (kq ≤ k) ∧ Aside0 (wc.heap[gb254]? = some (.cells #[.int .i64 a0_0, (.slice A0_1 l0_1.length c0_1)] 24 (0, 0))) ∧ Aside0 (wc.heap[gb255]? = some (.cells #[.int .i64 a1_0, (.slice A1_1 l1_1.length c1_1)] 24 (0, 0))) ∧ Aside0 (Below w.heap.size w wc))
 case first =>
  have H := HC3.out
  clear HC3
  by_cases c6 : a0_0 = a1_0
  ·rw [if_pos c6] at H
   have c6b0 : (a0_0 == a1_0) = true := beq_iff_eq.mpr c6
   have c6b1 : (a0_0 != a1_0) = false := bne_eq_false_iff_eq.mpr c6
   clear c6
   (first | rw [c6b0] | (simp only [i64_w, i32_w]; rw [c6b0]) | skip)
   have H' := Aside0.mk H
   clear H
   have hnb7 := NB254_255.out
   have hnc7 := NB255_254.out
   obtain ⟨hcz8_0, hcz8_1, hfz8_0, hfz8_1⟩ := bq2 BK254
   obtain ⟨hcz9_0, hcz9_1, hfz9_0, hfz9_1⟩ := bq2 BK255
   go_wp2
   go_meet
   case rel => exact ⟨_, (((l0_1.length : Int) != (l1_1.length : Int))), eS, H', ⟨kle⟩, ⟨bk BK254⟩, ⟨bk BK255⟩, ⟨bel⟩⟩
  ·rw [if_neg c6] at H
   have c6b0 : (a0_0 == a1_0) = false := beq_eq_false_iff_ne.mpr c6
   have c6b1 : (a0_0 != a1_0) = true := bne_iff_ne.mpr c6
   (first | rw [c6b0] | (simp only [i64_w, i32_w]; rw [c6b0]) | skip)
   have H' := Aside0.mk H
   clear H
   have hnb10 := NB254_255.out
   have hnc10 := NB255_254.out
   obtain ⟨hcz11_0, hcz11_1, hfz11_0, hfz11_1⟩ := bq2 BK254
   obtain ⟨hcz12_0, hcz12_1, hfz12_0, hfz12_1⟩ := bq2 BK255
   go_wp2
   go_meet
   case rel => exact ⟨_, (true), eS, H', ⟨kle⟩, ⟨bk BK254⟩, ⟨bk BK255⟩, ⟨bel⟩⟩
 case rest =>
  clear HC3
  obtain ⟨kq, x21_2, rfl, HA, HJ2, BK254, BK255, HB⟩ := hcut
  cases kq with
  | zero => exact absurd HA.out (by simp [paraphrastref01_Same.j0])
  | succ kj2 =>
   have H := HA.out
   clear HA
   simp only [paraphrastref01_Same.j0] at H
   by_cases c13 : x21_2 = true
   ·subst c13
    have H1 : (some false) = some r := by rw [if_pos rfl] at H; exact H
    clear H
    have H := H1
    clear H1
    obtain rfl := Option.some.inj H
    go_wp2
    go_ret
    exact ⟨eN, bel⟩
   ·replace c13 := Bool.eq_false_iff.mpr c13
    subst c13
    have H1 : (paraphrastref01_Same.l0 kj2 0 a0_0 l0_1 a1_0 l1_1) = some r := by rw [if_neg (show ¬ (false = true) by decide)] at H; exact H
    clear H
    have H := H1
    clear H1
    have H' := Aside0.mk H
    clear H
    go_wp2
    go_loopg [5] kj2 (fun kq v5 w' => ∃ (x5_2 : Int), v5 = .int .i64 x5_2 ∧ Aside0 (paraphrastref01_Same.l0 kq x5_2 a0_0 l0_1 a1_0 l1_1 = some r) ∧ Aside0 (kq ≤ kj2) ∧ Aside0 (w'.heap[gb254]? = some (.cells #[.int .i64 a0_0, (.slice A0_1 l0_1.length c0_1)] 24 (0, 0))) ∧ Aside0 (w'.heap[gb255]? = some (.cells #[.int .i64 a1_0, (.slice A1_1 l1_1.length c1_1)] 24 (0, 0))) ∧ Aside0 (Below w.heap.size w w'))
    case atStart => exact ⟨(0), eS, H', ⟨Nat.le_refl _⟩, ⟨bk BK254⟩, ⟨bk BK255⟩, ⟨bel⟩⟩
    case round =>
     clear H'
     (try clear c13)
     obtain ⟨x5_2, rfl, HA, HK2, BK254, BK255, HB⟩ := hrel
     cases gk with
     | zero => exact absurd HA.out (by simp [paraphrastref01_Same.l0])
     | succ k2 =>
      have H := HA.out
      clear HA
      simp only [paraphrastref01_Same.l0] at H
      by_cases c14 : x5_2 < (l0_1.length : Int)
      ·rw [if_pos c14] at H
       have c14b0 : decide (x5_2 < (l0_1.length : Int)) = true := decide_eq_true c14
       clear c14
       by_cases c15 : 0 ≤ x5_2
       ·rw [if_pos c15] at H
        have c15b0 : decide (0 ≤ x5_2) = true := decide_eq_true c15
        clear c15
        by_cases c16 : x5_2 < (l1_1.length : Int)
        ·rw [if_pos c16] at H
         have c16b0 : decide (x5_2 < (l1_1.length : Int)) = true := decide_eq_true c16
         clear c16
         by_cases c17 : ((rd_T52 l0_1 x5_2).f0).toList = ((rd_T52 l1_1 x5_2).f0).toList
         ·rw [if_pos c17] at H
          have c17b0 : (((rd_T52 l0_1 x5_2).f0).toList == ((rd_T52 l1_1 x5_2).f0).toList) = true := beq_iff_eq.mpr c17
          have c17b1 : (((rd_T52 l0_1 x5_2).f0).toList != ((rd_T52 l1_1 x5_2).f0).toList) = false := bne_eq_false_iff_eq.mpr c17
          clear c17
          by_cases c18 : ((rd_T52 l0_1 x5_2).f1) = ((rd_T52 l1_1 x5_2).f1)
          ·rw [if_pos c18] at H
           have c18b0 : (((rd_T52 l0_1 x5_2).f1) == ((rd_T52 l1_1 x5_2).f1)) = true := beq_iff_eq.mpr c18
           have c18b1 : (((rd_T52 l0_1 x5_2).f1) != ((rd_T52 l1_1 x5_2).f1)) = false := bne_eq_false_iff_eq.mpr c18
           clear c18
           replace H := Option.bind_eq_some_iff.mp H
           obtain ⟨t260, A190, H⟩ := H
           replace H : (if t260 = true then (paraphrastref01_Same.l0 k2 (wrap64 (x5_2 + 1)) a0_0 l0_1 a1_0 l1_1) else (some false)) = some r := H
           have A19 := Aside0.mk A190
           clear A190
           by_cases c20 : t260 = true
           ·subst c20
            have H1 : (paraphrastref01_Same.l0 k2 (wrap64 (x5_2 + 1)) a0_0 l0_1 a1_0 l1_1) = some r := by rw [if_pos rfl] at H; exact H
            clear H
            have H := H1
            clear H1
            have H' := Aside0.mk H
            clear H
            have hnb21 := NB254_255.out
            have hnc21 := NB255_254.out
            obtain ⟨hcz22_0, hcz22_1, hfz22_0, hfz22_1⟩ := bq2 BK254
            try go_wp2
            replace BK254 := Aside0.mk (blk_drew BK254.out)
            replace BK255 := Aside0.mk (blk_drew BK255.out)
            replace HB := Aside0.mk (below_drew1 HB.out)
            have p256 : 0 ≤ (x5_2 : Int) := dtr
            have q256 : x5_2 < (l0_1.length : Int) := dtr
            obtain ⟨ad256, A256_2, c256_2, e256, hx256_0, hx256_1, hx256_2, hl256_2, hi256_2⟩ := at_T52 HR0_1.out x5_2 p256 q256
            have hw256_2 := hx256_2
            have hw256_1 := hx256_1
            have hw256_0 := hx256_0
            cases e256
            replace hx256_0 := oc hx256_0
            replace hx256_1 := oc hx256_1
            replace hx256_2 := oc hx256_2
            have HR256_2 := Aside0.mk hi256_2
            have HC256_2 := Aside0.mk hl256_2
            clear hi256_2 hl256_2
            replace p256 := eq_true p256
            replace q256 := eq_true q256
            have p257 : 0 ≤ (x5_2 : Int) := dtr
            have q257 : x5_2 < (l1_1.length : Int) := dtr
            obtain ⟨ad257, A257_2, c257_2, e257, hx257_0, hx257_1, hx257_2, hl257_2, hi257_2⟩ := at_T52 HR1_1.out x5_2 p257 q257
            have hw257_2 := hx257_2
            have hw257_1 := hx257_1
            have hw257_0 := hx257_0
            cases e257
            replace hx257_0 := oc hx257_0
            replace hx257_1 := oc hx257_1
            replace hx257_2 := oc hx257_2
            have HR257_2 := Aside0.mk hi257_2
            have HC257_2 := Aside0.mk hl257_2
            clear hi257_2 hl257_2
            replace p257 := eq_true p257
            replace q257 := eq_true q257
            refine start_ (n := 14) (S := fun w' => w'.cell? ⟨gb254, 0, none⟩ = some (.int .i64 a0_0) ∧ w'.cell? ⟨gb254, 1, none⟩ = some (.slice (some ad256) l0_1.length c0_1) ∧ w'.cell? ⟨gb255, 0, none⟩ = some (.int .i64 a1_0) ∧ w'.cell? ⟨gb255, 1, none⟩ = some (.slice (some ad257) l1_1.length c1_1) ∧ w'.cell? (ad256.add ((x5_2).toNat * 3)) = some (.string ((rd_T52 l0_1 x5_2).f0)) ∧ w'.cell? ⟨(ad256.add ((x5_2).toNat * 3)).block, (ad256.add ((x5_2).toNat * 3)).off + 1, none⟩ = some (.int .i64 ((rd_T52 l0_1 x5_2).f1)) ∧ w'.cell? ⟨(ad256.add ((x5_2).toNat * 3)).block, (ad256.add ((x5_2).toNat * 3)).off + 2, none⟩ = some (.slice A256_2 ((rd_T52 l0_1 x5_2).f2).length c256_2) ∧ w'.cell? (ad257.add ((x5_2).toNat * 3)) = some (.string ((rd_T52 l1_1 x5_2).f0)) ∧ w'.cell? ⟨(ad257.add ((x5_2).toNat * 3)).block, (ad257.add ((x5_2).toNat * 3)).off + 1, none⟩ = some (.int .i64 ((rd_T52 l1_1 x5_2).f1)) ∧ w'.cell? ⟨(ad257.add ((x5_2).toNat * 3)).block, (ad257.add ((x5_2).toNat * 3)).off + 2, none⟩ = some (.slice A257_2 ((rd_T52 l1_1 x5_2).f2).length c257_2)) (ds := []) #[false, false, false, false, false, false, false, false, false, false, false, false, false, false] (by kernel_rfl) rfl rfl ⟨(blk_cell BK254.out 0).trans rfl, (blk_cell BK254.out 1).trans rfl, (blk_cell BK255.out 0).trans rfl, (blk_cell BK255.out 1).trans rfl, (oc hw256_0), (oc hw256_1), (oc hw256_2), (oc hw257_0), (oc hw257_1), (oc hw257_2)⟩ (fun hHeld => ?_); refine with_tabW paraphrastref01_Same.tab6 paraphrastref01_Same.bits6 (fun HT_ HW_ => ?_)
            generalize wr.drew = w23 at BK254 BK255 HB HR256_2 HR257_2 hx256_0 hx256_1 hx256_2 hx257_0 hx257_1 hx257_2 hHeld ⊢
            refine sPu 0 (some 29) ?_
            refine sPu 2 (some 31) ?_
            refine sPu 5 (some 34) ?_
            refine sPu 7 (some 36) ?_
            refine sTk 1 (some 30) ?_
            refine sPu 3 (some 32) ?_
            refine sTk 4 (some 33) ?_
            refine sTk 6 (some 35) ?_
            refine sPu 8 (some 37) ?_
            refine sTk 9 (some 38) ?_
            refine join_ (σ := Nat × Nat) 2 #[true, true, true, true, true, true, true, true, true, true, true, true, false, false] (fun s_ => [(6, .pointer (some ⟨s_.1, 0, none⟩)), (7, .pointer (some ⟨s_.2, 0, none⟩))]) (fun s_ w' => (w'.cell? ⟨gb254, 0, none⟩ = some (.int .i64 a0_0) ∧ w'.cell? ⟨gb254, 1, none⟩ = some (.slice (some ad256) l0_1.length c0_1) ∧ w'.cell? ⟨gb255, 0, none⟩ = some (.int .i64 a1_0) ∧ w'.cell? ⟨gb255, 1, none⟩ = some (.slice (some ad257) l1_1.length c1_1) ∧ w'.cell? (ad256.add ((x5_2).toNat * 3)) = some (.string ((rd_T52 l0_1 x5_2).f0)) ∧ w'.cell? ⟨(ad256.add ((x5_2).toNat * 3)).block, (ad256.add ((x5_2).toNat * 3)).off + 1, none⟩ = some (.int .i64 ((rd_T52 l0_1 x5_2).f1)) ∧ w'.cell? ⟨(ad256.add ((x5_2).toNat * 3)).block, (ad256.add ((x5_2).toNat * 3)).off + 2, none⟩ = some (.slice A256_2 ((rd_T52 l0_1 x5_2).f2).length c256_2) ∧ w'.cell? (ad257.add ((x5_2).toNat * 3)) = some (.string ((rd_T52 l1_1 x5_2).f0)) ∧ w'.cell? ⟨(ad257.add ((x5_2).toNat * 3)).block, (ad257.add ((x5_2).toNat * 3)).off + 1, none⟩ = some (.int .i64 ((rd_T52 l1_1 x5_2).f1)) ∧ w'.cell? ⟨(ad257.add ((x5_2).toNat * 3)).block, (ad257.add ((x5_2).toNat * 3)).off + 2, none⟩ = some (.slice A257_2 ((rd_T52 l1_1 x5_2).f2).length c257_2)) ∧ (w'.heap[gb254]? = some (.cells #[.int .i64 a0_0, .slice (some ad256) l0_1.length c0_1] 24 (0, 0))) ∧ (w'.heap[gb255]? = some (.cells #[.int .i64 a1_0, .slice (some ad257) l1_1.length c1_1] 24 (0, 0))) ∧ (w'.heap[s_.1]? = some (.cells #[.string (⟨#[]⟩ : ByteArray), .int .i64 0, .slice none 0 0] 52 (0, 0))) ∧ (w'.heap[s_.2]? = some (.cells #[.string (⟨#[]⟩ : ByteArray), .int .i64 0, .slice none 0 0] 52 (0, 0))) ∧ (w.heap.size ≤ s_.1) ∧ (w.heap.size ≤ s_.1) ∧ (gb254 ≠ s_.1) ∧ (s_.1 ≠ gb254) ∧ (gb255 ≠ s_.1) ∧ (s_.1 ≠ gb255) ∧ (s_.2 ≠ s_.1) ∧ (s_.1 ≠ s_.2) ∧ (w.heap.size ≤ s_.2) ∧ (w.heap.size ≤ s_.2) ∧ (gb254 ≠ s_.2) ∧ (s_.2 ≠ gb254) ∧ (gb255 ≠ s_.2) ∧ (s_.2 ≠ gb255) ∧ (Below w.heap.size w w')) ?_ ?_
            rotate_left
            ·intro hCont
             refine two_ (i := 10) (j := 11) (Ni := some 6) (Nj := some 7) #[true, true, true, true, true, true, true, true, true, true, true, false, false, false] #[true, true, true, true, true, true, true, true, true, true, false, true, false, false] rfl rfl rfl rfl (two_of HT_.out (by kernel_rfl)) (by decide) (by decide) (fun K hK => ?_) (fun K hK => ?_)
             ·skip
              refine box_step ?hg (N := 6) ?hd (cs := #[.string (⟨#[]⟩ : ByteArray), .int .i64 0, .slice none 0 0]) (t := 52) ?hr ?_; (case hd => rfl); (case hg => rfl); (case hr => first | (go_simp; done) | (go_simp; rfl))
              intro gb258 hg w24 hbox hb
              have BK258 := Aside0.mk (hbox)
              have GW258 := geB w hg
              have GE258 := geB w hg
              have NB254_258 := neL BK254 hg
              have NB258_254 := neG BK254 hg
              have NB255_258 := neL BK255 hg
              have NB258_255 := neG BK255 hg
              replace BK254 := blB BK254 hb
              replace BK255 := blB BK255 hb
              replace HB := Aside0.mk (below_step bel hb)
              clear hb hbox hg
              refine hK.out _ _ ⟨(blk_cell BK254.out 0).trans rfl, (blk_cell BK254.out 1).trans rfl, (blk_cell BK255.out 0).trans rfl, (blk_cell BK255.out 1).trans rfl, (oc hw256_0), (oc hw256_1), (oc hw256_2), (oc hw257_0), (oc hw257_1), (oc hw257_2)⟩ (fun hHeld => ?_)
              clear hK K
              refine norm_ (a' := ?_) ?_ ?_
              rotate_left
              ·show Act.put _ (some 6) _ = _
               simp only [Act.put, List.setIfInBounds_toArray, List.set_cons_zero, List.set_cons_succ, i64_w, i32_w]
               rfl
              refine sOn 11 (some 7) (fun K hK => ?_)
              refine box_step ?hg (N := 7) ?hd (cs := #[.string (⟨#[]⟩ : ByteArray), .int .i64 0, .slice none 0 0]) (t := 52) ?hr ?_; (case hd => rfl); (case hg => rfl); (case hr => first | (go_simp; done) | (go_simp; rfl))
              intro gb259 hg w25 hbox hb
              have BK259 := Aside0.mk (hbox)
              have GW259 := geB w hg
              have GE259 := geB w hg
              have NB254_259 := neL BK254 hg
              have NB259_254 := neG BK254 hg
              have NB255_259 := neL BK255 hg
              have NB259_255 := neG BK255 hg
              have NB258_259 := neL BK258 hg
              have NB259_258 := neG BK258 hg
              replace BK254 := blB BK254 hb
              replace BK255 := blB BK255 hb
              replace BK258 := blB BK258 hb
              replace HB := Aside0.mk (below_step bel hb)
              clear hb hbox hg
              refine hK.out _ _ ⟨(blk_cell BK254.out 0).trans rfl, (blk_cell BK254.out 1).trans rfl, (blk_cell BK255.out 0).trans rfl, (blk_cell BK255.out 1).trans rfl, (oc hw256_0), (oc hw256_1), (oc hw256_2), (oc hw257_0), (oc hw257_1), (oc hw257_2)⟩ (fun hHeld => ?_)
              clear hK K
              refine norm_ (a' := ?_) ?_ ?_
              rotate_left
              ·show Act.put _ (some 7) _ = _
               simp only [Act.put, List.setIfInBounds_toArray, List.set_cons_zero, List.set_cons_succ, i64_w, i32_w]
               rfl
              exact norm_ (by simp only [putAll, Act.put, List.setIfInBounds_toArray, List.set_cons_zero, List.set_cons_succ]) (hCont (gb258, gb259) _ ⟨hHeld, (bk BK254), (bk BK255), (bk BK258), (bk BK259), GW258.out, GE258.out, NB254_258.out, NB258_254.out, NB255_258.out, NB258_255.out, NB259_258.out, NB258_259.out, GW259.out, GE259.out, NB254_259.out, NB259_254.out, NB255_259.out, NB259_255.out, bel⟩)
             ·skip
              refine box_step ?hg (N := 7) ?hd (cs := #[.string (⟨#[]⟩ : ByteArray), .int .i64 0, .slice none 0 0]) (t := 52) ?hr ?_; (case hd => rfl); (case hg => rfl); (case hr => first | (go_simp; done) | (go_simp; rfl))
              intro gb259 hg w24 hbox hb
              have BK259 := Aside0.mk (hbox)
              have GW259 := geB w hg
              have GE259 := geB w hg
              have NB254_259 := neL BK254 hg
              have NB259_254 := neG BK254 hg
              have NB255_259 := neL BK255 hg
              have NB259_255 := neG BK255 hg
              replace BK254 := blB BK254 hb
              replace BK255 := blB BK255 hb
              replace HB := Aside0.mk (below_step bel hb)
              clear hb hbox hg
              refine hK.out _ _ ⟨(blk_cell BK254.out 0).trans rfl, (blk_cell BK254.out 1).trans rfl, (blk_cell BK255.out 0).trans rfl, (blk_cell BK255.out 1).trans rfl, (oc hw256_0), (oc hw256_1), (oc hw256_2), (oc hw257_0), (oc hw257_1), (oc hw257_2)⟩ (fun hHeld => ?_)
              clear hK K
              refine norm_ (a' := ?_) ?_ ?_
              rotate_left
              ·show Act.put _ (some 7) _ = _
               simp only [Act.put, List.setIfInBounds_toArray, List.set_cons_zero, List.set_cons_succ, i64_w, i32_w]
               rfl
              refine sOn 10 (some 6) (fun K hK => ?_)
              refine box_step ?hg (N := 6) ?hd (cs := #[.string (⟨#[]⟩ : ByteArray), .int .i64 0, .slice none 0 0]) (t := 52) ?hr ?_; (case hd => rfl); (case hg => rfl); (case hr => first | (go_simp; done) | (go_simp; rfl))
              intro gb258 hg w25 hbox hb
              have BK258 := Aside0.mk (hbox)
              have GW258 := geB w hg
              have GE258 := geB w hg
              have NB254_258 := neL BK254 hg
              have NB258_254 := neG BK254 hg
              have NB255_258 := neL BK255 hg
              have NB258_255 := neG BK255 hg
              have NB259_258 := neL BK259 hg
              have NB258_259 := neG BK259 hg
              replace BK254 := blB BK254 hb
              replace BK255 := blB BK255 hb
              replace BK259 := blB BK259 hb
              replace HB := Aside0.mk (below_step bel hb)
              clear hb hbox hg
              refine hK.out _ _ ⟨(blk_cell BK254.out 0).trans rfl, (blk_cell BK254.out 1).trans rfl, (blk_cell BK255.out 0).trans rfl, (blk_cell BK255.out 1).trans rfl, (oc hw256_0), (oc hw256_1), (oc hw256_2), (oc hw257_0), (oc hw257_1), (oc hw257_2)⟩ (fun hHeld => ?_)
              clear hK K
              refine norm_ (a' := ?_) ?_ ?_
              rotate_left
              ·show Act.put _ (some 6) _ = _
               simp only [Act.put, List.setIfInBounds_toArray, List.set_cons_zero, List.set_cons_succ, i64_w, i32_w]
               rfl
              exact norm_ (by simp only [putAll, Act.put, List.setIfInBounds_toArray, List.set_cons_zero, List.set_cons_succ]) (hCont (gb258, gb259) _ ⟨hHeld, (bk BK254), (bk BK255), (bk BK258), (bk BK259), GW258.out, GE258.out, NB254_258.out, NB258_254.out, NB255_258.out, NB258_255.out, NB259_258.out, NB258_259.out, GW259.out, GE259.out, NB254_259.out, NB259_254.out, NB255_259.out, NB259_255.out, bel⟩)
            rintro ⟨gb258, gb259⟩ w26 ⟨hS_, h0_, h1_, h2_, h3_, h4_, h5_, h6_, h7_, h8_, h9_, h10_, h11_, h12_, h13_, h14_, h15_, h16_, h17_, h18_⟩
            have n0_ : Aside0 (w26.heap[gb254]? = some (.cells #[.int .i64 a0_0, .slice (some ad256) l0_1.length c0_1] 24 (0, 0))) := ⟨h0_⟩
            have n1_ : Aside0 (w26.heap[gb255]? = some (.cells #[.int .i64 a1_0, .slice (some ad257) l1_1.length c1_1] 24 (0, 0))) := ⟨h1_⟩
            have n2_ : Aside0 (w26.heap[gb258]? = some (.cells #[.string (⟨#[]⟩ : ByteArray), .int .i64 0, .slice none 0 0] 52 (0, 0))) := ⟨h2_⟩
            have n3_ : Aside0 (w26.heap[gb259]? = some (.cells #[.string (⟨#[]⟩ : ByteArray), .int .i64 0, .slice none 0 0] 52 (0, 0))) := ⟨h3_⟩
            have n4_ : Aside0 (w.heap.size ≤ gb258) := ⟨h4_⟩
            have n5_ : Aside0 (w.heap.size ≤ gb258) := ⟨h5_⟩
            have n6_ : Aside0 (gb254 ≠ gb258) := ⟨h6_⟩
            have n7_ : Aside0 (gb258 ≠ gb254) := ⟨h7_⟩
            have n8_ : Aside0 (gb255 ≠ gb258) := ⟨h8_⟩
            have n9_ : Aside0 (gb258 ≠ gb255) := ⟨h9_⟩
            have n10_ : Aside0 (gb259 ≠ gb258) := ⟨h10_⟩
            have n11_ : Aside0 (gb258 ≠ gb259) := ⟨h11_⟩
            have n12_ : Aside0 (w.heap.size ≤ gb259) := ⟨h12_⟩
            have n13_ : Aside0 (w.heap.size ≤ gb259) := ⟨h13_⟩
            have n14_ : Aside0 (gb254 ≠ gb259) := ⟨h14_⟩
            have n15_ : Aside0 (gb259 ≠ gb254) := ⟨h15_⟩
            have n16_ : Aside0 (gb255 ≠ gb259) := ⟨h16_⟩
            have n17_ : Aside0 (gb259 ≠ gb255) := ⟨h17_⟩
            have n18_ : Aside0 (Below w.heap.size w w26) := ⟨h18_⟩
            clear BK254
            clear BK255
            clear HB
            clear h0_ h1_ h2_ h3_ h4_ h5_ h6_ h7_ h8_ h9_ h10_ h11_ h12_ h13_ h14_ h15_ h16_ h17_ h18_
            have BK254 := n0_
            have BK255 := n1_
            have BK258 := n2_
            have BK259 := n3_
            have GW258 := n4_
            have GE258 := n5_
            have NB254_258 := n6_
            have NB258_254 := n7_
            have NB255_258 := n8_
            have NB258_255 := n9_
            have NB259_258 := n10_
            have NB258_259 := n11_
            have GW259 := n12_
            have GE259 := n13_
            have NB254_259 := n14_
            have NB259_254 := n15_
            have NB255_259 := n16_
            have NB259_255 := n17_
            have HB := n18_
            clear n0_ n1_ n2_ n3_ n4_ n5_ n6_ n7_ n8_ n9_ n10_ n11_ n12_ n13_ n14_ n15_ n16_ n17_ n18_
            have hHeld : w26.cell? ⟨gb254, 0, none⟩ = some (.int .i64 a0_0) ∧ w26.cell? ⟨gb254, 1, none⟩ = some (.slice (some ad256) l0_1.length c0_1) ∧ w26.cell? ⟨gb255, 0, none⟩ = some (.int .i64 a1_0) ∧ w26.cell? ⟨gb255, 1, none⟩ = some (.slice (some ad257) l1_1.length c1_1) ∧ w26.cell? (ad256.add ((x5_2).toNat * 3)) = some (.string ((rd_T52 l0_1 x5_2).f0)) ∧ w26.cell? ⟨(ad256.add ((x5_2).toNat * 3)).block, (ad256.add ((x5_2).toNat * 3)).off + 1, none⟩ = some (.int .i64 ((rd_T52 l0_1 x5_2).f1)) ∧ w26.cell? ⟨(ad256.add ((x5_2).toNat * 3)).block, (ad256.add ((x5_2).toNat * 3)).off + 2, none⟩ = some (.slice A256_2 ((rd_T52 l0_1 x5_2).f2).length c256_2) ∧ w26.cell? (ad257.add ((x5_2).toNat * 3)) = some (.string ((rd_T52 l1_1 x5_2).f0)) ∧ w26.cell? ⟨(ad257.add ((x5_2).toNat * 3)).block, (ad257.add ((x5_2).toNat * 3)).off + 1, none⟩ = some (.int .i64 ((rd_T52 l1_1 x5_2).f1)) ∧ w26.cell? ⟨(ad257.add ((x5_2).toNat * 3)).block, (ad257.add ((x5_2).toNat * 3)).off + 2, none⟩ = some (.slice A257_2 ((rd_T52 l1_1 x5_2).f2).length c257_2) := hS_
            refine norm_ (a' := ?_) ?_ ?_
            rotate_left
            ·simp only [putAll, Act.put, List.setIfInBounds_toArray, List.set_cons_zero, List.set_cons_succ]
             rfl
            refine sOn 12 none (fun K hK => ?_)
            have hs27 : w26.cell? ⟨gb258, 0, none⟩ = some (.string (⟨#[]⟩ : ByteArray)) := (blk_cell BK258.out 0).trans rfl
            have hfs27 := blk_frozen BK258.out 0
            have hns27_0 := NB254_258.out
            have hns27_1 := NB255_258.out
            have hns27_3 := NB259_258.out
            have hms27_0 := NB258_254.out
            have hms27_1 := NB258_255.out
            have hms27_3 := NB258_259.out
            have hs28 : w26.cell? ⟨gb258, 1, none⟩ = some (.int .i64 0) := (blk_cell BK258.out 1).trans rfl
            have hfs28 := blk_frozen BK258.out 1
            have hns28_0 := NB254_258.out
            have hns28_1 := NB255_258.out
            have hns28_3 := NB259_258.out
            have hms28_0 := NB258_254.out
            have hms28_1 := NB258_255.out
            have hms28_3 := NB258_259.out
            have hs29 : w26.cell? ⟨gb258, 2, none⟩ = some (.slice none 0 0) := (blk_cell BK258.out 2).trans rfl
            have hfs29 := blk_frozen BK258.out 2
            have hns29_0 := NB254_258.out
            have hns29_1 := NB255_258.out
            have hns29_3 := NB259_258.out
            have hms29_0 := NB258_254.out
            have hms29_1 := NB258_255.out
            have hms29_3 := NB258_259.out
            refine skip_ (w1 := ?_) (by rfl) rfl ?_ ?_
            rotate_left
            ·go_simp
             rfl
            refine hK.out _ _ ⟨((cell_far (p := ⟨gb258, _, none⟩) NB254_258.out _).trans (((cell_far (p := ⟨gb258, _, none⟩) NB254_258.out _).trans (((cell_far (p := ⟨gb258, _, none⟩) NB254_258.out _).trans (hHeld.1)))))), ((cell_far (p := ⟨gb258, _, none⟩) NB254_258.out _).trans (((cell_far (p := ⟨gb258, _, none⟩) NB254_258.out _).trans (((cell_far (p := ⟨gb258, _, none⟩) NB254_258.out _).trans (hHeld.2.1)))))), ((cell_far (p := ⟨gb258, _, none⟩) NB255_258.out _).trans (((cell_far (p := ⟨gb258, _, none⟩) NB255_258.out _).trans (((cell_far (p := ⟨gb258, _, none⟩) NB255_258.out _).trans (hHeld.2.2.1)))))), ((cell_far (p := ⟨gb258, _, none⟩) NB255_258.out _).trans (((cell_far (p := ⟨gb258, _, none⟩) NB255_258.out _).trans (((cell_far (p := ⟨gb258, _, none⟩) NB255_258.out _).trans (hHeld.2.2.2.1)))))), ((cell_far (p := ⟨gb258, _, none⟩) (far_ne34 hw256_0 GW258.out) _).trans (((cell_far (p := ⟨gb258, _, none⟩) (far_ne34 hw256_0 GW258.out) _).trans (((cell_far (p := ⟨gb258, _, none⟩) (far_ne34 hw256_0 GW258.out) _).trans (hHeld.2.2.2.2.1)))))), ((cell_far (p := ⟨gb258, _, none⟩) (far_ne34 hw256_1 GW258.out) _).trans (((cell_far (p := ⟨gb258, _, none⟩) (far_ne34 hw256_1 GW258.out) _).trans (((cell_far (p := ⟨gb258, _, none⟩) (far_ne34 hw256_1 GW258.out) _).trans (hHeld.2.2.2.2.2.1)))))), ((cell_far (p := ⟨gb258, _, none⟩) (far_ne34 hw256_2 GW258.out) _).trans (((cell_far (p := ⟨gb258, _, none⟩) (far_ne34 hw256_2 GW258.out) _).trans (((cell_far (p := ⟨gb258, _, none⟩) (far_ne34 hw256_2 GW258.out) _).trans (hHeld.2.2.2.2.2.2.1)))))), ((cell_far (p := ⟨gb258, _, none⟩) (far_ne34 hw257_0 GW258.out) _).trans (((cell_far (p := ⟨gb258, _, none⟩) (far_ne34 hw257_0 GW258.out) _).trans (((cell_far (p := ⟨gb258, _, none⟩) (far_ne34 hw257_0 GW258.out) _).trans (hHeld.2.2.2.2.2.2.2.1)))))), ((cell_far (p := ⟨gb258, _, none⟩) (far_ne34 hw257_1 GW258.out) _).trans (((cell_far (p := ⟨gb258, _, none⟩) (far_ne34 hw257_1 GW258.out) _).trans (((cell_far (p := ⟨gb258, _, none⟩) (far_ne34 hw257_1 GW258.out) _).trans (hHeld.2.2.2.2.2.2.2.2.1)))))), ((cell_far (p := ⟨gb258, _, none⟩) (far_ne34 hw257_2 GW258.out) _).trans (((cell_far (p := ⟨gb258, _, none⟩) (far_ne34 hw257_2 GW258.out) _).trans (((cell_far (p := ⟨gb258, _, none⟩) (far_ne34 hw257_2 GW258.out) _).trans (hHeld.2.2.2.2.2.2.2.2.2))))))⟩ (fun hHeld => ?_)
            clear hK K
            refine sOn 13 none (fun K hK => ?_)
            have hs30 : w26.cell? ⟨gb259, 0, none⟩ = some (.string (⟨#[]⟩ : ByteArray)) := (blk_cell BK259.out 0).trans rfl
            have hfs30 := blk_frozen BK259.out 0
            have hns30_0 := NB254_259.out
            have hns30_1 := NB255_259.out
            have hns30_2 := NB258_259.out
            have hms30_0 := NB259_254.out
            have hms30_1 := NB259_255.out
            have hms30_2 := NB259_258.out
            have hs31 : w26.cell? ⟨gb259, 1, none⟩ = some (.int .i64 0) := (blk_cell BK259.out 1).trans rfl
            have hfs31 := blk_frozen BK259.out 1
            have hns31_0 := NB254_259.out
            have hns31_1 := NB255_259.out
            have hns31_2 := NB258_259.out
            have hms31_0 := NB259_254.out
            have hms31_1 := NB259_255.out
            have hms31_2 := NB259_258.out
            have hs32 : w26.cell? ⟨gb259, 2, none⟩ = some (.slice none 0 0) := (blk_cell BK259.out 2).trans rfl
            have hfs32 := blk_frozen BK259.out 2
            have hns32_0 := NB254_259.out
            have hns32_1 := NB255_259.out
            have hns32_2 := NB258_259.out
            have hms32_0 := NB259_254.out
            have hms32_1 := NB259_255.out
            have hms32_2 := NB259_258.out
            refine skip_ (w1 := ?_) (by rfl) rfl ?_ ?_
            rotate_left
            ·go_simp
             rfl
            refine hK.out _ _ ⟨((cell_far (p := ⟨gb259, _, none⟩) NB254_259.out _).trans (((cell_far (p := ⟨gb259, _, none⟩) NB254_259.out _).trans (((cell_far (p := ⟨gb259, _, none⟩) NB254_259.out _).trans (hHeld.1)))))), ((cell_far (p := ⟨gb259, _, none⟩) NB254_259.out _).trans (((cell_far (p := ⟨gb259, _, none⟩) NB254_259.out _).trans (((cell_far (p := ⟨gb259, _, none⟩) NB254_259.out _).trans (hHeld.2.1)))))), ((cell_far (p := ⟨gb259, _, none⟩) NB255_259.out _).trans (((cell_far (p := ⟨gb259, _, none⟩) NB255_259.out _).trans (((cell_far (p := ⟨gb259, _, none⟩) NB255_259.out _).trans (hHeld.2.2.1)))))), ((cell_far (p := ⟨gb259, _, none⟩) NB255_259.out _).trans (((cell_far (p := ⟨gb259, _, none⟩) NB255_259.out _).trans (((cell_far (p := ⟨gb259, _, none⟩) NB255_259.out _).trans (hHeld.2.2.2.1)))))), ((cell_far (p := ⟨gb259, _, none⟩) (far_ne34 hw256_0 GW259.out) _).trans (((cell_far (p := ⟨gb259, _, none⟩) (far_ne34 hw256_0 GW259.out) _).trans (((cell_far (p := ⟨gb259, _, none⟩) (far_ne34 hw256_0 GW259.out) _).trans (hHeld.2.2.2.2.1)))))), ((cell_far (p := ⟨gb259, _, none⟩) (far_ne34 hw256_1 GW259.out) _).trans (((cell_far (p := ⟨gb259, _, none⟩) (far_ne34 hw256_1 GW259.out) _).trans (((cell_far (p := ⟨gb259, _, none⟩) (far_ne34 hw256_1 GW259.out) _).trans (hHeld.2.2.2.2.2.1)))))), ((cell_far (p := ⟨gb259, _, none⟩) (far_ne34 hw256_2 GW259.out) _).trans (((cell_far (p := ⟨gb259, _, none⟩) (far_ne34 hw256_2 GW259.out) _).trans (((cell_far (p := ⟨gb259, _, none⟩) (far_ne34 hw256_2 GW259.out) _).trans (hHeld.2.2.2.2.2.2.1)))))), ((cell_far (p := ⟨gb259, _, none⟩) (far_ne34 hw257_0 GW259.out) _).trans (((cell_far (p := ⟨gb259, _, none⟩) (far_ne34 hw257_0 GW259.out) _).trans (((cell_far (p := ⟨gb259, _, none⟩) (far_ne34 hw257_0 GW259.out) _).trans (hHeld.2.2.2.2.2.2.2.1)))))), ((cell_far (p := ⟨gb259, _, none⟩) (far_ne34 hw257_1 GW259.out) _).trans (((cell_far (p := ⟨gb259, _, none⟩) (far_ne34 hw257_1 GW259.out) _).trans (((cell_far (p := ⟨gb259, _, none⟩) (far_ne34 hw257_1 GW259.out) _).trans (hHeld.2.2.2.2.2.2.2.2.1)))))), ((cell_far (p := ⟨gb259, _, none⟩) (far_ne34 hw257_2 GW259.out) _).trans (((cell_far (p := ⟨gb259, _, none⟩) (far_ne34 hw257_2 GW259.out) _).trans (((cell_far (p := ⟨gb259, _, none⟩) (far_ne34 hw257_2 GW259.out) _).trans (hHeld.2.2.2.2.2.2.2.2.2))))))⟩ (fun hHeld => ?_)
            clear hK K
            refine done_ (done_of HT_.out (by kernel_rfl)) ?_
            have hnb33 := NB258_254.out
            have hnc33 := NB254_258.out
            have hnb34 := NB258_255.out
            have hnc34 := NB255_258.out
            have hnb35 := NB258_259.out
            have hnc35 := NB259_258.out
            obtain ⟨hcz36_0, hcz36_1, hcz36_2, hfz36_0, hfz36_1, hfz36_2⟩ := bq3 BK258
            have hnb37 := NB259_254.out
            have hnc37 := NB254_259.out
            have hnb38 := NB259_255.out
            have hnc38 := NB255_259.out
            obtain ⟨hcz39_0, hcz39_1, hcz39_2, hfz39_0, hfz39_1, hfz39_2⟩ := bq3 BK259
            try go_wp2_with (first | (go_at_call 69; (with_reducible refine (paraphrastref01_SameTuples.calls k2 _ _ ((rd_T52 l0_1 x5_2).f2) _ _ ((rd_T52 l1_1 x5_2).f2) true _ ?side1 ?side2 ?side3 ?side4 A19.out).mono ?_); (case side1 => exact Kd.C_below HR256_2.out bel); (case side2 => exact HC256_2.out); (case side3 => exact Kd.C_below HR257_2.out bel); (case side4 => exact HC257_2.out); rintro e w' ⟨rfl, ⟨nd, rfl⟩⟩))
            go_roundg k2
            case measure => have := HJ2.out; have := HK2.out; omega
            case rel => exact ⟨(wrap64 (x5_2 + 1)), eS, H', ⟨by have := HJ2.out; have := HK2.out; omega⟩, ⟨by (with_reducible repeat (first | refine blk_drewN ?_ _ | refine blk_drew ?_ | refine blk_alloc ?_ _)); refine blk_far ?_ NB254_259.out _; (with_reducible repeat (first | refine blk_drewN ?_ _ | refine blk_drew ?_ | refine blk_alloc ?_ _)); refine blk_far ?_ NB254_259.out _; (with_reducible repeat (first | refine blk_drewN ?_ _ | refine blk_drew ?_ | refine blk_alloc ?_ _)); refine blk_far ?_ NB254_259.out _; (with_reducible repeat (first | refine blk_drewN ?_ _ | refine blk_drew ?_ | refine blk_alloc ?_ _)); refine blk_far ?_ NB254_258.out _; (with_reducible repeat (first | refine blk_drewN ?_ _ | refine blk_drew ?_ | refine blk_alloc ?_ _)); refine blk_far ?_ NB254_258.out _; (with_reducible repeat (first | refine blk_drewN ?_ _ | refine blk_drew ?_ | refine blk_alloc ?_ _)); refine blk_far ?_ NB254_258.out _; (with_reducible repeat (first | refine blk_drewN ?_ _ | refine blk_drew ?_ | refine blk_alloc ?_ _)); exact BK254.out⟩, ⟨by (with_reducible repeat (first | refine blk_drewN ?_ _ | refine blk_drew ?_ | refine blk_alloc ?_ _)); refine blk_far ?_ NB255_259.out _; (with_reducible repeat (first | refine blk_drewN ?_ _ | refine blk_drew ?_ | refine blk_alloc ?_ _)); refine blk_far ?_ NB255_259.out _; (with_reducible repeat (first | refine blk_drewN ?_ _ | refine blk_drew ?_ | refine blk_alloc ?_ _)); refine blk_far ?_ NB255_259.out _; (with_reducible repeat (first | refine blk_drewN ?_ _ | refine blk_drew ?_ | refine blk_alloc ?_ _)); refine blk_far ?_ NB255_258.out _; (with_reducible repeat (first | refine blk_drewN ?_ _ | refine blk_drew ?_ | refine blk_alloc ?_ _)); refine blk_far ?_ NB255_258.out _; (with_reducible repeat (first | refine blk_drewN ?_ _ | refine blk_drew ?_ | refine blk_alloc ?_ _)); refine blk_far ?_ NB255_258.out _; (with_reducible repeat (first | refine blk_drewN ?_ _ | refine blk_drew ?_ | refine blk_alloc ?_ _)); exact BK255.out⟩, ⟨bel⟩⟩
           ·replace c20 := Bool.eq_false_iff.mpr c20
            subst c20
            have H1 : (some false) = some r := by rw [if_neg (show ¬ (false = true) by decide)] at H; exact H
            clear H
            have H := H1
            clear H1
            obtain rfl := Option.some.inj H
            have hnb40 := NB254_255.out
            have hnc40 := NB255_254.out
            obtain ⟨hcz41_0, hcz41_1, hfz41_0, hfz41_1⟩ := bq2 BK254
            try go_wp2
            replace BK254 := Aside0.mk (blk_drew BK254.out)
            replace BK255 := Aside0.mk (blk_drew BK255.out)
            replace HB := Aside0.mk (below_drew1 HB.out)
            have p256 : 0 ≤ (x5_2 : Int) := dtr
            have q256 : x5_2 < (l0_1.length : Int) := dtr
            obtain ⟨ad256, A256_2, c256_2, e256, hx256_0, hx256_1, hx256_2, hl256_2, hi256_2⟩ := at_T52 HR0_1.out x5_2 p256 q256
            have hw256_2 := hx256_2
            have hw256_1 := hx256_1
            have hw256_0 := hx256_0
            cases e256
            replace hx256_0 := oc hx256_0
            replace hx256_1 := oc hx256_1
            replace hx256_2 := oc hx256_2
            have HR256_2 := Aside0.mk hi256_2
            have HC256_2 := Aside0.mk hl256_2
            clear hi256_2 hl256_2
            replace p256 := eq_true p256
            replace q256 := eq_true q256
            have p257 : 0 ≤ (x5_2 : Int) := dtr
            have q257 : x5_2 < (l1_1.length : Int) := dtr
            obtain ⟨ad257, A257_2, c257_2, e257, hx257_0, hx257_1, hx257_2, hl257_2, hi257_2⟩ := at_T52 HR1_1.out x5_2 p257 q257
            have hw257_2 := hx257_2
            have hw257_1 := hx257_1
            have hw257_0 := hx257_0
            cases e257
            replace hx257_0 := oc hx257_0
            replace hx257_1 := oc hx257_1
            replace hx257_2 := oc hx257_2
            have HR257_2 := Aside0.mk hi257_2
            have HC257_2 := Aside0.mk hl257_2
            clear hi257_2 hl257_2
            replace p257 := eq_true p257
            replace q257 := eq_true q257
            refine start_ (n := 14) (S := fun w' => w'.cell? ⟨gb254, 0, none⟩ = some (.int .i64 a0_0) ∧ w'.cell? ⟨gb254, 1, none⟩ = some (.slice (some ad256) l0_1.length c0_1) ∧ w'.cell? ⟨gb255, 0, none⟩ = some (.int .i64 a1_0) ∧ w'.cell? ⟨gb255, 1, none⟩ = some (.slice (some ad257) l1_1.length c1_1) ∧ w'.cell? (ad256.add ((x5_2).toNat * 3)) = some (.string ((rd_T52 l0_1 x5_2).f0)) ∧ w'.cell? ⟨(ad256.add ((x5_2).toNat * 3)).block, (ad256.add ((x5_2).toNat * 3)).off + 1, none⟩ = some (.int .i64 ((rd_T52 l0_1 x5_2).f1)) ∧ w'.cell? ⟨(ad256.add ((x5_2).toNat * 3)).block, (ad256.add ((x5_2).toNat * 3)).off + 2, none⟩ = some (.slice A256_2 ((rd_T52 l0_1 x5_2).f2).length c256_2) ∧ w'.cell? (ad257.add ((x5_2).toNat * 3)) = some (.string ((rd_T52 l1_1 x5_2).f0)) ∧ w'.cell? ⟨(ad257.add ((x5_2).toNat * 3)).block, (ad257.add ((x5_2).toNat * 3)).off + 1, none⟩ = some (.int .i64 ((rd_T52 l1_1 x5_2).f1)) ∧ w'.cell? ⟨(ad257.add ((x5_2).toNat * 3)).block, (ad257.add ((x5_2).toNat * 3)).off + 2, none⟩ = some (.slice A257_2 ((rd_T52 l1_1 x5_2).f2).length c257_2)) (ds := []) #[false, false, false, false, false, false, false, false, false, false, false, false, false, false] (by kernel_rfl) rfl rfl ⟨(blk_cell BK254.out 0).trans rfl, (blk_cell BK254.out 1).trans rfl, (blk_cell BK255.out 0).trans rfl, (blk_cell BK255.out 1).trans rfl, (oc hw256_0), (oc hw256_1), (oc hw256_2), (oc hw257_0), (oc hw257_1), (oc hw257_2)⟩ (fun hHeld => ?_); refine with_tabW paraphrastref01_Same.tab6 paraphrastref01_Same.bits6 (fun HT_ HW_ => ?_)
            generalize wr.drew = w42 at BK254 BK255 HB HR256_2 HR257_2 hx256_0 hx256_1 hx256_2 hx257_0 hx257_1 hx257_2 hHeld ⊢
            refine sPu 0 (some 29) ?_
            refine sPu 2 (some 31) ?_
            refine sPu 5 (some 34) ?_
            refine sPu 7 (some 36) ?_
            refine sTk 1 (some 30) ?_
            refine sPu 3 (some 32) ?_
            refine sTk 4 (some 33) ?_
            refine sTk 6 (some 35) ?_
            refine sPu 8 (some 37) ?_
            refine sTk 9 (some 38) ?_
            refine join_ (σ := Nat × Nat) 2 #[true, true, true, true, true, true, true, true, true, true, true, true, false, false] (fun s_ => [(6, .pointer (some ⟨s_.1, 0, none⟩)), (7, .pointer (some ⟨s_.2, 0, none⟩))]) (fun s_ w' => (w'.cell? ⟨gb254, 0, none⟩ = some (.int .i64 a0_0) ∧ w'.cell? ⟨gb254, 1, none⟩ = some (.slice (some ad256) l0_1.length c0_1) ∧ w'.cell? ⟨gb255, 0, none⟩ = some (.int .i64 a1_0) ∧ w'.cell? ⟨gb255, 1, none⟩ = some (.slice (some ad257) l1_1.length c1_1) ∧ w'.cell? (ad256.add ((x5_2).toNat * 3)) = some (.string ((rd_T52 l0_1 x5_2).f0)) ∧ w'.cell? ⟨(ad256.add ((x5_2).toNat * 3)).block, (ad256.add ((x5_2).toNat * 3)).off + 1, none⟩ = some (.int .i64 ((rd_T52 l0_1 x5_2).f1)) ∧ w'.cell? ⟨(ad256.add ((x5_2).toNat * 3)).block, (ad256.add ((x5_2).toNat * 3)).off + 2, none⟩ = some (.slice A256_2 ((rd_T52 l0_1 x5_2).f2).length c256_2) ∧ w'.cell? (ad257.add ((x5_2).toNat * 3)) = some (.string ((rd_T52 l1_1 x5_2).f0)) ∧ w'.cell? ⟨(ad257.add ((x5_2).toNat * 3)).block, (ad257.add ((x5_2).toNat * 3)).off + 1, none⟩ = some (.int .i64 ((rd_T52 l1_1 x5_2).f1)) ∧ w'.cell? ⟨(ad257.add ((x5_2).toNat * 3)).block, (ad257.add ((x5_2).toNat * 3)).off + 2, none⟩ = some (.slice A257_2 ((rd_T52 l1_1 x5_2).f2).length c257_2)) ∧ (w'.heap[gb254]? = some (.cells #[.int .i64 a0_0, .slice (some ad256) l0_1.length c0_1] 24 (0, 0))) ∧ (w'.heap[gb255]? = some (.cells #[.int .i64 a1_0, .slice (some ad257) l1_1.length c1_1] 24 (0, 0))) ∧ (w'.heap[s_.1]? = some (.cells #[.string (⟨#[]⟩ : ByteArray), .int .i64 0, .slice none 0 0] 52 (0, 0))) ∧ (w'.heap[s_.2]? = some (.cells #[.string (⟨#[]⟩ : ByteArray), .int .i64 0, .slice none 0 0] 52 (0, 0))) ∧ (w.heap.size ≤ s_.1) ∧ (w.heap.size ≤ s_.1) ∧ (gb254 ≠ s_.1) ∧ (s_.1 ≠ gb254) ∧ (gb255 ≠ s_.1) ∧ (s_.1 ≠ gb255) ∧ (s_.2 ≠ s_.1) ∧ (s_.1 ≠ s_.2) ∧ (w.heap.size ≤ s_.2) ∧ (w.heap.size ≤ s_.2) ∧ (gb254 ≠ s_.2) ∧ (s_.2 ≠ gb254) ∧ (gb255 ≠ s_.2) ∧ (s_.2 ≠ gb255) ∧ (Below w.heap.size w w')) ?_ ?_
            rotate_left
            ·intro hCont
             refine two_ (i := 10) (j := 11) (Ni := some 6) (Nj := some 7) #[true, true, true, true, true, true, true, true, true, true, true, false, false, false] #[true, true, true, true, true, true, true, true, true, true, false, true, false, false] rfl rfl rfl rfl (two_of HT_.out (by kernel_rfl)) (by decide) (by decide) (fun K hK => ?_) (fun K hK => ?_)
             ·skip
              refine box_step ?hg (N := 6) ?hd (cs := #[.string (⟨#[]⟩ : ByteArray), .int .i64 0, .slice none 0 0]) (t := 52) ?hr ?_; (case hd => rfl); (case hg => rfl); (case hr => first | (go_simp; done) | (go_simp; rfl))
              intro gb258 hg w43 hbox hb
              have BK258 := Aside0.mk (hbox)
              have GW258 := geB w hg
              have GE258 := geB w hg
              have NB254_258 := neL BK254 hg
              have NB258_254 := neG BK254 hg
              have NB255_258 := neL BK255 hg
              have NB258_255 := neG BK255 hg
              replace BK254 := blB BK254 hb
              replace BK255 := blB BK255 hb
              replace HB := Aside0.mk (below_step bel hb)
              clear hb hbox hg
              refine hK.out _ _ ⟨(blk_cell BK254.out 0).trans rfl, (blk_cell BK254.out 1).trans rfl, (blk_cell BK255.out 0).trans rfl, (blk_cell BK255.out 1).trans rfl, (oc hw256_0), (oc hw256_1), (oc hw256_2), (oc hw257_0), (oc hw257_1), (oc hw257_2)⟩ (fun hHeld => ?_)
              clear hK K
              refine norm_ (a' := ?_) ?_ ?_
              rotate_left
              ·show Act.put _ (some 6) _ = _
               simp only [Act.put, List.setIfInBounds_toArray, List.set_cons_zero, List.set_cons_succ, i64_w, i32_w]
               rfl
              refine sOn 11 (some 7) (fun K hK => ?_)
              refine box_step ?hg (N := 7) ?hd (cs := #[.string (⟨#[]⟩ : ByteArray), .int .i64 0, .slice none 0 0]) (t := 52) ?hr ?_; (case hd => rfl); (case hg => rfl); (case hr => first | (go_simp; done) | (go_simp; rfl))
              intro gb259 hg w44 hbox hb
              have BK259 := Aside0.mk (hbox)
              have GW259 := geB w hg
              have GE259 := geB w hg
              have NB254_259 := neL BK254 hg
              have NB259_254 := neG BK254 hg
              have NB255_259 := neL BK255 hg
              have NB259_255 := neG BK255 hg
              have NB258_259 := neL BK258 hg
              have NB259_258 := neG BK258 hg
              replace BK254 := blB BK254 hb
              replace BK255 := blB BK255 hb
              replace BK258 := blB BK258 hb
              replace HB := Aside0.mk (below_step bel hb)
              clear hb hbox hg
              refine hK.out _ _ ⟨(blk_cell BK254.out 0).trans rfl, (blk_cell BK254.out 1).trans rfl, (blk_cell BK255.out 0).trans rfl, (blk_cell BK255.out 1).trans rfl, (oc hw256_0), (oc hw256_1), (oc hw256_2), (oc hw257_0), (oc hw257_1), (oc hw257_2)⟩ (fun hHeld => ?_)
              clear hK K
              refine norm_ (a' := ?_) ?_ ?_
              rotate_left
              ·show Act.put _ (some 7) _ = _
               simp only [Act.put, List.setIfInBounds_toArray, List.set_cons_zero, List.set_cons_succ, i64_w, i32_w]
               rfl
              exact norm_ (by simp only [putAll, Act.put, List.setIfInBounds_toArray, List.set_cons_zero, List.set_cons_succ]) (hCont (gb258, gb259) _ ⟨hHeld, (bk BK254), (bk BK255), (bk BK258), (bk BK259), GW258.out, GE258.out, NB254_258.out, NB258_254.out, NB255_258.out, NB258_255.out, NB259_258.out, NB258_259.out, GW259.out, GE259.out, NB254_259.out, NB259_254.out, NB255_259.out, NB259_255.out, bel⟩)
             ·skip
              refine box_step ?hg (N := 7) ?hd (cs := #[.string (⟨#[]⟩ : ByteArray), .int .i64 0, .slice none 0 0]) (t := 52) ?hr ?_; (case hd => rfl); (case hg => rfl); (case hr => first | (go_simp; done) | (go_simp; rfl))
              intro gb259 hg w43 hbox hb
              have BK259 := Aside0.mk (hbox)
              have GW259 := geB w hg
              have GE259 := geB w hg
              have NB254_259 := neL BK254 hg
              have NB259_254 := neG BK254 hg
              have NB255_259 := neL BK255 hg
              have NB259_255 := neG BK255 hg
              replace BK254 := blB BK254 hb
              replace BK255 := blB BK255 hb
              replace HB := Aside0.mk (below_step bel hb)
              clear hb hbox hg
              refine hK.out _ _ ⟨(blk_cell BK254.out 0).trans rfl, (blk_cell BK254.out 1).trans rfl, (blk_cell BK255.out 0).trans rfl, (blk_cell BK255.out 1).trans rfl, (oc hw256_0), (oc hw256_1), (oc hw256_2), (oc hw257_0), (oc hw257_1), (oc hw257_2)⟩ (fun hHeld => ?_)
              clear hK K
              refine norm_ (a' := ?_) ?_ ?_
              rotate_left
              ·show Act.put _ (some 7) _ = _
               simp only [Act.put, List.setIfInBounds_toArray, List.set_cons_zero, List.set_cons_succ, i64_w, i32_w]
               rfl
              refine sOn 10 (some 6) (fun K hK => ?_)
              refine box_step ?hg (N := 6) ?hd (cs := #[.string (⟨#[]⟩ : ByteArray), .int .i64 0, .slice none 0 0]) (t := 52) ?hr ?_; (case hd => rfl); (case hg => rfl); (case hr => first | (go_simp; done) | (go_simp; rfl))
              intro gb258 hg w44 hbox hb
              have BK258 := Aside0.mk (hbox)
              have GW258 := geB w hg
              have GE258 := geB w hg
              have NB254_258 := neL BK254 hg
              have NB258_254 := neG BK254 hg
              have NB255_258 := neL BK255 hg
              have NB258_255 := neG BK255 hg
              have NB259_258 := neL BK259 hg
              have NB258_259 := neG BK259 hg
              replace BK254 := blB BK254 hb
              replace BK255 := blB BK255 hb
              replace BK259 := blB BK259 hb
              replace HB := Aside0.mk (below_step bel hb)
              clear hb hbox hg
              refine hK.out _ _ ⟨(blk_cell BK254.out 0).trans rfl, (blk_cell BK254.out 1).trans rfl, (blk_cell BK255.out 0).trans rfl, (blk_cell BK255.out 1).trans rfl, (oc hw256_0), (oc hw256_1), (oc hw256_2), (oc hw257_0), (oc hw257_1), (oc hw257_2)⟩ (fun hHeld => ?_)
              clear hK K
              refine norm_ (a' := ?_) ?_ ?_
              rotate_left
              ·show Act.put _ (some 6) _ = _
               simp only [Act.put, List.setIfInBounds_toArray, List.set_cons_zero, List.set_cons_succ, i64_w, i32_w]
               rfl
              exact norm_ (by simp only [putAll, Act.put, List.setIfInBounds_toArray, List.set_cons_zero, List.set_cons_succ]) (hCont (gb258, gb259) _ ⟨hHeld, (bk BK254), (bk BK255), (bk BK258), (bk BK259), GW258.out, GE258.out, NB254_258.out, NB258_254.out, NB255_258.out, NB258_255.out, NB259_258.out, NB258_259.out, GW259.out, GE259.out, NB254_259.out, NB259_254.out, NB255_259.out, NB259_255.out, bel⟩)
            rintro ⟨gb258, gb259⟩ w45 ⟨hS_, h0_, h1_, h2_, h3_, h4_, h5_, h6_, h7_, h8_, h9_, h10_, h11_, h12_, h13_, h14_, h15_, h16_, h17_, h18_⟩
            have n0_ : Aside0 (w45.heap[gb254]? = some (.cells #[.int .i64 a0_0, .slice (some ad256) l0_1.length c0_1] 24 (0, 0))) := ⟨h0_⟩
            have n1_ : Aside0 (w45.heap[gb255]? = some (.cells #[.int .i64 a1_0, .slice (some ad257) l1_1.length c1_1] 24 (0, 0))) := ⟨h1_⟩
            have n2_ : Aside0 (w45.heap[gb258]? = some (.cells #[.string (⟨#[]⟩ : ByteArray), .int .i64 0, .slice none 0 0] 52 (0, 0))) := ⟨h2_⟩
            have n3_ : Aside0 (w45.heap[gb259]? = some (.cells #[.string (⟨#[]⟩ : ByteArray), .int .i64 0, .slice none 0 0] 52 (0, 0))) := ⟨h3_⟩
            have n4_ : Aside0 (w.heap.size ≤ gb258) := ⟨h4_⟩
            have n5_ : Aside0 (w.heap.size ≤ gb258) := ⟨h5_⟩
            have n6_ : Aside0 (gb254 ≠ gb258) := ⟨h6_⟩
            have n7_ : Aside0 (gb258 ≠ gb254) := ⟨h7_⟩
            have n8_ : Aside0 (gb255 ≠ gb258) := ⟨h8_⟩
            have n9_ : Aside0 (gb258 ≠ gb255) := ⟨h9_⟩
            have n10_ : Aside0 (gb259 ≠ gb258) := ⟨h10_⟩
            have n11_ : Aside0 (gb258 ≠ gb259) := ⟨h11_⟩
            have n12_ : Aside0 (w.heap.size ≤ gb259) := ⟨h12_⟩
            have n13_ : Aside0 (w.heap.size ≤ gb259) := ⟨h13_⟩
            have n14_ : Aside0 (gb254 ≠ gb259) := ⟨h14_⟩
            have n15_ : Aside0 (gb259 ≠ gb254) := ⟨h15_⟩
            have n16_ : Aside0 (gb255 ≠ gb259) := ⟨h16_⟩
            have n17_ : Aside0 (gb259 ≠ gb255) := ⟨h17_⟩
            have n18_ : Aside0 (Below w.heap.size w w45) := ⟨h18_⟩
            clear BK254
            clear BK255
            clear HB
            clear h0_ h1_ h2_ h3_ h4_ h5_ h6_ h7_ h8_ h9_ h10_ h11_ h12_ h13_ h14_ h15_ h16_ h17_ h18_
            have BK254 := n0_
            have BK255 := n1_
            have BK258 := n2_
            have BK259 := n3_
            have GW258 := n4_
            have GE258 := n5_
            have NB254_258 := n6_
            have NB258_254 := n7_
            have NB255_258 := n8_
            have NB258_255 := n9_
            have NB259_258 := n10_
            have NB258_259 := n11_
            have GW259 := n12_
            have GE259 := n13_
            have NB254_259 := n14_
            have NB259_254 := n15_
            have NB255_259 := n16_
            have NB259_255 := n17_
            have HB := n18_
            clear n0_ n1_ n2_ n3_ n4_ n5_ n6_ n7_ n8_ n9_ n10_ n11_ n12_ n13_ n14_ n15_ n16_ n17_ n18_
            have hHeld : w45.cell? ⟨gb254, 0, none⟩ = some (.int .i64 a0_0) ∧ w45.cell? ⟨gb254, 1, none⟩ = some (.slice (some ad256) l0_1.length c0_1) ∧ w45.cell? ⟨gb255, 0, none⟩ = some (.int .i64 a1_0) ∧ w45.cell? ⟨gb255, 1, none⟩ = some (.slice (some ad257) l1_1.length c1_1) ∧ w45.cell? (ad256.add ((x5_2).toNat * 3)) = some (.string ((rd_T52 l0_1 x5_2).f0)) ∧ w45.cell? ⟨(ad256.add ((x5_2).toNat * 3)).block, (ad256.add ((x5_2).toNat * 3)).off + 1, none⟩ = some (.int .i64 ((rd_T52 l0_1 x5_2).f1)) ∧ w45.cell? ⟨(ad256.add ((x5_2).toNat * 3)).block, (ad256.add ((x5_2).toNat * 3)).off + 2, none⟩ = some (.slice A256_2 ((rd_T52 l0_1 x5_2).f2).length c256_2) ∧ w45.cell? (ad257.add ((x5_2).toNat * 3)) = some (.string ((rd_T52 l1_1 x5_2).f0)) ∧ w45.cell? ⟨(ad257.add ((x5_2).toNat * 3)).block, (ad257.add ((x5_2).toNat * 3)).off + 1, none⟩ = some (.int .i64 ((rd_T52 l1_1 x5_2).f1)) ∧ w45.cell? ⟨(ad257.add ((x5_2).toNat * 3)).block, (ad257.add ((x5_2).toNat * 3)).off + 2, none⟩ = some (.slice A257_2 ((rd_T52 l1_1 x5_2).f2).length c257_2) := hS_
            refine norm_ (a' := ?_) ?_ ?_
            rotate_left
            ·simp only [putAll, Act.put, List.setIfInBounds_toArray, List.set_cons_zero, List.set_cons_succ]
             rfl
            refine sOn 12 none (fun K hK => ?_)
            have hs46 : w45.cell? ⟨gb258, 0, none⟩ = some (.string (⟨#[]⟩ : ByteArray)) := (blk_cell BK258.out 0).trans rfl
            have hfs46 := blk_frozen BK258.out 0
            have hns46_0 := NB254_258.out
            have hns46_1 := NB255_258.out
            have hns46_3 := NB259_258.out
            have hms46_0 := NB258_254.out
            have hms46_1 := NB258_255.out
            have hms46_3 := NB258_259.out
            have hs47 : w45.cell? ⟨gb258, 1, none⟩ = some (.int .i64 0) := (blk_cell BK258.out 1).trans rfl
            have hfs47 := blk_frozen BK258.out 1
            have hns47_0 := NB254_258.out
            have hns47_1 := NB255_258.out
            have hns47_3 := NB259_258.out
            have hms47_0 := NB258_254.out
            have hms47_1 := NB258_255.out
            have hms47_3 := NB258_259.out
            have hs48 : w45.cell? ⟨gb258, 2, none⟩ = some (.slice none 0 0) := (blk_cell BK258.out 2).trans rfl
            have hfs48 := blk_frozen BK258.out 2
            have hns48_0 := NB254_258.out
            have hns48_1 := NB255_258.out
            have hns48_3 := NB259_258.out
            have hms48_0 := NB258_254.out
            have hms48_1 := NB258_255.out
            have hms48_3 := NB258_259.out
            refine skip_ (w1 := ?_) (by rfl) rfl ?_ ?_
            rotate_left
            ·go_simp
             rfl
            refine hK.out _ _ ⟨((cell_far (p := ⟨gb258, _, none⟩) NB254_258.out _).trans (((cell_far (p := ⟨gb258, _, none⟩) NB254_258.out _).trans (((cell_far (p := ⟨gb258, _, none⟩) NB254_258.out _).trans (hHeld.1)))))), ((cell_far (p := ⟨gb258, _, none⟩) NB254_258.out _).trans (((cell_far (p := ⟨gb258, _, none⟩) NB254_258.out _).trans (((cell_far (p := ⟨gb258, _, none⟩) NB254_258.out _).trans (hHeld.2.1)))))), ((cell_far (p := ⟨gb258, _, none⟩) NB255_258.out _).trans (((cell_far (p := ⟨gb258, _, none⟩) NB255_258.out _).trans (((cell_far (p := ⟨gb258, _, none⟩) NB255_258.out _).trans (hHeld.2.2.1)))))), ((cell_far (p := ⟨gb258, _, none⟩) NB255_258.out _).trans (((cell_far (p := ⟨gb258, _, none⟩) NB255_258.out _).trans (((cell_far (p := ⟨gb258, _, none⟩) NB255_258.out _).trans (hHeld.2.2.2.1)))))), ((cell_far (p := ⟨gb258, _, none⟩) (far_ne34 hw256_0 GW258.out) _).trans (((cell_far (p := ⟨gb258, _, none⟩) (far_ne34 hw256_0 GW258.out) _).trans (((cell_far (p := ⟨gb258, _, none⟩) (far_ne34 hw256_0 GW258.out) _).trans (hHeld.2.2.2.2.1)))))), ((cell_far (p := ⟨gb258, _, none⟩) (far_ne34 hw256_1 GW258.out) _).trans (((cell_far (p := ⟨gb258, _, none⟩) (far_ne34 hw256_1 GW258.out) _).trans (((cell_far (p := ⟨gb258, _, none⟩) (far_ne34 hw256_1 GW258.out) _).trans (hHeld.2.2.2.2.2.1)))))), ((cell_far (p := ⟨gb258, _, none⟩) (far_ne34 hw256_2 GW258.out) _).trans (((cell_far (p := ⟨gb258, _, none⟩) (far_ne34 hw256_2 GW258.out) _).trans (((cell_far (p := ⟨gb258, _, none⟩) (far_ne34 hw256_2 GW258.out) _).trans (hHeld.2.2.2.2.2.2.1)))))), ((cell_far (p := ⟨gb258, _, none⟩) (far_ne34 hw257_0 GW258.out) _).trans (((cell_far (p := ⟨gb258, _, none⟩) (far_ne34 hw257_0 GW258.out) _).trans (((cell_far (p := ⟨gb258, _, none⟩) (far_ne34 hw257_0 GW258.out) _).trans (hHeld.2.2.2.2.2.2.2.1)))))), ((cell_far (p := ⟨gb258, _, none⟩) (far_ne34 hw257_1 GW258.out) _).trans (((cell_far (p := ⟨gb258, _, none⟩) (far_ne34 hw257_1 GW258.out) _).trans (((cell_far (p := ⟨gb258, _, none⟩) (far_ne34 hw257_1 GW258.out) _).trans (hHeld.2.2.2.2.2.2.2.2.1)))))), ((cell_far (p := ⟨gb258, _, none⟩) (far_ne34 hw257_2 GW258.out) _).trans (((cell_far (p := ⟨gb258, _, none⟩) (far_ne34 hw257_2 GW258.out) _).trans (((cell_far (p := ⟨gb258, _, none⟩) (far_ne34 hw257_2 GW258.out) _).trans (hHeld.2.2.2.2.2.2.2.2.2))))))⟩ (fun hHeld => ?_)
            clear hK K
            refine sOn 13 none (fun K hK => ?_)
            have hs49 : w45.cell? ⟨gb259, 0, none⟩ = some (.string (⟨#[]⟩ : ByteArray)) := (blk_cell BK259.out 0).trans rfl
            have hfs49 := blk_frozen BK259.out 0
            have hns49_0 := NB254_259.out
            have hns49_1 := NB255_259.out
            have hns49_2 := NB258_259.out
            have hms49_0 := NB259_254.out
            have hms49_1 := NB259_255.out
            have hms49_2 := NB259_258.out
            have hs50 : w45.cell? ⟨gb259, 1, none⟩ = some (.int .i64 0) := (blk_cell BK259.out 1).trans rfl
            have hfs50 := blk_frozen BK259.out 1
            have hns50_0 := NB254_259.out
            have hns50_1 := NB255_259.out
            have hns50_2 := NB258_259.out
            have hms50_0 := NB259_254.out
            have hms50_1 := NB259_255.out
            have hms50_2 := NB259_258.out
            have hs51 : w45.cell? ⟨gb259, 2, none⟩ = some (.slice none 0 0) := (blk_cell BK259.out 2).trans rfl
            have hfs51 := blk_frozen BK259.out 2
            have hns51_0 := NB254_259.out
            have hns51_1 := NB255_259.out
            have hns51_2 := NB258_259.out
            have hms51_0 := NB259_254.out
            have hms51_1 := NB259_255.out
            have hms51_2 := NB259_258.out
            refine skip_ (w1 := ?_) (by rfl) rfl ?_ ?_
            rotate_left
            ·go_simp
             rfl
            refine hK.out _ _ ⟨((cell_far (p := ⟨gb259, _, none⟩) NB254_259.out _).trans (((cell_far (p := ⟨gb259, _, none⟩) NB254_259.out _).trans (((cell_far (p := ⟨gb259, _, none⟩) NB254_259.out _).trans (hHeld.1)))))), ((cell_far (p := ⟨gb259, _, none⟩) NB254_259.out _).trans (((cell_far (p := ⟨gb259, _, none⟩) NB254_259.out _).trans (((cell_far (p := ⟨gb259, _, none⟩) NB254_259.out _).trans (hHeld.2.1)))))), ((cell_far (p := ⟨gb259, _, none⟩) NB255_259.out _).trans (((cell_far (p := ⟨gb259, _, none⟩) NB255_259.out _).trans (((cell_far (p := ⟨gb259, _, none⟩) NB255_259.out _).trans (hHeld.2.2.1)))))), ((cell_far (p := ⟨gb259, _, none⟩) NB255_259.out _).trans (((cell_far (p := ⟨gb259, _, none⟩) NB255_259.out _).trans (((cell_far (p := ⟨gb259, _, none⟩) NB255_259.out _).trans (hHeld.2.2.2.1)))))), ((cell_far (p := ⟨gb259, _, none⟩) (far_ne34 hw256_0 GW259.out) _).trans (((cell_far (p := ⟨gb259, _, none⟩) (far_ne34 hw256_0 GW259.out) _).trans (((cell_far (p := ⟨gb259, _, none⟩) (far_ne34 hw256_0 GW259.out) _).trans (hHeld.2.2.2.2.1)))))), ((cell_far (p := ⟨gb259, _, none⟩) (far_ne34 hw256_1 GW259.out) _).trans (((cell_far (p := ⟨gb259, _, none⟩) (far_ne34 hw256_1 GW259.out) _).trans (((cell_far (p := ⟨gb259, _, none⟩) (far_ne34 hw256_1 GW259.out) _).trans (hHeld.2.2.2.2.2.1)))))), ((cell_far (p := ⟨gb259, _, none⟩) (far_ne34 hw256_2 GW259.out) _).trans (((cell_far (p := ⟨gb259, _, none⟩) (far_ne34 hw256_2 GW259.out) _).trans (((cell_far (p := ⟨gb259, _, none⟩) (far_ne34 hw256_2 GW259.out) _).trans (hHeld.2.2.2.2.2.2.1)))))), ((cell_far (p := ⟨gb259, _, none⟩) (far_ne34 hw257_0 GW259.out) _).trans (((cell_far (p := ⟨gb259, _, none⟩) (far_ne34 hw257_0 GW259.out) _).trans (((cell_far (p := ⟨gb259, _, none⟩) (far_ne34 hw257_0 GW259.out) _).trans (hHeld.2.2.2.2.2.2.2.1)))))), ((cell_far (p := ⟨gb259, _, none⟩) (far_ne34 hw257_1 GW259.out) _).trans (((cell_far (p := ⟨gb259, _, none⟩) (far_ne34 hw257_1 GW259.out) _).trans (((cell_far (p := ⟨gb259, _, none⟩) (far_ne34 hw257_1 GW259.out) _).trans (hHeld.2.2.2.2.2.2.2.2.1)))))), ((cell_far (p := ⟨gb259, _, none⟩) (far_ne34 hw257_2 GW259.out) _).trans (((cell_far (p := ⟨gb259, _, none⟩) (far_ne34 hw257_2 GW259.out) _).trans (((cell_far (p := ⟨gb259, _, none⟩) (far_ne34 hw257_2 GW259.out) _).trans (hHeld.2.2.2.2.2.2.2.2.2))))))⟩ (fun hHeld => ?_)
            clear hK K
            refine done_ (done_of HT_.out (by kernel_rfl)) ?_
            have hnb52 := NB258_254.out
            have hnc52 := NB254_258.out
            have hnb53 := NB258_255.out
            have hnc53 := NB255_258.out
            have hnb54 := NB258_259.out
            have hnc54 := NB259_258.out
            obtain ⟨hcz55_0, hcz55_1, hcz55_2, hfz55_0, hfz55_1, hfz55_2⟩ := bq3 BK258
            have hnb56 := NB259_254.out
            have hnc56 := NB254_259.out
            have hnb57 := NB259_255.out
            have hnc57 := NB255_259.out
            obtain ⟨hcz58_0, hcz58_1, hcz58_2, hfz58_0, hfz58_1, hfz58_2⟩ := bq3 BK259
            try go_wp2_with (first | (go_at_call 69; (with_reducible refine (paraphrastref01_SameTuples.calls k2 _ _ ((rd_T52 l0_1 x5_2).f2) _ _ ((rd_T52 l1_1 x5_2).f2) false _ ?side1 ?side2 ?side3 ?side4 A19.out).mono ?_); (case side1 => exact Kd.C_below HR256_2.out bel); (case side2 => exact HC256_2.out); (case side3 => exact Kd.C_below HR257_2.out bel); (case side4 => exact HC257_2.out); rintro e w' ⟨rfl, ⟨nd, rfl⟩⟩))
            go_ret
            exact ⟨eN, bel⟩
          ·rw [if_neg c18] at H
           have c18b0 : (((rd_T52 l0_1 x5_2).f1) == ((rd_T52 l1_1 x5_2).f1)) = false := beq_eq_false_iff_ne.mpr c18
           have c18b1 : (((rd_T52 l0_1 x5_2).f1) != ((rd_T52 l1_1 x5_2).f1)) = true := bne_iff_ne.mpr c18
           obtain rfl := Option.some.inj H
           have hnb59 := NB254_255.out
           have hnc59 := NB255_254.out
           obtain ⟨hcz60_0, hcz60_1, hfz60_0, hfz60_1⟩ := bq2 BK254
           try go_wp2
           replace BK254 := Aside0.mk (blk_drew BK254.out)
           replace BK255 := Aside0.mk (blk_drew BK255.out)
           replace HB := Aside0.mk (below_drew1 HB.out)
           have p256 : 0 ≤ (x5_2 : Int) := dtr
           have q256 : x5_2 < (l0_1.length : Int) := dtr
           obtain ⟨ad256, A256_2, c256_2, e256, hx256_0, hx256_1, hx256_2, hl256_2, hi256_2⟩ := at_T52 HR0_1.out x5_2 p256 q256
           have hw256_2 := hx256_2
           have hw256_1 := hx256_1
           have hw256_0 := hx256_0
           cases e256
           replace hx256_0 := oc hx256_0
           replace hx256_1 := oc hx256_1
           replace hx256_2 := oc hx256_2
           have HR256_2 := Aside0.mk hi256_2
           have HC256_2 := Aside0.mk hl256_2
           clear hi256_2 hl256_2
           replace p256 := eq_true p256
           replace q256 := eq_true q256
           have p257 : 0 ≤ (x5_2 : Int) := dtr
           have q257 : x5_2 < (l1_1.length : Int) := dtr
           obtain ⟨ad257, A257_2, c257_2, e257, hx257_0, hx257_1, hx257_2, hl257_2, hi257_2⟩ := at_T52 HR1_1.out x5_2 p257 q257
           have hw257_2 := hx257_2
           have hw257_1 := hx257_1
           have hw257_0 := hx257_0
           cases e257
           replace hx257_0 := oc hx257_0
           replace hx257_1 := oc hx257_1
           replace hx257_2 := oc hx257_2
           have HR257_2 := Aside0.mk hi257_2
           have HC257_2 := Aside0.mk hl257_2
           clear hi257_2 hl257_2
           replace p257 := eq_true p257
           replace q257 := eq_true q257
           refine start_ (n := 14) (S := fun w' => w'.cell? ⟨gb254, 0, none⟩ = some (.int .i64 a0_0) ∧ w'.cell? ⟨gb254, 1, none⟩ = some (.slice (some ad256) l0_1.length c0_1) ∧ w'.cell? ⟨gb255, 0, none⟩ = some (.int .i64 a1_0) ∧ w'.cell? ⟨gb255, 1, none⟩ = some (.slice (some ad257) l1_1.length c1_1) ∧ w'.cell? (ad256.add ((x5_2).toNat * 3)) = some (.string ((rd_T52 l0_1 x5_2).f0)) ∧ w'.cell? ⟨(ad256.add ((x5_2).toNat * 3)).block, (ad256.add ((x5_2).toNat * 3)).off + 1, none⟩ = some (.int .i64 ((rd_T52 l0_1 x5_2).f1)) ∧ w'.cell? ⟨(ad256.add ((x5_2).toNat * 3)).block, (ad256.add ((x5_2).toNat * 3)).off + 2, none⟩ = some (.slice A256_2 ((rd_T52 l0_1 x5_2).f2).length c256_2) ∧ w'.cell? (ad257.add ((x5_2).toNat * 3)) = some (.string ((rd_T52 l1_1 x5_2).f0)) ∧ w'.cell? ⟨(ad257.add ((x5_2).toNat * 3)).block, (ad257.add ((x5_2).toNat * 3)).off + 1, none⟩ = some (.int .i64 ((rd_T52 l1_1 x5_2).f1)) ∧ w'.cell? ⟨(ad257.add ((x5_2).toNat * 3)).block, (ad257.add ((x5_2).toNat * 3)).off + 2, none⟩ = some (.slice A257_2 ((rd_T52 l1_1 x5_2).f2).length c257_2)) (ds := []) #[false, false, false, false, false, false, false, false, false, false, false, false, false, false] (by kernel_rfl) rfl rfl ⟨(blk_cell BK254.out 0).trans rfl, (blk_cell BK254.out 1).trans rfl, (blk_cell BK255.out 0).trans rfl, (blk_cell BK255.out 1).trans rfl, (oc hw256_0), (oc hw256_1), (oc hw256_2), (oc hw257_0), (oc hw257_1), (oc hw257_2)⟩ (fun hHeld => ?_); refine with_tabW paraphrastref01_Same.tab6 paraphrastref01_Same.bits6 (fun HT_ HW_ => ?_)
           generalize wr.drew = w61 at BK254 BK255 HB HR256_2 HR257_2 hx256_0 hx256_1 hx256_2 hx257_0 hx257_1 hx257_2 hHeld ⊢
           refine sPu 0 (some 29) ?_
           refine sPu 2 (some 31) ?_
           refine sPu 5 (some 34) ?_
           refine sPu 7 (some 36) ?_
           refine sTk 1 (some 30) ?_
           refine sPu 3 (some 32) ?_
           refine sTk 4 (some 33) ?_
           refine sTk 6 (some 35) ?_
           refine sPu 8 (some 37) ?_
           refine sTk 9 (some 38) ?_
           refine join_ (σ := Nat × Nat) 2 #[true, true, true, true, true, true, true, true, true, true, true, true, false, false] (fun s_ => [(6, .pointer (some ⟨s_.1, 0, none⟩)), (7, .pointer (some ⟨s_.2, 0, none⟩))]) (fun s_ w' => (w'.cell? ⟨gb254, 0, none⟩ = some (.int .i64 a0_0) ∧ w'.cell? ⟨gb254, 1, none⟩ = some (.slice (some ad256) l0_1.length c0_1) ∧ w'.cell? ⟨gb255, 0, none⟩ = some (.int .i64 a1_0) ∧ w'.cell? ⟨gb255, 1, none⟩ = some (.slice (some ad257) l1_1.length c1_1) ∧ w'.cell? (ad256.add ((x5_2).toNat * 3)) = some (.string ((rd_T52 l0_1 x5_2).f0)) ∧ w'.cell? ⟨(ad256.add ((x5_2).toNat * 3)).block, (ad256.add ((x5_2).toNat * 3)).off + 1, none⟩ = some (.int .i64 ((rd_T52 l0_1 x5_2).f1)) ∧ w'.cell? ⟨(ad256.add ((x5_2).toNat * 3)).block, (ad256.add ((x5_2).toNat * 3)).off + 2, none⟩ = some (.slice A256_2 ((rd_T52 l0_1 x5_2).f2).length c256_2) ∧ w'.cell? (ad257.add ((x5_2).toNat * 3)) = some (.string ((rd_T52 l1_1 x5_2).f0)) ∧ w'.cell? ⟨(ad257.add ((x5_2).toNat * 3)).block, (ad257.add ((x5_2).toNat * 3)).off + 1, none⟩ = some (.int .i64 ((rd_T52 l1_1 x5_2).f1)) ∧ w'.cell? ⟨(ad257.add ((x5_2).toNat * 3)).block, (ad257.add ((x5_2).toNat * 3)).off + 2, none⟩ = some (.slice A257_2 ((rd_T52 l1_1 x5_2).f2).length c257_2)) ∧ (w'.heap[gb254]? = some (.cells #[.int .i64 a0_0, .slice (some ad256) l0_1.length c0_1] 24 (0, 0))) ∧ (w'.heap[gb255]? = some (.cells #[.int .i64 a1_0, .slice (some ad257) l1_1.length c1_1] 24 (0, 0))) ∧ (w'.heap[s_.1]? = some (.cells #[.string (⟨#[]⟩ : ByteArray), .int .i64 0, .slice none 0 0] 52 (0, 0))) ∧ (w'.heap[s_.2]? = some (.cells #[.string (⟨#[]⟩ : ByteArray), .int .i64 0, .slice none 0 0] 52 (0, 0))) ∧ (w.heap.size ≤ s_.1) ∧ (w.heap.size ≤ s_.1) ∧ (gb254 ≠ s_.1) ∧ (s_.1 ≠ gb254) ∧ (gb255 ≠ s_.1) ∧ (s_.1 ≠ gb255) ∧ (s_.2 ≠ s_.1) ∧ (s_.1 ≠ s_.2) ∧ (w.heap.size ≤ s_.2) ∧ (w.heap.size ≤ s_.2) ∧ (gb254 ≠ s_.2) ∧ (s_.2 ≠ gb254) ∧ (gb255 ≠ s_.2) ∧ (s_.2 ≠ gb255) ∧ (Below w.heap.size w w')) ?_ ?_
           rotate_left
           ·intro hCont
            refine two_ (i := 10) (j := 11) (Ni := some 6) (Nj := some 7) #[true, true, true, true, true, true, true, true, true, true, true, false, false, false] #[true, true, true, true, true, true, true, true, true, true, false, true, false, false] rfl rfl rfl rfl (two_of HT_.out (by kernel_rfl)) (by decide) (by decide) (fun K hK => ?_) (fun K hK => ?_)
            ·skip
             refine box_step ?hg (N := 6) ?hd (cs := #[.string (⟨#[]⟩ : ByteArray), .int .i64 0, .slice none 0 0]) (t := 52) ?hr ?_; (case hd => rfl); (case hg => rfl); (case hr => first | (go_simp; done) | (go_simp; rfl))
             intro gb258 hg w62 hbox hb
             have BK258 := Aside0.mk (hbox)
             have GW258 := geB w hg
             have GE258 := geB w hg
             have NB254_258 := neL BK254 hg
             have NB258_254 := neG BK254 hg
             have NB255_258 := neL BK255 hg
             have NB258_255 := neG BK255 hg
             replace BK254 := blB BK254 hb
             replace BK255 := blB BK255 hb
             replace HB := Aside0.mk (below_step bel hb)
             clear hb hbox hg
             refine hK.out _ _ ⟨(blk_cell BK254.out 0).trans rfl, (blk_cell BK254.out 1).trans rfl, (blk_cell BK255.out 0).trans rfl, (blk_cell BK255.out 1).trans rfl, (oc hw256_0), (oc hw256_1), (oc hw256_2), (oc hw257_0), (oc hw257_1), (oc hw257_2)⟩ (fun hHeld => ?_)
             clear hK K
             refine norm_ (a' := ?_) ?_ ?_
             rotate_left
             ·show Act.put _ (some 6) _ = _
              simp only [Act.put, List.setIfInBounds_toArray, List.set_cons_zero, List.set_cons_succ, i64_w, i32_w]
              rfl
             refine sOn 11 (some 7) (fun K hK => ?_)
             refine box_step ?hg (N := 7) ?hd (cs := #[.string (⟨#[]⟩ : ByteArray), .int .i64 0, .slice none 0 0]) (t := 52) ?hr ?_; (case hd => rfl); (case hg => rfl); (case hr => first | (go_simp; done) | (go_simp; rfl))
             intro gb259 hg w63 hbox hb
             have BK259 := Aside0.mk (hbox)
             have GW259 := geB w hg
             have GE259 := geB w hg
             have NB254_259 := neL BK254 hg
             have NB259_254 := neG BK254 hg
             have NB255_259 := neL BK255 hg
             have NB259_255 := neG BK255 hg
             have NB258_259 := neL BK258 hg
             have NB259_258 := neG BK258 hg
             replace BK254 := blB BK254 hb
             replace BK255 := blB BK255 hb
             replace BK258 := blB BK258 hb
             replace HB := Aside0.mk (below_step bel hb)
             clear hb hbox hg
             refine hK.out _ _ ⟨(blk_cell BK254.out 0).trans rfl, (blk_cell BK254.out 1).trans rfl, (blk_cell BK255.out 0).trans rfl, (blk_cell BK255.out 1).trans rfl, (oc hw256_0), (oc hw256_1), (oc hw256_2), (oc hw257_0), (oc hw257_1), (oc hw257_2)⟩ (fun hHeld => ?_)
             clear hK K
             refine norm_ (a' := ?_) ?_ ?_
             rotate_left
             ·show Act.put _ (some 7) _ = _
              simp only [Act.put, List.setIfInBounds_toArray, List.set_cons_zero, List.set_cons_succ, i64_w, i32_w]
              rfl
             exact norm_ (by simp only [putAll, Act.put, List.setIfInBounds_toArray, List.set_cons_zero, List.set_cons_succ]) (hCont (gb258, gb259) _ ⟨hHeld, (bk BK254), (bk BK255), (bk BK258), (bk BK259), GW258.out, GE258.out, NB254_258.out, NB258_254.out, NB255_258.out, NB258_255.out, NB259_258.out, NB258_259.out, GW259.out, GE259.out, NB254_259.out, NB259_254.out, NB255_259.out, NB259_255.out, bel⟩)
            ·skip
             refine box_step ?hg (N := 7) ?hd (cs := #[.string (⟨#[]⟩ : ByteArray), .int .i64 0, .slice none 0 0]) (t := 52) ?hr ?_; (case hd => rfl); (case hg => rfl); (case hr => first | (go_simp; done) | (go_simp; rfl))
             intro gb259 hg w62 hbox hb
             have BK259 := Aside0.mk (hbox)
             have GW259 := geB w hg
             have GE259 := geB w hg
             have NB254_259 := neL BK254 hg
             have NB259_254 := neG BK254 hg
             have NB255_259 := neL BK255 hg
             have NB259_255 := neG BK255 hg
             replace BK254 := blB BK254 hb
             replace BK255 := blB BK255 hb
             replace HB := Aside0.mk (below_step bel hb)
             clear hb hbox hg
             refine hK.out _ _ ⟨(blk_cell BK254.out 0).trans rfl, (blk_cell BK254.out 1).trans rfl, (blk_cell BK255.out 0).trans rfl, (blk_cell BK255.out 1).trans rfl, (oc hw256_0), (oc hw256_1), (oc hw256_2), (oc hw257_0), (oc hw257_1), (oc hw257_2)⟩ (fun hHeld => ?_)
             clear hK K
             refine norm_ (a' := ?_) ?_ ?_
             rotate_left
             ·show Act.put _ (some 7) _ = _
              simp only [Act.put, List.setIfInBounds_toArray, List.set_cons_zero, List.set_cons_succ, i64_w, i32_w]
              rfl
             refine sOn 10 (some 6) (fun K hK => ?_)
             refine box_step ?hg (N := 6) ?hd (cs := #[.string (⟨#[]⟩ : ByteArray), .int .i64 0, .slice none 0 0]) (t := 52) ?hr ?_; (case hd => rfl); (case hg => rfl); (case hr => first | (go_simp; done) | (go_simp; rfl))
             intro gb258 hg w63 hbox hb
             have BK258 := Aside0.mk (hbox)
             have GW258 := geB w hg
             have GE258 := geB w hg
             have NB254_258 := neL BK254 hg
             have NB258_254 := neG BK254 hg
             have NB255_258 := neL BK255 hg
             have NB258_255 := neG BK255 hg
             have NB259_258 := neL BK259 hg
             have NB258_259 := neG BK259 hg
             replace BK254 := blB BK254 hb
             replace BK255 := blB BK255 hb
             replace BK259 := blB BK259 hb
             replace HB := Aside0.mk (below_step bel hb)
             clear hb hbox hg
             refine hK.out _ _ ⟨(blk_cell BK254.out 0).trans rfl, (blk_cell BK254.out 1).trans rfl, (blk_cell BK255.out 0).trans rfl, (blk_cell BK255.out 1).trans rfl, (oc hw256_0), (oc hw256_1), (oc hw256_2), (oc hw257_0), (oc hw257_1), (oc hw257_2)⟩ (fun hHeld => ?_)
             clear hK K
             refine norm_ (a' := ?_) ?_ ?_
             rotate_left
             ·show Act.put _ (some 6) _ = _
              simp only [Act.put, List.setIfInBounds_toArray, List.set_cons_zero, List.set_cons_succ, i64_w, i32_w]
              rfl
             exact norm_ (by simp only [putAll, Act.put, List.setIfInBounds_toArray, List.set_cons_zero, List.set_cons_succ]) (hCont (gb258, gb259) _ ⟨hHeld, (bk BK254), (bk BK255), (bk BK258), (bk BK259), GW258.out, GE258.out, NB254_258.out, NB258_254.out, NB255_258.out, NB258_255.out, NB259_258.out, NB258_259.out, GW259.out, GE259.out, NB254_259.out, NB259_254.out, NB255_259.out, NB259_255.out, bel⟩)
           rintro ⟨gb258, gb259⟩ w64 ⟨hS_, h0_, h1_, h2_, h3_, h4_, h5_, h6_, h7_, h8_, h9_, h10_, h11_, h12_, h13_, h14_, h15_, h16_, h17_, h18_⟩
           have n0_ : Aside0 (w64.heap[gb254]? = some (.cells #[.int .i64 a0_0, .slice (some ad256) l0_1.length c0_1] 24 (0, 0))) := ⟨h0_⟩
           have n1_ : Aside0 (w64.heap[gb255]? = some (.cells #[.int .i64 a1_0, .slice (some ad257) l1_1.length c1_1] 24 (0, 0))) := ⟨h1_⟩
           have n2_ : Aside0 (w64.heap[gb258]? = some (.cells #[.string (⟨#[]⟩ : ByteArray), .int .i64 0, .slice none 0 0] 52 (0, 0))) := ⟨h2_⟩
           have n3_ : Aside0 (w64.heap[gb259]? = some (.cells #[.string (⟨#[]⟩ : ByteArray), .int .i64 0, .slice none 0 0] 52 (0, 0))) := ⟨h3_⟩
           have n4_ : Aside0 (w.heap.size ≤ gb258) := ⟨h4_⟩
           have n5_ : Aside0 (w.heap.size ≤ gb258) := ⟨h5_⟩
           have n6_ : Aside0 (gb254 ≠ gb258) := ⟨h6_⟩
           have n7_ : Aside0 (gb258 ≠ gb254) := ⟨h7_⟩
           have n8_ : Aside0 (gb255 ≠ gb258) := ⟨h8_⟩
           have n9_ : Aside0 (gb258 ≠ gb255) := ⟨h9_⟩
           have n10_ : Aside0 (gb259 ≠ gb258) := ⟨h10_⟩
           have n11_ : Aside0 (gb258 ≠ gb259) := ⟨h11_⟩
           have n12_ : Aside0 (w.heap.size ≤ gb259) := ⟨h12_⟩
           have n13_ : Aside0 (w.heap.size ≤ gb259) := ⟨h13_⟩
           have n14_ : Aside0 (gb254 ≠ gb259) := ⟨h14_⟩
           have n15_ : Aside0 (gb259 ≠ gb254) := ⟨h15_⟩
           have n16_ : Aside0 (gb255 ≠ gb259) := ⟨h16_⟩
           have n17_ : Aside0 (gb259 ≠ gb255) := ⟨h17_⟩
           have n18_ : Aside0 (Below w.heap.size w w64) := ⟨h18_⟩
           clear BK254
           clear BK255
           clear HB
           clear h0_ h1_ h2_ h3_ h4_ h5_ h6_ h7_ h8_ h9_ h10_ h11_ h12_ h13_ h14_ h15_ h16_ h17_ h18_
           have BK254 := n0_
           have BK255 := n1_
           have BK258 := n2_
           have BK259 := n3_
           have GW258 := n4_
           have GE258 := n5_
           have NB254_258 := n6_
           have NB258_254 := n7_
           have NB255_258 := n8_
           have NB258_255 := n9_
           have NB259_258 := n10_
           have NB258_259 := n11_
           have GW259 := n12_
           have GE259 := n13_
           have NB254_259 := n14_
           have NB259_254 := n15_
           have NB255_259 := n16_
           have NB259_255 := n17_
           have HB := n18_
           clear n0_ n1_ n2_ n3_ n4_ n5_ n6_ n7_ n8_ n9_ n10_ n11_ n12_ n13_ n14_ n15_ n16_ n17_ n18_
           have hHeld : w64.cell? ⟨gb254, 0, none⟩ = some (.int .i64 a0_0) ∧ w64.cell? ⟨gb254, 1, none⟩ = some (.slice (some ad256) l0_1.length c0_1) ∧ w64.cell? ⟨gb255, 0, none⟩ = some (.int .i64 a1_0) ∧ w64.cell? ⟨gb255, 1, none⟩ = some (.slice (some ad257) l1_1.length c1_1) ∧ w64.cell? (ad256.add ((x5_2).toNat * 3)) = some (.string ((rd_T52 l0_1 x5_2).f0)) ∧ w64.cell? ⟨(ad256.add ((x5_2).toNat * 3)).block, (ad256.add ((x5_2).toNat * 3)).off + 1, none⟩ = some (.int .i64 ((rd_T52 l0_1 x5_2).f1)) ∧ w64.cell? ⟨(ad256.add ((x5_2).toNat * 3)).block, (ad256.add ((x5_2).toNat * 3)).off + 2, none⟩ = some (.slice A256_2 ((rd_T52 l0_1 x5_2).f2).length c256_2) ∧ w64.cell? (ad257.add ((x5_2).toNat * 3)) = some (.string ((rd_T52 l1_1 x5_2).f0)) ∧ w64.cell? ⟨(ad257.add ((x5_2).toNat * 3)).block, (ad257.add ((x5_2).toNat * 3)).off + 1, none⟩ = some (.int .i64 ((rd_T52 l1_1 x5_2).f1)) ∧ w64.cell? ⟨(ad257.add ((x5_2).toNat * 3)).block, (ad257.add ((x5_2).toNat * 3)).off + 2, none⟩ = some (.slice A257_2 ((rd_T52 l1_1 x5_2).f2).length c257_2) := hS_
           refine norm_ (a' := ?_) ?_ ?_
           rotate_left
           ·simp only [putAll, Act.put, List.setIfInBounds_toArray, List.set_cons_zero, List.set_cons_succ]
            rfl
           refine sOn 12 none (fun K hK => ?_)
           have hs65 : w64.cell? ⟨gb258, 0, none⟩ = some (.string (⟨#[]⟩ : ByteArray)) := (blk_cell BK258.out 0).trans rfl
           have hfs65 := blk_frozen BK258.out 0
           have hns65_0 := NB254_258.out
           have hns65_1 := NB255_258.out
           have hns65_3 := NB259_258.out
           have hms65_0 := NB258_254.out
           have hms65_1 := NB258_255.out
           have hms65_3 := NB258_259.out
           have hs66 : w64.cell? ⟨gb258, 1, none⟩ = some (.int .i64 0) := (blk_cell BK258.out 1).trans rfl
           have hfs66 := blk_frozen BK258.out 1
           have hns66_0 := NB254_258.out
           have hns66_1 := NB255_258.out
           have hns66_3 := NB259_258.out
           have hms66_0 := NB258_254.out
           have hms66_1 := NB258_255.out
           have hms66_3 := NB258_259.out
           have hs67 : w64.cell? ⟨gb258, 2, none⟩ = some (.slice none 0 0) := (blk_cell BK258.out 2).trans rfl
           have hfs67 := blk_frozen BK258.out 2
           have hns67_0 := NB254_258.out
           have hns67_1 := NB255_258.out
           have hns67_3 := NB259_258.out
           have hms67_0 := NB258_254.out
           have hms67_1 := NB258_255.out
           have hms67_3 := NB258_259.out
           refine skip_ (w1 := ?_) (by rfl) rfl ?_ ?_
           rotate_left
           ·go_simp
            rfl
           refine hK.out _ _ ⟨((cell_far (p := ⟨gb258, _, none⟩) NB254_258.out _).trans (((cell_far (p := ⟨gb258, _, none⟩) NB254_258.out _).trans (((cell_far (p := ⟨gb258, _, none⟩) NB254_258.out _).trans (hHeld.1)))))), ((cell_far (p := ⟨gb258, _, none⟩) NB254_258.out _).trans (((cell_far (p := ⟨gb258, _, none⟩) NB254_258.out _).trans (((cell_far (p := ⟨gb258, _, none⟩) NB254_258.out _).trans (hHeld.2.1)))))), ((cell_far (p := ⟨gb258, _, none⟩) NB255_258.out _).trans (((cell_far (p := ⟨gb258, _, none⟩) NB255_258.out _).trans (((cell_far (p := ⟨gb258, _, none⟩) NB255_258.out _).trans (hHeld.2.2.1)))))), ((cell_far (p := ⟨gb258, _, none⟩) NB255_258.out _).trans (((cell_far (p := ⟨gb258, _, none⟩) NB255_258.out _).trans (((cell_far (p := ⟨gb258, _, none⟩) NB255_258.out _).trans (hHeld.2.2.2.1)))))), ((cell_far (p := ⟨gb258, _, none⟩) (far_ne34 hw256_0 GW258.out) _).trans (((cell_far (p := ⟨gb258, _, none⟩) (far_ne34 hw256_0 GW258.out) _).trans (((cell_far (p := ⟨gb258, _, none⟩) (far_ne34 hw256_0 GW258.out) _).trans (hHeld.2.2.2.2.1)))))), ((cell_far (p := ⟨gb258, _, none⟩) (far_ne34 hw256_1 GW258.out) _).trans (((cell_far (p := ⟨gb258, _, none⟩) (far_ne34 hw256_1 GW258.out) _).trans (((cell_far (p := ⟨gb258, _, none⟩) (far_ne34 hw256_1 GW258.out) _).trans (hHeld.2.2.2.2.2.1)))))), ((cell_far (p := ⟨gb258, _, none⟩) (far_ne34 hw256_2 GW258.out) _).trans (((cell_far (p := ⟨gb258, _, none⟩) (far_ne34 hw256_2 GW258.out) _).trans (((cell_far (p := ⟨gb258, _, none⟩) (far_ne34 hw256_2 GW258.out) _).trans (hHeld.2.2.2.2.2.2.1)))))), ((cell_far (p := ⟨gb258, _, none⟩) (far_ne34 hw257_0 GW258.out) _).trans (((cell_far (p := ⟨gb258, _, none⟩) (far_ne34 hw257_0 GW258.out) _).trans (((cell_far (p := ⟨gb258, _, none⟩) (far_ne34 hw257_0 GW258.out) _).trans (hHeld.2.2.2.2.2.2.2.1)))))), ((cell_far (p := ⟨gb258, _, none⟩) (far_ne34 hw257_1 GW258.out) _).trans (((cell_far (p := ⟨gb258, _, none⟩) (far_ne34 hw257_1 GW258.out) _).trans (((cell_far (p := ⟨gb258, _, none⟩) (far_ne34 hw257_1 GW258.out) _).trans (hHeld.2.2.2.2.2.2.2.2.1)))))), ((cell_far (p := ⟨gb258, _, none⟩) (far_ne34 hw257_2 GW258.out) _).trans (((cell_far (p := ⟨gb258, _, none⟩) (far_ne34 hw257_2 GW258.out) _).trans (((cell_far (p := ⟨gb258, _, none⟩) (far_ne34 hw257_2 GW258.out) _).trans (hHeld.2.2.2.2.2.2.2.2.2))))))⟩ (fun hHeld => ?_)
           clear hK K
           refine sOn 13 none (fun K hK => ?_)
           have hs68 : w64.cell? ⟨gb259, 0, none⟩ = some (.string (⟨#[]⟩ : ByteArray)) := (blk_cell BK259.out 0).trans rfl
           have hfs68 := blk_frozen BK259.out 0
           have hns68_0 := NB254_259.out
           have hns68_1 := NB255_259.out
           have hns68_2 := NB258_259.out
           have hms68_0 := NB259_254.out
           have hms68_1 := NB259_255.out
           have hms68_2 := NB259_258.out
           have hs69 : w64.cell? ⟨gb259, 1, none⟩ = some (.int .i64 0) := (blk_cell BK259.out 1).trans rfl
           have hfs69 := blk_frozen BK259.out 1
           have hns69_0 := NB254_259.out
           have hns69_1 := NB255_259.out
           have hns69_2 := NB258_259.out
           have hms69_0 := NB259_254.out
           have hms69_1 := NB259_255.out
           have hms69_2 := NB259_258.out
           have hs70 : w64.cell? ⟨gb259, 2, none⟩ = some (.slice none 0 0) := (blk_cell BK259.out 2).trans rfl
           have hfs70 := blk_frozen BK259.out 2
           have hns70_0 := NB254_259.out
           have hns70_1 := NB255_259.out
           have hns70_2 := NB258_259.out
           have hms70_0 := NB259_254.out
           have hms70_1 := NB259_255.out
           have hms70_2 := NB259_258.out
           refine skip_ (w1 := ?_) (by rfl) rfl ?_ ?_
           rotate_left
           ·go_simp
            rfl
           refine hK.out _ _ ⟨((cell_far (p := ⟨gb259, _, none⟩) NB254_259.out _).trans (((cell_far (p := ⟨gb259, _, none⟩) NB254_259.out _).trans (((cell_far (p := ⟨gb259, _, none⟩) NB254_259.out _).trans (hHeld.1)))))), ((cell_far (p := ⟨gb259, _, none⟩) NB254_259.out _).trans (((cell_far (p := ⟨gb259, _, none⟩) NB254_259.out _).trans (((cell_far (p := ⟨gb259, _, none⟩) NB254_259.out _).trans (hHeld.2.1)))))), ((cell_far (p := ⟨gb259, _, none⟩) NB255_259.out _).trans (((cell_far (p := ⟨gb259, _, none⟩) NB255_259.out _).trans (((cell_far (p := ⟨gb259, _, none⟩) NB255_259.out _).trans (hHeld.2.2.1)))))), ((cell_far (p := ⟨gb259, _, none⟩) NB255_259.out _).trans (((cell_far (p := ⟨gb259, _, none⟩) NB255_259.out _).trans (((cell_far (p := ⟨gb259, _, none⟩) NB255_259.out _).trans (hHeld.2.2.2.1)))))), ((cell_far (p := ⟨gb259, _, none⟩) (far_ne34 hw256_0 GW259.out) _).trans (((cell_far (p := ⟨gb259, _, none⟩) (far_ne34 hw256_0 GW259.out) _).trans (((cell_far (p := ⟨gb259, _, none⟩) (far_ne34 hw256_0 GW259.out) _).trans (hHeld.2.2.2.2.1)))))), ((cell_far (p := ⟨gb259, _, none⟩) (far_ne34 hw256_1 GW259.out) _).trans (((cell_far (p := ⟨gb259, _, none⟩) (far_ne34 hw256_1 GW259.out) _).trans (((cell_far (p := ⟨gb259, _, none⟩) (far_ne34 hw256_1 GW259.out) _).trans (hHeld.2.2.2.2.2.1)))))), ((cell_far (p := ⟨gb259, _, none⟩) (far_ne34 hw256_2 GW259.out) _).trans (((cell_far (p := ⟨gb259, _, none⟩) (far_ne34 hw256_2 GW259.out) _).trans (((cell_far (p := ⟨gb259, _, none⟩) (far_ne34 hw256_2 GW259.out) _).trans (hHeld.2.2.2.2.2.2.1)))))), ((cell_far (p := ⟨gb259, _, none⟩) (far_ne34 hw257_0 GW259.out) _).trans (((cell_far (p := ⟨gb259, _, none⟩) (far_ne34 hw257_0 GW259.out) _).trans (((cell_far (p := ⟨gb259, _, none⟩) (far_ne34 hw257_0 GW259.out) _).trans (hHeld.2.2.2.2.2.2.2.1)))))), ((cell_far (p := ⟨gb259, _, none⟩) (far_ne34 hw257_1 GW259.out) _).trans (((cell_far (p := ⟨gb259, _, none⟩) (far_ne34 hw257_1 GW259.out) _).trans (((cell_far (p := ⟨gb259, _, none⟩) (far_ne34 hw257_1 GW259.out) _).trans (hHeld.2.2.2.2.2.2.2.2.1)))))), ((cell_far (p := ⟨gb259, _, none⟩) (far_ne34 hw257_2 GW259.out) _).trans (((cell_far (p := ⟨gb259, _, none⟩) (far_ne34 hw257_2 GW259.out) _).trans (((cell_far (p := ⟨gb259, _, none⟩) (far_ne34 hw257_2 GW259.out) _).trans (hHeld.2.2.2.2.2.2.2.2.2))))))⟩ (fun hHeld => ?_)
           clear hK K
           refine done_ (done_of HT_.out (by kernel_rfl)) ?_
           have hnb71 := NB258_254.out
           have hnc71 := NB254_258.out
           have hnb72 := NB258_255.out
           have hnc72 := NB255_258.out
           have hnb73 := NB258_259.out
           have hnc73 := NB259_258.out
           obtain ⟨hcz74_0, hcz74_1, hcz74_2, hfz74_0, hfz74_1, hfz74_2⟩ := bq3 BK258
           have hnb75 := NB259_254.out
           have hnc75 := NB254_259.out
           have hnb76 := NB259_255.out
           have hnc76 := NB255_259.out
           obtain ⟨hcz77_0, hcz77_1, hcz77_2, hfz77_0, hfz77_1, hfz77_2⟩ := bq3 BK259
           try go_wp2
           go_ret
           exact ⟨eN, bel⟩
         ·rw [if_neg c17] at H
          have c17b0 : (((rd_T52 l0_1 x5_2).f0).toList == ((rd_T52 l1_1 x5_2).f0).toList) = false := beq_eq_false_iff_ne.mpr c17
          have c17b1 : (((rd_T52 l0_1 x5_2).f0).toList != ((rd_T52 l1_1 x5_2).f0).toList) = true := bne_iff_ne.mpr c17
          obtain rfl := Option.some.inj H
          have hnb78 := NB254_255.out
          have hnc78 := NB255_254.out
          obtain ⟨hcz79_0, hcz79_1, hfz79_0, hfz79_1⟩ := bq2 BK254
          try go_wp2
          replace BK254 := Aside0.mk (blk_drew BK254.out)
          replace BK255 := Aside0.mk (blk_drew BK255.out)
          replace HB := Aside0.mk (below_drew1 HB.out)
          have p256 : 0 ≤ (x5_2 : Int) := dtr
          have q256 : x5_2 < (l0_1.length : Int) := dtr
          obtain ⟨ad256, A256_2, c256_2, e256, hx256_0, hx256_1, hx256_2, hl256_2, hi256_2⟩ := at_T52 HR0_1.out x5_2 p256 q256
          have hw256_2 := hx256_2
          have hw256_1 := hx256_1
          have hw256_0 := hx256_0
          cases e256
          replace hx256_0 := oc hx256_0
          replace hx256_1 := oc hx256_1
          replace hx256_2 := oc hx256_2
          have HR256_2 := Aside0.mk hi256_2
          have HC256_2 := Aside0.mk hl256_2
          clear hi256_2 hl256_2
          replace p256 := eq_true p256
          replace q256 := eq_true q256
          have p257 : 0 ≤ (x5_2 : Int) := dtr
          have q257 : x5_2 < (l1_1.length : Int) := dtr
          obtain ⟨ad257, A257_2, c257_2, e257, hx257_0, hx257_1, hx257_2, hl257_2, hi257_2⟩ := at_T52 HR1_1.out x5_2 p257 q257
          have hw257_2 := hx257_2
          have hw257_1 := hx257_1
          have hw257_0 := hx257_0
          cases e257
          replace hx257_0 := oc hx257_0
          replace hx257_1 := oc hx257_1
          replace hx257_2 := oc hx257_2
          have HR257_2 := Aside0.mk hi257_2
          have HC257_2 := Aside0.mk hl257_2
          clear hi257_2 hl257_2
          replace p257 := eq_true p257
          replace q257 := eq_true q257
          refine start_ (n := 14) (S := fun w' => w'.cell? ⟨gb254, 0, none⟩ = some (.int .i64 a0_0) ∧ w'.cell? ⟨gb254, 1, none⟩ = some (.slice (some ad256) l0_1.length c0_1) ∧ w'.cell? ⟨gb255, 0, none⟩ = some (.int .i64 a1_0) ∧ w'.cell? ⟨gb255, 1, none⟩ = some (.slice (some ad257) l1_1.length c1_1) ∧ w'.cell? (ad256.add ((x5_2).toNat * 3)) = some (.string ((rd_T52 l0_1 x5_2).f0)) ∧ w'.cell? ⟨(ad256.add ((x5_2).toNat * 3)).block, (ad256.add ((x5_2).toNat * 3)).off + 1, none⟩ = some (.int .i64 ((rd_T52 l0_1 x5_2).f1)) ∧ w'.cell? ⟨(ad256.add ((x5_2).toNat * 3)).block, (ad256.add ((x5_2).toNat * 3)).off + 2, none⟩ = some (.slice A256_2 ((rd_T52 l0_1 x5_2).f2).length c256_2) ∧ w'.cell? (ad257.add ((x5_2).toNat * 3)) = some (.string ((rd_T52 l1_1 x5_2).f0)) ∧ w'.cell? ⟨(ad257.add ((x5_2).toNat * 3)).block, (ad257.add ((x5_2).toNat * 3)).off + 1, none⟩ = some (.int .i64 ((rd_T52 l1_1 x5_2).f1)) ∧ w'.cell? ⟨(ad257.add ((x5_2).toNat * 3)).block, (ad257.add ((x5_2).toNat * 3)).off + 2, none⟩ = some (.slice A257_2 ((rd_T52 l1_1 x5_2).f2).length c257_2)) (ds := []) #[false, false, false, false, false, false, false, false, false, false, false, false, false, false] (by kernel_rfl) rfl rfl ⟨(blk_cell BK254.out 0).trans rfl, (blk_cell BK254.out 1).trans rfl, (blk_cell BK255.out 0).trans rfl, (blk_cell BK255.out 1).trans rfl, (oc hw256_0), (oc hw256_1), (oc hw256_2), (oc hw257_0), (oc hw257_1), (oc hw257_2)⟩ (fun hHeld => ?_); refine with_tabW paraphrastref01_Same.tab6 paraphrastref01_Same.bits6 (fun HT_ HW_ => ?_)
          generalize wr.drew = w80 at BK254 BK255 HB HR256_2 HR257_2 hx256_0 hx256_1 hx256_2 hx257_0 hx257_1 hx257_2 hHeld ⊢
          refine sPu 0 (some 29) ?_
          refine sPu 2 (some 31) ?_
          refine sPu 5 (some 34) ?_
          refine sPu 7 (some 36) ?_
          refine sTk 1 (some 30) ?_
          refine sPu 3 (some 32) ?_
          refine sTk 4 (some 33) ?_
          refine sTk 6 (some 35) ?_
          refine sPu 8 (some 37) ?_
          refine sTk 9 (some 38) ?_
          refine join_ (σ := Nat × Nat) 2 #[true, true, true, true, true, true, true, true, true, true, true, true, false, false] (fun s_ => [(6, .pointer (some ⟨s_.1, 0, none⟩)), (7, .pointer (some ⟨s_.2, 0, none⟩))]) (fun s_ w' => (w'.cell? ⟨gb254, 0, none⟩ = some (.int .i64 a0_0) ∧ w'.cell? ⟨gb254, 1, none⟩ = some (.slice (some ad256) l0_1.length c0_1) ∧ w'.cell? ⟨gb255, 0, none⟩ = some (.int .i64 a1_0) ∧ w'.cell? ⟨gb255, 1, none⟩ = some (.slice (some ad257) l1_1.length c1_1) ∧ w'.cell? (ad256.add ((x5_2).toNat * 3)) = some (.string ((rd_T52 l0_1 x5_2).f0)) ∧ w'.cell? ⟨(ad256.add ((x5_2).toNat * 3)).block, (ad256.add ((x5_2).toNat * 3)).off + 1, none⟩ = some (.int .i64 ((rd_T52 l0_1 x5_2).f1)) ∧ w'.cell? ⟨(ad256.add ((x5_2).toNat * 3)).block, (ad256.add ((x5_2).toNat * 3)).off + 2, none⟩ = some (.slice A256_2 ((rd_T52 l0_1 x5_2).f2).length c256_2) ∧ w'.cell? (ad257.add ((x5_2).toNat * 3)) = some (.string ((rd_T52 l1_1 x5_2).f0)) ∧ w'.cell? ⟨(ad257.add ((x5_2).toNat * 3)).block, (ad257.add ((x5_2).toNat * 3)).off + 1, none⟩ = some (.int .i64 ((rd_T52 l1_1 x5_2).f1)) ∧ w'.cell? ⟨(ad257.add ((x5_2).toNat * 3)).block, (ad257.add ((x5_2).toNat * 3)).off + 2, none⟩ = some (.slice A257_2 ((rd_T52 l1_1 x5_2).f2).length c257_2)) ∧ (w'.heap[gb254]? = some (.cells #[.int .i64 a0_0, .slice (some ad256) l0_1.length c0_1] 24 (0, 0))) ∧ (w'.heap[gb255]? = some (.cells #[.int .i64 a1_0, .slice (some ad257) l1_1.length c1_1] 24 (0, 0))) ∧ (w'.heap[s_.1]? = some (.cells #[.string (⟨#[]⟩ : ByteArray), .int .i64 0, .slice none 0 0] 52 (0, 0))) ∧ (w'.heap[s_.2]? = some (.cells #[.string (⟨#[]⟩ : ByteArray), .int .i64 0, .slice none 0 0] 52 (0, 0))) ∧ (w.heap.size ≤ s_.1) ∧ (w.heap.size ≤ s_.1) ∧ (gb254 ≠ s_.1) ∧ (s_.1 ≠ gb254) ∧ (gb255 ≠ s_.1) ∧ (s_.1 ≠ gb255) ∧ (s_.2 ≠ s_.1) ∧ (s_.1 ≠ s_.2) ∧ (w.heap.size ≤ s_.2) ∧ (w.heap.size ≤ s_.2) ∧ (gb254 ≠ s_.2) ∧ (s_.2 ≠ gb254) ∧ (gb255 ≠ s_.2) ∧ (s_.2 ≠ gb255) ∧ (Below w.heap.size w w')) ?_ ?_
          rotate_left
          ·intro hCont
           refine two_ (i := 10) (j := 11) (Ni := some 6) (Nj := some 7) #[true, true, true, true, true, true, true, true, true, true, true, false, false, false] #[true, true, true, true, true, true, true, true, true, true, false, true, false, false] rfl rfl rfl rfl (two_of HT_.out (by kernel_rfl)) (by decide) (by decide) (fun K hK => ?_) (fun K hK => ?_)
           ·skip
            refine box_step ?hg (N := 6) ?hd (cs := #[.string (⟨#[]⟩ : ByteArray), .int .i64 0, .slice none 0 0]) (t := 52) ?hr ?_; (case hd => rfl); (case hg => rfl); (case hr => first | (go_simp; done) | (go_simp; rfl))
            intro gb258 hg w81 hbox hb
            have BK258 := Aside0.mk (hbox)
            have GW258 := geB w hg
            have GE258 := geB w hg
            have NB254_258 := neL BK254 hg
            have NB258_254 := neG BK254 hg
            have NB255_258 := neL BK255 hg
            have NB258_255 := neG BK255 hg
            replace BK254 := blB BK254 hb
            replace BK255 := blB BK255 hb
            replace HB := Aside0.mk (below_step bel hb)
            clear hb hbox hg
            refine hK.out _ _ ⟨(blk_cell BK254.out 0).trans rfl, (blk_cell BK254.out 1).trans rfl, (blk_cell BK255.out 0).trans rfl, (blk_cell BK255.out 1).trans rfl, (oc hw256_0), (oc hw256_1), (oc hw256_2), (oc hw257_0), (oc hw257_1), (oc hw257_2)⟩ (fun hHeld => ?_)
            clear hK K
            refine norm_ (a' := ?_) ?_ ?_
            rotate_left
            ·show Act.put _ (some 6) _ = _
             simp only [Act.put, List.setIfInBounds_toArray, List.set_cons_zero, List.set_cons_succ, i64_w, i32_w]
             rfl
            refine sOn 11 (some 7) (fun K hK => ?_)
            refine box_step ?hg (N := 7) ?hd (cs := #[.string (⟨#[]⟩ : ByteArray), .int .i64 0, .slice none 0 0]) (t := 52) ?hr ?_; (case hd => rfl); (case hg => rfl); (case hr => first | (go_simp; done) | (go_simp; rfl))
            intro gb259 hg w82 hbox hb
            have BK259 := Aside0.mk (hbox)
            have GW259 := geB w hg
            have GE259 := geB w hg
            have NB254_259 := neL BK254 hg
            have NB259_254 := neG BK254 hg
            have NB255_259 := neL BK255 hg
            have NB259_255 := neG BK255 hg
            have NB258_259 := neL BK258 hg
            have NB259_258 := neG BK258 hg
            replace BK254 := blB BK254 hb
            replace BK255 := blB BK255 hb
            replace BK258 := blB BK258 hb
            replace HB := Aside0.mk (below_step bel hb)
            clear hb hbox hg
            refine hK.out _ _ ⟨(blk_cell BK254.out 0).trans rfl, (blk_cell BK254.out 1).trans rfl, (blk_cell BK255.out 0).trans rfl, (blk_cell BK255.out 1).trans rfl, (oc hw256_0), (oc hw256_1), (oc hw256_2), (oc hw257_0), (oc hw257_1), (oc hw257_2)⟩ (fun hHeld => ?_)
            clear hK K
            refine norm_ (a' := ?_) ?_ ?_
            rotate_left
            ·show Act.put _ (some 7) _ = _
             simp only [Act.put, List.setIfInBounds_toArray, List.set_cons_zero, List.set_cons_succ, i64_w, i32_w]
             rfl
            exact norm_ (by simp only [putAll, Act.put, List.setIfInBounds_toArray, List.set_cons_zero, List.set_cons_succ]) (hCont (gb258, gb259) _ ⟨hHeld, (bk BK254), (bk BK255), (bk BK258), (bk BK259), GW258.out, GE258.out, NB254_258.out, NB258_254.out, NB255_258.out, NB258_255.out, NB259_258.out, NB258_259.out, GW259.out, GE259.out, NB254_259.out, NB259_254.out, NB255_259.out, NB259_255.out, bel⟩)
           ·skip
            refine box_step ?hg (N := 7) ?hd (cs := #[.string (⟨#[]⟩ : ByteArray), .int .i64 0, .slice none 0 0]) (t := 52) ?hr ?_; (case hd => rfl); (case hg => rfl); (case hr => first | (go_simp; done) | (go_simp; rfl))
            intro gb259 hg w81 hbox hb
            have BK259 := Aside0.mk (hbox)
            have GW259 := geB w hg
            have GE259 := geB w hg
            have NB254_259 := neL BK254 hg
            have NB259_254 := neG BK254 hg
            have NB255_259 := neL BK255 hg
            have NB259_255 := neG BK255 hg
            replace BK254 := blB BK254 hb
            replace BK255 := blB BK255 hb
            replace HB := Aside0.mk (below_step bel hb)
            clear hb hbox hg
            refine hK.out _ _ ⟨(blk_cell BK254.out 0).trans rfl, (blk_cell BK254.out 1).trans rfl, (blk_cell BK255.out 0).trans rfl, (blk_cell BK255.out 1).trans rfl, (oc hw256_0), (oc hw256_1), (oc hw256_2), (oc hw257_0), (oc hw257_1), (oc hw257_2)⟩ (fun hHeld => ?_)
            clear hK K
            refine norm_ (a' := ?_) ?_ ?_
            rotate_left
            ·show Act.put _ (some 7) _ = _
             simp only [Act.put, List.setIfInBounds_toArray, List.set_cons_zero, List.set_cons_succ, i64_w, i32_w]
             rfl
            refine sOn 10 (some 6) (fun K hK => ?_)
            refine box_step ?hg (N := 6) ?hd (cs := #[.string (⟨#[]⟩ : ByteArray), .int .i64 0, .slice none 0 0]) (t := 52) ?hr ?_; (case hd => rfl); (case hg => rfl); (case hr => first | (go_simp; done) | (go_simp; rfl))
            intro gb258 hg w82 hbox hb
            have BK258 := Aside0.mk (hbox)
            have GW258 := geB w hg
            have GE258 := geB w hg
            have NB254_258 := neL BK254 hg
            have NB258_254 := neG BK254 hg
            have NB255_258 := neL BK255 hg
            have NB258_255 := neG BK255 hg
            have NB259_258 := neL BK259 hg
            have NB258_259 := neG BK259 hg
            replace BK254 := blB BK254 hb
            replace BK255 := blB BK255 hb
            replace BK259 := blB BK259 hb
            replace HB := Aside0.mk (below_step bel hb)
            clear hb hbox hg
            refine hK.out _ _ ⟨(blk_cell BK254.out 0).trans rfl, (blk_cell BK254.out 1).trans rfl, (blk_cell BK255.out 0).trans rfl, (blk_cell BK255.out 1).trans rfl, (oc hw256_0), (oc hw256_1), (oc hw256_2), (oc hw257_0), (oc hw257_1), (oc hw257_2)⟩ (fun hHeld => ?_)
            clear hK K
            refine norm_ (a' := ?_) ?_ ?_
            rotate_left
            ·show Act.put _ (some 6) _ = _
             simp only [Act.put, List.setIfInBounds_toArray, List.set_cons_zero, List.set_cons_succ, i64_w, i32_w]
             rfl
            exact norm_ (by simp only [putAll, Act.put, List.setIfInBounds_toArray, List.set_cons_zero, List.set_cons_succ]) (hCont (gb258, gb259) _ ⟨hHeld, (bk BK254), (bk BK255), (bk BK258), (bk BK259), GW258.out, GE258.out, NB254_258.out, NB258_254.out, NB255_258.out, NB258_255.out, NB259_258.out, NB258_259.out, GW259.out, GE259.out, NB254_259.out, NB259_254.out, NB255_259.out, NB259_255.out, bel⟩)
          rintro ⟨gb258, gb259⟩ w83 ⟨hS_, h0_, h1_, h2_, h3_, h4_, h5_, h6_, h7_, h8_, h9_, h10_, h11_, h12_, h13_, h14_, h15_, h16_, h17_, h18_⟩
          have n0_ : Aside0 (w83.heap[gb254]? = some (.cells #[.int .i64 a0_0, .slice (some ad256) l0_1.length c0_1] 24 (0, 0))) := ⟨h0_⟩
          have n1_ : Aside0 (w83.heap[gb255]? = some (.cells #[.int .i64 a1_0, .slice (some ad257) l1_1.length c1_1] 24 (0, 0))) := ⟨h1_⟩
          have n2_ : Aside0 (w83.heap[gb258]? = some (.cells #[.string (⟨#[]⟩ : ByteArray), .int .i64 0, .slice none 0 0] 52 (0, 0))) := ⟨h2_⟩
          have n3_ : Aside0 (w83.heap[gb259]? = some (.cells #[.string (⟨#[]⟩ : ByteArray), .int .i64 0, .slice none 0 0] 52 (0, 0))) := ⟨h3_⟩
          have n4_ : Aside0 (w.heap.size ≤ gb258) := ⟨h4_⟩
          have n5_ : Aside0 (w.heap.size ≤ gb258) := ⟨h5_⟩
          have n6_ : Aside0 (gb254 ≠ gb258) := ⟨h6_⟩
          have n7_ : Aside0 (gb258 ≠ gb254) := ⟨h7_⟩
          have n8_ : Aside0 (gb255 ≠ gb258) := ⟨h8_⟩
          have n9_ : Aside0 (gb258 ≠ gb255) := ⟨h9_⟩
          have n10_ : Aside0 (gb259 ≠ gb258) := ⟨h10_⟩
          have n11_ : Aside0 (gb258 ≠ gb259) := ⟨h11_⟩
          have n12_ : Aside0 (w.heap.size ≤ gb259) := ⟨h12_⟩
          have n13_ : Aside0 (w.heap.size ≤ gb259) := ⟨h13_⟩
          have n14_ : Aside0 (gb254 ≠ gb259) := ⟨h14_⟩
          have n15_ : Aside0 (gb259 ≠ gb254) := ⟨h15_⟩
          have n16_ : Aside0 (gb255 ≠ gb259) := ⟨h16_⟩
          have n17_ : Aside0 (gb259 ≠ gb255) := ⟨h17_⟩
          have n18_ : Aside0 (Below w.heap.size w w83) := ⟨h18_⟩
          clear BK254
          clear BK255
          clear HB
          clear h0_ h1_ h2_ h3_ h4_ h5_ h6_ h7_ h8_ h9_ h10_ h11_ h12_ h13_ h14_ h15_ h16_ h17_ h18_
          have BK254 := n0_
          have BK255 := n1_
          have BK258 := n2_
          have BK259 := n3_
          have GW258 := n4_
          have GE258 := n5_
          have NB254_258 := n6_
          have NB258_254 := n7_
          have NB255_258 := n8_
          have NB258_255 := n9_
          have NB259_258 := n10_
          have NB258_259 := n11_
          have GW259 := n12_
          have GE259 := n13_
          have NB254_259 := n14_
          have NB259_254 := n15_
          have NB255_259 := n16_
          have NB259_255 := n17_
          have HB := n18_
          clear n0_ n1_ n2_ n3_ n4_ n5_ n6_ n7_ n8_ n9_ n10_ n11_ n12_ n13_ n14_ n15_ n16_ n17_ n18_
          have hHeld : w83.cell? ⟨gb254, 0, none⟩ = some (.int .i64 a0_0) ∧ w83.cell? ⟨gb254, 1, none⟩ = some (.slice (some ad256) l0_1.length c0_1) ∧ w83.cell? ⟨gb255, 0, none⟩ = some (.int .i64 a1_0) ∧ w83.cell? ⟨gb255, 1, none⟩ = some (.slice (some ad257) l1_1.length c1_1) ∧ w83.cell? (ad256.add ((x5_2).toNat * 3)) = some (.string ((rd_T52 l0_1 x5_2).f0)) ∧ w83.cell? ⟨(ad256.add ((x5_2).toNat * 3)).block, (ad256.add ((x5_2).toNat * 3)).off + 1, none⟩ = some (.int .i64 ((rd_T52 l0_1 x5_2).f1)) ∧ w83.cell? ⟨(ad256.add ((x5_2).toNat * 3)).block, (ad256.add ((x5_2).toNat * 3)).off + 2, none⟩ = some (.slice A256_2 ((rd_T52 l0_1 x5_2).f2).length c256_2) ∧ w83.cell? (ad257.add ((x5_2).toNat * 3)) = some (.string ((rd_T52 l1_1 x5_2).f0)) ∧ w83.cell? ⟨(ad257.add ((x5_2).toNat * 3)).block, (ad257.add ((x5_2).toNat * 3)).off + 1, none⟩ = some (.int .i64 ((rd_T52 l1_1 x5_2).f1)) ∧ w83.cell? ⟨(ad257.add ((x5_2).toNat * 3)).block, (ad257.add ((x5_2).toNat * 3)).off + 2, none⟩ = some (.slice A257_2 ((rd_T52 l1_1 x5_2).f2).length c257_2) := hS_
          refine norm_ (a' := ?_) ?_ ?_
          rotate_left
          ·simp only [putAll, Act.put, List.setIfInBounds_toArray, List.set_cons_zero, List.set_cons_succ]
           rfl
          refine sOn 12 none (fun K hK => ?_)
          have hs84 : w83.cell? ⟨gb258, 0, none⟩ = some (.string (⟨#[]⟩ : ByteArray)) := (blk_cell BK258.out 0).trans rfl
          have hfs84 := blk_frozen BK258.out 0
          have hns84_0 := NB254_258.out
          have hns84_1 := NB255_258.out
          have hns84_3 := NB259_258.out
          have hms84_0 := NB258_254.out
          have hms84_1 := NB258_255.out
          have hms84_3 := NB258_259.out
          have hs85 : w83.cell? ⟨gb258, 1, none⟩ = some (.int .i64 0) := (blk_cell BK258.out 1).trans rfl
          have hfs85 := blk_frozen BK258.out 1
          have hns85_0 := NB254_258.out
          have hns85_1 := NB255_258.out
          have hns85_3 := NB259_258.out
          have hms85_0 := NB258_254.out
          have hms85_1 := NB258_255.out
          have hms85_3 := NB258_259.out
          have hs86 : w83.cell? ⟨gb258, 2, none⟩ = some (.slice none 0 0) := (blk_cell BK258.out 2).trans rfl
          have hfs86 := blk_frozen BK258.out 2
          have hns86_0 := NB254_258.out
          have hns86_1 := NB255_258.out
          have hns86_3 := NB259_258.out
          have hms86_0 := NB258_254.out
          have hms86_1 := NB258_255.out
          have hms86_3 := NB258_259.out
          refine skip_ (w1 := ?_) (by rfl) rfl ?_ ?_
          rotate_left
          ·go_simp
           rfl
          refine hK.out _ _ ⟨((cell_far (p := ⟨gb258, _, none⟩) NB254_258.out _).trans (((cell_far (p := ⟨gb258, _, none⟩) NB254_258.out _).trans (((cell_far (p := ⟨gb258, _, none⟩) NB254_258.out _).trans (hHeld.1)))))), ((cell_far (p := ⟨gb258, _, none⟩) NB254_258.out _).trans (((cell_far (p := ⟨gb258, _, none⟩) NB254_258.out _).trans (((cell_far (p := ⟨gb258, _, none⟩) NB254_258.out _).trans (hHeld.2.1)))))), ((cell_far (p := ⟨gb258, _, none⟩) NB255_258.out _).trans (((cell_far (p := ⟨gb258, _, none⟩) NB255_258.out _).trans (((cell_far (p := ⟨gb258, _, none⟩) NB255_258.out _).trans (hHeld.2.2.1)))))), ((cell_far (p := ⟨gb258, _, none⟩) NB255_258.out _).trans (((cell_far (p := ⟨gb258, _, none⟩) NB255_258.out _).trans (((cell_far (p := ⟨gb258, _, none⟩) NB255_258.out _).trans (hHeld.2.2.2.1)))))), ((cell_far (p := ⟨gb258, _, none⟩) (far_ne34 hw256_0 GW258.out) _).trans (((cell_far (p := ⟨gb258, _, none⟩) (far_ne34 hw256_0 GW258.out) _).trans (((cell_far (p := ⟨gb258, _, none⟩) (far_ne34 hw256_0 GW258.out) _).trans (hHeld.2.2.2.2.1)))))), ((cell_far (p := ⟨gb258, _, none⟩) (far_ne34 hw256_1 GW258.out) _).trans (((cell_far (p := ⟨gb258, _, none⟩) (far_ne34 hw256_1 GW258.out) _).trans (((cell_far (p := ⟨gb258, _, none⟩) (far_ne34 hw256_1 GW258.out) _).trans (hHeld.2.2.2.2.2.1)))))), ((cell_far (p := ⟨gb258, _, none⟩) (far_ne34 hw256_2 GW258.out) _).trans (((cell_far (p := ⟨gb258, _, none⟩) (far_ne34 hw256_2 GW258.out) _).trans (((cell_far (p := ⟨gb258, _, none⟩) (far_ne34 hw256_2 GW258.out) _).trans (hHeld.2.2.2.2.2.2.1)))))), ((cell_far (p := ⟨gb258, _, none⟩) (far_ne34 hw257_0 GW258.out) _).trans (((cell_far (p := ⟨gb258, _, none⟩) (far_ne34 hw257_0 GW258.out) _).trans (((cell_far (p := ⟨gb258, _, none⟩) (far_ne34 hw257_0 GW258.out) _).trans (hHeld.2.2.2.2.2.2.2.1)))))), ((cell_far (p := ⟨gb258, _, none⟩) (far_ne34 hw257_1 GW258.out) _).trans (((cell_far (p := ⟨gb258, _, none⟩) (far_ne34 hw257_1 GW258.out) _).trans (((cell_far (p := ⟨gb258, _, none⟩) (far_ne34 hw257_1 GW258.out) _).trans (hHeld.2.2.2.2.2.2.2.2.1)))))), ((cell_far (p := ⟨gb258, _, none⟩) (far_ne34 hw257_2 GW258.out) _).trans (((cell_far (p := ⟨gb258, _, none⟩) (far_ne34 hw257_2 GW258.out) _).trans (((cell_far (p := ⟨gb258, _, none⟩) (far_ne34 hw257_2 GW258.out) _).trans (hHeld.2.2.2.2.2.2.2.2.2))))))⟩ (fun hHeld => ?_)
          clear hK K
          refine sOn 13 none (fun K hK => ?_)
          have hs87 : w83.cell? ⟨gb259, 0, none⟩ = some (.string (⟨#[]⟩ : ByteArray)) := (blk_cell BK259.out 0).trans rfl
          have hfs87 := blk_frozen BK259.out 0
          have hns87_0 := NB254_259.out
          have hns87_1 := NB255_259.out
          have hns87_2 := NB258_259.out
          have hms87_0 := NB259_254.out
          have hms87_1 := NB259_255.out
          have hms87_2 := NB259_258.out
          have hs88 : w83.cell? ⟨gb259, 1, none⟩ = some (.int .i64 0) := (blk_cell BK259.out 1).trans rfl
          have hfs88 := blk_frozen BK259.out 1
          have hns88_0 := NB254_259.out
          have hns88_1 := NB255_259.out
          have hns88_2 := NB258_259.out
          have hms88_0 := NB259_254.out
          have hms88_1 := NB259_255.out
          have hms88_2 := NB259_258.out
          have hs89 : w83.cell? ⟨gb259, 2, none⟩ = some (.slice none 0 0) := (blk_cell BK259.out 2).trans rfl
          have hfs89 := blk_frozen BK259.out 2
          have hns89_0 := NB254_259.out
          have hns89_1 := NB255_259.out
          have hns89_2 := NB258_259.out
          have hms89_0 := NB259_254.out
          have hms89_1 := NB259_255.out
          have hms89_2 := NB259_258.out
          refine skip_ (w1 := ?_) (by rfl) rfl ?_ ?_
          rotate_left
          ·go_simp
           rfl
          refine hK.out _ _ ⟨((cell_far (p := ⟨gb259, _, none⟩) NB254_259.out _).trans (((cell_far (p := ⟨gb259, _, none⟩) NB254_259.out _).trans (((cell_far (p := ⟨gb259, _, none⟩) NB254_259.out _).trans (hHeld.1)))))), ((cell_far (p := ⟨gb259, _, none⟩) NB254_259.out _).trans (((cell_far (p := ⟨gb259, _, none⟩) NB254_259.out _).trans (((cell_far (p := ⟨gb259, _, none⟩) NB254_259.out _).trans (hHeld.2.1)))))), ((cell_far (p := ⟨gb259, _, none⟩) NB255_259.out _).trans (((cell_far (p := ⟨gb259, _, none⟩) NB255_259.out _).trans (((cell_far (p := ⟨gb259, _, none⟩) NB255_259.out _).trans (hHeld.2.2.1)))))), ((cell_far (p := ⟨gb259, _, none⟩) NB255_259.out _).trans (((cell_far (p := ⟨gb259, _, none⟩) NB255_259.out _).trans (((cell_far (p := ⟨gb259, _, none⟩) NB255_259.out _).trans (hHeld.2.2.2.1)))))), ((cell_far (p := ⟨gb259, _, none⟩) (far_ne34 hw256_0 GW259.out) _).trans (((cell_far (p := ⟨gb259, _, none⟩) (far_ne34 hw256_0 GW259.out) _).trans (((cell_far (p := ⟨gb259, _, none⟩) (far_ne34 hw256_0 GW259.out) _).trans (hHeld.2.2.2.2.1)))))), ((cell_far (p := ⟨gb259, _, none⟩) (far_ne34 hw256_1 GW259.out) _).trans (((cell_far (p := ⟨gb259, _, none⟩) (far_ne34 hw256_1 GW259.out) _).trans (((cell_far (p := ⟨gb259, _, none⟩) (far_ne34 hw256_1 GW259.out) _).trans (hHeld.2.2.2.2.2.1)))))), ((cell_far (p := ⟨gb259, _, none⟩) (far_ne34 hw256_2 GW259.out) _).trans (((cell_far (p := ⟨gb259, _, none⟩) (far_ne34 hw256_2 GW259.out) _).trans (((cell_far (p := ⟨gb259, _, none⟩) (far_ne34 hw256_2 GW259.out) _).trans (hHeld.2.2.2.2.2.2.1)))))), ((cell_far (p := ⟨gb259, _, none⟩) (far_ne34 hw257_0 GW259.out) _).trans (((cell_far (p := ⟨gb259, _, none⟩) (far_ne34 hw257_0 GW259.out) _).trans (((cell_far (p := ⟨gb259, _, none⟩) (far_ne34 hw257_0 GW259.out) _).trans (hHeld.2.2.2.2.2.2.2.1)))))), ((cell_far (p := ⟨gb259, _, none⟩) (far_ne34 hw257_1 GW259.out) _).trans (((cell_far (p := ⟨gb259, _, none⟩) (far_ne34 hw257_1 GW259.out) _).trans (((cell_far (p := ⟨gb259, _, none⟩) (far_ne34 hw257_1 GW259.out) _).trans (hHeld.2.2.2.2.2.2.2.2.1)))))), ((cell_far (p := ⟨gb259, _, none⟩) (far_ne34 hw257_2 GW259.out) _).trans (((cell_far (p := ⟨gb259, _, none⟩) (far_ne34 hw257_2 GW259.out) _).trans (((cell_far (p := ⟨gb259, _, none⟩) (far_ne34 hw257_2 GW259.out) _).trans (hHeld.2.2.2.2.2.2.2.2.2))))))⟩ (fun hHeld => ?_)
          clear hK K
          refine done_ (done_of HT_.out (by kernel_rfl)) ?_
          have hnb90 := NB258_254.out
          have hnc90 := NB254_258.out
          have hnb91 := NB258_255.out
          have hnc91 := NB255_258.out
          have hnb92 := NB258_259.out
          have hnc92 := NB259_258.out
          obtain ⟨hcz93_0, hcz93_1, hcz93_2, hfz93_0, hfz93_1, hfz93_2⟩ := bq3 BK258
          have hnb94 := NB259_254.out
          have hnc94 := NB254_259.out
          have hnb95 := NB259_255.out
          have hnc95 := NB255_259.out
          obtain ⟨hcz96_0, hcz96_1, hcz96_2, hfz96_0, hfz96_1, hfz96_2⟩ := bq3 BK259
          try go_wp2
          go_ret
          exact ⟨eN, bel⟩
        ·rw [if_neg c16] at H
         exact absurd H (by simp)
       ·rw [if_neg c15] at H
        exact absurd H (by simp)
      ·rw [if_neg c14] at H
       have c14b0 : decide (x5_2 < (l0_1.length : Int)) = false := decide_eq_false c14
       clear c14
       obtain rfl := Option.some.inj H
       have hnb97 := NB254_255.out
       have hnc97 := NB255_254.out
       obtain ⟨hcz98_0, hcz98_1, hfz98_0, hfz98_1⟩ := bq2 BK254
       go_wp2
       go_ret
       exact ⟨eN, bel⟩
end Go.Proofs.YtfmpaofbnjlniaaGreatDoor.F
/- Same, Text and Parse at structures: what they answer. -/
namespace Go.Proofs.YtfmpaofbnjlniaaGreatDoor.F
open Go.RowKit Go.Proofs.YtfmpaofbnjlniaaGreatDoorW.PrintWords Go.Proofs.YtfmpaofbnjlniaaGreatDoorW.PrintLast Go.Proofs.YtfmpaofbnjlniaaGreatDoorW.PrintMore
set_option linter.unusedVariables false
theorem rdL2_nat (l : List (List Int)) (i : Nat) (h : i < l.length) : rd_L2 l (i : Int) = l[i] := by unfold rd_L2; rw [Int.toNat_natCast, List.getD_eq_getElem?_getD, List.getElem?_eq_getElem h]; rfl
theorem sameTuples_loop (l : List (List Int)) (hl : l.length ≤ 100000) (ht : ∀ t ∈ l, t.length ≤ 1000) : ∀ (d i k : Nat), i + d = l.length → d + 1101 ≤ k → paraphrastref01_SameTuples.l0 k l l (i : Int) = some true
  | 0, i, k + 1, h, hk => by unfold paraphrastref01_SameTuples.l0; rw [if_neg (by omega)]
  | d + 1, i, k + 1, h, hk => by
    have hi : i < l.length := by omega
    unfold paraphrastref01_SameTuples.l0
    rw [if_pos (by omega), if_pos (by omega), if_pos (by omega), rdL2_nat l i hi, equal_same _ (ht _ (List.getElem_mem hi)) k (by omega), w64 (by omega) (by omega), show (i : Int) + 1 = ((i + 1 : Nat) : Int) by omega, sameTuples_loop l hl ht d (i + 1) k (by omega) (by omega)]
    simp
theorem sameTuples_refl (l : List (List Int)) (hl : l.length ≤ 100000) (ht : ∀ t ∈ l, t.length ≤ 1000) (k : Nat) (hk : 101200 ≤ k) : paraphrastref01_SameTuples.f k l l = some true := by
  unfold paraphrastref01_SameTuples.f
  rw [if_pos rfl]
  exact sameTuples_loop l hl ht l.length 0 k (by omega) (by omega)
theorem same_loop (n : Int) (l : List S52) (hl : l.length ≤ 1000) (hr : ∀ r ∈ l, r.f2.length ≤ 100000 ∧ ∀ t ∈ r.f2, t.length ≤ 1000) : ∀ (d i k : Nat), i + d = l.length → d + 101201 ≤ k → paraphrastref01_Same.l0 k (i : Int) n l n l = some true
  | 0, i, k + 1, h, hk => by unfold paraphrastref01_Same.l0; rw [if_neg (by omega)]
  | d + 1, i, k + 1, h, hk => by
    have hi : i < l.length := by omega
    obtain ⟨h1, h2⟩ := hr _ (List.getElem_mem hi)
    unfold paraphrastref01_Same.l0
    rw [if_pos (by omega), if_pos (by omega), if_pos (by omega), if_pos rfl, if_pos rfl, rdT_nat l i hi, sameTuples_refl _ h1 h2 k (by omega), w64 (by omega) (by omega), show (i : Int) + 1 = ((i + 1 : Nat) : Int) by omega, same_loop n l hl hr d (i + 1) k (by omega) (by omega)]
    simp
theorem same_refl (n : Int) (l : List S52) (hl : l.length ≤ 1000) (hr : ∀ r ∈ l, r.f2.length ≤ 100000 ∧ ∀ t ∈ r.f2, t.length ≤ 1000) (k : Nat) (hk : 102300 ≤ k) : paraphrastref01_Same.f k n l n l = some true := by
  obtain ⟨k, rfl⟩ : ∃ k', k = k' + 1 := ⟨k - 1, by omega⟩
  unfold paraphrastref01_Same.f
  rw [if_pos rfl, bne_self_eq_false]
  unfold paraphrastref01_Same.j0
  dsimp only
  rw [if_neg (by simp)]
  exact same_loop n l hl hr l.length 0 k (by omega) (by omega)
end Go.Proofs.YtfmpaofbnjlniaaGreatDoor.F
/- slices.Clone at []int, by hand. -/
namespace Go.Proofs.YtfmpaofbnjlniaaGreatDoor.F
open Go.RowKit Go.Proofs.YtfmpaofbnjlniaaGreatDoorW.PrintWords Go.Proofs.YtfmpaofbnjlniaaGreatDoorW.PrintLast Go.Proofs.YtfmpaofbnjlniaaGreatDoorW.PrintMore
set_option linter.unusedVariables false
set_option linter.unusedSimpArgs false
def slices_Clone_int_int.f (l : List Int) : Option (List Int) := if l.length ≤ 100000 then some l else none
set_option maxHeartbeats 4000000 in
set_option maxRecDepth 100000 in
theorem slices_Clone_int_int.calls (A0 : Option Addr) (c0 : Nat) (l0 : List Int) (r1 : List Int) (w : World) (hr0 : Kd.C (Kd.int .i64) w A0 l0.length l0) (hc0 : l0.length ≤ c0) (h : slices_Clone_int_int.f l0 = some r1) :
    Calls Tryz.prog 60 #[.slice A0 l0.length c0] w fun e w' => ∃ v0_ : Value, e = .returned v0_ ∧ Kd.R (Kd.int .i64) 3 w' w.heap.size (fun _ => True) v0_ r1 ∧ Below w.heap.size w w' := by
  unfold slices_Clone_int_int.f at h
  by_cases hl : l0.length ≤ 100000
  case neg => rw [if_neg hl] at h; cases h
  rw [if_pos hl] at h
  obtain rfl := Option.some.inj h
  clear h
  have HR0 := Aside0.mk hr0
  have HC0 := Aside0.mk hc0
  clear hr0 hc0
  have hq : ∀ (n c : Nat) (W : World), (binOp .eql 46 (.slice A0 n c) (.slice none 0 0)).run Tryz.prog W = .ok (.bool A0.isNone) W := fun n c W => Lib.run_eql_slice_nil W 46 3 A0 n c 0 0 Tryz.underlying46
  go_enter Tryz.func60, Tryz.ntmps60
  cases A0 with
  | none =>
    have h0 : l0 = [] := by
      cases l0 with
      | nil => rfl
      | cons x xs => obtain ⟨ad, h, _⟩ := HR0.out.2.2 (by simp); cases h
    subst h0
    go_wp2
    go_ret
    exact ⟨_, rfl, Kd.R_nil _ _ _ _ _, Below.refl _ _⟩
  | some ad =>
    have HO := Aside0.mk (show Kd.R (Kd.int .i64) 3 (w.alloc (.cells #[] 3)) w.heap.size (fun _ => True) (.slice (some ⟨w.heap.size, 0, none⟩) 0 0) [] from Kd.R_of_own (h1 := fun _ => rfl) (ok := fun _ => True) (own_lit_of (enc := Value.int .i64) w w.heap.size 3 [] (Nat.le_refl _) (by simp)) (fun _ _ => trivial))
    have HC := Aside0.mk (Kd.C_alloc HR0.out (.cells #[] 3))
    have HB := Aside0.mk (below_alloc (Below.refl w.heap.size w) (.cells #[] 3))
    go_wp2_with (first | ((with_reducible refine gate_builtin (b := .append) (xs := #[.tmp 5, .tmp 6]) rfl ?_); at_builtin; refine Kd.R_append_rows (Kd.int .i64) (w0 := w) w.heap.size rfl (.tmp 5) (.tmp 6) 46 3 (.int .i64 0) 8 rfl Tryz.underlying46 infoInt rfl (by decide) (by omega) (.slice (some ⟨w.heap.size, 0, none⟩) 0 0) [] l0 _ _ _ (fun _ => True) (fun _ => False) rfl rfl ?aO ?aR (fun _ _ h => h) (fun _ h => h.elim) ?aF ?aB ?aS ?aL ?_; (case aO => exact HO.out); (case aR => exact HC.out); (case aF => exact fun _ _ => trivial); (case aB => exact HB.out); (case aS => exact HB.out.size); (case aL => simp; omega); intro v7 w7 ho hb hg hat; have n0_ := Aside0.mk ho; have n1_ := Aside0.mk hb; clear ho hb hg hat HO HC HB))
    go_ret
    exact ⟨_, rfl, n0_.out, n1_.out⟩
end Go.Proofs.YtfmpaofbnjlniaaGreatDoor.F
/- shape.Copy, by hand: the copy's relations lie apart from each other. -/
namespace Go.Proofs.YtfmpaofbnjlniaaGreatDoor.F
open Go.RowKit Go.Proofs.YtfmpaofbnjlniaaGreatDoorW.PrintWords Go.Proofs.YtfmpaofbnjlniaaGreatDoorW.PrintLast Go.Proofs.YtfmpaofbnjlniaaGreatDoorW.PrintMore
set_option linter.unusedVariables false
set_option linter.unusedSimpArgs false
def copyOk (l : List S52) : Prop := l.length ≤ 100000 ∧ ∀ r ∈ l, r.f2.length ≤ 100000 ∧ ∀ t ∈ r.f2, t.length ≤ 100000
theorem infoRel' : (Tryz.prog.info? 52).map (fun i => (i.zero, i.size, i.bytes)) = some (some (.agg #[.string ⟨#[]⟩, .int .i64 0, .slice none 0 0]), 3, 48) := by kernel_rfl
end Go.Proofs.YtfmpaofbnjlniaaGreatDoor.F
/- slices.Insert and slices.Delete at rows of tuples: the walks' ends in the printed form. -/
namespace Go.Proofs.YtfmpaofbnjlniaaGreatDoor.F
open Go.RowKit Go.Proofs.YtfmpaofbnjlniaaGreatDoorW.PrintWords Go.Proofs.YtfmpaofbnjlniaaGreatDoorW.PrintLast Go.Proofs.YtfmpaofbnjlniaaGreatDoorW.PrintMore
set_option linter.unusedVariables false
set_option linter.unusedSimpArgs false
def insAt (ts : List (List Int)) (i : Nat) (t : List Int) : List (List Int) := ts.take i ++ [t] ++ ts.drop i
end Go.Proofs.YtfmpaofbnjlniaaGreatDoor.F
/- shape.Put, by hand. -/
namespace Go.Proofs.YtfmpaofbnjlniaaGreatDoor.F
open Go.RowKit Go.Proofs.YtfmpaofbnjlniaaGreatDoorW.PrintWords Go.Proofs.YtfmpaofbnjlniaaGreatDoorW.PrintLast Go.Proofs.YtfmpaofbnjlniaaGreatDoorW.PrintMore
set_option linter.unusedVariables false
set_option linter.unusedSimpArgs false
instance (l : List S52) : Decidable (copyOk l) := by unfold copyOk; infer_instance
def PutEnds (w : World) (r : Int × List S52 × Int) (e : Ending) (w' : World) : Prop := ∃ v : Value, e = .returned (.tuple #[.agg #[.int .i64 r.1, v], .int .i64 r.2.2]) ∧ Kd.R k52 52 w' w.heap.size (fun _ => True) v r.2.1 ∧ Below w.heap.size w w'
end Go.Proofs.YtfmpaofbnjlniaaGreatDoor.F
/- What Has and Put answer at valid structures; plain lemmas. -/
namespace Go.Proofs.YtfmpaofbnjlniaaGreatDoor.F
open Go.RowKit Go.Proofs.YtfmpaofbnjlniaaGreatDoorW.PrintWords Go.Proofs.YtfmpaofbnjlniaaGreatDoorW.PrintLast Go.Proofs.YtfmpaofbnjlniaaGreatDoorW.PrintMore
set_option linter.unusedVariables false
/-! ### the lexicographic order -/
theorem lex_irr : ∀ x : List Int, lexL x x = false
  | [] => rfl
  | a :: x => by unfold lexL; rw [if_pos rfl]; exact lex_irr x
theorem lex_trans : ∀ x y z : List Int, x.length = y.length → y.length = z.length → lexL x y = true → lexL y z = true → lexL x z = true
  | [], y, z, h1, h2, h, _ => by unfold lexL at h; cases h
  | a :: x, [], z, h1, h2, h, _ => by simp at h1
  | a :: x, b :: y, [], h1, h2, h, _ => by simp at h2
  | a :: x, b :: y, c :: z, h1, h2, h, h' => by
    unfold lexL at h h' ⊢
    simp only [List.length_cons] at h1 h2
    by_cases e1 : a = b
    · by_cases e2 : b = c
      · rw [if_pos e1] at h
        rw [if_pos e2] at h'
        rw [if_pos (e1.trans e2)]
        exact lex_trans x y z (by omega) (by omega) h h'
      · rw [if_neg e2, decide_eq_true_eq] at h'
        rw [if_neg (by omega), decide_eq_true_eq]; omega
    · rw [if_neg e1, decide_eq_true_eq] at h
      by_cases e2 : b = c
      · rw [if_neg (by omega), decide_eq_true_eq]; omega
      · rw [if_neg e2, decide_eq_true_eq] at h'
        rw [if_neg (by omega), decide_eq_true_eq]; omega
theorem lex_tri : ∀ x y : List Int, x.length = y.length → lexL x y = false → x ≠ y → lexL y x = true
  | [], [], _, _, h => absurd rfl h
  | [], _ :: _, h, _, _ => by simp at h
  | _ :: _, [], h, _, _ => by simp at h
  | a :: x, b :: y, h1, h, hne => by
    unfold lexL at h ⊢
    by_cases e : a = b
    · rw [if_pos e] at h
      rw [if_pos e.symm]
      exact lex_tri x y (by simpa using h1) h (fun e2 => hne (by rw [e, e2]))
    · rw [if_neg e, decide_eq_false_iff_not] at h
      rw [if_neg (fun e2 => e e2.symm), decide_eq_true_eq]; omega
theorem cmp_loop (x y : List Int) (hl : x.length = y.length) (hx : x.length ≤ 100000) : ∀ (j i k : Nat), i + j = x.length → j + 1 ≤ k → ∃ c, slices_Compare_int_int.l0 k x y x (x.length : Int) (i : Int) = some c ∧ (c < 0 ↔ lexL (x.drop i) (y.drop i) = true) ∧ (c = 0 ↔ x.drop i = y.drop i)
  | 0, i, k + 1, h, hk => by
    refine ⟨0, ?_, ?_, ?_⟩
    · unfold slices_Compare_int_int.l0; rw [if_neg (by omega), if_neg (by omega)]
    · rw [List.drop_eq_nil_of_le (by omega)]; simp [lexL]
    · rw [List.drop_eq_nil_of_le (by omega), List.drop_eq_nil_of_le (by omega)]; simp
  | j + 1, i, k + 1, h, hk => by
    have hi : i < x.length := by omega
    have hi2 : i < y.length := by omega
    unfold slices_Compare_int_int.l0
    rw [if_pos (by omega), if_pos (by omega), if_pos (by omega), if_neg (by omega), if_pos (by omega), rd_nat x i hi, rd_nat y i hi2, List.drop_eq_getElem_cons hi, List.drop_eq_getElem_cons hi2, w64 (by omega) (by omega)]
    unfold cmp_Compare_int.f cmp_isNaN_int.f lexL
    simp only [bne_self_eq_false, Option.bind_some, Bool.false_eq_true, if_false]
    rcases Int.lt_trichotomy x[i] y[i] with h1 | h1 | h1
    · exact ⟨-1, by simp [h1], by rw [if_neg (by omega)]; simp [h1], ⟨fun e => by omega, fun e => by have := (List.cons.inj e).1; omega⟩⟩
    · obtain ⟨c, hc, hd, he⟩ := cmp_loop x y hl hx j (i + 1) k (by omega) (by omega)
      rw [show ((i + 1 : Nat) : Int) = (i : Int) + 1 by omega] at hc
      exact ⟨c, by simp [h1, hc], by rw [if_pos h1]; exact hd, by rw [he]; exact ⟨fun e => by rw [h1, e], fun e => (List.cons.inj e).2⟩⟩
    · exact ⟨1, by simp [h1, show ¬ x[i] < y[i] by omega], by rw [if_neg (by omega)]; simp; omega, ⟨fun e => by omega, fun e => by have := (List.cons.inj e).1; omega⟩⟩
theorem cmp_eq (x y : List Int) (hl : x.length = y.length) (hx : x.length ≤ 100000) (k : Nat) (hk : x.length + 1 ≤ k) : ∃ c, slices_Compare_int_int.f k x y = some c ∧ (c < 0 ↔ lexL x y = true) ∧ (c = 0 ↔ x = y) :=
  cmp_loop x y hl hx x.length 0 k (by omega) (by omega)
/-! ### the binary search -/
def Sorted (ts : List (List Int)) : Prop := ts.Pairwise (fun a b => lexL a b = true)
/-- The place of t in ts. -/
def PlaceOf (ts : List (List Int)) (t : List Int) (q : Nat) (b : Bool) : Prop := q ≤ ts.length ∧ (∀ a ∈ ts.take q, lexL a t = true) ∧ (∀ a ∈ ts.drop q, lexL a t = false) ∧ (b = true ↔ ∃ h : q < ts.length, ts[q] = t)
theorem mid_eq (lo hi : Nat) (h : lo ≤ hi) (h2 : hi ≤ 100000) : wrap64 ((IntKind.u64.wrap (wrap64 ((lo : Int) + (hi : Int)))) / 2) = (((lo + hi) / 2 : Nat) : Int) := by
  rw [w64 (x := (lo : Int) + hi) (by omega) (by omega), IntKind.wrap_u64, w64 (by omega) (by omega)]
  omega
theorem search_loop (ts : List (List Int)) (t : List Int) (m : Nat) (hm : m ≤ 1000) (hlt : t.length = m) (hl : ∀ a ∈ ts, a.length = m) (hs : Sorted ts) (hn : ts.length ≤ 100000) : ∀ (d lo hi k : Nat), lo ≤ hi → hi ≤ ts.length → hi - lo ≤ d → d + m + 3 ≤ k →
    (∀ (i : Nat) (h : i < ts.length), i < lo → lexL ts[i] t = true) → (∀ (i : Nat) (h : i < ts.length), hi ≤ i → lexL ts[i] t = false) →
    ∃ (q : Nat) (b : Bool), slices_BinarySearchFunc_int_int_int.l0 k ts t (ts.length : Int) (lo : Int) (hi : Int) = some ((q : Int), b) ∧ PlaceOf ts t q b
  | 0, lo, hi, k + 1, h1, h2, h3, h4, hp, hq => by
    obtain rfl : lo = hi := by omega
    have T1 : ∀ a ∈ ts.take lo, lexL a t = true := fun a ha => by
      obtain ⟨i, hi, rfl⟩ := List.getElem_of_mem ha
      rw [List.length_take] at hi
      rw [List.getElem_take]
      exact hp i (by omega) (by omega)
    have T2 : ∀ a ∈ ts.drop lo, lexL a t = false := fun a ha => by
      obtain ⟨i, hi, rfl⟩ := List.getElem_of_mem ha
      rw [List.length_drop] at hi
      rw [List.getElem_drop]
      exact hq _ (by omega) (by omega)
    unfold slices_BinarySearchFunc_int_int_int.l0
    rw [if_neg (by omega)]
    by_cases hlo : lo < ts.length
    · obtain ⟨c, hc, _, h0⟩ := cmp_eq ts[lo] t (by rw [hl _ (List.getElem_mem hlo), hlt]) (by rw [hl _ (List.getElem_mem hlo)]; omega) k (by rw [hl _ (List.getElem_mem hlo)]; omega)
      rw [if_pos (by omega), if_pos (by omega), if_pos (by omega), rdL2_nat ts lo hlo, hc]
      exact ⟨lo, _, rfl, h2, T1, T2, by rw [beq_iff_eq, h0]; exact ⟨fun e => ⟨hlo, e⟩, fun ⟨_, e⟩ => e⟩⟩
    · rw [if_neg (by omega)]
      exact ⟨lo, false, rfl, h2, T1, T2, by simp; omega⟩
  | d + 1, lo, hi, k + 1, h1, h2, h3, h4, hp, hq => by
    by_cases hlh : lo < hi
    · have hmid := mid_eq lo hi h1 (by omega)
      have hm1 : (lo + hi) / 2 < ts.length := by omega
      unfold slices_BinarySearchFunc_int_int_int.l0
      rw [if_pos (by omega)]
      simp only [hmid]
      rw [if_pos (by omega), if_pos (by omega), rdL2_nat ts _ hm1]
      obtain ⟨c, hc, hlx, _⟩ := cmp_eq ts[(lo + hi) / 2] t (by rw [hl _ (List.getElem_mem hm1), hlt]) (by rw [hl _ (List.getElem_mem hm1)]; omega) k (by rw [hl _ (List.getElem_mem hm1)]; omega)
      rw [hc]
      simp only [Option.bind_some]
      have hpw := List.pairwise_iff_getElem.1 hs
      by_cases hc0 : c < 0
      · rw [if_pos hc0, w64 (by omega) (by omega), show (((lo + hi) / 2 : Nat) : Int) + 1 = (((lo + hi) / 2 + 1 : Nat) : Int) by omega]
        refine search_loop ts t m hm hlt hl hs hn d ((lo + hi) / 2 + 1) hi k (by omega) h2 (by omega) (by omega) (fun i h hi' => ?_) hq
        by_cases e : i = (lo + hi) / 2
        · subst e; exact hlx.1 hc0
        · exact lex_trans _ _ _ (by rw [hl _ (List.getElem_mem h), hl _ (List.getElem_mem hm1)]) (by rw [hl _ (List.getElem_mem hm1), hlt]) (hpw i _ h hm1 (by omega)) (hlx.1 hc0)
      · rw [if_neg hc0]
        refine search_loop ts t m hm hlt hl hs hn d lo ((lo + hi) / 2) k (by omega) (by omega) (by omega) (by omega) hp (fun i h hi' => ?_)
        have hf : lexL ts[(lo + hi) / 2] t = false := by
          cases hb : lexL ts[(lo + hi) / 2] t with
          | false => rfl
          | true => exact absurd (hlx.2 hb) hc0
        by_cases e : i = (lo + hi) / 2
        · subst e; exact hf
        · cases hb : lexL ts[i] t with
          | false => rfl
          | true =>
            have := lex_trans _ _ _ (by rw [hl _ (List.getElem_mem hm1), hl _ (List.getElem_mem h)]) (by rw [hl _ (List.getElem_mem h), hlt]) (hpw _ i hm1 h (by omega)) hb
            rw [hf] at this; cases this
    · exact search_loop ts t m hm hlt hl hs hn d lo hi (k + 1) h1 h2 (by omega) (by omega) hp hq
theorem search_eq (ts : List (List Int)) (t : List Int) (m : Nat) (hm : m ≤ 1000) (hlt : t.length = m) (hl : ∀ a ∈ ts, a.length = m) (hs : Sorted ts) (hn : ts.length ≤ 5000) : ∃ (q : Nat) (b : Bool), PlaceOf ts t q b ∧ ∀ k, 7000 ≤ k → slices_BinarySearchFunc_int_int_int.f k ts t = some ((q : Int), b) := by
  obtain ⟨q, b, h, hp⟩ := search_loop ts t m hm hlt hl hs (by omega) ts.length 0 ts.length 7000 (by omega) (Nat.le_refl _) (by omega) (by omega) (fun i _ h => by omega) (fun i _ h => by omega)
  exact ⟨q, b, hp, fun k hk => at_rounds (slices_BinarySearchFunc_int_int_int.mono _ _) hk h⟩
theorem place_mem {ts : List (List Int)} {t : List Int} {q : Nat} {b : Bool} (h : PlaceOf ts t q b) (hs : Sorted ts) (m : Nat) (hlt : t.length = m) (hl : ∀ a ∈ ts, a.length = m) : b = true ↔ t ∈ ts := by
  obtain ⟨h1, h2, h3, h4⟩ := h
  rw [h4]
  constructor
  · rintro ⟨hq, e⟩
    rw [← e]; exact List.getElem_mem hq
  · intro ht
    rw [← List.take_append_drop q ts, List.mem_append] at ht
    rcases ht with ht | ht
    · have := h2 t ht
      rw [lex_irr] at this; cases this
    · have hq : q < ts.length := by
        have := List.length_pos_of_mem ht
        rw [List.length_drop] at this; omega
      refine ⟨hq, ?_⟩
      rw [List.drop_eq_getElem_cons hq] at ht
      rcases List.mem_cons.1 ht with ht | ht
      · exact ht.symm
      · have hp : Sorted (ts.drop q) := List.Pairwise.sublist (List.drop_sublist q ts) hs
        rw [List.drop_eq_getElem_cons hq] at hp
        have := (List.pairwise_cons.1 hp).1 t ht
        rw [h3 _ (by rw [List.drop_eq_getElem_cons hq]; exact List.mem_cons_self)] at this
        cases this
/-! ### inserting, deleting -/
theorem ins_mem (ts : List (List Int)) (q : Nat) (t a : List Int) : a ∈ insAt ts q t ↔ a = t ∨ a ∈ ts := by
  unfold insAt
  conv => rhs; rw [← List.take_append_drop q ts]
  simp only [List.mem_append, List.mem_singleton]
  constructor
  · rintro ((h | h) | h)
    · exact Or.inr (Or.inl h)
    · exact Or.inl h
    · exact Or.inr (Or.inr h)
  · rintro (h | h | h)
    · exact Or.inl (Or.inr h)
    · exact Or.inl (Or.inl h)
    · exact Or.inr h
theorem ins_sorted {ts : List (List Int)} {t : List Int} {q : Nat} {b : Bool} (h : PlaceOf ts t q b) (hs : Sorted ts) (m : Nat) (hlt : t.length = m) (hl : ∀ a ∈ ts, a.length = m) (hn : t ∉ ts) : Sorted (insAt ts q t) := by
  obtain ⟨h1, h2, h3, h4⟩ := h
  unfold Sorted at hs ⊢
  rw [← List.take_append_drop q ts, List.pairwise_append] at hs
  obtain ⟨s1, s2, s3⟩ := hs
  have hd : ∀ a ∈ ts.drop q, lexL t a = true := fun a ha => lex_tri a t (by rw [hl a (List.mem_of_mem_drop ha), hlt]) (h3 a ha) (fun e => hn (e ▸ List.mem_of_mem_drop ha))
  unfold insAt
  rw [List.pairwise_append, List.pairwise_append]
  refine ⟨⟨s1, List.pairwise_singleton _ _, fun a ha b hb => by rw [List.mem_singleton.1 hb]; exact h2 a ha⟩, s2, fun a ha b hb => ?_⟩
  rcases List.mem_append.1 ha with ha | ha
  · exact s3 a ha b hb
  · rw [List.mem_singleton.1 ha]; exact hd b hb
end Go.Proofs.YtfmpaofbnjlniaaGreatDoor.F
/- What Has and Put answer at valid structures. -/
namespace Go.Proofs.YtfmpaofbnjlniaaGreatDoor.F
open Go.RowKit Go.Proofs.YtfmpaofbnjlniaaGreatDoorW.PrintWords Go.Proofs.YtfmpaofbnjlniaaGreatDoorW.PrintLast Go.Proofs.YtfmpaofbnjlniaaGreatDoorW.PrintMore
set_option linter.unusedVariables false
theorem tups_sorted (n a : Int) (ts : List (List Int)) (h : tupsV n a ts ts.length 0 = true) : Sorted ts ∧ ∀ t ∈ ts, tupV n a t = true := by
  have hA := tupsV_all n a ts ts.length 0 h (by omega)
  have hT : ∀ t ∈ ts, tupV n a t = true := fun t ht => by
    obtain ⟨j, hj, rfl⟩ := List.getElem_of_mem ht
    exact (hA j hj (by omega)).1
  refine ⟨List.pairwise_iff_getElem.2 (fun i j hi hj hij => ?_), hT⟩
  have hl : ∀ (m : Nat) (hm : m < ts.length), (ts[m].length : Int) = a := fun m hm => (tupV_in n a _ (hT _ (List.getElem_mem hm))).1
  induction j with
  | zero => omega
  | succ j ih =>
    obtain ⟨_, h2⟩ := (hA (j + 1) hj (by omega)).2 (by omega)
    simp only [Nat.add_sub_cancel] at h2
    by_cases e : i = j
    · subst e; exact h2
    · have e1 := hl i hi
      have e2 := hl j (by omega)
      have e3 := hl (j + 1) hj
      exact lex_trans _ _ _ (by omega) (by omega) (ih (by omega) (by omega)) h2
theorem tupsV_mk (n a : Int) (ts : List (List Int)) (hs : Sorted ts) (hT : ∀ t ∈ ts, tupV n a t = true) : ∀ (d i : Nat), i + d = ts.length → tupsV n a ts d i = true
  | 0, i, h => rfl
  | d + 1, i, h => by
    have hi : i < ts.length := by omega
    unfold tupsV
    rw [rdL2_nat ts i hi, hT _ (List.getElem_mem hi), tupsV_mk n a ts hs hT d (i + 1) (by omega)]
    by_cases e : i = 0
    · simp [e]
    · have r2 : rd_L2 ts ((i : Int) - 1) = ts[i - 1]'(by omega) := by unfold rd_L2; rw [show ((i : Int) - 1).toNat = i - 1 by omega, List.getD_eq_getElem?_getD, List.getElem?_eq_getElem (by omega)]; rfl
      rw [r2, List.pairwise_iff_getElem.1 hs (i - 1) i (by omega) hi (by omega)]
      simp
theorem rels_names (n : Int) (l : List S52) : ∀ (d i : Nat), relsV n l d i = true → i + d = l.length → ∀ j (hj : j < l.length), i ≤ j → (l.take j).any (nameIs l[j].f0) = false
  | 0, i, _, h, j, hj, hi => by omega
  | d + 1, i, h, hl, j, hj, hi => by
    unfold relsV at h
    simp only [Bool.and_eq_true] at h
    by_cases e : j = i
    · subst e
      rw [rdT_nat l j hj] at h
      simpa using h.1.2
    · exact rels_names n l d (i + 1) h.2 (by omega) j hj (by omega)
theorem rels_mk (n : Int) (l : List S52) (h1 : ∀ j (hj : j < l.length), relV n l[j] = true) (h2 : ∀ j (hj : j < l.length), (l.take j).any (nameIs l[j].f0) = false) : ∀ (d i : Nat), i + d = l.length → relsV n l d i = true
  | 0, i, h => rfl
  | d + 1, i, h => by
    have hi : i < l.length := by omega
    unfold relsV
    rw [rdT_nat l i hi, h1 i hi, h2 i hi, rels_mk n l h1 h2 d (i + 1) (by omega)]
    rfl
theorem valid_parts (n : Int) (l : List S52) (h : validB n l = true) : (∀ j (hj : j < l.length), relV n l[j] = true) ∧ ∀ j (hj : j < l.length), (l.take j).any (nameIs l[j].f0) = false := by
  unfold validB at h
  simp only [Bool.and_eq_true] at h
  exact ⟨fun j hj => relsV_all n l l.length 0 h.2 (by omega) j hj (by omega), fun j hj => rels_names n l l.length 0 h.2 (by omega) j hj (by omega)⟩
theorem rel_sorted (n : Int) (r : S52) (h : relV n r = true) : Sorted r.f2 ∧ ∀ t ∈ r.f2, tupV n r.f1 t = true := by
  unfold relV at h
  simp only [Bool.and_eq_true] at h
  exact tups_sorted n r.f1 r.f2 h.2
theorem names_ne (n : Int) (l : List S52) (h : validB n l = true) (i j : Nat) (hij : i < j) (hj : j < l.length) : (l[i]'(by omega)).f0.toList ≠ l[j].f0.toList := by
  have := (valid_parts n l h).2 j hj
  rw [List.any_eq_false] at this
  have h2 := this (l[i]'(by omega)) (by rw [List.mem_iff_getElem]; exact ⟨i, by rw [List.length_take]; omega, by rw [List.getElem_take]⟩)
  unfold nameIs at h2
  simpa using h2
theorem find_at (n : Int) (l : List S52) (h : validB n l = true) (i : Nat) (hi : i < l.length) (m : Int) (hm : l[i].f1 = m) : shape_Find.f n l l[i].f0 m = some (i : Int) := by
  unfold shape_Find.f shape_Find_1_idx.f
  rw [Option.bind_some, fidx_at (List.getElem?_eq_getElem hi) (by unfold symIs; simp [hm]) (fun j y hj hy => by
    obtain ⟨hjl, rfl⟩ := List.getElem?_eq_some_iff.1 hy
    have := names_ne n l h j i hj hi
    unfold symIs
    rw [beq_eq_false_iff_ne.2 this]; rfl)]
theorem max_valid (n : Int) (l : List S52) (h : validB n l = true) : ∀ r ∈ l, r.f2.length ≤ 4096 := fun r hr => ((valid_facts n l h).2.2.2 r hr).2.2.2
theorem has_at (n : Int) (l : List S52) (h : validB n l = true) (i : Nat) (hi : i < l.length) (t : List Int) (ht : (t.length : Int) = l[i].f1) :
    ∃ (q : Nat) (b : Bool), PlaceOf l[i].f2 t q b ∧ (b = true ↔ t ∈ l[i].f2) ∧ (∀ k, 7000 ≤ k → shape_Has.f k n l l[i].f0 t = some (b, 0)) ∧ ∀ k, 7000 ≤ k → slices_BinarySearchFunc_int_int_int.f k l[i].f2 t = some ((q : Int), b) := by
  obtain ⟨h1, h2, h3, h4⟩ := valid_facts n l h
  obtain ⟨_, g1, g2, g3⟩ := h4 _ (List.getElem_mem hi)
  have hs := (rel_sorted n _ ((valid_parts n l h).1 i hi)).1
  have hl : ∀ a ∈ l[i].f2, a.length = t.length := fun a ha => by have := (g2 a ha).1; omega
  obtain ⟨q, b, hp, hb⟩ := search_eq l[i].f2 t t.length (by omega) rfl hl hs (by omega)
  refine ⟨q, b, hp, place_mem hp hs t.length rfl hl, fun k hk => ?_, hb⟩
  unfold shape_Has.f
  rw [valid_eq n l 4096 (by omega) (max_valid n l h) k (by omega), h, Option.bind_some, if_pos rfl, find_at n l h i hi _ ht.symm, Option.bind_some, if_neg (by omega), if_pos (by omega), if_pos (by omega), rdT_nat l i hi, hb k hk]
  rfl
theorem tup_of (n : Int) (t : List Int) (a : Int) (ha : (t.length : Int) = a) (ho : t.any (outB n) = false) : tupV n a t = true := by
  unfold tupV
  rw [decide_eq_true ha, ho]; rfl
end Go.Proofs.YtfmpaofbnjlniaaGreatDoor.F
/- paraphrastref01.Sorted, by hand. -/
namespace Go.Proofs.YtfmpaofbnjlniaaGreatDoor.F
open Go.RowKit Go.Proofs.YtfmpaofbnjlniaaGreatDoorW.PrintWords Go.Proofs.YtfmpaofbnjlniaaGreatDoorW.PrintLast Go.Proofs.YtfmpaofbnjlniaaGreatDoorW.PrintMore
set_option linter.unusedVariables false
set_option linter.unusedSimpArgs false
/-- Where Sorted puts t among the first k of out. -/
def kFrom (out : List (List Int)) (t : List Int) : Nat → Nat
  | 0 => 0
  | k + 1 => if lexL t (rd_L2 out (k : Int)) = true then kFrom out t k else k + 1
def insOne (out : List (List Int)) (t : List Int) : List (List Int) :=
  if 0 < kFrom out t out.length ∧ rd_L2 out ((kFrom out t out.length : Int) - 1) = t then out else insAt out (kFrom out t out.length) t
def sortedB (l : List (List Int)) : List (List Int) := l.foldl insOne []
def sortOk (l : List (List Int)) : Prop := l.length ≤ 100000 ∧ ∀ t ∈ l, t.length = (l.headD []).length ∧ t.length ≤ 1000
instance (l : List (List Int)) : Decidable (sortOk l) := by unfold sortOk; infer_instance
def paraphrastref01_Sorted.f (l : List (List Int)) : Option (List (List Int)) := if sortOk l then some (sortedB l) else none
theorem kFrom_le (out : List (List Int)) (t : List Int) : ∀ k, kFrom out t k ≤ k
  | 0 => Nat.le_refl _
  | k + 1 => by
    unfold kFrom
    split
    · exact Nat.le_succ_of_le (kFrom_le out t k)
    · exact Nat.le_refl _
theorem rd_mem (out : List (List Int)) (k : Nat) (h : k < out.length) : rd_L2 out (k : Int) ∈ out := by
  unfold rd_L2
  rw [Int.toNat_natCast, List.getD_eq_getElem?_getD, List.getElem?_eq_getElem h]
  exact List.getElem_mem h
end Go.Proofs.YtfmpaofbnjlniaaGreatDoor.F
/- Sorted: what it answers. -/
namespace Go.Proofs.YtfmpaofbnjlniaaGreatDoor.F
open Go.RowKit Go.Proofs.YtfmpaofbnjlniaaGreatDoorW.PrintWords Go.Proofs.YtfmpaofbnjlniaaGreatDoorW.PrintLast Go.Proofs.YtfmpaofbnjlniaaGreatDoorW.PrintMore
set_option linter.unusedVariables false
theorem lex_asym (x y : List Int) (hl : x.length = y.length) (h : lexL x y = true) : lexL y x = false := by
  cases h2 : lexL y x with
  | false => rfl
  | true => have := lex_trans x y x hl hl.symm h h2; rw [lex_irr] at this; cases this
theorem sorted_ext (m : Nat) : ∀ (xs ys : List (List Int)), Sorted xs → Sorted ys → (∀ a ∈ xs, a.length = m) → (∀ a ∈ ys, a.length = m) → (∀ a, a ∈ xs ↔ a ∈ ys) → xs = ys
  | [], [], _, _, _, _, _ => rfl
  | [], y :: ys, _, _, _, _, h => by have := (h y).2 List.mem_cons_self; cases this
  | x :: xs, [], _, _, _, _, h => by have := (h x).1 List.mem_cons_self; cases this
  | x :: xs, y :: ys, h1, h2, l1, l2, h => by
    have hx := List.pairwise_cons.1 h1
    have hy := List.pairwise_cons.1 h2
    have lx := l1 x List.mem_cons_self
    have ly := l2 y List.mem_cons_self
    have e : x = y := by
      rcases List.mem_cons.1 ((h x).1 List.mem_cons_self) with e | e1
      · exact e
      · rcases List.mem_cons.1 ((h y).2 List.mem_cons_self) with e | e2
        · exact e.symm
        · have a1 := hy.1 x e1
          have a2 := hx.1 y e2
          rw [lex_asym x y (lx.trans ly.symm) a2] at a1
          cases a1
    subst e
    have nx : x ∉ xs := fun e => by have := hx.1 x e; rw [lex_irr] at this; cases this
    have ny : x ∉ ys := fun e => by have := hy.1 x e; rw [lex_irr] at this; cases this
    congr 1
    refine sorted_ext m xs ys hx.2 hy.2 (fun a ha => l1 a (List.mem_cons_of_mem _ ha)) (fun a ha => l2 a (List.mem_cons_of_mem _ ha)) (fun a => ⟨fun ha => ?_, fun ha => ?_⟩)
    · rcases List.mem_cons.1 ((h a).1 (List.mem_cons_of_mem _ ha)) with e | e
      · exact absurd (e ▸ ha) nx
      · exact e
    · rcases List.mem_cons.1 ((h a).2 (List.mem_cons_of_mem _ ha)) with e | e
      · exact absurd (e ▸ ha) ny
      · exact e
theorem kFrom_facts (out : List (List Int)) (t : List Int) : ∀ (k : Nat) (hk : k ≤ out.length), (∀ j (hj : j < out.length), kFrom out t k ≤ j → j < k → lexL t out[j] = true) ∧ (∀ q, kFrom out t k = q + 1 → ∃ hq : q < out.length, lexL t out[q] = false)
  | 0, _ => ⟨fun j hj h1 h2 => by omega, fun q h => by cases h⟩
  | k + 1, hk => by
    obtain ⟨h1, h2⟩ := kFrom_facts out t k (by omega)
    have hr := rdL2_nat out k (by omega)
    unfold kFrom
    rw [hr]
    cases hb : lexL t out[k] with
    | true =>
      rw [if_pos rfl]
      refine ⟨fun j hj a b => ?_, h2⟩
      by_cases e : j = k
      · subst e; exact hb
      · exact h1 j hj a (by omega)
    | false =>
      rw [if_neg (by simp)]
      refine ⟨fun j hj a b => by omega, fun q e => ?_⟩
      obtain rfl : k = q := by omega
      exact ⟨by omega, hb⟩
theorem insOne_sorted (m : Nat) (out : List (List Int)) (t : List Int) (hs : Sorted out) (hl : ∀ a ∈ out, a.length = m) (ht : t.length = m) : Sorted (insOne out t) ∧ ∀ a, a ∈ insOne out t ↔ a = t ∨ a ∈ out := by
  obtain ⟨k1, k2⟩ := kFrom_facts out t out.length (Nat.le_refl _)
  have kl := kFrom_le out t out.length
  unfold insOne
  split
  · rename_i h
    refine ⟨hs, fun a => ⟨Or.inr, fun h' => h'.elim (fun e => ?_) id⟩⟩
    rw [e, ← h.2]
    have : ((kFrom out t out.length : Int) - 1) = ((kFrom out t out.length - 1 : Nat) : Int) := by omega
    rw [this]
    exact rd_mem out _ (by omega)
  · rename_i h
    have hdrop : ∀ a ∈ out.drop (kFrom out t out.length), lexL t a = true := fun a ha => by
      obtain ⟨j, hj, rfl⟩ := List.getElem_of_mem ha
      rw [List.getElem_drop]
      rw [List.length_drop] at hj
      exact k1 _ (by omega) (by omega) (by omega)
    have htake : ∀ a ∈ out.take (kFrom out t out.length), lexL a t = true := fun a ha => by
      obtain ⟨j, hj, rfl⟩ := List.getElem_of_mem ha
      rw [List.getElem_take]
      rw [List.length_take] at hj
      obtain ⟨q, hq⟩ : ∃ q, kFrom out t out.length = q + 1 := ⟨kFrom out t out.length - 1, by omega⟩
      obtain ⟨hql, hqf⟩ := k2 q hq
      have hne : t ≠ out[q] := fun e => h ⟨by omega, by rw [hq, show ((q + 1 : Nat) : Int) - 1 = (q : Int) by omega, rdL2_nat out q hql]; exact e.symm⟩
      have hqt := lex_tri t out[q] (by rw [ht, hl _ (List.getElem_mem hql)]) hqf hne
      by_cases e : j = q
      · subst e; exact hqt
      · have hjq := List.pairwise_iff_getElem.1 hs j q (by omega) hql (by omega)
        exact lex_trans _ _ _ (by rw [hl _ (List.getElem_mem _), hl _ (List.getElem_mem _)]) (by rw [hl _ (List.getElem_mem _), ht]) hjq hqt
    have hnot : t ∉ out := fun ht' => by
      rw [← List.take_append_drop (kFrom out t out.length) out] at ht'
      rcases List.mem_append.1 ht' with e | e
      · have := htake t e; rw [lex_irr] at this; cases this
      · have := hdrop t e; rw [lex_irr] at this; cases this
    have hp : PlaceOf out t (kFrom out t out.length) false := ⟨kl, htake, fun a ha => lex_asym t a (by rw [ht, hl a (List.mem_of_mem_drop ha)]) (hdrop a ha), ⟨fun e => (by cases e), fun ⟨hq, e⟩ => absurd (e ▸ List.getElem_mem hq) hnot⟩⟩
    exact ⟨ins_sorted hp hs m ht hl hnot, fun a => ins_mem _ _ _ _⟩
theorem sortedB_facts (m : Nat) : ∀ (l acc : List (List Int)), Sorted acc → (∀ a ∈ acc, a.length = m) → (∀ a ∈ l, a.length = m) → Sorted (l.foldl insOne acc) ∧ ∀ a, a ∈ l.foldl insOne acc ↔ a ∈ acc ∨ a ∈ l
  | [], acc, hs, _, _ => ⟨hs, fun a => by simp⟩
  | t :: l, acc, hs, h1, h2 => by
    obtain ⟨g1, g2⟩ := insOne_sorted m acc t hs h1 (h2 t List.mem_cons_self)
    obtain ⟨f1, f2⟩ := sortedB_facts m l (insOne acc t) g1 (fun a ha => ((g2 a).1 ha).elim (fun e => by rw [e]; exact h2 t List.mem_cons_self) (h1 a)) (fun a ha => h2 a (List.mem_cons_of_mem _ ha))
    refine ⟨f1, fun a => ?_⟩
    rw [List.foldl_cons, f2, g2, List.mem_cons]
    constructor
    · rintro ((h | h) | h)
      · exact Or.inr (Or.inl h)
      · exact Or.inl h
      · exact Or.inr (Or.inr h)
    · rintro (h | h | h)
      · exact Or.inl (Or.inr h)
      · exact Or.inl (Or.inl h)
      · exact Or.inr h
theorem sorted_eq (m : Nat) (hm : m ≤ 1000) (l : List (List Int)) (hl : ∀ a ∈ l, a.length = m) (hn : l.length ≤ 100000) : paraphrastref01_Sorted.f l = some (sortedB l) ∧ Sorted (sortedB l) ∧ ∀ a, a ∈ sortedB l ↔ a ∈ l := by
  obtain ⟨h1, h2⟩ := sortedB_facts m l [] List.Pairwise.nil (fun a ha => by cases ha) hl
  refine ⟨if_pos ⟨hn, fun t ht => ?_⟩, h1, fun a => (h2 a).trans (by simp)⟩
  cases l with
  | nil => cases ht
  | cons x l => exact ⟨by rw [hl t ht]; exact (hl x List.mem_cons_self).symm, by rw [hl t ht]; exact hm⟩
end Go.Proofs.YtfmpaofbnjlniaaGreatDoor.F
/- shape.Keep, by hand. -/
namespace Go.Proofs.YtfmpaofbnjlniaaGreatDoor.F
open Go.RowKit Go.Maps Go.WideMaps Go.Proofs.YtfmpaofbnjlniaaGreatDoorW.PrintWords Go.Proofs.YtfmpaofbnjlniaaGreatDoorW.PrintLast Go.Proofs.YtfmpaofbnjlniaaGreatDoorW.PrintMore
set_option linter.unusedVariables false
set_option linter.unusedSimpArgs false
def keepOk (sy : List S96) : Prop := sy.length ≤ 1000 ∧ ∀ x ∈ sy, x.f0.size ≤ 1000
instance (sy : List S96) : Decidable (keepOk sy) := by unfold keepOk; infer_instance
end Go.Proofs.YtfmpaofbnjlniaaGreatDoor.F
/- shape.Copy, by hand: the copy's relations lie apart from each other, and so do the tuples of each. -/
namespace Go.Proofs.YtfmpaofbnjlniaaGreatDoor.F
open Go.RowKit Go.Proofs.YtfmpaofbnjlniaaGreatDoorW.PrintWords Go.Proofs.YtfmpaofbnjlniaaGreatDoorW.PrintLast Go.Proofs.YtfmpaofbnjlniaaGreatDoorW.PrintMore
set_option linter.unusedVariables false
set_option linter.unusedSimpArgs false
/-- A slice whose elements lie apart. -/
def sliceS {α : Type} (e : Nat) (d : Kd α) : Kd (List α) where
  sz := 1
  E := e :: d.E
  K := fun w xs cs => ∃ A c, cs = [.slice A xs.length c] ∧ xs.length ≤ c ∧ d.C w A xs.length xs
  M := fun w base ok xs cs => ∃ v, cs = [v] ∧ Kd.S d e w base ok v xs
  K_len := by
    rintro w x cs ⟨A, c, rfl, _⟩
    rfl
  K_one := by
    rintro w x cs ⟨A, c, rfl, _⟩ u hu
    rw [List.mem_singleton.1 hu]
    rfl
  K_below := by
    rintro w w1 x cs hb ⟨A, c, rfl, hl, hr⟩
    exact ⟨A, c, rfl, hl, Kd.C_below hr hb⟩
  K_of_M := by
    rintro w base ok x cs ⟨v, rfl, h⟩
    obtain ⟨A, c, rfl, hl, hr⟩ := Kd.S_reads h
    exact ⟨A, c, rfl, hl, hr⟩
  M_mono := by
    rintro w base ok ok' x cs hok ⟨v, rfl, h⟩
    exact ⟨v, rfl, Kd.S_mono h hok⟩
  M_bound := by
    rintro w base ok x cs ⟨v, rfl, h⟩
    exact ⟨v, rfl, Kd.S_bound h⟩
  M_move := by
    rintro w w1 base ok x cs hm ⟨v, rfl, h⟩
    exact ⟨v, rfl, Kd.S_move h hm⟩
  M_lower := by
    rintro w base base' ok x cs hb ⟨v, rfl, h⟩
    exact ⟨v, rfl, Kd.S_lower h hb⟩
def kP : Kd S52 := Kd.iso (Kd.pair Kd.string (Kd.pair (Kd.int .i64) (sliceS 46 (Kd.slice 3 (Kd.int .i64))))) (fun x : S52 => (x.f0, x.f1, x.f2))
theorem kP_openM {w : World} {base : Nat} {ok : Nat → Prop} {x : S52} {cs : List Value} (h : kP.M w base ok x cs) : ∃ v2, cs = [.string x.f0, .int .i64 x.f1, v2] ∧ Kd.S (Kd.slice 3 (Kd.int .i64)) 46 w base ok v2 x.f2 := by
  obtain ⟨_, _, rfl, rfl, ⟨_, _, rfl, rfl, ⟨v2, rfl, g2⟩⟩⟩ := h
  exact ⟨v2, rfl, g2⟩
theorem kP_mkM (w : World) (base : Nat) (ok : Nat → Prop) (x : S52) {v2 : Value} (g2 : Kd.S (Kd.slice 3 (Kd.int .i64)) 46 w base ok v2 x.f2) : kP.M w base ok x [.string x.f0, .int .i64 x.f1, v2] := ⟨[.string x.f0], [.int .i64 x.f1, v2], rfl, rfl, ⟨[.int .i64 x.f1], [v2], rfl, rfl, ⟨v2, rfl, g2⟩⟩⟩
set_option maxHeartbeats 4000000 in
set_option maxRecDepth 100000 in
theorem copy2_calls (n : Int) (A : Option Addr) (c : Nat) (l : List S52) (w : World) (hC : Kd.C k52 w A l.length l) (hlc : l.length ≤ c) (hok : copyOk l) :
    Calls Tryz.prog 54 #[.agg #[.int .i64 n, .slice A l.length c]] w fun e w' => ∃ v, e = .returned (.agg #[.int .i64 n, v]) ∧ Kd.S kP 52 w' w.heap.size (fun _ => True) v l ∧ Below w.heap.size w w' := by
  have hu38 := Tryz.underlying24
  have hu54 := Tryz.underlying52
  have HC := Aside0.mk hC
  have HL := Aside0.mk hlc
  have HOK := Aside0.mk hok
  have hl0 := hok.1
  clear hC hlc hok
  go_enter Tryz.func54, Tryz.ntmps54
  go_wp2
  have HB3 := Aside0.mk (below_alloc (below_alloc (below_alloc (Below.refl w.heap.size w) (.cells #[.int .i64 n, .slice A l.length c] 24)) (.cells #[.int .i64 0, .slice none 0 0] 24)) (.cells #[.int .i64 n, .slice none 0 0] 24))
  have H2 := Aside0.mk (show (((w.alloc (.cells #[.int .i64 n, .slice A l.length c] 24)).alloc (.cells #[.int .i64 0, .slice none 0 0] 24)).alloc (.cells #[.int .i64 n, .slice none 0 0] 24)).heap[w.heap.size + 1]? = some (.cells #[.int .i64 0, .slice none 0 0] 24 (0, 0)) from (heap_alloc_old _ _ (by simp)).trans (by have := heap_alloc_new (w.alloc (.cells #[.int .i64 n, .slice A l.length c] 24)) (.cells #[.int .i64 0, .slice none 0 0] 24); simpa using this))
  have H3 := Aside0.mk (show (((w.alloc (.cells #[.int .i64 n, .slice A l.length c] 24)).alloc (.cells #[.int .i64 0, .slice none 0 0] 24)).alloc (.cells #[.int .i64 n, .slice none 0 0] 24)).heap[w.heap.size + 1 + 1]? = some (.cells #[.int .i64 n, .slice none 0 0] 24 (0, 0)) from by have := heap_alloc_new ((w.alloc (.cells #[.int .i64 n, .slice A l.length c] 24)).alloc (.cells #[.int .i64 0, .slice none 0 0] 24)) (.cells #[.int .i64 n, .slice none 0 0] 24); simpa using this)
  generalize hW3 : ((w.alloc (.cells #[.int .i64 n, .slice A l.length c] 24)).alloc (.cells #[.int .i64 0, .slice none 0 0] 24)).alloc (.cells #[.int .i64 n, .slice none 0 0] 24) = W3 at *
  clear hW3
  generalize hg2 : w.heap.size + 1 = g2 at *
  generalize hg3 : g2 + 1 = g3 at *
  have hg2w : w.heap.size ≤ g2 := by omega
  have hg3w : w.heap.size ≤ g3 := by omega
  go_loopw [15] (fun v15 wr => ∃ (j : Nat) (v : Value), v15 = .int .i64 j ∧ j ≤ l.length ∧ Aside0 (wr.heap[g2]? = some (.cells #[.int .i64 0, .slice none 0 0] 24 (0, 0))) ∧ Aside0 (wr.heap[g3]? = some (.cells #[.int .i64 n, v] 24 (0, 0))) ∧ Aside0 (Kd.S kP 52 wr w.heap.size (fun _ => True) v (l.take j)) ∧ Aside0 (Below w.heap.size w wr)) (fun v15 _ => l.length - (intOf v15).toNat)
  case atStart => exact ⟨0, .slice none 0 0, rfl, Nat.zero_le _, H2, H3, ⟨Kd.S_nil _ _ _ _ _⟩, HB3⟩
  case round =>
    clear H2 H3 HB3
    obtain ⟨j, v, rfl, hj, H2, H3, HV, HB⟩ := hrel
    generalize wr = wq at *
    by_cases hlt : j < l.length
    · obtain ⟨ad, A2, c2, hA, hx0, hx1, hx2, hl2, hi2⟩ := at_T52 HC.out (j : Int) (by omega) (by omega)
      subst hA
      simp only [Int.toNat_natCast] at hx0 hx1 hx2
      have hrj : rd_T52 l (j : Int) = l[j] := by unfold rd_T52; rw [Int.toNat_natCast, List.getD_eq_getElem?_getD, List.getElem?_eq_getElem hlt]; rfl
      rw [hrj] at hx0 hx1 hx2 hl2 hi2
      have HRJ := Aside0.mk (show l[j]? = some l[j] from List.getElem?_eq_getElem hlt)
      have hrok := HOK.out.2 l[j] (List.getElem_mem hlt)
      generalize l[j] = r at *
      replace hx0 := (HB.out.cell (World.block_lt_of_cell? w _ hx0)).trans hx0
      replace hx1 := (HB.out.cell (World.block_lt_of_cell? w _ hx1)).trans hx1
      replace hx2 := (HB.out.cell (World.block_lt_of_cell? w _ hx2)).trans hx2
      have HT := Aside0.mk hi2
      have HL2 := Aside0.mk hl2
      have hr2 := hrok.1
      have HRT := Aside0.mk hrok.2
      clear hi2 hl2 hrj hrok
      have hlt2' : g2 < wq.heap.size := (Array.getElem?_eq_some_iff.1 H2.out).1
      have hlt3 : g3 < wq.heap.size := (Array.getElem?_eq_some_iff.1 H3.out).1
      go_wp2
      have HBa := Aside0.mk (below_alloc (below_alloc (Below.refl wq.heap.size wq) (.cells #[.string r.f0, .int .i64 r.f1, .slice A2 r.f2.length c2] 52)) (.cells #[.string r.f0, .int .i64 r.f1, .slice none 0 0] 52))
      have H6 := Aside0.mk (show ((wq.alloc (.cells #[.string r.f0, .int .i64 r.f1, .slice A2 r.f2.length c2] 52)).alloc (.cells #[.string r.f0, .int .i64 r.f1, .slice none 0 0] 52)).heap[wq.heap.size + 1]? = some (.cells #[.string r.f0, .int .i64 r.f1, .slice none 0 0] 52 (0, 0)) from by have := heap_alloc_new (wq.alloc (.cells #[.string r.f0, .int .i64 r.f1, .slice A2 r.f2.length c2] 52)) (.cells #[.string r.f0, .int .i64 r.f1, .slice none 0 0] 52); simpa using this)
      generalize hW5 : (wq.alloc (.cells #[.string r.f0, .int .i64 r.f1, .slice A2 r.f2.length c2] 52)).alloc (.cells #[.string r.f0, .int .i64 r.f1, .slice none 0 0] 52) = W5 at *
      clear hW5
      generalize hg6 : wq.heap.size + 1 = g6 at *
      have hg6w : wq.heap.size ≤ g6 := by omega
      clear hx0 hx1 hx2
      go_loopw [27] (fun v27 wl => ∃ (i : Nat) (vt : Value), v27 = .int .i64 i ∧ i ≤ r.f2.length ∧ Aside0 (wl.heap[g6]? = some (.cells #[.string r.f0, .int .i64 r.f1, vt] 52 (0, 0))) ∧ Aside0 (Kd.S (Kd.slice 3 (Kd.int .i64)) 46 wl wq.heap.size (fun _ => True) vt (r.f2.take i)) ∧ Aside0 (Below wq.heap.size wq wl)) (fun v27 _ => r.f2.length - (intOf v27).toNat)
      case atStart => exact ⟨0, .slice none 0 0, rfl, Nat.zero_le _, H6, ⟨Kd.S_nil _ _ _ _ _⟩, HBa⟩
      case round =>
        clear H6 HBa
        obtain ⟨i, vt, rfl, hi, H6, HR, HBl⟩ := hrel
        by_cases hlt2 : i < r.f2.length
        · obtain ⟨ad3, A4, c4, hA3, hy0, hl4, hi4⟩ := at_L2 HT.out (i : Int) (by omega) (by omega)
          subst hA3
          simp only [Int.toNat_natCast] at hy0
          have hrt : rd_L2 r.f2 (i : Int) = r.f2[i] := by unfold rd_L2; rw [Int.toNat_natCast, List.getD_eq_getElem?_getD, List.getElem?_eq_getElem hlt2]; rfl
          rw [hrt] at hy0 hl4 hi4
          have HTI := Aside0.mk (show r.f2[i]? = some r.f2[i] from List.getElem?_eq_getElem hlt2)
          have htl := HRT.out r.f2[i] (List.getElem_mem hlt2)
          generalize r.f2[i] = t at *
          have hb2 := below_step HB.out HBl.out
          replace hy0 := (hb2.cell (World.block_lt_of_cell? w _ hy0)).trans hy0
          have HC4 := Aside0.mk (Kd.C_below hi4 (hb2.mono (Nat.le_refl _)))
          have HL4 := Aside0.mk hl4
          clear hi4 hl4 hrt hb2
          have hc6 : wr.cell? ⟨g6, 2, none⟩ = some vt := (blk_cell H6.out 2).trans rfl
          have hf6 := blk_frozen H6.out 2
          go_upto_region 9 with (fail)
          have HBd := Aside0.mk (below_drew HBl.out)
          have H6d := Aside0.mk (show wr.drew.heap[g6]? = some (.cells #[.string r.f0, .int .i64 r.f1, vt] 52 (0, 0)) from H6.out)
          have HRd := Aside0.mk (Kd.S_drew HR.out)
          have HCd := Aside0.mk (Kd.C_drew HC4.out)
          have hg6d : g6 < wr.drew.heap.size := (Array.getElem?_eq_some_iff.1 H6d.out).1
          have hcd : wr.drew.cell? ⟨g6, 2, none⟩ = some vt := hc6
          refine wp_region_noPanic ?_
          refine start_ (n := 8) (S := fun w' => w'.cell? ⟨g6, 2, none⟩ = some vt) (ds := [7]) #[false, false, false, false, false, false, false, false] (by kernel_rfl) rfl rfl hcd (fun hHeld => ?_)
          generalize wr.drew = wd at *
          refine pure_ (i := 0) (N := some 31) (v := ?_) (a' := ?_) #[true, false, false, false, false, false, false, false] rfl rfl (by kernel_rfl) (fun _ _ _ h => h) (Or.inl ⟨by rfl, ?_⟩) ?_ ?_
          rotate_left
          · intro w'
            go_simp
            with_reducible rfl
          rotate_left
          · simp only [Act.put, List.setIfInBounds_toArray, List.set_cons_zero, List.set_cons_succ, i64_w, i32_w]
            rfl
          refine pure_ (i := 2) (N := some 33) (v := ?_) (a' := ?_) #[true, false, true, false, false, false, false, false] rfl rfl (by kernel_rfl) (fun _ _ _ h => h) (Or.inl ⟨by rfl, ?_⟩) ?_ ?_
          rotate_left
          · intro w'
            go_simp
            with_reducible rfl
          rotate_left
          · simp only [Act.put, List.setIfInBounds_toArray, List.set_cons_zero, List.set_cons_succ, i64_w, i32_w]
            rfl
          refine take_ (i := 1) (N := some 32) (v := ?_) (a' := ?_) #[true, true, true, false, false, false, false, false] rfl rfl (by kernel_rfl) (fun _ _ _ h => h) (Or.inl ⟨by rfl, ?_⟩) hHeld ?_ ?_
          rotate_left
          · intro w' s0
            go_simp
            with_reducible rfl
          rotate_left
          · simp only [Act.put, List.setIfInBounds_toArray, List.set_cons_zero, List.set_cons_succ, i64_w, i32_w]
            rfl
          refine one_ (i := 3) (N := some 34) #[true, true, true, true, false, false, false, false] rfl rfl (by kernel_rfl) (by decide) (fun K hK => ?_)
          refine callE_ 60 #[.slice A4 t.length c4] (by rfl) rfl (by go_simp) ?_
          refine (slices_Clone_int_int.calls A4 c4 t t _ HCd.out HL4.out (if_pos htl)).mono ?_
          rintro e w6 ⟨va, rfl, hRa, hb6⟩
          obtain ⟨Aa, ca, ea⟩ := Kd.R_slice hRa
          subst ea
          left
          refine ⟨_, rfl, ?_⟩
          have HB6 := Aside0.mk (below_step HBd.out hb6)
          have H66 := Aside0.mk ((hb6.block g6 hg6d).trans H6d.out)
          have HR6 := Aside0.mk (Kd.S_mono (ok' := fun k_ => True ∧ ¬ wd.heap.size ≤ k_) (Kd.S_below (Kd.S_bound HRd.out) hb6) (fun k_ hk => ⟨trivial, by have := hk.2.2.1; omega⟩))
          have HRN := Aside0.mk (Kd.S_lt HRd.out)
          have HRa := Aside0.mk (Kd.R_lower (Kd.R_mono (Kd.R_bound hRa) (fun k_ hk => (hk.2.1 : wd.heap.size ≤ k_))) HBd.out.size)
          have hwd6 := hb6.size
          refine hK.out _ _ (pw_cell_below hb6 hcd) (fun hHeld2 => ?_)
          clear hK K hb6 hRa HRd HR H6 H6d HBd HBl
          refine norm_ (a' := ?_) ?_ ?_
          rotate_left
          · show Act.put _ (some 34) _ = _
            simp only [Act.put, List.setIfInBounds_toArray, List.set_cons_zero, List.set_cons_succ, i64_w, i32_w]
            rfl
          refine one_ (i := 4) (N := some 35) #[true, true, true, true, true, false, false, false] rfl rfl (by kernel_rfl) (by decide) (fun K hK => ?_)
          refine value_ (w1 := ?_) (v := ?_) (by rfl) rfl ?_ ?_
          rotate_left 2
          · go_simp
            constructor
            · rfl
            · rfl
          refine hK.out _ _ ((blk_cell (blk_alloc H66.out _) 2).trans rfl) (fun hHeld => ?_)
          clear hK K
          refine norm_ (a' := ?_) ?_ ?_
          rotate_left
          · show Act.put _ (some 35) _ = _
            simp only [Act.put, List.setIfInBounds_toArray, List.set_cons_zero, List.set_cons_succ, i64_w, i32_w]
            rfl
          refine one_ (i := 5) (N := some 36) #[true, true, true, true, true, true, false, false] rfl rfl (by kernel_rfl) (by decide) (fun K hK => ?_)
          refine Kd.S_append_step (Kd.slice 3 (Kd.int .i64)) (w0 := wq) wq.heap.size (by rfl) (.tmp 32) (.tmp 35) 50 46 (.slice none 0 0) 24 rfl Tryz.underlying50 infoInts rfl (by decide) (by omega) vt (r.f2.take i) t [.slice Aa t.length ca] (fun _ => True) (fun k_ => wd.heap.size ≤ k_) rfl rfl ?aP (fun k_ hk => ⟨trivial, fun e => by have := HRN.out k_ e.symm; omega⟩) ?aF ?aO ?aB ?aS ?aL ?_
          (case aP => exact Kd.M_row HRa.out)
          (case aB => exact HB6.out)
          (case aF => exact (fun _ _ => trivial))
          (case aO => exact HR6.out)
          (case aS => exact HB6.out.size)
          (case aL => rw [List.length_take]; omega)
          intro v7 w7 ho hb hg hat
          have n0_ := Aside0.mk hb
          have n1_ := Aside0.mk ho
          have n2_ := Aside0.mk (blk_grown H66.out hg (Kd.S_ne HR6.out H66.out (by decide)))
          clear ho hb hg hat HB6 HR6 HRa
          obtain ⟨A7, c7, e7⟩ := Kd.S_slice n1_.out
          subst e7
          rw [show (r.f2.take i ++ [t]).length = i + 1 from by rw [List.length_append, List.length_singleton, List.length_take]; omega] at n1_ ⊢
          refine hK.out _ _ ((blk_cell n2_.out 2).trans rfl) (fun hHeld => ?_)
          clear hK K
          refine norm_ (a' := ?_) ?_ ?_
          rotate_left
          · show Act.put _ (some 36) _ = _
            simp only [Act.put, List.setIfInBounds_toArray, List.set_cons_zero, List.set_cons_succ, i64_w, i32_w]
            rfl
          refine pure_ (i := 6) (N := some 37) (v := ?_) (a' := ?_) #[true, true, true, true, true, true, true, false] rfl rfl (by kernel_rfl) (fun _ _ _ h => h) (Or.inl ⟨by rfl, ?_⟩) ?_ ?_
          rotate_left
          · intro w'
            go_simp
            with_reducible rfl
          rotate_left
          · simp only [Act.put, List.setIfInBounds_toArray, List.set_cons_zero, List.set_cons_succ, i64_w, i32_w]
            rfl
          refine last_ (i := 7) (N := none) #[true, true, true, true, true, true, true, true] rfl rfl (by kernel_rfl) (by decide) (fun K hK => ?_)
          have hs7 : w7.cell? ⟨g6, 2, none⟩ = some vt := (blk_cell n2_.out 2).trans rfl
          have hf7 := blk_frozen n2_.out 2
          refine skip_ (w1 := ?_) (by rfl) rfl ?_ ?_
          rotate_left
          · go_simp
            rfl
          refine hK.out _ _ ?_
          clear hK K
          refine done_ (by kernel_rfl) ?_
          refine NoPanic.normal ?_
          have n3_ := Aside0.mk (Kd.S_set n1_.out n2_.out (by decide) 2 (.slice A7 (i + 1) c7))
          have n4_ := Aside0.mk (blk_put (cs' := #[.string r.f0, .int .i64 r.f1, .slice A7 (i + 1) c7]) n2_.out 2 (.slice A7 (i + 1) c7) rfl)
          have n5_ := Aside0.mk (below_set (j := 2) (v := .slice A7 (i + 1) c7) n0_.out hg6w)
          rw [← take_snoc' HTI.out] at n3_
          try go_wp2
          go_roundw
          · exact ⟨i + 1, _, (by simp), hlt2, n4_, n3_, n5_⟩
          · simp [intOf]; omega
        · obtain rfl : i = r.f2.length := by omega
          rw [List.take_length] at HR
          have H3l := Aside0.mk ((HBl.out.block g3 hlt3).trans H3.out)
          have H2l := Aside0.mk ((HBl.out.block g2 hlt2').trans H2.out)
          obtain ⟨At, ct, hvt⟩ := Kd.S_slice HR.out
          subst hvt
          have hc3 : wr.cell? ⟨g3, 1, none⟩ = some v := (blk_cell H3l.out 1).trans rfl
          have hc6_0 : wr.cell? ⟨g6, 0, none⟩ = some (.string r.f0) := (blk_cell H6.out 0).trans rfl
          have hc6_1 : wr.cell? ⟨g6, 1, none⟩ = some (.int .i64 r.f1) := (blk_cell H6.out 1).trans rfl
          have hc6_2 : wr.cell? ⟨g6, 2, none⟩ = some (.slice At r.f2.length ct) := (blk_cell H6.out 2).trans rfl
          have HRb := Aside0.mk (Kd.S_lower (Kd.S_mono (Kd.S_bound HR.out) (fun k_ hk => (hk.2.1 : wq.heap.size ≤ k_))) HB.out.size)
          have HVl := Aside0.mk (Kd.S_mono (ok' := fun k_ => True ∧ ¬ wq.heap.size ≤ k_) (Kd.S_below (Kd.S_bound HV.out) HBl.out) (fun k_ hk => ⟨trivial, by have := hk.2.2.1; omega⟩))
          have HVN := Aside0.mk (Kd.S_lt HV.out)
          have HBw := Aside0.mk (below_step HB.out HBl.out)
          have hjl : (l.take j).length ≤ 100000 := by rw [List.length_take]; omega
          go_wp2_with (first | ((with_reducible refine gate_builtin (b := .append) (xs := #[.tmp 40, .tmp 42]) rfl ?_); at_builtin; refine Kd.S_append kP (w0 := w) w.heap.size rfl (.tmp 40) (.tmp 42) 22 52 (.agg #[.string ⟨#[]⟩, .int .i64 0, .slice none 0 0]) 48 rfl Tryz.underlying22 infoRel' rfl (by decide) (by omega) v (l.take j) r [.string r.f0, .int .i64 r.f1, .slice At r.f2.length ct] (fun _ => True) (fun k_ => wq.heap.size ≤ k_) rfl rfl ?aP ?aK ?aF ?aO ?aB ?aS ?aL ?_; (case aP => exact kP_mkM _ _ _ r HRb.out); (case aK => exact fun k_ hk => ⟨trivial, fun e => by have := HVN.out k_ e.symm; omega⟩); (case aF => exact fun _ _ => trivial); (case aO => exact HVl.out); (case aB => exact HBw.out); (case aS => exact HBw.out.size); (case aL => omega); intro v7 w7 ho hb hg hat; have n0_ := Aside0.mk hb; have n1_ := Aside0.mk ho; have n2_ := Aside0.mk (blk_grown H3l.out hg (Kd.S_ne HVl.out H3l.out (by decide))); have n3_ := Aside0.mk (blk_grown H2l.out hg (Kd.S_ne HVl.out H2l.out (by decide))); clear ho hb hg hat; obtain ⟨A7, c7, e7⟩ := Kd.S_slice n1_.out; subst e7; have hc9 : w7.cell? ⟨g3, 1, none⟩ = some v := (blk_cell n2_.out 1).trans rfl; have hf9 := blk_frozen n2_.out 1))
          rw [show (l.take j ++ [r]).length = j + 1 from by rw [List.length_append, List.length_singleton, List.length_take]; omega] at n1_
          have n4_ := Aside0.mk (Kd.S_set n1_.out n2_.out (by decide) 1 (.slice A7 (j + 1) c7))
          have n5_ := Aside0.mk (blk_put (cs' := #[.int .i64 n, .slice A7 (j + 1) c7]) n2_.out 1 (.slice A7 (j + 1) c7) rfl)
          have n6_ := Aside0.mk ((Below.heap_setCell w7 ⟨g3, 1, none⟩ (.slice A7 (j + 1) c7) g2 (by show g2 ≠ g3; omega)).trans n3_.out)
          have n7_ := Aside0.mk (below_set (j := 1) (v := .slice A7 (j + 1) c7) n0_.out hg3w)
          rw [← take_snoc' HRJ.out] at n4_
          go_roundw
          · exact ⟨j + 1, _, (by simp), hlt, n6_, n5_, n4_, n7_⟩
          · simp [intOf]; omega
    · obtain rfl : j = l.length := by omega
      rw [List.take_length] at HV
      obtain ⟨Av, cv, hv⟩ := Kd.S_slice HV.out
      subst hv
      have hcz3_0 : wq.cell? ⟨g3, 0, none⟩ = some (.int .i64 n) := (blk_cell H3.out 0).trans rfl
      have hcz3_1 : wq.cell? ⟨g3, 1, none⟩ = some (.slice Av l.length cv) := (blk_cell H3.out 1).trans rfl
      have hcz2_0 : wq.cell? ⟨g2, 0, none⟩ = some (.int .i64 0) := (blk_cell H2.out 0).trans rfl
      have hcz2_1 : wq.cell? ⟨g2, 1, none⟩ = some (.slice none 0 0) := (blk_cell H2.out 1).trans rfl
      have hfz2_0 := blk_frozen H2.out 0
      have hfz2_1 := blk_frozen H2.out 1
      go_wp2
      have HX := blk_put (cs' := #[.int .i64 n, .slice Av l.length cv]) (blk_put (cs' := #[.int .i64 n, .slice none 0 0]) H2.out 0 (.int .i64 n) rfl) 1 (.slice Av l.length cv) rfl
      have HV1 := Kd.S_set HV.out H2.out (by decide) 0 (.int .i64 n)
      have HV2 := Kd.S_set HV1 (blk_put (cs' := #[.int .i64 n, .slice none 0 0]) H2.out 0 (.int .i64 n) rfl) (by decide) 1 (.slice Av l.length cv)
      have HBX := below_set (j := 1) (v := .slice Av l.length cv) (below_set (j := 0) (v := .int .i64 n) HB.out hg2w) hg2w
      refine bodyPost_ret (results_cell_row rfl _ _ g2 24 #[.int .i64 n, .slice Av l.length cv] (0, 0) _ rfl HX Tryz.underlying24 rfl (by kernel_rfl)) rfl ?_
      exact ⟨_, rfl, HV2, HBX⟩
end Go.Proofs.YtfmpaofbnjlniaaGreatDoor.F
/- slices.SortFunc at a row of tuples that lie apart: what the comparison says, and what the row is behind the sort. -/
namespace Go.Proofs.YtfmpaofbnjlniaaGreatDoor.F
open Go.RowKit Go.Lib Go.Sort Go.Proofs.YtfmpaofbnjlniaaGreatDoorW.PrintWords Go.Proofs.YtfmpaofbnjlniaaGreatDoorW.PrintLast Go.Proofs.YtfmpaofbnjlniaaGreatDoorW.PrintMore
set_option linter.unusedVariables false
set_option linter.unusedSimpArgs false
/-! ### the order -/
theorem lex_ntrans (x y z : List Int) (h1 : x.length = y.length) (h2 : y.length = z.length) (h : lexL x y = false) (g : lexL y z = false) : lexL x z = false := by
  cases hx : lexL x z with
  | false => rfl
  | true =>
    by_cases e : x = y
    · subst e; rw [hx] at g; cases g
    · have h3 := lex_tri x y h1 h e
      have h4 := lex_trans y x z h1.symm (h1.trans h2) h3 hx
      rw [h4] at g; cases g
def tAt (ts : List (List Int)) (i : Nat) : List Int := ts.getD (min i (ts.length - 1)) []
theorem tAt_lt {ts : List (List Int)} {i : Nat} (h : i < ts.length) : tAt ts i = ts[i] := by
  unfold tAt
  rw [show min i (ts.length - 1) = i by omega, List.getD_eq_getElem?_getD, List.getElem?_eq_getElem h]
  rfl
theorem tAt_mem {ts : List (List Int)} (hp : 0 < ts.length) (i : Nat) : tAt ts i ∈ ts := by
  unfold tAt
  have h : min i (ts.length - 1) < ts.length := by omega
  rw [List.getD_eq_getElem?_getD, List.getElem?_eq_getElem h]
  exact List.getElem_mem h
def cfT (ts : List (List Int)) (x y : Nat) : Int := (slices_Compare_int_int.f 2000 (tAt ts x) (tAt ts y)).getD 0
section
variable {ts : List (List Int)} {m : Nat}
theorem cfT_eq (hp : 0 < ts.length) (hm : m ≤ 1000) (hl : ∀ t ∈ ts, t.length = m) (x y : Nat) : slices_Compare_int_int.f 2000 (tAt ts x) (tAt ts y) = some (cfT ts x y) ∧ ltOf (cfT ts) x y = lexL (tAt ts x) (tAt ts y) := by
  have h1 := hl _ (tAt_mem hp x)
  have h2 := hl _ (tAt_mem hp y)
  obtain ⟨c, hc, hlt, _⟩ := cmp_eq (tAt ts x) (tAt ts y) (by omega) (by omega) 2000 (by omega)
  have hcf : cfT ts x y = c := by unfold cfT; rw [hc]; rfl
  refine ⟨by rw [hcf, hc], ?_⟩
  unfold ltOf
  rw [hcf]
  cases h : lexL (tAt ts x) (tAt ts y) with
  | true => exact decide_eq_true (hlt.2 h)
  | false => exact decide_eq_false (fun h3 => by rw [hlt.1 h3] at h; cases h)
theorem swoT (hp : 0 < ts.length) (hm : m ≤ 1000) (hl : ∀ t ∈ ts, t.length = m) : SWO (ltOf (cfT ts)) where
  irrefl x := by rw [(cfT_eq hp hm hl x x).2]; exact lex_irr _
  trans x y z h1 h2 := by
    rw [(cfT_eq hp hm hl _ _).2] at *
    have a := hl _ (tAt_mem hp x); have b := hl _ (tAt_mem hp y); have c := hl _ (tAt_mem hp z)
    exact lex_trans _ _ _ (by omega) (by omega) h1 h2
  ntrans x y z h1 h2 := by
    rw [(cfT_eq hp hm hl _ _).2] at *
    have a := hl _ (tAt_mem hp x); have b := hl _ (tAt_mem hp y); have c := hl _ (tAt_mem hp z)
    exact lex_ntrans _ _ _ (by omega) (by omega) h1 h2
theorem range_map (ts : List (List Int)) : (List.range ts.length).map (tAt ts) = ts := by
  apply List.ext_getElem
  · simp
  · intro i h1 h2
    rw [List.getElem_map, List.getElem_range, tAt_lt h2]
/-- The sorted row is THE sorted row. -/
theorem sortedT (hp : 0 < ts.length) (hm : m ≤ 1000) (hl : ∀ t ∈ ts, t.length = m) (hn : ts.Nodup) (d : Array Nat) (hP : PermIn 0 (Array.range ts.length).size (Array.range ts.length) d) (hS : SortedIn (ltOf (cfT ts)) 0 (Array.range ts.length).size d) :
    d.size = ts.length ∧ (∀ i ∈ d.toList, i < ts.length) ∧ d.toList.Nodup ∧ d.toList.map (tAt ts) = sortedB ts := by
  obtain ⟨h1, _, h3⟩ := hP
  have hz : d.size = ts.length := by simpa using h1
  have hperm : d.toList.Perm (List.range ts.length) := by
    have e1 : (d.extract 0 (Array.range ts.length).size).toList = d.toList := by rw [← h1]; simp
    have e2 : ((Array.range ts.length).extract 0 (Array.range ts.length).size).toList = List.range ts.length := by simp
    rw [e1, e2] at h3
    exact h3
  have hlt : ∀ i ∈ d.toList, i < ts.length := fun i hi => List.mem_range.1 (hperm.mem_iff.1 hi)
  have hnd : d.toList.Nodup := hperm.nodup_iff.2 List.nodup_range
  have hy : (d.toList.map (tAt ts)).Perm ts := by
    have := hperm.map (tAt ts)
    rwa [range_map] at this
  have hly : ∀ t ∈ d.toList.map (tAt ts), t.length = m := fun t ht => hl t (hy.mem_iff.1 ht)
  have hyn : (d.toList.map (tAt ts)).Nodup := hy.nodup_iff.2 hn
  have hys : Sorted (d.toList.map (tAt ts)) := by
    unfold Sorted
    rw [List.pairwise_iff_getElem]
    intro i j hi hj hij
    have hi2 : i < d.size := by simpa using hi
    have hj2 : j < d.size := by simpa using hj
    have hlt2 := hS i j (Nat.zero_le _) hij (by rw [Array.size_range]; omega)
    rw [(cfT_eq hp hm hl _ _).2] at hlt2
    have a1 : (d.toList.map (tAt ts))[i] = tAt ts d[i]! := by rw [List.getElem_map, Array.getElem_toList, getElem!_pos d i hi2]
    have a2 : (d.toList.map (tAt ts))[j] = tAt ts d[j]! := by rw [List.getElem_map, Array.getElem_toList, getElem!_pos d j hj2]
    have hne : (d.toList.map (tAt ts))[j] ≠ (d.toList.map (tAt ts))[i] := fun e => (List.pairwise_iff_getElem.1 hyn i j hi hj hij) e.symm
    have l1 := hly _ (List.getElem_mem hi)
    have l2 := hly _ (List.getElem_mem hj)
    rw [← a1, ← a2] at hlt2
    exact lex_tri _ _ (by omega) hlt2 hne
  obtain ⟨s1, s2⟩ := sortedB_facts m ts [] List.Pairwise.nil (by simp) hl
  refine ⟨hz, hlt, hnd, sorted_ext m _ _ hys s1 hly (fun a ha => ?_) (fun a => ?_)⟩
  · rcases (s2 a).1 ha with h | h
    · cases h
    · exact hl a h
  · show a ∈ _ ↔ a ∈ ts.foldl insOne []
    rw [s2 a]
    simp only [List.not_mem_nil, false_or]
    exact hy.mem_iff
end
/-! ### the world behind the sort -/
section
variable {enc : Nat → Value} {w : World} {blk n : Nat} {d : Array Nat} {os : Array Obj}
theorem sw_other (k : Nat) (hk : k < w.heap.size) (hne : k ≠ blk) : (sortWorld enc w blk 0 n d os).heap[k]? = w.heap[k]? := by
  unfold sortWorld
  show ((putRow enc (Sort.ahead w n) blk 0 d).heap ++ os)[k]? = _
  rw [Array.getElem?_append, if_pos (by simpa [putRow, mapBlock] using hk)]
  show (w.heap.modify blk _)[k]? = _
  rw [Array.getElem?_modify, if_neg (Ne.symm hne)]
theorem sw_at {cur : Array Value} {e : TypeId} {fr : Nat × Nat} (hb : w.heap[blk]? = some (.cells cur e fr)) : (sortWorld enc w blk 0 n d os).heap[blk]? = some (.cells (putCells enc 0 d cur) e fr) := by
  have hk : blk < w.heap.size := (Array.getElem?_eq_some_iff.1 hb).1
  unfold sortWorld
  show ((putRow enc (Sort.ahead w n) blk 0 d).heap ++ os)[blk]? = _
  rw [Array.getElem?_append, if_pos (by simpa [putRow, mapBlock] using hk)]
  show (w.heap.modify blk _)[blk]? = _
  rw [Array.getElem?_modify, if_pos rfl, hb]
  rfl
theorem sw_size : w.heap.size ≤ (sortWorld enc w blk 0 n d os).heap.size := by
  unfold sortWorld
  show _ ≤ ((putRow enc (Sort.ahead w n) blk 0 d).heap ++ os).size
  rw [Array.size_append, size_putRow]
  exact Nat.le_add_right _ _
theorem sw_below (B : Nat) (hB : B ≤ blk) (hBw : B ≤ w.heap.size) : Below B w (sortWorld enc w blk 0 n d os) := ⟨rfl, rfl, rfl, sw_size, fun k hk => sw_other k (by omega) (by omega)⟩
theorem put_take (cur : Array Value) (hc : d.size ≤ cur.size) : (putCells enc 0 d cur).toList.take d.size = d.toList.map enc := by
  apply List.ext_getElem?
  intro i
  rw [List.getElem?_take, List.getElem?_map]
  by_cases h : i < d.size
  · rw [if_pos h]
    unfold putCells
    rw [Array.getElem?_toList, Array.getElem?_mapIdx, Array.getElem?_eq_getElem (show i < cur.size by omega), Option.map_some, if_pos ⟨Nat.zero_le _, by omega⟩, Array.getElem?_toList, Array.getElem?_eq_getElem h, Option.map_some, Nat.sub_zero, getElem!_pos d i h]
  · rw [if_neg h, Array.getElem?_toList, Array.getElem?_eq_none (by omega)]
    rfl
theorem put_size (cur : Array Value) : (putCells enc 0 d cur).size = cur.size := by unfold putCells; simp
end
end Go.Proofs.YtfmpaofbnjlniaaGreatDoor.F
/- slices.SortFunc at a row of tuples that lie apart: the row behind the sort, and what the comparison reads. -/
namespace Go.Proofs.YtfmpaofbnjlniaaGreatDoor.F
open Go.RowKit Go.Lib Go.Sort Go.Proofs.YtfmpaofbnjlniaaGreatDoorW.PrintWords Go.Proofs.YtfmpaofbnjlniaaGreatDoorW.PrintLast Go.Proofs.YtfmpaofbnjlniaaGreatDoorW.PrintMore
set_option linter.unusedVariables false
set_option linter.unusedSimpArgs false
abbrev kT : Kd (List Int) := Kd.slice 3 (Kd.int .i64)
/-- A row's cells, by index. -/
def encT (inner : List Value) (N i : Nat) : Value := inner.getD (min i (N - 1)) (.slice none 0 0)
theorem encT_at {inner : List Value} {N i : Nat} (h : i < N) (hl : inner.length = N) : inner[i]? = some (encT inner N i) := by
  unfold encT
  rw [show min i (N - 1) = i by omega, List.getD_eq_getElem?_getD, List.getElem?_eq_getElem (by omega)]
  rfl
section
variable {w : World} {base g c : Nat} {ok : Nat → Prop} {ts : List (List Int)} {f : Nat → Nat} {inner : List Value}
theorem seg_one {l : List Value} {i : Nat} {u : Value} (h : l[i]? = some u) : (l.drop (i * 1)).take 1 = [u] := by
  rw [Nat.mul_one]
  obtain ⟨hi, he⟩ := List.getElem?_eq_some_iff.1 h
  rw [List.drop_eq_getElem_cons hi, he]
  rfl
/-- Element i, with its blocks. -/
theorem elemT (hr : Reps ((Kd.tag f kT).M w base (fun k => ok k ∧ some k ≠ (Value.slice (some ⟨g, 0, none⟩) ts.length c).ownBlock)) 1 ts.zipIdx inner) {i : Nat} (hi : i < ts.length) :
    kT.M w base (fun k => (ok k ∧ some k ≠ (Value.slice (some ⟨g, 0, none⟩) ts.length c).ownBlock) ∧ f k = i) (tAt ts i) [encT inner ts.length i] := by
  have hlen : inner.length = ts.length := by have := hr.1; rw [List.length_zipIdx, Nat.mul_one] at this; exact this
  have h := hr.2 i _ (Kd.zip_at (List.getElem?_eq_getElem hi))
  rw [seg_one (encT_at hi hlen)] at h
  rw [tAt_lt hi]
  exact h
theorem cmpT (hp : 0 < ts.length) (m : Nat) (hm : m ≤ 1000) (hl : ∀ t ∈ ts, t.length = m) (hg : g < w.heap.size)
    (hr : Reps ((Kd.tag f kT).M w base (fun k => ok k ∧ some k ≠ (Value.slice (some ⟨g, 0, none⟩) ts.length c).ownBlock)) 1 ts.zipIdx inner) :
    CmpReads Tryz.prog 57 #[] (encT inner ts.length) (cfT ts) g 0 ts.length w := by
  intro n os dk hs x y
  have hin : ∀ i, ∃ A cc, encT inner ts.length i = .slice A (tAt ts i).length cc ∧ (tAt ts i).length ≤ cc ∧ Kd.C (Kd.int .i64) (sortWorld (encT inner ts.length) w g 0 n dk os) A (tAt ts i).length (tAt ts i) := by
    intro i
    have hi : min i (ts.length - 1) < ts.length := by omega
    obtain ⟨v, hv, hR⟩ := elemT hr hi
    have e1 : encT inner ts.length (min i (ts.length - 1)) = encT inner ts.length i := by unfold encT; rw [Nat.min_assoc, Nat.min_self]
    have e2 : tAt ts (min i (ts.length - 1)) = tAt ts i := by unfold tAt; rw [Nat.min_assoc, Nat.min_self]
    rw [e2] at hR
    rw [e1] at hv
    have hR2 := Kd.R_step (w1 := sortWorld (encT inner ts.length) w g 0 n dk os) hR (fun k hk hlt => sw_other k hlt (fun e => hk.1.2 (by rw [e]; rfl)))
    obtain ⟨A, cc, ev, hle, hC⟩ := Kd.R_reads hR2
    exact ⟨A, cc, (List.singleton_inj.1 hv).trans ev, hle, hC⟩
  obtain ⟨A1, c1, e1, l1, C1⟩ := hin x
  obtain ⟨A2, c2, e2, l2, C2⟩ := hin y
  have h := slices_Compare_int_int.calls 2000 A1 c1 (tAt ts x) A2 c2 (tAt ts y) (cfT ts x y) _ C1 l1 C2 l2 (cfT_eq hp hm hl x y).1
  show Calls _ _ #[encT inner ts.length x, encT inner ts.length y] _ _
  rw [e1, e2]
  exact h.mono fun _ _ ⟨he, q, hq⟩ => ⟨he, q, hq⟩
/-- The row behind the sort: its elements lie apart as they did. -/
theorem sortedS (hok : ∀ k, (Value.slice (some ⟨g, 0, none⟩) ts.length c).ownBlock = some k → ok k) (ho : w.ownsRow base 46 1 (.slice (some ⟨g, 0, none⟩) ts.length c) ts.length inner)
    (hr : Reps ((Kd.tag f kT).M w base (fun k => ok k ∧ some k ≠ (Value.slice (some ⟨g, 0, none⟩) ts.length c).ownBlock)) 1 ts.zipIdx inner)
    (d : Array Nat) (hz : d.size = ts.length) (hlt : ∀ i ∈ d.toList, i < ts.length) (hn : d.toList.Nodup) (n : Nat) (os : Array Obj) :
    Kd.S kT 46 (sortWorld (encT inner ts.length) w g 0 n d os) base ok (.slice (some ⟨g, 0, none⟩) ts.length c) (d.toList.map (tAt ts)) := by
  have hlen : (d.toList.map (tAt ts)).length = ts.length := by rw [List.length_map, Array.length_toList, hz]
  refine ⟨fun k => d.toList.idxOf (f k), hok, d.toList.map (encT inner ts.length), ?_, ?_, ?_⟩
  · rw [List.length_zipIdx, hlen]
    refine ⟨by rw [List.length_map, Array.length_toList, hz]; exact (Nat.mul_one _).symm, ?_⟩
    rcases ho.2 with ⟨h, _⟩ | ⟨g', cap, cur, hv, hb, hh, h1, h2, h3, h4⟩
    · cases h
    · injection hv with hv1 hv2 hv3
      injection hv1 with hv1
      injection hv1 with hv1
      subst hv1
      refine .inr ⟨g, cap, putCells (encT inner ts.length) 0 d cur, by rw [hv3], hb, sw_at hh, h1, h2, (put_size cur).trans h3, ?_⟩
      show (putCells (encT inner ts.length) 0 d cur).toList.take (ts.length * 1) = _
      rw [Nat.mul_one, ← hz]
      exact put_take cur (by have : (kT).sz = 1 := rfl; omega)
  · rw [List.length_zipIdx, List.length_map, List.length_map]
    exact (Nat.mul_one _).symm
  · intro j p hj
    rw [List.getElem?_zipIdx, Nat.zero_add] at hj
    obtain ⟨q, hq, rfl⟩ := Option.map_eq_some_iff.1 hj
    have hjl : j < d.toList.length := by have := (List.getElem?_eq_some_iff.1 hq).1; rwa [List.length_map] at this
    have hq2 : q = tAt ts (d.toList[j]) := by
      rw [List.getElem?_map, List.getElem?_eq_getElem hjl] at hq
      exact (Option.some.inj hq).symm
    subst hq2
    have hi := hlt _ (List.getElem_mem hjl)
    have hM := elemT hr hi
    have hs : ((d.toList.map (encT inner ts.length)).drop (j * 1)).take 1 = [encT inner ts.length d.toList[j]] := seg_one (by rw [List.getElem?_map, List.getElem?_eq_getElem hjl]; rfl)
    show kT.M _ base _ (tAt ts d.toList[j]) (((d.toList.map (encT inner ts.length)).drop (j * 1)).take 1)
    rw [hs]
    refine kT.M_mono (fun k hk => ⟨hk.1, ?_⟩) (Kd.M_step hM (fun k hk hl2 => sw_other k hl2 (fun e => hk.1.2 (by rw [e]; rfl))))
    show d.toList.idxOf (f k) = j
    rw [hk.2]
    exact hn.idxOf_getElem j hjl
end
end Go.Proofs.YtfmpaofbnjlniaaGreatDoor.F
/-
  DERIVED: THE SHELF's CONTRACTS AT THIS DUMP, IN PLAIN WORDS (tools/lay-plain.mjs out of 'TryzSort.lean', which tools/lay-shelf.mjs wrote): THE SAME DECLARATIONS UNDER THE SAME NAMES: 'import', 'namespace', 'open', 'def', 'theorem' AND NOTHING ELSE: no command of the shelf's: FOR A HAND-IN. Each laying: the table of numbers ('.._ren') and one theorem, a field a fact of the dump's own or the kernel's comparison; each contract: ONE APPLICATION.
-/
namespace Go.Proofs
open Go.Shelf
def Tryz.sortL_ren : Go.Shelf.Ren := ⟨fun | 6 => 63 | 15 => 91 | 14 => 90 | 28 => 117 | 29 => 118 | 20 => 109 | 21 => 110 | 22 => 111 | 23 => 112 | 24 => 113 | 25 => 114 | 26 => 115 | 27 => 116 | 46 => 134 | 47 => 135 | 48 => 136 | 49 => 137 | 50 => 138 | 57 => 151 | n => n, fun | 22 => 50 | 24 => 46 | 25 => 102 | 3 => 3 | 39 => 131 | 0 => 0 | 53 => 152 | 55 => 154 | 4 => 4 | 46 => 146 | 45 => 145 | 50 => 100 | 5 => 5 | 9 => 9 | 66 => 170 | 70 => 174 | 76 => 186 | 77 => 187 | n => n, fun | n => n⟩
theorem Tryz.sortL : Go.Proofs.SlLaysF.n6 Tryz.prog Tryz.sortL_ren := {
  mixed := by kernel_rfl
  f6 := ⟨Tryz.f63.name, by decide, Tryz.func63.trans (congrArg some (by kernel_rfl))⟩
  f14 := ⟨Tryz.f90.name, by decide, Tryz.func90.trans (congrArg some (by kernel_rfl))⟩
  f15 := Tryz.func91.trans (congrArg some (by kernel_rfl))
  f20 := ⟨Tryz.f109.name, by decide, Tryz.func109.trans (congrArg some (by kernel_rfl))⟩
  f21 := ⟨Tryz.f110.name, by decide, Tryz.func110.trans (congrArg some (by kernel_rfl))⟩
  f22 := ⟨Tryz.f111.name, by decide, Tryz.func111.trans (congrArg some (by kernel_rfl))⟩
  f23 := ⟨Tryz.f112.name, by decide, Tryz.func112.trans (congrArg some (by kernel_rfl))⟩
  f24 := ⟨Tryz.f113.name, by decide, Tryz.func113.trans (congrArg some (by kernel_rfl))⟩
  f25 := ⟨Tryz.f114.name, by decide, Tryz.func114.trans (congrArg some (by kernel_rfl))⟩
  f26 := ⟨Tryz.f115.name, by decide, Tryz.func115.trans (congrArg some (by kernel_rfl))⟩
  f27 := ⟨Tryz.f116.name, by decide, Tryz.func116.trans (congrArg some (by kernel_rfl))⟩
  f28 := Tryz.func117.trans (congrArg some (by kernel_rfl))
  f29 := Tryz.func118.trans (congrArg some (by kernel_rfl))
  f46 := ⟨Tryz.f134.name, by decide, Tryz.func134.trans (congrArg some (by kernel_rfl))⟩
  f47 := Tryz.func135.trans (congrArg some (by kernel_rfl))
  f48 := Tryz.func136.trans (congrArg some (by kernel_rfl))
  f49 := ⟨Tryz.f137.name, by decide, Tryz.func137.trans (congrArg some (by kernel_rfl))⟩
  f50 := ⟨Tryz.f138.name, by decide, Tryz.func138.trans (congrArg some (by kernel_rfl))⟩
  f57 := ⟨Tryz.f151.name, by decide, Tryz.func151.trans (congrArg some (by kernel_rfl))⟩
  t0 := Tryz.underlying0
  a0 := Tryz.isAgg0
  z0 := Tryz.sizeOf0
  v0 := Tryz.zeroValue0
  t3 := Tryz.underlying3
  a3 := Tryz.isAgg3
  z3 := Tryz.sizeOf3
  v3 := Tryz.zeroValue3
  t4 := Tryz.underlying4
  a4 := Tryz.isAgg4
  z4 := Tryz.sizeOf4
  v4 := Tryz.zeroValue4
  t5 := Tryz.underlying5
  a5 := Tryz.isAgg5
  z5 := Tryz.sizeOf5
  v5 := Tryz.zeroValue5
  t9 := Tryz.underlying9
  a9 := Tryz.isAgg9
  z9 := Tryz.sizeOf9
  v9 := Tryz.zeroValue9
  t22 := Tryz.underlying50
  a22 := Tryz.isAgg50
  z22 := Tryz.sizeOf50
  v22 := Tryz.zeroValue50
  a24 := Tryz.isAgg46
  z24 := Tryz.sizeOf46
  t25 := Tryz.underlying102
  a25 := Tryz.isAgg102
  z25 := Tryz.sizeOf102
  v25 := Tryz.zeroValue102
  t39 := Tryz.underlying131
  a39 := Tryz.isAgg131
  z39 := Tryz.sizeOf131
  v39 := Tryz.zeroValue131
  t45 := Tryz.underlying145
  a45 := Tryz.isAgg145
  z45 := Tryz.sizeOf145
  v45 := Tryz.zeroValue145
  t46 := Tryz.underlying146
  a46 := Tryz.isAgg146
  z46 := Tryz.sizeOf146
  v46 := Tryz.zeroValue146
  t50 := Tryz.underlying100
  a50 := Tryz.isAgg100
  z50 := Tryz.sizeOf100
  v50 := Tryz.zeroValue100
  t53 := Tryz.underlying152
  a53 := Tryz.isAgg152
  z53 := Tryz.sizeOf152
  v53 := Tryz.zeroValue152
  t55 := Tryz.underlying154
  a55 := Tryz.isAgg154
  z55 := Tryz.sizeOf154
  v55 := Tryz.zeroValue154
  t66 := Tryz.underlying170
  a66 := Tryz.isAgg170
  z66 := Tryz.sizeOf170
  v66 := Tryz.zeroValue170
  t70 := Tryz.underlying174
  a70 := Tryz.isAgg174
  z70 := Tryz.sizeOf174
  v70 := Tryz.zeroValue174
  t76 := Tryz.underlying186
  a76 := Tryz.isAgg186
  z76 := Tryz.sizeOf186
  v76 := Tryz.zeroValue186
  t77 := Tryz.underlying187
  a77 := Tryz.isAgg187
  z77 := Tryz.sizeOf187
  v77 := Tryz.zeroValue187 }
end Go.Proofs
/- slices.SortFunc(tuples, slices.Compare[[]int]), at a row of tuples that lie apart. -/
namespace Go.Proofs.YtfmpaofbnjlniaaGreatDoor.F
open Go.RowKit Go.Lib Go.Sort Go.Proofs.YtfmpaofbnjlniaaGreatDoorW.PrintWords Go.Proofs.YtfmpaofbnjlniaaGreatDoorW.PrintLast Go.Proofs.YtfmpaofbnjlniaaGreatDoorW.PrintMore
set_option linter.unusedVariables false
set_option linter.unusedSimpArgs false
theorem sort_calls (w : World) (base : Nat) (ok : Nat → Prop) (A : Option Addr) (c : Nat) (ts : List (List Int)) (m : Nat) (hm : m ≤ 1000) (hl : ∀ t ∈ ts, t.length = m) (hn : ts.Nodup) (hN : ts.length ≤ 100000)
    (h : Kd.S kT 46 w base ok (.slice A ts.length c) ts) (hb : base ≤ w.heap.size) :
    Calls Tryz.prog 63 #[.slice A ts.length c, .func (.func 57) #[] #[]] w fun e w' =>
      e = .returned (.tuple #[]) ∧ Kd.S kT 46 w' base ok (.slice A ts.length c) (sortedB ts) ∧ (∀ k, k < w.heap.size → some k ≠ (Value.slice A ts.length c).ownBlock → w'.heap[k]? = w.heap[k]?) ∧ Below base w w' := by
  by_cases hp : 0 < ts.length
  · obtain ⟨g, c', ev, hbg, hgw, _⟩ := Kd.S_form h hp
    injection ev with e1 e2 e3
    subst e1
    obtain ⟨f, hok, inner, ho, hr⟩ := h
    rw [List.length_zipIdx] at ho
    have hlen : inner.length = ts.length := by have := hr.1; rw [List.length_zipIdx] at this; exact this.trans (Nat.mul_one _)
    have eg : ∀ args w, (callFunc 57 args).run Tryz.prog w = .ok (.enter 57 args) w := enters_of Tryz.func57 (by kernel_rfl) rfl
    have h1 : OneCell (encT inner ts.length) := fun i => by
      have hi : min i (ts.length - 1) < inner.length := by omega
      have : encT inner ts.length i ∈ inner := by
        unfold encT
        rw [List.getD_eq_getElem?_getD, List.getElem?_eq_getElem hi]
        exact List.getElem_mem hi
      obtain ⟨j, hj, e⟩ := List.mem_iff_getElem.1 this
      have hM := hr.2 j _ (Kd.zip_at (List.getElem?_eq_getElem (show j < ts.length by omega)))
      have hK := (Kd.tag f kT).K_one ((Kd.tag f kT).K_of_M hM)
      refine hK _ ?_
      show _ ∈ (inner.drop (j * 1)).take 1
      rw [seg_one (List.getElem?_eq_getElem hj), e]
      exact List.mem_singleton_self _
    have hH : Holds (encT inner ts.length) w g 0 (Array.range ts.length) := fun j hj => by
      rw [Array.size_range] at hj
      rw [show (Array.range ts.length)[j]! = j from by rw [getElem!_pos _ j (by rw [Array.size_range]; exact hj), Array.getElem_range]]
      refine ⟨?_, ?_⟩
      · have := World.ownsRow.cells ho (g := g) rfl j _ (encT_at hj hlen)
        rw [Nat.zero_add]
        rwa [Go.Proofs.YtfmpaofbnjlniaaGreatDoorW.PrintWords.add_plain] at this
      · rcases ho.2 with ⟨hv, _⟩ | ⟨g', cap, cur, hv, hb, hh, _⟩
        · cases hv
        · injection hv with hv1 hv2 hv3
          injection hv1 with hv1
          injection hv1 with hv1
          subst hv1
          exact blk_frozen hh _
    have hz : (Array.range ts.length).size = ts.length := Array.size_range
    have hcmp := (cmpT (ok := ok) (base := base) (c := c) hp m hm hl hgw hr)
    have hS := Any.slices_SortFunc Tryz.sortL (encT inner ts.length) h1 (cfT ts) (swoT hp hm hl) 57 #[] g 0 c (Array.range ts.length) w eg (by rw [hz]; exact hcmp.lays) hH hgw (by rw [hz]; omega)
    rw [hz] at hS
    refine hS.mono ?_
    rintro e w' ⟨rfl, d, n, os, hP, hSo, rfl⟩
    obtain ⟨h2, h3, h4, h5⟩ := sortedT hp hm hl hn d (by rw [hz]; exact hP) (by rw [hz]; exact hSo)
    have hR := sortedS hok ho hr d h2 h3 h4 n os
    rw [h5] at hR
    exact ⟨rfl, hR, fun k hk hne => sw_other k hk (fun e => hne (by rw [e]; rfl)), sw_below base hbg hb⟩
  · obtain rfl : ts = [] := List.length_eq_zero_iff.1 (by omega)
    have hS := AnyF.slices_SortFunc_none (P := Tryz.prog) (ρ := Tryz.sortL_ren) { Tryz.sortL with } A c (.func (.func 57) #[] #[]) w
    exact hS.mono fun _ _ ⟨he, hw⟩ => ⟨he, by rw [hw]; exact h, fun k _ _ => by rw [hw], by rw [hw]; exact Below.refl _ _⟩
end Go.Proofs.YtfmpaofbnjlniaaGreatDoor.F
/- shape.Permute, by hand. -/
namespace Go.Proofs.YtfmpaofbnjlniaaGreatDoor.F
open Go.RowKit Go.Maps Go.Proofs.YtfmpaofbnjlniaaGreatDoorW.PrintWords Go.Proofs.YtfmpaofbnjlniaaGreatDoorW.PrintLast Go.Proofs.YtfmpaofbnjlniaaGreatDoorW.PrintMore
set_option linter.unusedVariables false
set_option linter.unusedSimpArgs false
def SortCalls : Prop := ∀ (w : World) (base : Nat) (ok : Nat → Prop) (A : Option Addr) (c : Nat) (ts : List (List Int)) (m : Nat) (hm : m ≤ 1000) (hl : ∀ t ∈ ts, t.length = m) (hn : ts.Nodup) (hN : ts.length ≤ 100000)
    (h : Kd.S kT 46 w base ok (.slice A ts.length c) ts) (hb : base ≤ w.heap.size),
    Calls Tryz.prog 63 #[.slice A ts.length c, .func (.func 57) #[] #[]] w fun e w' =>
      e = .returned (.tuple #[]) ∧ Kd.S kT 46 w' base ok (.slice A ts.length c) (sortedB ts) ∧ (∀ k, k < w.heap.size → some k ≠ (Value.slice A ts.length c).ownBlock → w'.heap[k]? = w.heap[k]?) ∧ Below base w w'
def renT (perm t : List Int) : List Int := t.map fun x => rd perm x
def renR (perm : List Int) (r : S52) : S52 := ⟨r.f0, r.f1, sortedB (r.f2.map (renT perm))⟩
def keyI (x : Int) : Lit := .int .i64 x
def permSet {H : Type} (sy : List Int) : DataW H := setOf (.lit (.bool true)) (sy.map keyI)
def permCount (sy : List Int) : Nat := Maps.size (permSet (H := Unit) sy)
def permOk (perm : List Int) : Prop := perm.length ≤ 1000 ∧ ∀ x ∈ perm, -9223372036854775808 ≤ x ∧ x ≤ 9223372036854775807
instance (perm : List Int) : Decidable (permOk perm) := by unfold permOk; infer_instance
def permFit (l : List S52) (perm : List Int) : Prop := ∀ r ∈ l, (∀ t ∈ r.f2, t.length = (r.f2.headD []).length ∧ t.length ≤ 1000 ∧ ∀ x ∈ t, 0 ≤ x ∧ x < (perm.length : Int)) ∧ (r.f2.map (renT perm)).Nodup
instance (l : List S52) (perm : List Int) : Decidable (permFit l perm) := by unfold permFit; infer_instance
def permYes (n : Int) (perm : List Int) : Bool := decide ((perm.length : Int) = n) && (decide ((permCount perm : Int) = n) && !perm.any (outB n))
def shape_Permute.f (k : Nat) (n : Int) (l : List S52) (perm : List Int) : Option (Int × List S52 × Int) :=
  (shape_Valid.f k n l).bind fun b => if b = true then (if copyOk l ∧ permOk perm then (if permYes n perm = true then (if permFit l perm then some (n, l.map (renR perm), 0) else none) else some (0, [], 2)) else none) else some (0, [], 1)
theorem permKeys_snoc {H : Type} {sy : List Int} {j : Nat} {x : Int} (h : sy[j]? = some x) : permSet (H := H) (sy.take (j + 1)) = (permSet (sy.take j)).put (keyI x) (.lit (.bool true)) := by
  unfold permSet
  rw [take_snoc' h, List.map_append]
  exact setOf_snoc _ _ _
theorem law_int : Keyed Tryz.prog 3 := int_keyed Tryz.underlying3
theorem results_perm (tmps : Array Value) (W : World) (g8 : Nat) (a b : Int) (v : Value) (hp8 : tmps.getD 4 undef = .pointer (some ⟨g8, 0, none⟩)) (hp9 : tmps.getD 5 undef = .int .i64 b)
    (h8 : W.heap[g8]? = some (.cells #[.int .i64 a, v] 24 (0, 0))) :
    (results Tryz.f32 tmps).run Tryz.prog W = .ok (.tuple #[.agg #[.int .i64 a, v], .int .i64 b]) W := by
  have hp8' : tmps[4]?.getD undef = .pointer (some ⟨g8, 0, none⟩) := by simpa using hp8
  have hp9' : tmps[5]?.getD undef = .int .i64 b := by simpa using hp9
  have hr := run_loadVar_row (P := Tryz.prog) W g8 24 24 #[.int .i64 a, v] (0, 0) _ h8 Tryz.underlying24 rfl (by kernel_rfl)
  simp [results, Tryz.results32, hp8', hp9', asAddr, hr]
theorem R_kP {w : World} {base : Nat} {ok : Nat → Prop} {v : Value} {xs : List S52} (h : Kd.S kP 52 w base ok v xs) : Kd.R k52 52 w base ok v xs := by
  obtain ⟨h0, inner, ho, hr⟩ := Kd.S_R h
  exact ⟨h0, inner, ho, hr.imp_ (fun x c hM => by
    obtain ⟨v2, rfl, hS⟩ := kP_openM hM
    exact k52_mkM _ _ _ x (Kd.S_R hS))⟩
section
variable {α : Type} {g : α → α} {l : List α} {j : Nat} {r : α}
/-- The first j elements are renamed. -/
def mix (g : α → α) (l : List α) (j : Nat) : List α := (l.take j).map g ++ l.drop j
theorem mix_len : (mix g l j).length = l.length := by unfold mix; rw [List.length_append, List.length_map, List.length_take, List.length_drop]; omega
theorem mix_all : mix g l l.length = l.map g := by unfold mix; rw [List.take_length, List.drop_length, List.append_nil]
theorem mix_at (h : l[j]? = some r) : (mix g l j)[j]? = some r := by
  have hj := (List.getElem?_eq_some_iff.1 h).1
  unfold mix
  rw [List.getElem?_append_right (by rw [List.length_map, List.length_take]; omega), List.length_map, List.length_take, List.getElem?_drop, show j + (j - min j l.length) = j by omega, h]
theorem mix_set (h : l[j]? = some r) : (mix g l j).set j (g r) = mix g l (j + 1) := by
  obtain ⟨hj, he⟩ := List.getElem?_eq_some_iff.1 h
  unfold mix
  rw [List.set_append_right _ _ (by rw [List.length_map, List.length_take]; omega), List.length_map, List.length_take, show j - min j l.length = 0 by omega, List.drop_eq_getElem_cons hj, List.set_cons_zero, take_snoc' h, List.map_append, List.append_assoc]
  rfl
end
set_option maxHeartbeats 4000000 in
set_option maxRecDepth 100000 in
theorem permute_calls (hsort : SortCalls) (k : Nat) (n : Int) (A : Option Addr) (c : Nat) (l : List S52) (A2 : Option Addr) (c2 : Nat) (sy : List Int) (r : Int × List S52 × Int) (w : World)
    (hC : Kd.C k52 w A l.length l) (hlc : l.length ≤ c) (hC2 : Kd.C (Kd.int .i64) w A2 sy.length sy) (hlc2 : sy.length ≤ c2) (h : shape_Permute.f k n l sy = some r) :
    Calls Tryz.prog 32 #[.agg #[.int .i64 n, .slice A l.length c], .slice A2 sy.length c2] w (PutEnds w r) := by
  have hu38 := Tryz.underlying24
  have hu54 := Tryz.underlying52
  have hmm := @run_makeMap Tryz.prog
  unfold shape_Permute.f at h
  obtain ⟨vb, hh, h⟩ := Option.bind_eq_some_iff.1 h
  have hB1 := below_alloc (below_alloc (Below.refl w.heap.size w) (.cells #[.int .i64 n, .slice A l.length c] 24)) (.cells #[.int .i64 0, .slice none 0 0] 24)
  have HC1 := Aside0.mk (Kd.C_below hC hB1)
  have HB1 := Aside0.mk hB1
  have HC0 := Aside0.mk hC
  have HT0 := Aside0.mk hC2
  have HLC := Aside0.mk hlc
  have HLC2 := Aside0.mk hlc2
  have HH := Aside0.mk hh
  have H := Aside0.mk h
  have HSORT := Aside0.mk hsort
  have K4 := Aside0.mk (show ((w.alloc (.cells #[.int .i64 n, .slice A l.length c] 24)).alloc (.cells #[.int .i64 0, .slice none 0 0] 24)).heap[w.heap.size]? = some (.cells #[.int .i64 n, .slice A l.length c] 24 (0, 0)) from (heap_alloc_old _ _ (by simp)).trans (heap_alloc_new w _))
  have K8 := Aside0.mk (show ((w.alloc (.cells #[.int .i64 n, .slice A l.length c] 24)).alloc (.cells #[.int .i64 0, .slice none 0 0] 24)).heap[w.heap.size + 1]? = some (.cells #[.int .i64 0, .slice none 0 0] 24 (0, 0)) from by have := heap_alloc_new (w.alloc (.cells #[.int .i64 n, .slice A l.length c] 24)) (.cells #[.int .i64 0, .slice none 0 0] 24); simpa using this)
  clear hB1 hC hlc hC2 hlc2 hh h hsort
  go_enter Tryz.func32, Tryz.ntmps32
  go_wp2_with (fail)
  refine (shape_Valid.calls k n A c l vb _ HC1.out HLC.out HH.out).mono ?_
  rintro e w1 ⟨rfl, hb1⟩
  generalize hg8 : w.heap.size + 1 = g8 at *
  have hg8w : w.heap.size ≤ g8 := by omega
  have K4' := Aside0.mk ((hb1.block w.heap.size (Array.getElem?_eq_some_iff.1 K4.out).1).trans K4.out)
  have K8' := Aside0.mk ((hb1.block g8 (Array.getElem?_eq_some_iff.1 K8.out).1).trans K8.out)
  have HB2 := Aside0.mk (below_step HB1.out hb1)
  clear hb1 K4 K8 HB1 HC1
  obtain ⟨c8_0, c8_1, f8_0, f8_1⟩ := bq2 K8'
  obtain ⟨c4_0, c4_1, _, _⟩ := bq2 K4'
  cases vb with
  | false =>
    have h2 := H.out
    rw [if_neg (by simp)] at h2
    obtain rfl := Option.some.inj h2
    clear h2 H
    go_wp2
    have HX := blk_put (cs' := #[.int .i64 0, .slice none 0 0]) (blk_put (cs' := #[.int .i64 0, .slice none 0 0]) K8'.out 0 (.int .i64 0) rfl) 1 (.slice none 0 0) rfl
    have HBX := below_set (j := 1) (v := .slice none 0 0) (below_set (j := 0) (v := .int .i64 0) HB2.out hg8w) hg8w
    refine bodyPost_ret (results_perm _ _ g8 0 1 _ rfl rfl HX) rfl ?_
    exact ⟨_, rfl, Kd.R_nil _ _ _ _ _, HBX⟩
  | true =>
    have h2 := H.out
    rw [if_pos rfl] at h2
    by_cases hcp : copyOk l ∧ permOk sy
    case neg => rw [if_neg hcp] at h2; cases h2
    rw [if_pos hcp] at h2
    have HR := Aside0.mk h2
    have HCP := Aside0.mk hcp.1
    have HKO := Aside0.mk hcp.2
    have hsl := hcp.2.1
    clear h2 H hcp
    go_wp2
    have HM := Aside0.mk (World.ownsMap_made w1 Tryz.prog 3 (plainElem (H := Unit) Tryz.prog 4))
    have hba := below_alloc (Below.refl w1.heap.size w1) (.map #[] 0)
    have K4 := blB K4' hba
    have K8 := blB K8' hba
    have HB7 := Aside0.mk (below_step HB2.out hba)
    have hgw := HB2.out.size
    have hg4m : w.heap.size < w1.heap.size := blk_lt K4'.out
    have hg8m : g8 < w1.heap.size := blk_lt K8'.out
    generalize w1.alloc (.map #[] 0) = w6 at *
    generalize hgm : w1.heap.size = gm at *
    clear hba K4' K8' HB2 c4_0 c4_1 c8_0 c8_1 f8_0 f8_1
    go_loopw [23] (fun v23 wr => ∃ (j : Nat), v23 = .int .i64 j ∧ j ≤ sy.length ∧ Aside0 (wr.heap[w.heap.size]? = some (.cells #[.int .i64 n, .slice A l.length c] 24 (0, 0))) ∧ Aside0 (wr.heap[g8]? = some (.cells #[.int .i64 0, .slice none 0 0] 24 (0, 0))) ∧ Aside0 (wr.ownsMap Tryz.prog 3 (plainElem (H := Unit) Tryz.prog 4) gm j (permSet (sy.take j))) ∧ Aside0 (Below w.heap.size w wr)) (fun v23 _ => sy.length - (intOf v23).toNat)
    case atStart => exact ⟨0, rfl, Nat.zero_le _, K4, K8, ⟨by simpa [permSet, setOf] using HM.out⟩, HB7⟩
    case round =>
      clear K4 K8 HM HB7
      obtain ⟨j, rfl, hj, K4, K8, HM, HB⟩ := hrel
      generalize wr = wq at *
      by_cases hlt : j < sy.length
      · obtain ⟨ad, hA, hx0⟩ := Kd.at_int (Kd.C_below HT0.out HB.out) (j : Int) (by omega) (by omega)
        subst hA
        simp only [Int.toNat_natCast] at hx0
        have hrj : rd sy (j : Int) = sy[j] := by unfold rd; rw [Int.toNat_natCast, List.getD_eq_getElem?_getD, List.getElem?_eq_getElem hlt]; rfl
        rw [hrj] at hx0
        have HXJ := Aside0.mk (show sy[j]? = some sy[j] from List.getElem?_eq_getElem hlt)
        have HXS := Aside0.mk (HKO.out.2 _ (List.getElem_mem hlt))
        generalize sy[j] = x at *
        clear hrj
        have hkey : keyOf Tryz.prog 3 (.int .i64 x) = some (keyI x) := keyOf_int_mk Tryz.underlying3 (by simpa [Lit.wf, IntKind.min, IntKind.max, IntKind.signed, IntKind.bits] using HXS.out)
        go_wp2_with (first | (at_mapUpdate; refine wpList_mapUpdate_own _ rfl _ _ _ 107 rfl 3 4 law_int Tryz.underlying107 (plainElem (H := Unit) Tryz.prog 4) gm j _ rfl HM.out (by unfold maxLen; omega) _ _ _ rfl rfl hkey _ [] (plainElem_bool Tryz.underlying4 true) ?_; intro w1 hown1 hgrow1))
        replace K4 := Aside0.mk (blk_grown K4.out hgrow1 (by intro e; injection e with e; omega))
        replace K8 := Aside0.mk (blk_grown K8.out hgrow1 (by intro e; injection e with e; omega))
        replace HB := Aside0.mk (HB.out.grown hgrow1 HB.out.size (fun i hi => by cases hi; exact hgw))
        rw [← permKeys_snoc HXJ.out] at hown1
        go_roundw
        · exact ⟨j + 1, by simp, hlt, K4, K8, ⟨hown1⟩, HB⟩
        · simp [intOf]; omega
      · obtain rfl : j = sy.length := by omega
        rw [List.take_length] at HM
        have hm0 : Maps.size (permSet (H := Unit) sy) = permCount sy := rfl
        obtain ⟨c4_0, c4_1, _, _⟩ := bq2 K4
        obtain ⟨c8_0, c8_1, f8_0, f8_1⟩ := bq2 K8
        have HT := Aside0.mk (Kd.C_below HT0.out HB.out)
        by_cases hy : permYes n sy = true
        · have hyy := hy
          unfold permYes at hyy
          rw [Bool.and_eq_true, Bool.and_eq_true, decide_eq_true_eq, decide_eq_true_eq, Bool.not_eq_true'] at hyy
          obtain ⟨hn, hc, hel⟩ := hyy
          have h2 := HR.out
          rw [if_pos hy] at h2
          by_cases hf : permFit l sy
          case neg => rw [if_neg hf] at h2; cases h2
          rw [if_pos hf] at h2
          have hres := (Option.some.inj h2).symm
          subst hres
          have HF := Aside0.mk hf
          have hl0 := HCP.out.1
          clear h2 HR hf hy
          have g1 : ((sy.length : Int) != n) = false := bne_eq_false_iff_eq.2 hn
          have g2 : ((permCount sy : Int) != n) = false := bne_eq_false_iff_eq.2 hc
          generalize permCount sy = m at *
          go_wp2_with (first | ((try (refine gate_guard (by rfl) ?_; dsimp only)); at_len; refine wpList_len_own _ rfl _ 107 rfl 3 4 Tryz.underlying107 (plainElem (H := Unit) Tryz.prog 4) gm sy.length _ rfl HM.out ?_; rw [hm0]) | ((try (refine gate_guard (by rfl) ?_; dsimp only)); go_at_call 58; refine (shape_elements.calls n A2 c2 sy (!sy.any (outB n)) _ HT.out HLC2.out (elements_eq n sy)).mono ?_; rintro e w9 ⟨rfl, hb9⟩; rw [hel]; replace K8 := blB K8 hb9; replace K4 := blB K4 hb9; replace HB := Aside0.mk (below_step HB.out hb9); obtain ⟨c8_0, c8_1, f8_0, f8_1⟩ := bq2 K8; obtain ⟨c4_0, c4_1, _, _⟩ := bq2 K4))
          refine (copy2_calls n A c l _ (Kd.C_below HC0.out HB.out) HLC.out HCP.out).mono ?_
          rintro e w3 ⟨v3, rfl, hS, hb3⟩
          have K8' := blB K8 hb3
          have HB3 := Aside0.mk (below_step HB.out hb3)
          have HS3 := Aside0.mk (Kd.S_lower hS HB.out.size)
          obtain ⟨A3, c3, hv3⟩ := Kd.S_slice hS
          subst hv3
          clear hb3 hS K8 K4 HB HM c8_0 c8_1 f8_0 f8_1 c4_0 c4_1
          go_upto_region 12 with (fail)
          have K9 := Aside0.mk (heap_alloc_new w3 (.cells #[.int .i64 n, .slice A3 l.length c3] 24))
          have hba := below_alloc (Below.refl w3.heap.size w3) (.cells #[.int .i64 n, .slice A3 l.length c3] 24)
          have K8 := blB K8' hba
          have HS := Aside0.mk (Kd.S_below HS3.out hba)
          have HB := Aside0.mk (below_step HB3.out hba)
          generalize w3.alloc (.cells #[.int .i64 n, .slice A3 l.length c3] 24) = w4 at *
          generalize w3.heap.size = g9 at *
          clear hba K8' HS3 HB3
          obtain ⟨c9_0, c9_1, _, _⟩ := bq2 K9
          go_wp2
          go_loopw [55] (fun v55 wr => ∃ (j : Nat), v55 = .int .i64 j ∧ j ≤ l.length ∧ Aside0 (wr.heap[g8]? = some (.cells #[.int .i64 0, .slice none 0 0] 24 (0, 0))) ∧ Aside0 (wr.heap[g9]? = some (.cells #[.int .i64 n, .slice A3 l.length c3] 24 (0, 0))) ∧ Aside0 (Kd.S kP 52 wr w.heap.size (fun _ => True) (.slice A3 l.length c3) (mix (renR sy) l j)) ∧ Aside0 (Below w.heap.size w wr)) (fun v55 _ => l.length - (intOf v55).toNat)
          case atStart => exact ⟨0, rfl, Nat.zero_le _, K8, K9, HS, HB⟩
          case round =>
            clear K8 K9 HS HB c9_0 c9_1
            obtain ⟨j, rfl, hj, K8, K9, HS, HB⟩ := hrel
            generalize wr = wq at *
            by_cases hlt : j < l.length
            · have HRJ := Aside0.mk (show l[j]? = some l[j] from List.getElem?_eq_getElem hlt)
              have HFR := Aside0.mk (HF.out l[j] (List.getElem_mem hlt))
              have hrok := HCP.out.2 l[j] (List.getElem_mem hlt)
              have hr2 := hrok.1
              generalize l[j] = r at *
              clear hrok
              obtain ⟨gv, capv, eA, _, _, _, _⟩ := Kd.S_form HS.out (by rw [mix_len]; omega)
              rw [mix_len] at eA
              obtain ⟨rfl, rfl⟩ : A3 = some ⟨gv, 0, none⟩ ∧ c3 = capv := by injection eA with h2 h3 h4; exact ⟨h2, h4⟩
              clear eA
              obtain ⟨oki, cc, hcl, hM, hcells, hoki, hH⟩ := Kd.S_lend HS.out z52 (j : Int) (by omega) (by omega)
              rw [Int.toNat_natCast, List.getD_eq_getElem?_getD, mix_at HRJ.out, Option.getD_some] at hM
              obtain ⟨v2, rfl, hS2⟩ := kP_openM hM
              obtain ⟨At, ct, ev2⟩ := Kd.S_slice hS2
              subst ev2
              have hz0 : wq.cell? ⟨gv, j * 3, none⟩ = some (.string r.f0) := hcells 0 _ rfl
              have hz1 : wq.cell? ⟨gv, j * 3 + 1, none⟩ = some (.int .i64 r.f1) := hcells 1 _ rfl
              have hz2 : wq.cell? ⟨gv, j * 3 + 2, none⟩ = some (.slice At r.f2.length ct) := hcells 2 _ rfl
              have HH := Aside0.mk hH
              have HS2 := Aside0.mk hS2
              clear hcl hM hcells hH hS2 HS
              have hN8 : g8 < wq.heap.size := blk_lt K8.out
              have hN9 : g9 < wq.heap.size := blk_lt K9.out
              go_upto_region 15 with (fail)
              have K11 := Aside0.mk (heap_alloc_new wq (.cells #[.string r.f0, .int .i64 r.f1, .slice At r.f2.length ct] 52))
              have hba := below_alloc (Below.refl wq.heap.size wq) (.cells #[.string r.f0, .int .i64 r.f1, .slice At r.f2.length ct] 52)
              replace K8 := blB K8 hba
              replace K9 := blB K9 hba
              replace HH := Aside0.mk (Kd.H_below HH.out hba)
              replace HS2 := Aside0.mk (Kd.S_below HS2.out hba)
              replace HB := Aside0.mk (below_step HB.out hba)
              generalize wq.alloc (.cells #[.string r.f0, .int .i64 r.f1, .slice At r.f2.length ct] 52) = wa at *
              generalize wq.heap.size = g11 at *
              clear hba hz0 hz1 hz2
              obtain ⟨c11_0, c11_1, c11_2, _, _, _⟩ := bq3 K11
              go_wp2
              go_loopw [62] (fun v62 wl => ∃ (i : Nat), v62 = .int .i64 i ∧ i ≤ r.f2.length ∧ Aside0 (wl.heap[g8]? = some (.cells #[.int .i64 0, .slice none 0 0] 24 (0, 0))) ∧ Aside0 (wl.heap[g9]? = some (.cells #[.int .i64 n, .slice (some ⟨gv, 0, none⟩) l.length c3] 24 (0, 0))) ∧ Aside0 (wl.heap[g11]? = some (.cells #[.string r.f0, .int .i64 r.f1, .slice At r.f2.length ct] 52 (0, 0)))
                ∧ Aside0 (Kd.H kP 52 wl w.heap.size (fun _ => True) (.slice (some ⟨gv, 0, none⟩) l.length c3) (mix (renR sy) l j) (j : Int) oki [.string r.f0, .int .i64 r.f1, .slice At r.f2.length ct]) ∧ Aside0 (Kd.S kT 46 wl w.heap.size oki (.slice At r.f2.length ct) (mix (renT sy) r.f2 i)) ∧ Aside0 (Below w.heap.size w wl)) (fun v62 _ => r.f2.length - (intOf v62).toNat)
              case atStart => exact ⟨0, rfl, Nat.zero_le _, K8, K9, K11, HH, HS2, HB⟩
              case round =>
                clear K8 K9 K11 HH HS2 HB c11_0 c11_1 c11_2
                obtain ⟨i, rfl, hi, K8, K9, K11, HH, HS2, HB⟩ := hrel
                generalize wr = wl at *
                by_cases hlt2 : i < r.f2.length
                · have HTI := Aside0.mk (show r.f2[i]? = some r.f2[i] from List.getElem?_eq_getElem hlt2)
                  have HFT := Aside0.mk (HFR.out.1 r.f2[i] (List.getElem_mem hlt2))
                  generalize r.f2[i] = t at *
                  have htl := HFT.out.2.1
                  obtain ⟨gt, capt, eA, _, _, _, _⟩ := Kd.S_form HS2.out (by rw [mix_len]; omega)
                  rw [mix_len] at eA
                  obtain ⟨rfl, rfl⟩ : At = some ⟨gt, 0, none⟩ ∧ ct = capt := by injection eA with h2 h3 h4; exact ⟨h2, h4⟩
                  clear eA
                  obtain ⟨okt, ce, hcl, hM, hcells, hokt, hH2⟩ := Kd.S_lend HS2.out [] (i : Int) (by omega) (by omega)
                  rw [Int.toNat_natCast, List.getD_eq_getElem?_getD, mix_at HTI.out, Option.getD_some] at hM
                  obtain ⟨vt, rfl, hRt⟩ := hM
                  obtain ⟨A5, c5, ev5⟩ := Kd.R_slice hRt
                  subst ev5
                  have hz0 : wl.cell? ⟨gt, i, none⟩ = some (.slice A5 t.length c5) := (congrArg (fun q => wl.cell? ⟨gt, q, none⟩) (Nat.mul_one i)).symm.trans (hcells 0 _ rfl)
                  have HH2 := Aside0.mk hH2
                  have HRt := Aside0.mk hRt
                  have HOKT := Aside0.mk hokt
                  clear hcl hcells hH2 hRt HS2 hokt
                  go_wp2
                  go_loopw [68] (fun v68 wt => ∃ (q : Nat), v68 = .int .i64 q ∧ q ≤ t.length ∧ Aside0 (wt.heap[g8]? = some (.cells #[.int .i64 0, .slice none 0 0] 24 (0, 0))) ∧ Aside0 (wt.heap[g9]? = some (.cells #[.int .i64 n, .slice (some ⟨gv, 0, none⟩) l.length c3] 24 (0, 0))) ∧ Aside0 (wt.heap[g11]? = some (.cells #[.string r.f0, .int .i64 r.f1, .slice (some ⟨gt, 0, none⟩) r.f2.length ct] 52 (0, 0)))
                    ∧ Aside0 (Kd.H kP 52 wt w.heap.size (fun _ => True) (.slice (some ⟨gv, 0, none⟩) l.length c3) (mix (renR sy) l j) (j : Int) oki [.string r.f0, .int .i64 r.f1, .slice (some ⟨gt, 0, none⟩) r.f2.length ct]) ∧ Aside0 (Kd.H kT 46 wt w.heap.size oki (.slice (some ⟨gt, 0, none⟩) r.f2.length ct) (mix (renT sy) r.f2 i) (i : Int) okt [.slice A5 t.length c5]) ∧ Aside0 (Kd.R (Kd.int .i64) 3 wt w.heap.size okt (.slice A5 t.length c5) (mix (rd sy) t q)) ∧ Aside0 (Below w.heap.size w wt)) (fun v68 _ => t.length - (intOf v68).toNat)
                  case atStart => exact ⟨0, rfl, Nat.zero_le _, K8, K9, K11, HH, HH2, HRt, HB⟩
                  case round =>
                    clear K8 K9 K11 HH HH2 HRt HB hz0
                    obtain ⟨q, rfl, hq, K8, K9, K11, HH, HH2, HRt, HB⟩ := hrel
                    generalize wr = wt at *
                    by_cases hlt3 : q < t.length
                    · have HXQ := Aside0.mk (show t[q]? = some t[q] from List.getElem?_eq_getElem hlt3)
                      have hxr := HFT.out.2.2 t[q] (List.getElem_mem hlt3)
                      generalize t[q] = x at *
                      obtain ⟨g5, cap5, eA, _, _, _, _⟩ := Kd.R_form HRt.out (by rw [mix_len]; omega)
                      rw [mix_len] at eA
                      obtain ⟨rfl, rfl⟩ : A5 = some ⟨g5, 0, none⟩ ∧ c5 = cap5 := by injection eA with h2 h3 h4; exact ⟨h2, h4⟩
                      clear eA
                      obtain ⟨hx0, hf0⟩ := Kd.R_celln 0 HRt.out (q : Int) (by omega) (by omega)
                      rw [show rdOf 0 (mix (rd sy) t q) (q : Int) = x from by unfold rdOf; rw [Int.toNat_natCast, List.getD_eq_getElem?_getD, mix_at HXQ.out]; rfl] at hx0
                      simp only [Int.toNat_natCast] at hx0 hf0
                      obtain ⟨ad, hA, hy0⟩ := Kd.at_int (Kd.C_below HT0.out HB.out) x hxr.1 hxr.2
                      subst hA
                      have p1 := eq_true hxr.1
                      have p2 := eq_true hxr.2
                      have HP := Aside0.mk (Kd.R_putn HRt.out (q : Int) (rd sy x))
                      rw [Int.toNat_natCast, mix_set HXQ.out] at HP
                      have ho5 := HRt.out.1 g5 rfl
                      have hb5 := Kd.R_base HRt.out g5 rfl
                      have n8 : g8 ≠ g5 := fun e => Kd.R_ne HRt.out K8.out (by decide) (by rw [e]; rfl)
                      have n9 : g9 ≠ g5 := fun e => Kd.R_ne HRt.out K9.out (by decide) (by rw [e]; rfl)
                      have n11 : g11 ≠ g5 := fun e => Kd.R_ne HRt.out K11.out (by decide) (by rw [e]; rfl)
                      generalize rd sy x = y at *
                      go_wp2
                      replace K8 := Aside0.mk (blk_far K8.out (p := ⟨g5, q, none⟩) n8 (.int .i64 y))
                      replace K9 := Aside0.mk (blk_far K9.out (p := ⟨g5, q, none⟩) n9 (.int .i64 y))
                      replace K11 := Aside0.mk (blk_far K11.out (p := ⟨g5, q, none⟩) n11 (.int .i64 y))
                      replace HH := Aside0.mk (Kd.H_step HH.out (w1 := wt.setCell ⟨g5, q, none⟩ (.int .i64 y)) (fun k_ _ hk _ => Below.heap_setCell wt ⟨g5, q, none⟩ (.int .i64 y) k_ (fun e => hk (by rw [show k_ = g5 from e]; exact (HOKT.out g5 ho5).1))))
                      replace HH2 := Aside0.mk (Kd.H_step HH2.out (w1 := wt.setCell ⟨g5, q, none⟩ (.int .i64 y)) (fun k_ _ hk _ => Below.heap_setCell wt ⟨g5, q, none⟩ (.int .i64 y) k_ (fun e => hk (by rw [show k_ = g5 from e]; exact ho5))))
                      replace HB := Aside0.mk (below_set (j := q) (v := .int .i64 y) HB.out hb5)
                      go_roundw
                      · exact ⟨q + 1, by simp, hlt3, K8, K9, K11, HH, HH2, HP, HB⟩
                      · simp [intOf]; omega
                    · obtain rfl : q = t.length := by omega
                      rw [mix_all] at HRt
                      have HS2 := Aside0.mk (Kd.H_back HH2.out (x' := renT sy t) ⟨_, rfl, HRt.out⟩ (fun _ hk => hk))
                      rw [Int.toNat_natCast, mix_set HTI.out] at HS2
                      go_wp2
                      go_roundw
                      · exact ⟨i + 1, by simp, hlt2, K8, K9, K11, HH, HS2, HB⟩
                      · simp [intOf]; omega
                · obtain rfl : i = r.f2.length := by omega
                  rw [mix_all] at HS2
                  obtain ⟨c11_0, c11_1, c11_2, _, _, _⟩ := bq3 K11
                  have hm1 : ∀ t ∈ r.f2, t.length = (r.f2.headD []).length := fun t ht => (HFR.out.1 t ht).1
                  have hm2 : (r.f2.headD []).length ≤ 1000 := by
                    cases hq : r.f2 with
                    | nil => simp
                    | cons t ts => exact (HFR.out.1 t (by rw [hq]; exact List.mem_cons_self)).2.1
                  have hso := HSORT.out wl w.heap.size oki At ct (r.f2.map (renT sy)) (r.f2.headD []).length hm2 (fun t ht => by
                    obtain ⟨t', ht', rfl⟩ := List.mem_map.1 ht
                    unfold renT
                    rw [List.length_map]
                    exact hm1 t' ht') HFR.out.2 (by rw [List.length_map]; exact hr2) (by rw [List.length_map]; exact HS2.out) HB.out.size
                  rw [List.length_map] at hso
                  have HSO := Aside0.mk hso
                  clear hso hm1 hm2
                  go_wp2_with (fail)
                  refine HSO.out.mono ?_
                  rintro e w7 ⟨rfl, hS7, hk7, hb7⟩
                  clear HSO c11_0 c11_1 c11_2
                  obtain ⟨f2_, hR2⟩ := HS2.out
                  have hown := hR2.1
                  have K8 := Aside0.mk ((hk7 g8 (blk_lt K8.out) (Kd.S_ne HS2.out K8.out (by decide))).trans K8.out)
                  have K9 := Aside0.mk ((hk7 g9 (blk_lt K9.out) (Kd.S_ne HS2.out K9.out (by decide))).trans K9.out)
                  have HH := Aside0.mk (Kd.H_step HH.out (w1 := w7) (fun k_ _ hk hlt => hk7 k_ hlt (fun e => hk (hown k_ e.symm))))
                  have HB := Aside0.mk (HB.out.trans hb7)
                  have HS := Aside0.mk (Kd.H_back HH.out (x' := renR sy r) (kP_mkM _ _ _ (renR sy r) hS7) (fun _ hk => hk))
                  rw [Int.toNat_natCast, mix_set HRJ.out] at HS
                  go_wp2
                  go_roundw
                  · exact ⟨j + 1, by simp, hlt, K8, K9, HS, HB⟩
                  · simp [intOf]; omega
            · obtain rfl : j = l.length := by omega
              rw [mix_all] at HS
              obtain ⟨c9_0, c9_1, _, _⟩ := bq2 K9
              obtain ⟨c8_0, c8_1, f8_0, f8_1⟩ := bq2 K8
              go_wp2
              have HX := blk_put (cs' := #[.int .i64 n, .slice A3 l.length c3]) (blk_put (cs' := #[.int .i64 n, .slice none 0 0]) K8.out 0 (.int .i64 n) rfl) 1 (.slice A3 l.length c3) rfl
              have HV1 := Kd.R_set (R_kP HS.out) K8.out (by decide) 0 (.int .i64 n)
              have HV2 := Kd.R_set HV1 (blk_put (cs' := #[.int .i64 n, .slice none 0 0]) K8.out 0 (.int .i64 n) rfl) (by decide) 1 (.slice A3 l.length c3)
              have HBX := below_set (j := 1) (v := .slice A3 l.length c3) (below_set (j := 0) (v := .int .i64 n) HB.out hg8w) hg8w
              refine bodyPost_ret (results_perm _ _ g8 n 0 _ rfl rfl HX) rfl ?_
              exact ⟨_, rfl, HV2, HBX⟩
        · have hr := HR.out
          rw [if_neg hy] at hr
          obtain rfl := Option.some.inj hr
          clear hr HR
          by_cases hn : (sy.length : Int) = n
          · by_cases hc : (permCount sy : Int) = n
            · have hel : sy.any (outB n) = true := by
                unfold permYes at hy
                rw [decide_eq_true hn, decide_eq_true hc] at hy
                simpa using hy
              have g1 : ((sy.length : Int) != n) = false := bne_eq_false_iff_eq.2 hn
              have g2 : ((permCount sy : Int) != n) = false := bne_eq_false_iff_eq.2 hc
              generalize permCount sy = m at *
              go_wp2_with (first | ((try (refine gate_guard (by rfl) ?_; dsimp only)); at_len; refine wpList_len_own _ rfl _ 107 rfl 3 4 Tryz.underlying107 (plainElem (H := Unit) Tryz.prog 4) gm sy.length _ rfl HM.out ?_; rw [hm0]) | ((try (refine gate_guard (by rfl) ?_; dsimp only)); go_at_call 58; refine (shape_elements.calls n A2 c2 sy (!sy.any (outB n)) _ HT.out HLC2.out (elements_eq n sy)).mono ?_; rintro e w9 ⟨rfl, hb9⟩; rw [hel]; replace K8 := blB K8 hb9; replace K4 := blB K4 hb9; replace HB := Aside0.mk (below_step HB.out hb9); obtain ⟨c8_0, c8_1, f8_0, f8_1⟩ := bq2 K8; obtain ⟨c4_0, c4_1, _, _⟩ := bq2 K4))
              have HX := blk_put (cs' := #[.int .i64 0, .slice none 0 0]) (blk_put (cs' := #[.int .i64 0, .slice none 0 0]) K8.out 0 (.int .i64 0) rfl) 1 (.slice none 0 0) rfl
              have HBX := below_set (j := 1) (v := .slice none 0 0) (below_set (j := 0) (v := .int .i64 0) HB.out hg8w) hg8w
              refine bodyPost_ret (results_perm _ _ g8 0 2 _ rfl rfl HX) rfl ?_
              exact ⟨_, rfl, Kd.R_nil _ _ _ _ _, HBX⟩
            · have g1 : ((sy.length : Int) != n) = false := bne_eq_false_iff_eq.2 hn
              have g2 : ((permCount sy : Int) != n) = true := bne_iff_ne.2 hc
              generalize permCount sy = m at *
              go_wp2_with (first | ((try (refine gate_guard (by rfl) ?_; dsimp only)); at_len; refine wpList_len_own _ rfl _ 107 rfl 3 4 Tryz.underlying107 (plainElem (H := Unit) Tryz.prog 4) gm sy.length _ rfl HM.out ?_; rw [hm0]))
              have HX := blk_put (cs' := #[.int .i64 0, .slice none 0 0]) (blk_put (cs' := #[.int .i64 0, .slice none 0 0]) K8.out 0 (.int .i64 0) rfl) 1 (.slice none 0 0) rfl
              have HBX := below_set (j := 1) (v := .slice none 0 0) (below_set (j := 0) (v := .int .i64 0) HB.out hg8w) hg8w
              refine bodyPost_ret (results_perm _ _ g8 0 2 _ rfl rfl HX) rfl ?_
              exact ⟨_, rfl, Kd.R_nil _ _ _ _ _, HBX⟩
          · have g1 : ((sy.length : Int) != n) = true := bne_iff_ne.2 hn
            go_wp2
            have HX := blk_put (cs' := #[.int .i64 0, .slice none 0 0]) (blk_put (cs' := #[.int .i64 0, .slice none 0 0]) K8.out 0 (.int .i64 0) rfl) 1 (.slice none 0 0) rfl
            have HBX := below_set (j := 1) (v := .slice none 0 0) (below_set (j := 0) (v := .int .i64 0) HB.out hg8w) hg8w
            refine bodyPost_ret (results_perm _ _ g8 0 2 _ rfl rfl HX) rfl ?_
            exact ⟨_, rfl, Kd.R_nil _ _ _ _ _, HBX⟩
theorem shape_Permute.calls (k : Nat) (a0_0 : Int) (A0_1 : Option Addr) (c0_1 : Nat) (l0_1 : List S52) (A1 : Option Addr) (c1 : Nat) (l1 : List Int) (r1 : Int) (r2 : List S52) (r3 : Int) (w : World) (hr0_1 : Kd.C k52 w A0_1 l0_1.length l0_1) (hc0_1 : l0_1.length ≤ c0_1) (hr1 : Kd.C (Kd.int .i64) w A1 l1.length l1) (hc1 : l1.length ≤ c1) (h : shape_Permute.f k a0_0 l0_1 l1 = some (r1, r2, r3)) :
    Calls Tryz.prog 32 #[.agg #[.int .i64 a0_0, .slice A0_1 l0_1.length c0_1], .slice A1 l1.length c1] w fun e w' => ∃ v1_ : Value, e = .returned (.tuple #[.agg #[.int .i64 r1, v1_], .int .i64 r3]) ∧ Kd.R k52 52 w' w.heap.size (fun _ => True) v1_ r2 ∧ Below w.heap.size w w' :=
  permute_calls sort_calls k a0_0 A0_1 c0_1 l0_1 A1 c1 l1 (r1, r2, r3) w hr0_1 hc0_1 hr1 hc1 h
end Go.Proofs.YtfmpaofbnjlniaaGreatDoor.F
namespace Go.Proofs.YtfmpaofbnjlniaaGreatDoor.F
open Go.RowKit Go.Proofs.YtfmpaofbnjlniaaGreatDoorW.PrintWords Go.Proofs.YtfmpaofbnjlniaaGreatDoorW.PrintLast Go.Proofs.YtfmpaofbnjlniaaGreatDoorW.PrintMore
attribute [local go_sem] max2_int min2_int max_two min_two max_three min_three max_four min_four
set_option linter.unusedVariables false
set_option linter.unusedSimpArgs false
/-! ### paraphrastref01_Renamed: function 35 -/
def paraphrastref01_Renamed.l0 : Nat → List Int → List Int → List Int → Int → Option (List Int)
 | 0, _, _, _, _ => none
 | k + 1, x0, x1, x5, x6 => if x6 < (x0.length : Int) then (if 0 ≤ x6 then (if 0 ≤ (rd x0 x6) then (if (rd x0 x6) < (x1.length : Int) then (if x5.length < 17592186044416 then (paraphrastref01_Renamed.l0 k x0 x1 (x5 ++ [rd x1 (rd x0 x6)]) (wrap64 (x6 + 1))) else (none)) else (none)) else (none)) else (none)) else (some x5)
def paraphrastref01_Renamed.f (k : Nat) (l0 : List Int) (l1 : List Int) : Option (List Int) := paraphrastref01_Renamed.l0 k l0 l1 ([] : List Int) 0
set_option maxHeartbeats 8000000 in
set_option maxRecDepth 100000 in
theorem paraphrastref01_Renamed.calls (k : Nat) (A0 : Option Addr) (c0 : Nat) (l0 : List Int) (A1 : Option Addr) (c1 : Nat) (l1 : List Int) (r : List Int) (w : World) (hr0 : Kd.C (Kd.int .i64) w A0 l0.length l0) (hc0 : l0.length ≤ c0) (hr1 : Kd.C (Kd.int .i64) w A1 l1.length l1) (hc1 : l1.length ≤ c1) (h : paraphrastref01_Renamed.f k l0 l1 = some r) :
  Calls Tryz.prog 35 #[.slice A0 l0.length c0, .slice A1 l1.length c1] w fun e w' => ∃ v0_ : Value, e = .returned (v0_) ∧ Kd.R (Kd.int .i64) 3 w' w.heap.size (fun _ => True) v0_ r ∧ Below w.heap.size w w' := by
 have HR0 := Aside0.mk hr0
 have HC0 := Aside0.mk hc0
 clear hr0 hc0
 have HR1 := Aside0.mk hr1
 have HC1 := Aside0.mk hc1
 clear hr1 hc1
 have HB := Aside0.mk (Below.refl w.heap.size w)
 have H : (paraphrastref01_Renamed.l0 k l0 l1 ([] : List Int) 0) = some r := h
 clear h
 have H' := Aside0.mk H
 clear H
 go_enter Tryz.func35, Tryz.ntmps35
 go_wp2
 go_loopg [5, 6] k (fun kq v5 v6 w' => ∃ (x5_1 : List Int) (x6_1 : Int), v6 = .int .i64 x6_1 ∧ Aside0 (paraphrastref01_Renamed.l0 kq l0 l1 x5_1 x6_1 = some r) ∧ Aside0 (kq ≤ k) ∧ Aside0 (Kd.R (Kd.int .i64) 3 w' w.heap.size (fun _ => True) v5 x5_1) ∧ Aside0 (Below w.heap.size w w'))
 case atStart => exact ⟨(([] : List Int)), (0), eS, H', ⟨Nat.le_refl _⟩, ⟨by first | exact Kd.R_nil _ _ _ _ _ | exact Kd.N_nil _ _ _ _ _ | exact Kd.V_nil _ _ _ _ _ | exact Kd.Q_nil _ _ _ _ _ | exact Kd.S_nil _ _ _ _ _⟩, ⟨bel⟩⟩
 case round =>
  clear H'
  (try clear c1)
  obtain ⟨x5_1, x6_1, rfl, HA, HK1, HO_5, HB⟩ := hrel
  cases gk with
  | zero => exact absurd HA.out (by simp [paraphrastref01_Renamed.l0])
  | succ k1 =>
   have H := HA.out
   clear HA
   simp only [paraphrastref01_Renamed.l0] at H
   by_cases c3 : x6_1 < (l0.length : Int)
   ·rw [if_pos c3] at H
    have c3b0 : decide (x6_1 < (l0.length : Int)) = true := decide_eq_true c3
    clear c3
    by_cases c4 : 0 ≤ x6_1
    ·rw [if_pos c4] at H
     have c4b0 : decide (0 ≤ x6_1) = true := decide_eq_true c4
     clear c4
     by_cases c5 : 0 ≤ (rd l0 x6_1)
     ·rw [if_pos c5] at H
      have c5b0 : decide (0 ≤ (rd l0 x6_1)) = true := decide_eq_true c5
      clear c5
      by_cases c6 : (rd l0 x6_1) < (l1.length : Int)
      ·rw [if_pos c6] at H
       have c6b0 : decide ((rd l0 x6_1) < (l1.length : Int)) = true := decide_eq_true c6
       clear c6
       by_cases c7 : x5_1.length < 17592186044416
       ·rw [if_pos c7] at H
        have LMc7 := Aside0.mk c7
        clear c7
        obtain ⟨y475, hy475⟩ : ∃ y_ : List Int, y_ = (x5_1 ++ [rd l1 (rd l0 x6_1)]) := ⟨_, rfl⟩
        replace H : (paraphrastref01_Renamed.l0 k1 l0 l1 y475 (wrap64 (x6_1 + 1))) = some r := by first | (rw [hy475]; with_reducible exact H) | (have H2_ := (Option.bind_some _ _).symm.trans H; rw [hy475]; with_reducible exact H2_) | (have H2_ := (Option.bind_some _ _).symm.trans H; with_reducible exact H2_) | with_reducible exact H | (rw [hy475]; exact H) | exact H
        have Ny475 := Aside0.mk hy475
        clear hy475
        have H' := Aside0.mk H
        clear H
        have p473 : 0 ≤ (x6_1 : Int) := dtr
        have q473 : x6_1 < (l0.length : Int) := dtr
        obtain ⟨ad473, e473, hx473_0⟩ := Kd.at_int HR0.out x6_1 p473 q473
        cases e473
        replace hx473_0 := oc hx473_0
        replace p473 := eq_true p473
        replace q473 := eq_true q473
        have p474 : 0 ≤ ((rd l0 x6_1) : Int) := dtr
        have q474 : (rd l0 x6_1) < (l1.length : Int) := dtr
        obtain ⟨ad474, e474, hx474_0⟩ := Kd.at_int HR1.out (rd l0 x6_1) p474 q474
        cases e474
        replace hx474_0 := oc hx474_0
        replace p474 := eq_true p474
        replace q474 := eq_true q474
        go_wp2_with (first | ((with_reducible refine gate_builtin (b := .append) (xs := #[.tmp 13, .tmp 21]) rfl ?_); at_builtin; refine Kd.R_append (Kd.int .i64) (w0 := w) w.heap.size rfl (.tmp 13) (.tmp 21) 46 3 (.int .i64 0) 8 rfl Tryz.underlying46 info3 rfl (by decide) (by omega) u5 x5_1 (rd l1 (rd l0 x6_1)) [.int .i64 (rd l1 (rd l0 x6_1))] (fun _ => True) (fun _ => False) rfl rfl ?aP (fun _ hk => hk.elim) ?aF ?aO ?aB ?aS ?aL ?_; (case aP => exact rfl); (case aB => exact bel); (case aF => exact (fun _ _ => trivial)); (case aO => exact (tw HO_5.out)); (case aS => exact (below_size bel)); (case aL => have := LMc7.out; omega); intro v476 w8 ho hb hg hat; rw [← Ny475.out] at ho; have HO477 := Aside0.mk (ho); replace HB := Aside0.mk (hb); clear HO_5; clear ho hb hg hat))
        go_roundg k1
        case measure => have := HK1.out; omega
        case rel => exact ⟨(y475), (wrap64 (x6_1 + 1)), eS, H', ⟨by have := HK1.out; omega⟩, ⟨by (with_reducible repeat (first | apply Kd.R_alloc | apply Kd.R_drewN | apply Kd.R_drew)); exact HO477.out⟩, ⟨bel⟩⟩
       ·rw [if_neg c7] at H
        exact absurd H (by simp)
      ·rw [if_neg c6] at H
       exact absurd H (by simp)
     ·rw [if_neg c5] at H
      exact absurd H (by simp)
    ·rw [if_neg c4] at H
     exact absurd H (by simp)
   ·rw [if_neg c3] at H
    have c3b0 : decide (x6_1 < (l0.length : Int)) = false := decide_eq_false c3
    clear c3
    obtain rfl := Option.some.inj H
    go_wp2
    go_ret
    exact ⟨_, eN, by (with_reducible repeat (first | apply Kd.R_alloc | apply Kd.R_drewN | apply Kd.R_drew)); exact HO_5.out, bel⟩
end Go.Proofs.YtfmpaofbnjlniaaGreatDoor.F
/- ShapePermutes, the plain law. -/
namespace Go.Proofs.YtfmpaofbnjlniaaGreatDoor.F
open Go.RowKit Go.Maps Go.Proofs.YtfmpaofbnjlniaaGreatDoorW.PrintWords Go.Proofs.YtfmpaofbnjlniaaGreatDoorW.PrintLast Go.Proofs.YtfmpaofbnjlniaaGreatDoorW.PrintMore
set_option linter.unusedVariables false
/-! ### the keys of a map -/
theorem addKey_lenI : ∀ (xs acc : List Lit), acc.Nodup → (∀ x ∈ xs, WideAt.IsKeyLit x) → (xs.foldl addKey acc).length ≤ acc.length + xs.length ∧ ((xs.foldl addKey acc).length = acc.length + xs.length ↔ (acc ++ xs).Nodup)
  | [], acc, h, _ => ⟨Nat.le_refl _, by simpa using h⟩
  | x :: xs, acc, h, hk => by
    have hkx := hk x List.mem_cons_self
    have hks : ∀ y ∈ xs, WideAt.IsKeyLit y := fun y hy => hk y (List.mem_cons_of_mem _ hy)
    rw [List.foldl_cons]
    by_cases hm : x ∈ acc
    · have e : addKey acc x = acc := by
        show (if acc.any (fun y => y.sameKey x) = true then acc else acc ++ [x]) = acc
        have h2 : acc.any (fun y => y.sameKey x) = true := List.any_eq_true.2 ⟨x, hm, WideAt.sameKey_self hkx⟩
        rw [if_pos h2]
      rw [e]
      obtain ⟨h1, h2⟩ := addKey_lenI xs acc h hks
      refine ⟨by rw [List.length_cons]; omega, ⟨fun e2 => by rw [List.length_cons] at e2; omega, fun e2 => ?_⟩⟩
      rw [List.nodup_append] at e2
      exact absurd rfl (e2.2.2 x hm x List.mem_cons_self)
    · have e : addKey acc x = acc ++ [x] := by
        show (if acc.any (fun y => y.sameKey x) = true then acc else acc ++ [x]) = acc ++ [x]
        rw [if_neg (fun e2 => by
          obtain ⟨y, hy, hs⟩ := List.any_eq_true.1 e2
          exact hm (WideAt.sameKey_eq hs ▸ hy))]
      rw [e]
      have hn : (acc ++ [x]).Nodup := by
        rw [List.nodup_append]
        exact ⟨h, by simp, fun a ha b hb e3 => by rw [List.mem_singleton] at hb; subst hb; subst e3; exact hm ha⟩
      obtain ⟨h1, h2⟩ := addKey_lenI xs (acc ++ [x]) hn hks
      rw [List.length_append, List.length_singleton] at h1 h2
      rw [List.append_assoc, List.singleton_append] at h2
      rw [List.length_cons]
      refine ⟨by omega, ?_⟩
      rw [← h2]
      constructor
      · intro h3; omega
      · intro h3; omega
theorem count_nodupI (sy : List Int) : permCount sy = sy.length ↔ sy.Nodup := by
  unfold permCount permSet
  have hk : ∀ x ∈ sy.map keyI, WideAt.IsKeyLit x := fun x hx => by
    obtain ⟨y, _, rfl⟩ := List.mem_map.1 hx
    trivial
  rw [size_setOf _ _ hk]
  have h := (addKey_lenI (sy.map keyI) [] List.nodup_nil hk).2
  rw [List.length_nil, Nat.zero_add, List.length_map, List.nil_append] at h
  rw [h]
  unfold List.Nodup
  rw [List.pairwise_map]
  exact ⟨fun h => h.imp (fun h2 e2 => h2 (by rw [e2])), fun h => h.imp (fun h2 e2 => h2 (by injection e2))⟩
/-! ### Perm -/
/-! ### Permute -/
theorem renamed_from (sy t : List Int) (ht : t.length ≤ 1000) (hin : ∀ x ∈ t, 0 ≤ x ∧ x < (sy.length : Int)) : ∀ (d i k : Nat), i + d = t.length → d + 1 ≤ k → paraphrastref01_Renamed.l0 k t sy (renT sy (t.take i)) (i : Int) = some (renT sy t)
  | 0, i, k + 1, h, hk => by
    unfold paraphrastref01_Renamed.l0
    rw [if_neg (by omega), List.take_of_length_le (by omega)]
  | d + 1, i, k + 1, h, hk => by
    have hi : i < t.length := by omega
    have hx := hin _ (List.getElem_mem hi)
    unfold paraphrastref01_Renamed.l0
    rw [if_pos (by omega), if_pos (by omega), rd_nat t i hi, if_pos hx.1, if_pos hx.2, if_pos (by unfold renT; rw [List.length_map, List.length_take]; omega), w64 (by omega) (by omega), show (i : Int) + 1 = ((i + 1 : Nat) : Int) by omega,
      show renT sy (t.take i) ++ [rd sy t[i]] = renT sy (t.take (i + 1)) by unfold renT; rw [take_snoc' (List.getElem?_eq_getElem hi), List.map_append]; rfl]
    exact renamed_from sy t ht hin d (i + 1) k (by omega) (by omega)
theorem renamed_eq (sy t : List Int) (ht : t.length ≤ 1000) (hin : ∀ x ∈ t, 0 ≤ x ∧ x < (sy.length : Int)) (k : Nat) (hk : 1001 ≤ k) : paraphrastref01_Renamed.f k t sy = some (renT sy t) :=
  renamed_from sy t ht hin t.length 0 k (by omega) (by omega)
/-! ### what a permutation does to a valid structure -/
theorem renT_inj (sy : List Int) (hnd : sy.Nodup) (a b : List Int) (hl : a.length = b.length) (ha : ∀ x ∈ a, 0 ≤ x ∧ x < (sy.length : Int)) (hb : ∀ x ∈ b, 0 ≤ x ∧ x < (sy.length : Int)) (h : renT sy a = renT sy b) : a = b := by
  apply List.ext_getElem hl
  intro i h1 h2
  have e : (renT sy a)[i]? = (renT sy b)[i]? := by rw [h]
  unfold renT at e
  rw [List.getElem?_map, List.getElem?_map, List.getElem?_eq_getElem h1, List.getElem?_eq_getElem h2] at e
  have e2 : rd sy a[i] = rd sy b[i] := Option.some.inj e
  obtain ⟨a0, a1⟩ := ha _ (List.getElem_mem h1)
  obtain ⟨b0, b1⟩ := hb _ (List.getElem_mem h2)
  obtain ⟨p, hp⟩ : ∃ p : Nat, a[i] = (p : Int) := ⟨a[i].toNat, by omega⟩
  obtain ⟨q, hq⟩ : ∃ q : Nat, b[i] = (q : Int) := ⟨b[i].toNat, by omega⟩
  rw [hp, hq] at e2 ⊢
  have hpl : p < sy.length := by omega
  have hql : q < sy.length := by omega
  rw [rd_nat sy p hpl, rd_nat sy q hql] at e2
  have hpw := List.pairwise_iff_getElem.1 hnd
  rcases Nat.lt_trichotomy p q with h3 | h3 | h3
  · exact absurd e2 (hpw p q hpl hql h3)
  · rw [h3]
  · exact absurd e2.symm (hpw q p hql hpl h3)
theorem sorted_nodup {ts : List (List Int)} (h : Sorted ts) : ts.Nodup := by
  unfold List.Nodup
  exact List.Pairwise.imp (fun h2 e => by rw [e, lex_irr] at h2; cases h2) h
theorem permFit_of (n : Int) (l : List S52) (hv : validB n l = true) (sy : List Int) (hn : (sy.length : Int) = n) (hnd : sy.Nodup) : permFit l sy := fun r hr => by
  obtain ⟨_, _, _, hall⟩ := valid_facts n l hv
  obtain ⟨_, g1, g2, g3⟩ := hall r hr
  obtain ⟨i, hi, rfl⟩ := List.mem_iff_getElem.1 hr
  have hS := (rel_sorted n _ ((valid_parts n l hv).1 i hi)).1
  have hin : ∀ t ∈ l[i].f2, ∀ x ∈ t, 0 ≤ x ∧ x < (sy.length : Int) := fun t ht x hx => by rw [hn]; exact (g2 t ht).2 x hx
  refine ⟨fun t ht => ⟨?_, by have := (g2 t ht).1; omega, hin t ht⟩, ?_⟩
  · have h1 := (g2 t ht).1
    cases hq : l[i].f2 with
    | nil => rw [hq] at ht; cases ht
    | cons u us =>
      have h2 := (g2 u (by rw [hq]; exact List.mem_cons_self)).1
      show t.length = u.length
      omega
  · unfold List.Nodup
    rw [List.pairwise_map]
    refine List.Pairwise.imp_of_mem (fun {a b} ha hb hne e => hne ?_) (sorted_nodup hS)
    have h1 := (g2 a ha).1
    have h2 := (g2 b hb).1
    exact renT_inj sy hnd a b (by omega) (hin a ha) (hin b hb) e
end Go.Proofs.YtfmpaofbnjlniaaGreatDoor.F
