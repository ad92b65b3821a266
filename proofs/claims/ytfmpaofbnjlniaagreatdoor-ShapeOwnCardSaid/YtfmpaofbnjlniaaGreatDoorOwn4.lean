/- Part 4 of the proof: ShapeOwn: no function modifies its arguments, and results share memory neither with arguments nor with other results; for every structure, change, list of numbers and list of symbols. -/
import Derived.Test.YtfmpaofbnjlniaaGreatDoorOwn3
import Derived.Lib.SliceRun
import Derived.Lib.Overlaps
import Derived.Lib.AppendZerosOnto
import Derived.Laws.NewBlocks
import Derived.Laws.IdiomCopy
import Derived.Laws.Externs
import Derived.Deep.RegionLaw
namespace Go.Proofs.YtfmpaofbnjlniaaGreatDoor.F
open Go.RowKit Go.Proofs.YtfmpaofbnjlniaaGreatDoorW.PrintWords Go.Proofs.YtfmpaofbnjlniaaGreatDoorW.PrintLast Go.Proofs.YtfmpaofbnjlniaaGreatDoorW.PrintMore
attribute [local go_sem] max2_int min2_int max_two min_two max_three min_three max_four min_four
set_option linter.unusedVariables false
set_option linter.unusedSimpArgs false
theorem far_ne34 {W : World} {p : Addr} {v : Value} {g : Nat} (h : W.cell? p = some v) (hg : W.heap.size ≤ g) : p.block ≠ g := Nat.ne_of_lt (Nat.lt_of_lt_of_le (World.block_lt_of_cell? _ _ h) hg)
/-! ### paraphrastref01_Same: function 34 -/
mutual
def paraphrastref01_Same.j0 : Nat → Bool → Int → List (S52) → Int → List (S52) → Option (Bool)
 | 0, _, _, _, _, _ => none
 | k + 1, x21, x255000, x255001, x256000, x256001 => if x21 = true then (some false) else (paraphrastref01_Same.l0 k 0 x255000 x255001 x256000 x256001)
def paraphrastref01_Same.l0 : Nat → Int → Int → List (S52) → Int → List (S52) → Option (Bool)
 | 0, _, _, _, _, _ => none
 | k + 1, x5, x255000, x255001, x256000, x256001 => if x5 < (x255001.length : Int) then (if 0 ≤ x5 then (if x5 < (x256001.length : Int) then (if ((rd_T52 x255001 x5).f0).toList = ((rd_T52 x256001 x5).f0).toList then (if ((rd_T52 x255001 x5).f1) = ((rd_T52 x256001 x5).f1) then ((paraphrastref01_SameTuples.f k ((rd_T52 x255001 x5).f2) ((rd_T52 x256001 x5).f2)).bind fun t260 => (if t260 = true then (paraphrastref01_Same.l0 k (wrap64 (x5 + 1)) x255000 x255001 x256000 x256001) else (some false))) else (some false)) else (some false)) else (none)) else (none)) else (some true)
end
def paraphrastref01_Same.f (k : Nat) (a0_0 : Int) (l0_1 : List (S52)) (a1_0 : Int) (l1_1 : List (S52)) : Option (Bool) := if a0_0 = a1_0 then (paraphrastref01_Same.j0 k ((l0_1.length : Int) != (l1_1.length : Int)) a0_0 l0_1 a1_0 l1_1) else (paraphrastref01_Same.j0 k true a0_0 l0_1 a1_0 l1_1)
def paraphrastref01_Same.T6 : Bool × List (List Nat × List Nat) := (true, [([], []), ([0], [0]), ([], []), ([1, 2], [1, 2]), ([3], [3]), ([], []), ([5], [5]), ([], []), ([6, 7], [6, 7]), ([8], [8]), ([], []), ([], []), ([10, 4, 0, 1, 2, 3, 4, 10, 11], [4, 10]), ([11, 9, 12, 0, 1, 2, 3, 4, 5, 6, 7, 8, 9, 10, 11, 12], [9, 11])])
def paraphrastref01_Same.B6 : List Nat := [0, 1, 0, 7, 15, 0, 32, 0, 224, 480, 0, 0, 3103, 8191]
theorem paraphrastref01_Same.tab6 : rtab .any (opsOf Tryz.f34 6) = paraphrastref01_Same.T6 := by kernel_rfl
theorem paraphrastref01_Same.bits6 : waitsOk paraphrastref01_Same.T6.2 paraphrastref01_Same.B6 = true := by kernel_rfl
set_option maxHeartbeats 8000000 in
set_option maxRecDepth 100000 in
theorem paraphrastref01_Same.calls (k : Nat) (a0_0 : Int) (A0_1 : Option Addr) (c0_1 : Nat) (l0_1 : List (S52)) (a1_0 : Int) (A1_1 : Option Addr) (c1_1 : Nat) (l1_1 : List (S52)) (r : Bool) (w : World) (hr0_1 : Kd.C k52 w A0_1 l0_1.length l0_1) (hc0_1 : l0_1.length ≤ c0_1) (hr1_1 : Kd.C k52 w A1_1 l1_1.length l1_1) (hc1_1 : l1_1.length ≤ c1_1) (h : paraphrastref01_Same.f k a0_0 l0_1 a1_0 l1_1 = some r) :
  Calls Tryz.prog 34 #[.agg #[.int .i64 a0_0, .slice A0_1 l0_1.length c0_1], .agg #[.int .i64 a1_0, .slice A1_1 l1_1.length c1_1]] w fun e w' => e = .returned (.bool r) ∧ Below w.heap.size w w' := by
 have hu24 := Tryz.underlying24
 have hu52 := Tryz.underlying52
 have HR0_1 := Aside0.mk hr0_1
 have HC0_1 := Aside0.mk hc0_1
 clear hr0_1 hc0_1
 have HR1_1 := Aside0.mk hr1_1
 have HC1_1 := Aside0.mk hc1_1
 clear hr1_1 hc1_1
 have HB := Aside0.mk (Below.refl w.heap.size w)
 have H : (if a0_0 = a1_0 then (paraphrastref01_Same.j0 k ((l0_1.length : Int) != (l1_1.length : Int)) a0_0 l0_1 a1_0 l1_1) else (paraphrastref01_Same.j0 k true a0_0 l0_1 a1_0 l1_1)) = some r := h
 clear h
 have HC3 := Aside0.mk H
 clear H
 go_enter Tryz.func34, Tryz.ntmps34
 go_upto_region 1 with (first | ((with_reducible refine gate_dst (N := 2) rfl ?_); (try (refine gate_guard (by rfl) ?_; dsimp only)); refine box_event ?hg (N := 2) ?hd (cs := #[.int .i64 a0_0, .slice A0_1 l0_1.length c0_1]) (t := 24) ?hr ?_; (case hd => rfl); (case hg => rfl); (case hr => first | (go_simp; done) | (go_simp; rfl)); intro gb254 hg w4 hbox hb; have BK254 := Aside0.mk (hbox); have GW254 := geB w hg; have GE254 := geB w hg; replace HB := Aside0.mk (below_step bel hb); clear hb hbox hg) | ((with_reducible refine gate_dst (N := 3) rfl ?_); (try (refine gate_guard (by rfl) ?_; dsimp only)); refine box_event ?hg (N := 3) ?hd (cs := #[.int .i64 a1_0, .slice A1_1 l1_1.length c1_1]) (t := 24) ?hr ?_; (case hd => rfl); (case hg => rfl); (case hr => first | (go_simp; done) | (go_simp; rfl)); intro gb255 hg w5 hbox hb; have BK255 := Aside0.mk (hbox); have GW255 := geB w hg; have GE255 := geB w hg; have NB254_255 := neL BK254 hg; have NB255_254 := neG BK254 hg; replace BK254 := blB BK254 hb; replace HB := Aside0.mk (below_step bel hb); clear hb hbox hg))
 (try simp only [Act.put, List.setIfInBounds_toArray, List.set_cons_zero, List.set_cons_succ])
 go_cut [21] (fun v21 wc => ∃ (kq : Nat) (x21_2 : Bool), v21 = .bool x21_2 ∧ Aside0 (paraphrastref01_Same.j0 kq x21_2 a0_0 l0_1 a1_0 l1_1 = some r) ∧ Aside0 (kq ≤ k) ∧ Aside0 (wc.heap[gb254]? = some (.cells #[.int .i64 a0_0, (.slice A0_1 l0_1.length c0_1)] 24 (0, 0))) ∧ Aside0 (wc.heap[gb255]? = some (.cells #[.int .i64 a1_0, (.slice A1_1 l1_1.length c1_1)] 24 (0, 0))) ∧ Aside0 (Below w.heap.size w wc))
 case first =>
  have H := HC3.out
  clear HC3
  by_cases c6 : a0_0 = a1_0
  ·rw [if_pos c6] at H
   have c6b0 : (a0_0 == a1_0) = true := beq_iff_eq.mpr c6
   have c6b1 : (a0_0 != a1_0) = false := bne_eq_false_iff_eq.mpr c6
   clear c6
   (first | rw [c6b0] | (simp only [i64_w, i32_w]; rw [c6b0]) | skip)
   have H' := Aside0.mk H
   clear H
   have hnb7 := NB254_255.out
   have hnc7 := NB255_254.out
   obtain ⟨hcz8_0, hcz8_1, hfz8_0, hfz8_1⟩ := bq2 BK254
   obtain ⟨hcz9_0, hcz9_1, hfz9_0, hfz9_1⟩ := bq2 BK255
   go_wp2
   go_meet
   case rel => exact ⟨_, (((l0_1.length : Int) != (l1_1.length : Int))), eS, H', ⟨kle⟩, ⟨bk BK254⟩, ⟨bk BK255⟩, ⟨bel⟩⟩
  ·rw [if_neg c6] at H
   have c6b0 : (a0_0 == a1_0) = false := beq_eq_false_iff_ne.mpr c6
   have c6b1 : (a0_0 != a1_0) = true := bne_iff_ne.mpr c6
   (first | rw [c6b0] | (simp only [i64_w, i32_w]; rw [c6b0]) | skip)
   have H' := Aside0.mk H
   clear H
   have hnb10 := NB254_255.out
   have hnc10 := NB255_254.out
   obtain ⟨hcz11_0, hcz11_1, hfz11_0, hfz11_1⟩ := bq2 BK254
   obtain ⟨hcz12_0, hcz12_1, hfz12_0, hfz12_1⟩ := bq2 BK255
   go_wp2
   go_meet
   case rel => exact ⟨_, (true), eS, H', ⟨kle⟩, ⟨bk BK254⟩, ⟨bk BK255⟩, ⟨bel⟩⟩
 case rest =>
  clear HC3
  obtain ⟨kq, x21_2, rfl, HA, HJ2, BK254, BK255, HB⟩ := hcut
  cases kq with
  | zero => exact absurd HA.out (by simp [paraphrastref01_Same.j0])
  | succ kj2 =>
   have H := HA.out
   clear HA
   simp only [paraphrastref01_Same.j0] at H
   by_cases c13 : x21_2 = true
   ·subst c13
    have H1 : (some false) = some r := by rw [if_pos rfl] at H; exact H
    clear H
    have H := H1
    clear H1
    obtain rfl := Option.some.inj H
    go_wp2
    go_ret
    exact ⟨eN, bel⟩
   ·replace c13 := Bool.eq_false_iff.mpr c13
    subst c13
    have H1 : (paraphrastref01_Same.l0 kj2 0 a0_0 l0_1 a1_0 l1_1) = some r := by rw [if_neg (show ¬ (false = true) by decide)] at H; exact H
    clear H
    have H := H1
    clear H1
    have H' := Aside0.mk H
    clear H
    go_wp2
    go_loopg [5] kj2 (fun kq v5 w' => ∃ (x5_2 : Int), v5 = .int .i64 x5_2 ∧ Aside0 (paraphrastref01_Same.l0 kq x5_2 a0_0 l0_1 a1_0 l1_1 = some r) ∧ Aside0 (kq ≤ kj2) ∧ Aside0 (w'.heap[gb254]? = some (.cells #[.int .i64 a0_0, (.slice A0_1 l0_1.length c0_1)] 24 (0, 0))) ∧ Aside0 (w'.heap[gb255]? = some (.cells #[.int .i64 a1_0, (.slice A1_1 l1_1.length c1_1)] 24 (0, 0))) ∧ Aside0 (Below w.heap.size w w'))
    case atStart => exact ⟨(0), eS, H', ⟨Nat.le_refl _⟩, ⟨bk BK254⟩, ⟨bk BK255⟩, ⟨bel⟩⟩
    case round =>
     clear H'
     (try clear c13)
     obtain ⟨x5_2, rfl, HA, HK2, BK254, BK255, HB⟩ := hrel
     cases gk with
     | zero => exact absurd HA.out (by simp [paraphrastref01_Same.l0])
     | succ k2 =>
      have H := HA.out
      clear HA
      simp only [paraphrastref01_Same.l0] at H
      by_cases c14 : x5_2 < (l0_1.length : Int)
      ·rw [if_pos c14] at H
       have c14b0 : decide (x5_2 < (l0_1.length : Int)) = true := decide_eq_true c14
       clear c14
       by_cases c15 : 0 ≤ x5_2
       ·rw [if_pos c15] at H
        have c15b0 : decide (0 ≤ x5_2) = true := decide_eq_true c15
        clear c15
        by_cases c16 : x5_2 < (l1_1.length : Int)
        ·rw [if_pos c16] at H
         have c16b0 : decide (x5_2 < (l1_1.length : Int)) = true := decide_eq_true c16
         clear c16
         by_cases c17 : ((rd_T52 l0_1 x5_2).f0).toList = ((rd_T52 l1_1 x5_2).f0).toList
         ·rw [if_pos c17] at H
          have c17b0 : (((rd_T52 l0_1 x5_2).f0).toList == ((rd_T52 l1_1 x5_2).f0).toList) = true := beq_iff_eq.mpr c17
          have c17b1 : (((rd_T52 l0_1 x5_2).f0).toList != ((rd_T52 l1_1 x5_2).f0).toList) = false := bne_eq_false_iff_eq.mpr c17
          clear c17
          by_cases c18 : ((rd_T52 l0_1 x5_2).f1) = ((rd_T52 l1_1 x5_2).f1)
          ·rw [if_pos c18] at H
           have c18b0 : (((rd_T52 l0_1 x5_2).f1) == ((rd_T52 l1_1 x5_2).f1)) = true := beq_iff_eq.mpr c18
           have c18b1 : (((rd_T52 l0_1 x5_2).f1) != ((rd_T52 l1_1 x5_2).f1)) = false := bne_eq_false_iff_eq.mpr c18
           clear c18
           replace H := Option.bind_eq_some_iff.mp H
           obtain ⟨t260, A190, H⟩ := H
           replace H : (if t260 = true then (paraphrastref01_Same.l0 k2 (wrap64 (x5_2 + 1)) a0_0 l0_1 a1_0 l1_1) else (some false)) = some r := H
           have A19 := Aside0.mk A190
           clear A190
           by_cases c20 : t260 = true
           ·subst c20
            have H1 : (paraphrastref01_Same.l0 k2 (wrap64 (x5_2 + 1)) a0_0 l0_1 a1_0 l1_1) = some r := by rw [if_pos rfl] at H; exact H
            clear H
            have H := H1
            clear H1
            have H' := Aside0.mk H
            clear H
            have hnb21 := NB254_255.out
            have hnc21 := NB255_254.out
            obtain ⟨hcz22_0, hcz22_1, hfz22_0, hfz22_1⟩ := bq2 BK254
            try go_wp2
            replace BK254 := Aside0.mk (blk_drew BK254.out)
            replace BK255 := Aside0.mk (blk_drew BK255.out)
            replace HB := Aside0.mk (below_drew1 HB.out)
            have p256 : 0 ≤ (x5_2 : Int) := dtr
            have q256 : x5_2 < (l0_1.length : Int) := dtr
            obtain ⟨ad256, A256_2, c256_2, e256, hx256_0, hx256_1, hx256_2, hl256_2, hi256_2⟩ := at_T52 HR0_1.out x5_2 p256 q256
            have hw256_2 := hx256_2
            have hw256_1 := hx256_1
            have hw256_0 := hx256_0
            cases e256
            replace hx256_0 := oc hx256_0
            replace hx256_1 := oc hx256_1
            replace hx256_2 := oc hx256_2
            have HR256_2 := Aside0.mk hi256_2
            have HC256_2 := Aside0.mk hl256_2
            clear hi256_2 hl256_2
            replace p256 := eq_true p256
            replace q256 := eq_true q256
            have p257 : 0 ≤ (x5_2 : Int) := dtr
            have q257 : x5_2 < (l1_1.length : Int) := dtr
            obtain ⟨ad257, A257_2, c257_2, e257, hx257_0, hx257_1, hx257_2, hl257_2, hi257_2⟩ := at_T52 HR1_1.out x5_2 p257 q257
            have hw257_2 := hx257_2
            have hw257_1 := hx257_1
            have hw257_0 := hx257_0
            cases e257
            replace hx257_0 := oc hx257_0
            replace hx257_1 := oc hx257_1
            replace hx257_2 := oc hx257_2
            have HR257_2 := Aside0.mk hi257_2
            have HC257_2 := Aside0.mk hl257_2
            clear hi257_2 hl257_2
            replace p257 := eq_true p257
            replace q257 := eq_true q257
            refine start_ (n := 14) (S := fun w' => w'.cell? ⟨gb254, 0, none⟩ = some (.int .i64 a0_0) ∧ w'.cell? ⟨gb254, 1, none⟩ = some (.slice (some ad256) l0_1.length c0_1) ∧ w'.cell? ⟨gb255, 0, none⟩ = some (.int .i64 a1_0) ∧ w'.cell? ⟨gb255, 1, none⟩ = some (.slice (some ad257) l1_1.length c1_1) ∧ w'.cell? (ad256.add ((x5_2).toNat * 3)) = some (.string ((rd_T52 l0_1 x5_2).f0)) ∧ w'.cell? ⟨(ad256.add ((x5_2).toNat * 3)).block, (ad256.add ((x5_2).toNat * 3)).off + 1, none⟩ = some (.int .i64 ((rd_T52 l0_1 x5_2).f1)) ∧ w'.cell? ⟨(ad256.add ((x5_2).toNat * 3)).block, (ad256.add ((x5_2).toNat * 3)).off + 2, none⟩ = some (.slice A256_2 ((rd_T52 l0_1 x5_2).f2).length c256_2) ∧ w'.cell? (ad257.add ((x5_2).toNat * 3)) = some (.string ((rd_T52 l1_1 x5_2).f0)) ∧ w'.cell? ⟨(ad257.add ((x5_2).toNat * 3)).block, (ad257.add ((x5_2).toNat * 3)).off + 1, none⟩ = some (.int .i64 ((rd_T52 l1_1 x5_2).f1)) ∧ w'.cell? ⟨(ad257.add ((x5_2).toNat * 3)).block, (ad257.add ((x5_2).toNat * 3)).off + 2, none⟩ = some (.slice A257_2 ((rd_T52 l1_1 x5_2).f2).length c257_2)) (ds := []) #[false, false, false, false, false, false, false, false, false, false, false, false, false, false] (by kernel_rfl) rfl rfl ⟨(blk_cell BK254.out 0).trans rfl, (blk_cell BK254.out 1).trans rfl, (blk_cell BK255.out 0).trans rfl, (blk_cell BK255.out 1).trans rfl, (oc hw256_0), (oc hw256_1), (oc hw256_2), (oc hw257_0), (oc hw257_1), (oc hw257_2)⟩ (fun hHeld => ?_); refine with_tabW paraphrastref01_Same.tab6 paraphrastref01_Same.bits6 (fun HT_ HW_ => ?_)
            generalize wr.drew = w23 at BK254 BK255 HB HR256_2 HR257_2 hx256_0 hx256_1 hx256_2 hx257_0 hx257_1 hx257_2 hHeld ⊢
            refine sPu 0 (some 29) ?_
            refine sPu 2 (some 31) ?_
            refine sPu 5 (some 34) ?_
            refine sPu 7 (some 36) ?_
            refine sTk 1 (some 30) ?_
            refine sPu 3 (some 32) ?_
            refine sTk 4 (some 33) ?_
            refine sTk 6 (some 35) ?_
            refine sPu 8 (some 37) ?_
            refine sTk 9 (some 38) ?_
            refine join_ (σ := Nat × Nat) 2 #[true, true, true, true, true, true, true, true, true, true, true, true, false, false] (fun s_ => [(6, .pointer (some ⟨s_.1, 0, none⟩)), (7, .pointer (some ⟨s_.2, 0, none⟩))]) (fun s_ w' => (w'.cell? ⟨gb254, 0, none⟩ = some (.int .i64 a0_0) ∧ w'.cell? ⟨gb254, 1, none⟩ = some (.slice (some ad256) l0_1.length c0_1) ∧ w'.cell? ⟨gb255, 0, none⟩ = some (.int .i64 a1_0) ∧ w'.cell? ⟨gb255, 1, none⟩ = some (.slice (some ad257) l1_1.length c1_1) ∧ w'.cell? (ad256.add ((x5_2).toNat * 3)) = some (.string ((rd_T52 l0_1 x5_2).f0)) ∧ w'.cell? ⟨(ad256.add ((x5_2).toNat * 3)).block, (ad256.add ((x5_2).toNat * 3)).off + 1, none⟩ = some (.int .i64 ((rd_T52 l0_1 x5_2).f1)) ∧ w'.cell? ⟨(ad256.add ((x5_2).toNat * 3)).block, (ad256.add ((x5_2).toNat * 3)).off + 2, none⟩ = some (.slice A256_2 ((rd_T52 l0_1 x5_2).f2).length c256_2) ∧ w'.cell? (ad257.add ((x5_2).toNat * 3)) = some (.string ((rd_T52 l1_1 x5_2).f0)) ∧ w'.cell? ⟨(ad257.add ((x5_2).toNat * 3)).block, (ad257.add ((x5_2).toNat * 3)).off + 1, none⟩ = some (.int .i64 ((rd_T52 l1_1 x5_2).f1)) ∧ w'.cell? ⟨(ad257.add ((x5_2).toNat * 3)).block, (ad257.add ((x5_2).toNat * 3)).off + 2, none⟩ = some (.slice A257_2 ((rd_T52 l1_1 x5_2).f2).length c257_2)) ∧ (w'.heap[gb254]? = some (.cells #[.int .i64 a0_0, .slice (some ad256) l0_1.length c0_1] 24 (0, 0))) ∧ (w'.heap[gb255]? = some (.cells #[.int .i64 a1_0, .slice (some ad257) l1_1.length c1_1] 24 (0, 0))) ∧ (w'.heap[s_.1]? = some (.cells #[.string (⟨#[]⟩ : ByteArray), .int .i64 0, .slice none 0 0] 52 (0, 0))) ∧ (w'.heap[s_.2]? = some (.cells #[.string (⟨#[]⟩ : ByteArray), .int .i64 0, .slice none 0 0] 52 (0, 0))) ∧ (w.heap.size ≤ s_.1) ∧ (w.heap.size ≤ s_.1) ∧ (gb254 ≠ s_.1) ∧ (s_.1 ≠ gb254) ∧ (gb255 ≠ s_.1) ∧ (s_.1 ≠ gb255) ∧ (s_.2 ≠ s_.1) ∧ (s_.1 ≠ s_.2) ∧ (w.heap.size ≤ s_.2) ∧ (w.heap.size ≤ s_.2) ∧ (gb254 ≠ s_.2) ∧ (s_.2 ≠ gb254) ∧ (gb255 ≠ s_.2) ∧ (s_.2 ≠ gb255) ∧ (Below w.heap.size w w')) ?_ ?_
            rotate_left
            ·intro hCont
             refine two_ (i := 10) (j := 11) (Ni := some 6) (Nj := some 7) #[true, true, true, true, true, true, true, true, true, true, true, false, false, false] #[true, true, true, true, true, true, true, true, true, true, false, true, false, false] rfl rfl rfl rfl (two_of HT_.out (by kernel_rfl)) (by decide) (by decide) (fun K hK => ?_) (fun K hK => ?_)
             ·skip
              refine box_step ?hg (N := 6) ?hd (cs := #[.string (⟨#[]⟩ : ByteArray), .int .i64 0, .slice none 0 0]) (t := 52) ?hr ?_; (case hd => rfl); (case hg => rfl); (case hr => first | (go_simp; done) | (go_simp; rfl))
              intro gb258 hg w24 hbox hb
              have BK258 := Aside0.mk (hbox)
              have GW258 := geB w hg
              have GE258 := geB w hg
              have NB254_258 := neL BK254 hg
              have NB258_254 := neG BK254 hg
              have NB255_258 := neL BK255 hg
              have NB258_255 := neG BK255 hg
              replace BK254 := blB BK254 hb
              replace BK255 := blB BK255 hb
              replace HB := Aside0.mk (below_step bel hb)
              clear hb hbox hg
              refine hK.out _ _ ⟨(blk_cell BK254.out 0).trans rfl, (blk_cell BK254.out 1).trans rfl, (blk_cell BK255.out 0).trans rfl, (blk_cell BK255.out 1).trans rfl, (oc hw256_0), (oc hw256_1), (oc hw256_2), (oc hw257_0), (oc hw257_1), (oc hw257_2)⟩ (fun hHeld => ?_)
              clear hK K
              refine norm_ (a' := ?_) ?_ ?_
              rotate_left
              ·show Act.put _ (some 6) _ = _
               simp only [Act.put, List.setIfInBounds_toArray, List.set_cons_zero, List.set_cons_succ, i64_w, i32_w]
               rfl
              refine sOn 11 (some 7) (fun K hK => ?_)
              refine box_step ?hg (N := 7) ?hd (cs := #[.string (⟨#[]⟩ : ByteArray), .int .i64 0, .slice none 0 0]) (t := 52) ?hr ?_; (case hd => rfl); (case hg => rfl); (case hr => first | (go_simp; done) | (go_simp; rfl))
              intro gb259 hg w25 hbox hb
              have BK259 := Aside0.mk (hbox)
              have GW259 := geB w hg
              have GE259 := geB w hg
              have NB254_259 := neL BK254 hg
              have NB259_254 := neG BK254 hg
              have NB255_259 := neL BK255 hg
              have NB259_255 := neG BK255 hg
              have NB258_259 := neL BK258 hg
              have NB259_258 := neG BK258 hg
              replace BK254 := blB BK254 hb
              replace BK255 := blB BK255 hb
              replace BK258 := blB BK258 hb
              replace HB := Aside0.mk (below_step bel hb)
              clear hb hbox hg
              refine hK.out _ _ ⟨(blk_cell BK254.out 0).trans rfl, (blk_cell BK254.out 1).trans rfl, (blk_cell BK255.out 0).trans rfl, (blk_cell BK255.out 1).trans rfl, (oc hw256_0), (oc hw256_1), (oc hw256_2), (oc hw257_0), (oc hw257_1), (oc hw257_2)⟩ (fun hHeld => ?_)
              clear hK K
              refine norm_ (a' := ?_) ?_ ?_
              rotate_left
              ·show Act.put _ (some 7) _ = _
               simp only [Act.put, List.setIfInBounds_toArray, List.set_cons_zero, List.set_cons_succ, i64_w, i32_w]
               rfl
              exact norm_ (by simp only [putAll, Act.put, List.setIfInBounds_toArray, List.set_cons_zero, List.set_cons_succ]) (hCont (gb258, gb259) _ ⟨hHeld, (bk BK254), (bk BK255), (bk BK258), (bk BK259), GW258.out, GE258.out, NB254_258.out, NB258_254.out, NB255_258.out, NB258_255.out, NB259_258.out, NB258_259.out, GW259.out, GE259.out, NB254_259.out, NB259_254.out, NB255_259.out, NB259_255.out, bel⟩)
             ·skip
              refine box_step ?hg (N := 7) ?hd (cs := #[.string (⟨#[]⟩ : ByteArray), .int .i64 0, .slice none 0 0]) (t := 52) ?hr ?_; (case hd => rfl); (case hg => rfl); (case hr => first | (go_simp; done) | (go_simp; rfl))
              intro gb259 hg w24 hbox hb
              have BK259 := Aside0.mk (hbox)
              have GW259 := geB w hg
              have GE259 := geB w hg
              have NB254_259 := neL BK254 hg
              have NB259_254 := neG BK254 hg
              have NB255_259 := neL BK255 hg
              have NB259_255 := neG BK255 hg
              replace BK254 := blB BK254 hb
              replace BK255 := blB BK255 hb
              replace HB := Aside0.mk (below_step bel hb)
              clear hb hbox hg
              refine hK.out _ _ ⟨(blk_cell BK254.out 0).trans rfl, (blk_cell BK254.out 1).trans rfl, (blk_cell BK255.out 0).trans rfl, (blk_cell BK255.out 1).trans rfl, (oc hw256_0), (oc hw256_1), (oc hw256_2), (oc hw257_0), (oc hw257_1), (oc hw257_2)⟩ (fun hHeld => ?_)
              clear hK K
              refine norm_ (a' := ?_) ?_ ?_
              rotate_left
              ·show Act.put _ (some 7) _ = _
               simp only [Act.put, List.setIfInBounds_toArray, List.set_cons_zero, List.set_cons_succ, i64_w, i32_w]
               rfl
              refine sOn 10 (some 6) (fun K hK => ?_)
              refine box_step ?hg (N := 6) ?hd (cs := #[.string (⟨#[]⟩ : ByteArray), .int .i64 0, .slice none 0 0]) (t := 52) ?hr ?_; (case hd => rfl); (case hg => rfl); (case hr => first | (go_simp; done) | (go_simp; rfl))
              intro gb258 hg w25 hbox hb
              have BK258 := Aside0.mk (hbox)
              have GW258 := geB w hg
              have GE258 := geB w hg
              have NB254_258 := neL BK254 hg
              have NB258_254 := neG BK254 hg
              have NB255_258 := neL BK255 hg
              have NB258_255 := neG BK255 hg
              have NB259_258 := neL BK259 hg
              have NB258_259 := neG BK259 hg
              replace BK254 := blB BK254 hb
              replace BK255 := blB BK255 hb
              replace BK259 := blB BK259 hb
              replace HB := Aside0.mk (below_step bel hb)
              clear hb hbox hg
              refine hK.out _ _ ⟨(blk_cell BK254.out 0).trans rfl, (blk_cell BK254.out 1).trans rfl, (blk_cell BK255.out 0).trans rfl, (blk_cell BK255.out 1).trans rfl, (oc hw256_0), (oc hw256_1), (oc hw256_2), (oc hw257_0), (oc hw257_1), (oc hw257_2)⟩ (fun hHeld => ?_)
              clear hK K
              refine norm_ (a' := ?_) ?_ ?_
              rotate_left
              ·show Act.put _ (some 6) _ = _
               simp only [Act.put, List.setIfInBounds_toArray, List.set_cons_zero, List.set_cons_succ, i64_w, i32_w]
               rfl
              exact norm_ (by simp only [putAll, Act.put, List.setIfInBounds_toArray, List.set_cons_zero, List.set_cons_succ]) (hCont (gb258, gb259) _ ⟨hHeld, (bk BK254), (bk BK255), (bk BK258), (bk BK259), GW258.out, GE258.out, NB254_258.out, NB258_254.out, NB255_258.out, NB258_255.out, NB259_258.out, NB258_259.out, GW259.out, GE259.out, NB254_259.out, NB259_254.out, NB255_259.out, NB259_255.out, bel⟩)
            rintro ⟨gb258, gb259⟩ w26 ⟨hS_, h0_, h1_, h2_, h3_, h4_, h5_, h6_, h7_, h8_, h9_, h10_, h11_, h12_, h13_, h14_, h15_, h16_, h17_, h18_⟩
            have n0_ : Aside0 (w26.heap[gb254]? = some (.cells #[.int .i64 a0_0, .slice (some ad256) l0_1.length c0_1] 24 (0, 0))) := ⟨h0_⟩
            have n1_ : Aside0 (w26.heap[gb255]? = some (.cells #[.int .i64 a1_0, .slice (some ad257) l1_1.length c1_1] 24 (0, 0))) := ⟨h1_⟩
            have n2_ : Aside0 (w26.heap[gb258]? = some (.cells #[.string (⟨#[]⟩ : ByteArray), .int .i64 0, .slice none 0 0] 52 (0, 0))) := ⟨h2_⟩
            have n3_ : Aside0 (w26.heap[gb259]? = some (.cells #[.string (⟨#[]⟩ : ByteArray), .int .i64 0, .slice none 0 0] 52 (0, 0))) := ⟨h3_⟩
            have n4_ : Aside0 (w.heap.size ≤ gb258) := ⟨h4_⟩
            have n5_ : Aside0 (w.heap.size ≤ gb258) := ⟨h5_⟩
            have n6_ : Aside0 (gb254 ≠ gb258) := ⟨h6_⟩
            have n7_ : Aside0 (gb258 ≠ gb254) := ⟨h7_⟩
            have n8_ : Aside0 (gb255 ≠ gb258) := ⟨h8_⟩
            have n9_ : Aside0 (gb258 ≠ gb255) := ⟨h9_⟩
            have n10_ : Aside0 (gb259 ≠ gb258) := ⟨h10_⟩
            have n11_ : Aside0 (gb258 ≠ gb259) := ⟨h11_⟩
            have n12_ : Aside0 (w.heap.size ≤ gb259) := ⟨h12_⟩
            have n13_ : Aside0 (w.heap.size ≤ gb259) := ⟨h13_⟩
            have n14_ : Aside0 (gb254 ≠ gb259) := ⟨h14_⟩
            have n15_ : Aside0 (gb259 ≠ gb254) := ⟨h15_⟩
            have n16_ : Aside0 (gb255 ≠ gb259) := ⟨h16_⟩
            have n17_ : Aside0 (gb259 ≠ gb255) := ⟨h17_⟩
            have n18_ : Aside0 (Below w.heap.size w w26) := ⟨h18_⟩
            clear BK254
            clear BK255
            clear HB
            clear h0_ h1_ h2_ h3_ h4_ h5_ h6_ h7_ h8_ h9_ h10_ h11_ h12_ h13_ h14_ h15_ h16_ h17_ h18_
            have BK254 := n0_
            have BK255 := n1_
            have BK258 := n2_
            have BK259 := n3_
            have GW258 := n4_
            have GE258 := n5_
            have NB254_258 := n6_
            have NB258_254 := n7_
            have NB255_258 := n8_
            have NB258_255 := n9_
            have NB259_258 := n10_
            have NB258_259 := n11_
            have GW259 := n12_
            have GE259 := n13_
            have NB254_259 := n14_
            have NB259_254 := n15_
            have NB255_259 := n16_
            have NB259_255 := n17_
            have HB := n18_
            clear n0_ n1_ n2_ n3_ n4_ n5_ n6_ n7_ n8_ n9_ n10_ n11_ n12_ n13_ n14_ n15_ n16_ n17_ n18_
            have hHeld : w26.cell? ⟨gb254, 0, none⟩ = some (.int .i64 a0_0) ∧ w26.cell? ⟨gb254, 1, none⟩ = some (.slice (some ad256) l0_1.length c0_1) ∧ w26.cell? ⟨gb255, 0, none⟩ = some (.int .i64 a1_0) ∧ w26.cell? ⟨gb255, 1, none⟩ = some (.slice (some ad257) l1_1.length c1_1) ∧ w26.cell? (ad256.add ((x5_2).toNat * 3)) = some (.string ((rd_T52 l0_1 x5_2).f0)) ∧ w26.cell? ⟨(ad256.add ((x5_2).toNat * 3)).block, (ad256.add ((x5_2).toNat * 3)).off + 1, none⟩ = some (.int .i64 ((rd_T52 l0_1 x5_2).f1)) ∧ w26.cell? ⟨(ad256.add ((x5_2).toNat * 3)).block, (ad256.add ((x5_2).toNat * 3)).off + 2, none⟩ = some (.slice A256_2 ((rd_T52 l0_1 x5_2).f2).length c256_2) ∧ w26.cell? (ad257.add ((x5_2).toNat * 3)) = some (.string ((rd_T52 l1_1 x5_2).f0)) ∧ w26.cell? ⟨(ad257.add ((x5_2).toNat * 3)).block, (ad257.add ((x5_2).toNat * 3)).off + 1, none⟩ = some (.int .i64 ((rd_T52 l1_1 x5_2).f1)) ∧ w26.cell? ⟨(ad257.add ((x5_2).toNat * 3)).block, (ad257.add ((x5_2).toNat * 3)).off + 2, none⟩ = some (.slice A257_2 ((rd_T52 l1_1 x5_2).f2).length c257_2) := hS_
            refine norm_ (a' := ?_) ?_ ?_
            rotate_left
            ·simp only [putAll, Act.put, List.setIfInBounds_toArray, List.set_cons_zero, List.set_cons_succ]
             rfl
            refine sOn 12 none (fun K hK => ?_)
            have hs27 : w26.cell? ⟨gb258, 0, none⟩ = some (.string (⟨#[]⟩ : ByteArray)) := (blk_cell BK258.out 0).trans rfl
            have hfs27 := blk_frozen BK258.out 0
            have hns27_0 := NB254_258.out
            have hns27_1 := NB255_258.out
            have hns27_3 := NB259_258.out
            have hms27_0 := NB258_254.out
            have hms27_1 := NB258_255.out
            have hms27_3 := NB258_259.out
            have hs28 : w26.cell? ⟨gb258, 1, none⟩ = some (.int .i64 0) := (blk_cell BK258.out 1).trans rfl
            have hfs28 := blk_frozen BK258.out 1
            have hns28_0 := NB254_258.out
            have hns28_1 := NB255_258.out
            have hns28_3 := NB259_258.out
            have hms28_0 := NB258_254.out
            have hms28_1 := NB258_255.out
            have hms28_3 := NB258_259.out
            have hs29 : w26.cell? ⟨gb258, 2, none⟩ = some (.slice none 0 0) := (blk_cell BK258.out 2).trans rfl
            have hfs29 := blk_frozen BK258.out 2
            have hns29_0 := NB254_258.out
            have hns29_1 := NB255_258.out
            have hns29_3 := NB259_258.out
            have hms29_0 := NB258_254.out
            have hms29_1 := NB258_255.out
            have hms29_3 := NB258_259.out
            refine skip_ (w1 := ?_) (by rfl) rfl ?_ ?_
            rotate_left
            ·go_simp
             rfl
            refine hK.out _ _ ⟨((cell_far (p := ⟨gb258, _, none⟩) NB254_258.out _).trans (((cell_far (p := ⟨gb258, _, none⟩) NB254_258.out _).trans (((cell_far (p := ⟨gb258, _, none⟩) NB254_258.out _).trans (hHeld.1)))))), ((cell_far (p := ⟨gb258, _, none⟩) NB254_258.out _).trans (((cell_far (p := ⟨gb258, _, none⟩) NB254_258.out _).trans (((cell_far (p := ⟨gb258, _, none⟩) NB254_258.out _).trans (hHeld.2.1)))))), ((cell_far (p := ⟨gb258, _, none⟩) NB255_258.out _).trans (((cell_far (p := ⟨gb258, _, none⟩) NB255_258.out _).trans (((cell_far (p := ⟨gb258, _, none⟩) NB255_258.out _).trans (hHeld.2.2.1)))))), ((cell_far (p := ⟨gb258, _, none⟩) NB255_258.out _).trans (((cell_far (p := ⟨gb258, _, none⟩) NB255_258.out _).trans (((cell_far (p := ⟨gb258, _, none⟩) NB255_258.out _).trans (hHeld.2.2.2.1)))))), ((cell_far (p := ⟨gb258, _, none⟩) (far_ne34 hw256_0 GW258.out) _).trans (((cell_far (p := ⟨gb258, _, none⟩) (far_ne34 hw256_0 GW258.out) _).trans (((cell_far (p := ⟨gb258, _, none⟩) (far_ne34 hw256_0 GW258.out) _).trans (hHeld.2.2.2.2.1)))))), ((cell_far (p := ⟨gb258, _, none⟩) (far_ne34 hw256_1 GW258.out) _).trans (((cell_far (p := ⟨gb258, _, none⟩) (far_ne34 hw256_1 GW258.out) _).trans (((cell_far (p := ⟨gb258, _, none⟩) (far_ne34 hw256_1 GW258.out) _).trans (hHeld.2.2.2.2.2.1)))))), ((cell_far (p := ⟨gb258, _, none⟩) (far_ne34 hw256_2 GW258.out) _).trans (((cell_far (p := ⟨gb258, _, none⟩) (far_ne34 hw256_2 GW258.out) _).trans (((cell_far (p := ⟨gb258, _, none⟩) (far_ne34 hw256_2 GW258.out) _).trans (hHeld.2.2.2.2.2.2.1)))))), ((cell_far (p := ⟨gb258, _, none⟩) (far_ne34 hw257_0 GW258.out) _).trans (((cell_far (p := ⟨gb258, _, none⟩) (far_ne34 hw257_0 GW258.out) _).trans (((cell_far (p := ⟨gb258, _, none⟩) (far_ne34 hw257_0 GW258.out) _).trans (hHeld.2.2.2.2.2.2.2.1)))))), ((cell_far (p := ⟨gb258, _, none⟩) (far_ne34 hw257_1 GW258.out) _).trans (((cell_far (p := ⟨gb258, _, none⟩) (far_ne34 hw257_1 GW258.out) _).trans (((cell_far (p := ⟨gb258, _, none⟩) (far_ne34 hw257_1 GW258.out) _).trans (hHeld.2.2.2.2.2.2.2.2.1)))))), ((cell_far (p := ⟨gb258, _, none⟩) (far_ne34 hw257_2 GW258.out) _).trans (((cell_far (p := ⟨gb258, _, none⟩) (far_ne34 hw257_2 GW258.out) _).trans (((cell_far (p := ⟨gb258, _, none⟩) (far_ne34 hw257_2 GW258.out) _).trans (hHeld.2.2.2.2.2.2.2.2.2))))))⟩ (fun hHeld => ?_)
            clear hK K
            refine sOn 13 none (fun K hK => ?_)
            have hs30 : w26.cell? ⟨gb259, 0, none⟩ = some (.string (⟨#[]⟩ : ByteArray)) := (blk_cell BK259.out 0).trans rfl
            have hfs30 := blk_frozen BK259.out 0
            have hns30_0 := NB254_259.out
            have hns30_1 := NB255_259.out
            have hns30_2 := NB258_259.out
            have hms30_0 := NB259_254.out
            have hms30_1 := NB259_255.out
            have hms30_2 := NB259_258.out
            have hs31 : w26.cell? ⟨gb259, 1, none⟩ = some (.int .i64 0) := (blk_cell BK259.out 1).trans rfl
            have hfs31 := blk_frozen BK259.out 1
            have hns31_0 := NB254_259.out
            have hns31_1 := NB255_259.out
            have hns31_2 := NB258_259.out
            have hms31_0 := NB259_254.out
            have hms31_1 := NB259_255.out
            have hms31_2 := NB259_258.out
            have hs32 : w26.cell? ⟨gb259, 2, none⟩ = some (.slice none 0 0) := (blk_cell BK259.out 2).trans rfl
            have hfs32 := blk_frozen BK259.out 2
            have hns32_0 := NB254_259.out
            have hns32_1 := NB255_259.out
            have hns32_2 := NB258_259.out
            have hms32_0 := NB259_254.out
            have hms32_1 := NB259_255.out
            have hms32_2 := NB259_258.out
            refine skip_ (w1 := ?_) (by rfl) rfl ?_ ?_
            rotate_left
            ·go_simp
             rfl
            refine hK.out _ _ ⟨((cell_far (p := ⟨gb259, _, none⟩) NB254_259.out _).trans (((cell_far (p := ⟨gb259, _, none⟩) NB254_259.out _).trans (((cell_far (p := ⟨gb259, _, none⟩) NB254_259.out _).trans (hHeld.1)))))), ((cell_far (p := ⟨gb259, _, none⟩) NB254_259.out _).trans (((cell_far (p := ⟨gb259, _, none⟩) NB254_259.out _).trans (((cell_far (p := ⟨gb259, _, none⟩) NB254_259.out _).trans (hHeld.2.1)))))), ((cell_far (p := ⟨gb259, _, none⟩) NB255_259.out _).trans (((cell_far (p := ⟨gb259, _, none⟩) NB255_259.out _).trans (((cell_far (p := ⟨gb259, _, none⟩) NB255_259.out _).trans (hHeld.2.2.1)))))), ((cell_far (p := ⟨gb259, _, none⟩) NB255_259.out _).trans (((cell_far (p := ⟨gb259, _, none⟩) NB255_259.out _).trans (((cell_far (p := ⟨gb259, _, none⟩) NB255_259.out _).trans (hHeld.2.2.2.1)))))), ((cell_far (p := ⟨gb259, _, none⟩) (far_ne34 hw256_0 GW259.out) _).trans (((cell_far (p := ⟨gb259, _, none⟩) (far_ne34 hw256_0 GW259.out) _).trans (((cell_far (p := ⟨gb259, _, none⟩) (far_ne34 hw256_0 GW259.out) _).trans (hHeld.2.2.2.2.1)))))), ((cell_far (p := ⟨gb259, _, none⟩) (far_ne34 hw256_1 GW259.out) _).trans (((cell_far (p := ⟨gb259, _, none⟩) (far_ne34 hw256_1 GW259.out) _).trans (((cell_far (p := ⟨gb259, _, none⟩) (far_ne34 hw256_1 GW259.out) _).trans (hHeld.2.2.2.2.2.1)))))), ((cell_far (p := ⟨gb259, _, none⟩) (far_ne34 hw256_2 GW259.out) _).trans (((cell_far (p := ⟨gb259, _, none⟩) (far_ne34 hw256_2 GW259.out) _).trans (((cell_far (p := ⟨gb259, _, none⟩) (far_ne34 hw256_2 GW259.out) _).trans (hHeld.2.2.2.2.2.2.1)))))), ((cell_far (p := ⟨gb259, _, none⟩) (far_ne34 hw257_0 GW259.out) _).trans (((cell_far (p := ⟨gb259, _, none⟩) (far_ne34 hw257_0 GW259.out) _).trans (((cell_far (p := ⟨gb259, _, none⟩) (far_ne34 hw257_0 GW259.out) _).trans (hHeld.2.2.2.2.2.2.2.1)))))), ((cell_far (p := ⟨gb259, _, none⟩) (far_ne34 hw257_1 GW259.out) _).trans (((cell_far (p := ⟨gb259, _, none⟩) (far_ne34 hw257_1 GW259.out) _).trans (((cell_far (p := ⟨gb259, _, none⟩) (far_ne34 hw257_1 GW259.out) _).trans (hHeld.2.2.2.2.2.2.2.2.1)))))), ((cell_far (p := ⟨gb259, _, none⟩) (far_ne34 hw257_2 GW259.out) _).trans (((cell_far (p := ⟨gb259, _, none⟩) (far_ne34 hw257_2 GW259.out) _).trans (((cell_far (p := ⟨gb259, _, none⟩) (far_ne34 hw257_2 GW259.out) _).trans (hHeld.2.2.2.2.2.2.2.2.2))))))⟩ (fun hHeld => ?_)
            clear hK K
            refine done_ (done_of HT_.out (by kernel_rfl)) ?_
            have hnb33 := NB258_254.out
            have hnc33 := NB254_258.out
            have hnb34 := NB258_255.out
            have hnc34 := NB255_258.out
            have hnb35 := NB258_259.out
            have hnc35 := NB259_258.out
            obtain ⟨hcz36_0, hcz36_1, hcz36_2, hfz36_0, hfz36_1, hfz36_2⟩ := bq3 BK258
            have hnb37 := NB259_254.out
            have hnc37 := NB254_259.out
            have hnb38 := NB259_255.out
            have hnc38 := NB255_259.out
            obtain ⟨hcz39_0, hcz39_1, hcz39_2, hfz39_0, hfz39_1, hfz39_2⟩ := bq3 BK259
            try go_wp2_with (first | (go_at_call 69; (with_reducible refine (paraphrastref01_SameTuples.calls k2 _ _ ((rd_T52 l0_1 x5_2).f2) _ _ ((rd_T52 l1_1 x5_2).f2) true _ ?side1 ?side2 ?side3 ?side4 A19.out).mono ?_); (case side1 => exact Kd.C_below HR256_2.out bel); (case side2 => exact HC256_2.out); (case side3 => exact Kd.C_below HR257_2.out bel); (case side4 => exact HC257_2.out); rintro e w' ⟨rfl, ⟨nd, rfl⟩⟩))
            go_roundg k2
            case measure => have := HJ2.out; have := HK2.out; omega
            case rel => exact ⟨(wrap64 (x5_2 + 1)), eS, H', ⟨by have := HJ2.out; have := HK2.out; omega⟩, ⟨by (with_reducible repeat (first | refine blk_drewN ?_ _ | refine blk_drew ?_ | refine blk_alloc ?_ _)); refine blk_far ?_ NB254_259.out _; (with_reducible repeat (first | refine blk_drewN ?_ _ | refine blk_drew ?_ | refine blk_alloc ?_ _)); refine blk_far ?_ NB254_259.out _; (with_reducible repeat (first | refine blk_drewN ?_ _ | refine blk_drew ?_ | refine blk_alloc ?_ _)); refine blk_far ?_ NB254_259.out _; (with_reducible repeat (first | refine blk_drewN ?_ _ | refine blk_drew ?_ | refine blk_alloc ?_ _)); refine blk_far ?_ NB254_258.out _; (with_reducible repeat (first | refine blk_drewN ?_ _ | refine blk_drew ?_ | refine blk_alloc ?_ _)); refine blk_far ?_ NB254_258.out _; (with_reducible repeat (first | refine blk_drewN ?_ _ | refine blk_drew ?_ | refine blk_alloc ?_ _)); refine blk_far ?_ NB254_258.out _; (with_reducible repeat (first | refine blk_drewN ?_ _ | refine blk_drew ?_ | refine blk_alloc ?_ _)); exact BK254.out⟩, ⟨by (with_reducible repeat (first | refine blk_drewN ?_ _ | refine blk_drew ?_ | refine blk_alloc ?_ _)); refine blk_far ?_ NB255_259.out _; (with_reducible repeat (first | refine blk_drewN ?_ _ | refine blk_drew ?_ | refine blk_alloc ?_ _)); refine blk_far ?_ NB255_259.out _; (with_reducible repeat (first | refine blk_drewN ?_ _ | refine blk_drew ?_ | refine blk_alloc ?_ _)); refine blk_far ?_ NB255_259.out _; (with_reducible repeat (first | refine blk_drewN ?_ _ | refine blk_drew ?_ | refine blk_alloc ?_ _)); refine blk_far ?_ NB255_258.out _; (with_reducible repeat (first | refine blk_drewN ?_ _ | refine blk_drew ?_ | refine blk_alloc ?_ _)); refine blk_far ?_ NB255_258.out _; (with_reducible repeat (first | refine blk_drewN ?_ _ | refine blk_drew ?_ | refine blk_alloc ?_ _)); refine blk_far ?_ NB255_258.out _; (with_reducible repeat (first | refine blk_drewN ?_ _ | refine blk_drew ?_ | refine blk_alloc ?_ _)); exact BK255.out⟩, ⟨bel⟩⟩
           ·replace c20 := Bool.eq_false_iff.mpr c20
            subst c20
            have H1 : (some false) = some r := by rw [if_neg (show ¬ (false = true) by decide)] at H; exact H
            clear H
            have H := H1
            clear H1
            obtain rfl := Option.some.inj H
            have hnb40 := NB254_255.out
            have hnc40 := NB255_254.out
            obtain ⟨hcz41_0, hcz41_1, hfz41_0, hfz41_1⟩ := bq2 BK254
            try go_wp2
            replace BK254 := Aside0.mk (blk_drew BK254.out)
            replace BK255 := Aside0.mk (blk_drew BK255.out)
            replace HB := Aside0.mk (below_drew1 HB.out)
            have p256 : 0 ≤ (x5_2 : Int) := dtr
            have q256 : x5_2 < (l0_1.length : Int) := dtr
            obtain ⟨ad256, A256_2, c256_2, e256, hx256_0, hx256_1, hx256_2, hl256_2, hi256_2⟩ := at_T52 HR0_1.out x5_2 p256 q256
            have hw256_2 := hx256_2
            have hw256_1 := hx256_1
            have hw256_0 := hx256_0
            cases e256
            replace hx256_0 := oc hx256_0
            replace hx256_1 := oc hx256_1
            replace hx256_2 := oc hx256_2
            have HR256_2 := Aside0.mk hi256_2
            have HC256_2 := Aside0.mk hl256_2
            clear hi256_2 hl256_2
            replace p256 := eq_true p256
            replace q256 := eq_true q256
            have p257 : 0 ≤ (x5_2 : Int) := dtr
            have q257 : x5_2 < (l1_1.length : Int) := dtr
            obtain ⟨ad257, A257_2, c257_2, e257, hx257_0, hx257_1, hx257_2, hl257_2, hi257_2⟩ := at_T52 HR1_1.out x5_2 p257 q257
            have hw257_2 := hx257_2
            have hw257_1 := hx257_1
            have hw257_0 := hx257_0
            cases e257
            replace hx257_0 := oc hx257_0
            replace hx257_1 := oc hx257_1
            replace hx257_2 := oc hx257_2
            have HR257_2 := Aside0.mk hi257_2
            have HC257_2 := Aside0.mk hl257_2
            clear hi257_2 hl257_2
            replace p257 := eq_true p257
            replace q257 := eq_true q257
            refine start_ (n := 14) (S := fun w' => w'.cell? ⟨gb254, 0, none⟩ = some (.int .i64 a0_0) ∧ w'.cell? ⟨gb254, 1, none⟩ = some (.slice (some ad256) l0_1.length c0_1) ∧ w'.cell? ⟨gb255, 0, none⟩ = some (.int .i64 a1_0) ∧ w'.cell? ⟨gb255, 1, none⟩ = some (.slice (some ad257) l1_1.length c1_1) ∧ w'.cell? (ad256.add ((x5_2).toNat * 3)) = some (.string ((rd_T52 l0_1 x5_2).f0)) ∧ w'.cell? ⟨(ad256.add ((x5_2).toNat * 3)).block, (ad256.add ((x5_2).toNat * 3)).off + 1, none⟩ = some (.int .i64 ((rd_T52 l0_1 x5_2).f1)) ∧ w'.cell? ⟨(ad256.add ((x5_2).toNat * 3)).block, (ad256.add ((x5_2).toNat * 3)).off + 2, none⟩ = some (.slice A256_2 ((rd_T52 l0_1 x5_2).f2).length c256_2) ∧ w'.cell? (ad257.add ((x5_2).toNat * 3)) = some (.string ((rd_T52 l1_1 x5_2).f0)) ∧ w'.cell? ⟨(ad257.add ((x5_2).toNat * 3)).block, (ad257.add ((x5_2).toNat * 3)).off + 1, none⟩ = some (.int .i64 ((rd_T52 l1_1 x5_2).f1)) ∧ w'.cell? ⟨(ad257.add ((x5_2).toNat * 3)).block, (ad257.add ((x5_2).toNat * 3)).off + 2, none⟩ = some (.slice A257_2 ((rd_T52 l1_1 x5_2).f2).length c257_2)) (ds := []) #[false, false, false, false, false, false, false, false, false, false, false, false, false, false] (by kernel_rfl) rfl rfl ⟨(blk_cell BK254.out 0).trans rfl, (blk_cell BK254.out 1).trans rfl, (blk_cell BK255.out 0).trans rfl, (blk_cell BK255.out 1).trans rfl, (oc hw256_0), (oc hw256_1), (oc hw256_2), (oc hw257_0), (oc hw257_1), (oc hw257_2)⟩ (fun hHeld => ?_); refine with_tabW paraphrastref01_Same.tab6 paraphrastref01_Same.bits6 (fun HT_ HW_ => ?_)
            generalize wr.drew = w42 at BK254 BK255 HB HR256_2 HR257_2 hx256_0 hx256_1 hx256_2 hx257_0 hx257_1 hx257_2 hHeld ⊢
            refine sPu 0 (some 29) ?_
            refine sPu 2 (some 31) ?_
            refine sPu 5 (some 34) ?_
            refine sPu 7 (some 36) ?_
            refine sTk 1 (some 30) ?_
            refine sPu 3 (some 32) ?_
            refine sTk 4 (some 33) ?_
            refine sTk 6 (some 35) ?_
            refine sPu 8 (some 37) ?_
            refine sTk 9 (some 38) ?_
            refine join_ (σ := Nat × Nat) 2 #[true, true, true, true, true, true, true, true, true, true, true, true, false, false] (fun s_ => [(6, .pointer (some ⟨s_.1, 0, none⟩)), (7, .pointer (some ⟨s_.2, 0, none⟩))]) (fun s_ w' => (w'.cell? ⟨gb254, 0, none⟩ = some (.int .i64 a0_0) ∧ w'.cell? ⟨gb254, 1, none⟩ = some (.slice (some ad256) l0_1.length c0_1) ∧ w'.cell? ⟨gb255, 0, none⟩ = some (.int .i64 a1_0) ∧ w'.cell? ⟨gb255, 1, none⟩ = some (.slice (some ad257) l1_1.length c1_1) ∧ w'.cell? (ad256.add ((x5_2).toNat * 3)) = some (.string ((rd_T52 l0_1 x5_2).f0)) ∧ w'.cell? ⟨(ad256.add ((x5_2).toNat * 3)).block, (ad256.add ((x5_2).toNat * 3)).off + 1, none⟩ = some (.int .i64 ((rd_T52 l0_1 x5_2).f1)) ∧ w'.cell? ⟨(ad256.add ((x5_2).toNat * 3)).block, (ad256.add ((x5_2).toNat * 3)).off + 2, none⟩ = some (.slice A256_2 ((rd_T52 l0_1 x5_2).f2).length c256_2) ∧ w'.cell? (ad257.add ((x5_2).toNat * 3)) = some (.string ((rd_T52 l1_1 x5_2).f0)) ∧ w'.cell? ⟨(ad257.add ((x5_2).toNat * 3)).block, (ad257.add ((x5_2).toNat * 3)).off + 1, none⟩ = some (.int .i64 ((rd_T52 l1_1 x5_2).f1)) ∧ w'.cell? ⟨(ad257.add ((x5_2).toNat * 3)).block, (ad257.add ((x5_2).toNat * 3)).off + 2, none⟩ = some (.slice A257_2 ((rd_T52 l1_1 x5_2).f2).length c257_2)) ∧ (w'.heap[gb254]? = some (.cells #[.int .i64 a0_0, .slice (some ad256) l0_1.length c0_1] 24 (0, 0))) ∧ (w'.heap[gb255]? = some (.cells #[.int .i64 a1_0, .slice (some ad257) l1_1.length c1_1] 24 (0, 0))) ∧ (w'.heap[s_.1]? = some (.cells #[.string (⟨#[]⟩ : ByteArray), .int .i64 0, .slice none 0 0] 52 (0, 0))) ∧ (w'.heap[s_.2]? = some (.cells #[.string (⟨#[]⟩ : ByteArray), .int .i64 0, .slice none 0 0] 52 (0, 0))) ∧ (w.heap.size ≤ s_.1) ∧ (w.heap.size ≤ s_.1) ∧ (gb254 ≠ s_.1) ∧ (s_.1 ≠ gb254) ∧ (gb255 ≠ s_.1) ∧ (s_.1 ≠ gb255) ∧ (s_.2 ≠ s_.1) ∧ (s_.1 ≠ s_.2) ∧ (w.heap.size ≤ s_.2) ∧ (w.heap.size ≤ s_.2) ∧ (gb254 ≠ s_.2) ∧ (s_.2 ≠ gb254) ∧ (gb255 ≠ s_.2) ∧ (s_.2 ≠ gb255) ∧ (Below w.heap.size w w')) ?_ ?_
            rotate_left
            ·intro hCont
             refine two_ (i := 10) (j := 11) (Ni := some 6) (Nj := some 7) #[true, true, true, true, true, true, true, true, true, true, true, false, false, false] #[true, true, true, true, true, true, true, true, true, true, false, true, false, false] rfl rfl rfl rfl (two_of HT_.out (by kernel_rfl)) (by decide) (by decide) (fun K hK => ?_) (fun K hK => ?_)
             ·skip
              refine box_step ?hg (N := 6) ?hd (cs := #[.string (⟨#[]⟩ : ByteArray), .int .i64 0, .slice none 0 0]) (t := 52) ?hr ?_; (case hd => rfl); (case hg => rfl); (case hr => first | (go_simp; done) | (go_simp; rfl))
              intro gb258 hg w43 hbox hb
              have BK258 := Aside0.mk (hbox)
              have GW258 := geB w hg
              have GE258 := geB w hg
              have NB254_258 := neL BK254 hg
              have NB258_254 := neG BK254 hg
              have NB255_258 := neL BK255 hg
              have NB258_255 := neG BK255 hg
              replace BK254 := blB BK254 hb
              replace BK255 := blB BK255 hb
              replace HB := Aside0.mk (below_step bel hb)
              clear hb hbox hg
              refine hK.out _ _ ⟨(blk_cell BK254.out 0).trans rfl, (blk_cell BK254.out 1).trans rfl, (blk_cell BK255.out 0).trans rfl, (blk_cell BK255.out 1).trans rfl, (oc hw256_0), (oc hw256_1), (oc hw256_2), (oc hw257_0), (oc hw257_1), (oc hw257_2)⟩ (fun hHeld => ?_)
              clear hK K
              refine norm_ (a' := ?_) ?_ ?_
              rotate_left
              ·show Act.put _ (some 6) _ = _
               simp only [Act.put, List.setIfInBounds_toArray, List.set_cons_zero, List.set_cons_succ, i64_w, i32_w]
               rfl
              refine sOn 11 (some 7) (fun K hK => ?_)
              refine box_step ?hg (N := 7) ?hd (cs := #[.string (⟨#[]⟩ : ByteArray), .int .i64 0, .slice none 0 0]) (t := 52) ?hr ?_; (case hd => rfl); (case hg => rfl); (case hr => first | (go_simp; done) | (go_simp; rfl))
              intro gb259 hg w44 hbox hb
              have BK259 := Aside0.mk (hbox)
              have GW259 := geB w hg
              have GE259 := geB w hg
              have NB254_259 := neL BK254 hg
              have NB259_254 := neG BK254 hg
              have NB255_259 := neL BK255 hg
              have NB259_255 := neG BK255 hg
              have NB258_259 := neL BK258 hg
              have NB259_258 := neG BK258 hg
              replace BK254 := blB BK254 hb
              replace BK255 := blB BK255 hb
              replace BK258 := blB BK258 hb
              replace HB := Aside0.mk (below_step bel hb)
              clear hb hbox hg
              refine hK.out _ _ ⟨(blk_cell BK254.out 0).trans rfl, (blk_cell BK254.out 1).trans rfl, (blk_cell BK255.out 0).trans rfl, (blk_cell BK255.out 1).trans rfl, (oc hw256_0), (oc hw256_1), (oc hw256_2), (oc hw257_0), (oc hw257_1), (oc hw257_2)⟩ (fun hHeld => ?_)
              clear hK K
              refine norm_ (a' := ?_) ?_ ?_
              rotate_left
              ·show Act.put _ (some 7) _ = _
               simp only [Act.put, List.setIfInBounds_toArray, List.set_cons_zero, List.set_cons_succ, i64_w, i32_w]
               rfl
              exact norm_ (by simp only [putAll, Act.put, List.setIfInBounds_toArray, List.set_cons_zero, List.set_cons_succ]) (hCont (gb258, gb259) _ ⟨hHeld, (bk BK254), (bk BK255), (bk BK258), (bk BK259), GW258.out, GE258.out, NB254_258.out, NB258_254.out, NB255_258.out, NB258_255.out, NB259_258.out, NB258_259.out, GW259.out, GE259.out, NB254_259.out, NB259_254.out, NB255_259.out, NB259_255.out, bel⟩)
             ·skip
              refine box_step ?hg (N := 7) ?hd (cs := #[.string (⟨#[]⟩ : ByteArray), .int .i64 0, .slice none 0 0]) (t := 52) ?hr ?_; (case hd => rfl); (case hg => rfl); (case hr => first | (go_simp; done) | (go_simp; rfl))
              intro gb259 hg w43 hbox hb
              have BK259 := Aside0.mk (hbox)
              have GW259 := geB w hg
              have GE259 := geB w hg
              have NB254_259 := neL BK254 hg
              have NB259_254 := neG BK254 hg
              have NB255_259 := neL BK255 hg
              have NB259_255 := neG BK255 hg
              replace BK254 := blB BK254 hb
              replace BK255 := blB BK255 hb
              replace HB := Aside0.mk (below_step bel hb)
              clear hb hbox hg
              refine hK.out _ _ ⟨(blk_cell BK254.out 0).trans rfl, (blk_cell BK254.out 1).trans rfl, (blk_cell BK255.out 0).trans rfl, (blk_cell BK255.out 1).trans rfl, (oc hw256_0), (oc hw256_1), (oc hw256_2), (oc hw257_0), (oc hw257_1), (oc hw257_2)⟩ (fun hHeld => ?_)
              clear hK K
              refine norm_ (a' := ?_) ?_ ?_
              rotate_left
              ·show Act.put _ (some 7) _ = _
               simp only [Act.put, List.setIfInBounds_toArray, List.set_cons_zero, List.set_cons_succ, i64_w, i32_w]
               rfl
              refine sOn 10 (some 6) (fun K hK => ?_)
              refine box_step ?hg (N := 6) ?hd (cs := #[.string (⟨#[]⟩ : ByteArray), .int .i64 0, .slice none 0 0]) (t := 52) ?hr ?_; (case hd => rfl); (case hg => rfl); (case hr => first | (go_simp; done) | (go_simp; rfl))
              intro gb258 hg w44 hbox hb
              have BK258 := Aside0.mk (hbox)
              have GW258 := geB w hg
              have GE258 := geB w hg
              have NB254_258 := neL BK254 hg
              have NB258_254 := neG BK254 hg
              have NB255_258 := neL BK255 hg
              have NB258_255 := neG BK255 hg
              have NB259_258 := neL BK259 hg
              have NB258_259 := neG BK259 hg
              replace BK254 := blB BK254 hb
              replace BK255 := blB BK255 hb
              replace BK259 := blB BK259 hb
              replace HB := Aside0.mk (below_step bel hb)
              clear hb hbox hg
              refine hK.out _ _ ⟨(blk_cell BK254.out 0).trans rfl, (blk_cell BK254.out 1).trans rfl, (blk_cell BK255.out 0).trans rfl, (blk_cell BK255.out 1).trans rfl, (oc hw256_0), (oc hw256_1), (oc hw256_2), (oc hw257_0), (oc hw257_1), (oc hw257_2)⟩ (fun hHeld => ?_)
              clear hK K
              refine norm_ (a' := ?_) ?_ ?_
              rotate_left
              ·show Act.put _ (some 6) _ = _
               simp only [Act.put, List.setIfInBounds_toArray, List.set_cons_zero, List.set_cons_succ, i64_w, i32_w]
               rfl
              exact norm_ (by simp only [putAll, Act.put, List.setIfInBounds_toArray, List.set_cons_zero, List.set_cons_succ]) (hCont (gb258, gb259) _ ⟨hHeld, (bk BK254), (bk BK255), (bk BK258), (bk BK259), GW258.out, GE258.out, NB254_258.out, NB258_254.out, NB255_258.out, NB258_255.out, NB259_258.out, NB258_259.out, GW259.out, GE259.out, NB254_259.out, NB259_254.out, NB255_259.out, NB259_255.out, bel⟩)
            rintro ⟨gb258, gb259⟩ w45 ⟨hS_, h0_, h1_, h2_, h3_, h4_, h5_, h6_, h7_, h8_, h9_, h10_, h11_, h12_, h13_, h14_, h15_, h16_, h17_, h18_⟩
            have n0_ : Aside0 (w45.heap[gb254]? = some (.cells #[.int .i64 a0_0, .slice (some ad256) l0_1.length c0_1] 24 (0, 0))) := ⟨h0_⟩
            have n1_ : Aside0 (w45.heap[gb255]? = some (.cells #[.int .i64 a1_0, .slice (some ad257) l1_1.length c1_1] 24 (0, 0))) := ⟨h1_⟩
            have n2_ : Aside0 (w45.heap[gb258]? = some (.cells #[.string (⟨#[]⟩ : ByteArray), .int .i64 0, .slice none 0 0] 52 (0, 0))) := ⟨h2_⟩
            have n3_ : Aside0 (w45.heap[gb259]? = some (.cells #[.string (⟨#[]⟩ : ByteArray), .int .i64 0, .slice none 0 0] 52 (0, 0))) := ⟨h3_⟩
            have n4_ : Aside0 (w.heap.size ≤ gb258) := ⟨h4_⟩
            have n5_ : Aside0 (w.heap.size ≤ gb258) := ⟨h5_⟩
            have n6_ : Aside0 (gb254 ≠ gb258) := ⟨h6_⟩
            have n7_ : Aside0 (gb258 ≠ gb254) := ⟨h7_⟩
            have n8_ : Aside0 (gb255 ≠ gb258) := ⟨h8_⟩
            have n9_ : Aside0 (gb258 ≠ gb255) := ⟨h9_⟩
            have n10_ : Aside0 (gb259 ≠ gb258) := ⟨h10_⟩
            have n11_ : Aside0 (gb258 ≠ gb259) := ⟨h11_⟩
            have n12_ : Aside0 (w.heap.size ≤ gb259) := ⟨h12_⟩
            have n13_ : Aside0 (w.heap.size ≤ gb259) := ⟨h13_⟩
            have n14_ : Aside0 (gb254 ≠ gb259) := ⟨h14_⟩
            have n15_ : Aside0 (gb259 ≠ gb254) := ⟨h15_⟩
            have n16_ : Aside0 (gb255 ≠ gb259) := ⟨h16_⟩
            have n17_ : Aside0 (gb259 ≠ gb255) := ⟨h17_⟩
            have n18_ : Aside0 (Below w.heap.size w w45) := ⟨h18_⟩
            clear BK254
            clear BK255
            clear HB
            clear h0_ h1_ h2_ h3_ h4_ h5_ h6_ h7_ h8_ h9_ h10_ h11_ h12_ h13_ h14_ h15_ h16_ h17_ h18_
            have BK254 := n0_
            have BK255 := n1_
            have BK258 := n2_
            have BK259 := n3_
            have GW258 := n4_
            have GE258 := n5_
            have NB254_258 := n6_
            have NB258_254 := n7_
            have NB255_258 := n8_
            have NB258_255 := n9_
            have NB259_258 := n10_
            have NB258_259 := n11_
            have GW259 := n12_
            have GE259 := n13_
            have NB254_259 := n14_
            have NB259_254 := n15_
            have NB255_259 := n16_
            have NB259_255 := n17_
            have HB := n18_
            clear n0_ n1_ n2_ n3_ n4_ n5_ n6_ n7_ n8_ n9_ n10_ n11_ n12_ n13_ n14_ n15_ n16_ n17_ n18_
            have hHeld : w45.cell? ⟨gb254, 0, none⟩ = some (.int .i64 a0_0) ∧ w45.cell? ⟨gb254, 1, none⟩ = some (.slice (some ad256) l0_1.length c0_1) ∧ w45.cell? ⟨gb255, 0, none⟩ = some (.int .i64 a1_0) ∧ w45.cell? ⟨gb255, 1, none⟩ = some (.slice (some ad257) l1_1.length c1_1) ∧ w45.cell? (ad256.add ((x5_2).toNat * 3)) = some (.string ((rd_T52 l0_1 x5_2).f0)) ∧ w45.cell? ⟨(ad256.add ((x5_2).toNat * 3)).block, (ad256.add ((x5_2).toNat * 3)).off + 1, none⟩ = some (.int .i64 ((rd_T52 l0_1 x5_2).f1)) ∧ w45.cell? ⟨(ad256.add ((x5_2).toNat * 3)).block, (ad256.add ((x5_2).toNat * 3)).off + 2, none⟩ = some (.slice A256_2 ((rd_T52 l0_1 x5_2).f2).length c256_2) ∧ w45.cell? (ad257.add ((x5_2).toNat * 3)) = some (.string ((rd_T52 l1_1 x5_2).f0)) ∧ w45.cell? ⟨(ad257.add ((x5_2).toNat * 3)).block, (ad257.add ((x5_2).toNat * 3)).off + 1, none⟩ = some (.int .i64 ((rd_T52 l1_1 x5_2).f1)) ∧ w45.cell? ⟨(ad257.add ((x5_2).toNat * 3)).block, (ad257.add ((x5_2).toNat * 3)).off + 2, none⟩ = some (.slice A257_2 ((rd_T52 l1_1 x5_2).f2).length c257_2) := hS_
            refine norm_ (a' := ?_) ?_ ?_
            rotate_left
            ·simp only [putAll, Act.put, List.setIfInBounds_toArray, List.set_cons_zero, List.set_cons_succ]
             rfl
            refine sOn 12 none (fun K hK => ?_)
            have hs46 : w45.cell? ⟨gb258, 0, none⟩ = some (.string (⟨#[]⟩ : ByteArray)) := (blk_cell BK258.out 0).trans rfl
            have hfs46 := blk_frozen BK258.out 0
            have hns46_0 := NB254_258.out
            have hns46_1 := NB255_258.out
            have hns46_3 := NB259_258.out
            have hms46_0 := NB258_254.out
            have hms46_1 := NB258_255.out
            have hms46_3 := NB258_259.out
            have hs47 : w45.cell? ⟨gb258, 1, none⟩ = some (.int .i64 0) := (blk_cell BK258.out 1).trans rfl
            have hfs47 := blk_frozen BK258.out 1
            have hns47_0 := NB254_258.out
            have hns47_1 := NB255_258.out
            have hns47_3 := NB259_258.out
            have hms47_0 := NB258_254.out
            have hms47_1 := NB258_255.out
            have hms47_3 := NB258_259.out
            have hs48 : w45.cell? ⟨gb258, 2, none⟩ = some (.slice none 0 0) := (blk_cell BK258.out 2).trans rfl
            have hfs48 := blk_frozen BK258.out 2
            have hns48_0 := NB254_258.out
            have hns48_1 := NB255_258.out
            have hns48_3 := NB259_258.out
            have hms48_0 := NB258_254.out
            have hms48_1 := NB258_255.out
            have hms48_3 := NB258_259.out
            refine skip_ (w1 := ?_) (by rfl) rfl ?_ ?_
            rotate_left
            ·go_simp
             rfl
            refine hK.out _ _ ⟨((cell_far (p := ⟨gb258, _, none⟩) NB254_258.out _).trans (((cell_far (p := ⟨gb258, _, none⟩) NB254_258.out _).trans (((cell_far (p := ⟨gb258, _, none⟩) NB254_258.out _).trans (hHeld.1)))))), ((cell_far (p := ⟨gb258, _, none⟩) NB254_258.out _).trans (((cell_far (p := ⟨gb258, _, none⟩) NB254_258.out _).trans (((cell_far (p := ⟨gb258, _, none⟩) NB254_258.out _).trans (hHeld.2.1)))))), ((cell_far (p := ⟨gb258, _, none⟩) NB255_258.out _).trans (((cell_far (p := ⟨gb258, _, none⟩) NB255_258.out _).trans (((cell_far (p := ⟨gb258, _, none⟩) NB255_258.out _).trans (hHeld.2.2.1)))))), ((cell_far (p := ⟨gb258, _, none⟩) NB255_258.out _).trans (((cell_far (p := ⟨gb258, _, none⟩) NB255_258.out _).trans (((cell_far (p := ⟨gb258, _, none⟩) NB255_258.out _).trans (hHeld.2.2.2.1)))))), ((cell_far (p := ⟨gb258, _, none⟩) (far_ne34 hw256_0 GW258.out) _).trans (((cell_far (p := ⟨gb258, _, none⟩) (far_ne34 hw256_0 GW258.out) _).trans (((cell_far (p := ⟨gb258, _, none⟩) (far_ne34 hw256_0 GW258.out) _).trans (hHeld.2.2.2.2.1)))))), ((cell_far (p := ⟨gb258, _, none⟩) (far_ne34 hw256_1 GW258.out) _).trans (((cell_far (p := ⟨gb258, _, none⟩) (far_ne34 hw256_1 GW258.out) _).trans (((cell_far (p := ⟨gb258, _, none⟩) (far_ne34 hw256_1 GW258.out) _).trans (hHeld.2.2.2.2.2.1)))))), ((cell_far (p := ⟨gb258, _, none⟩) (far_ne34 hw256_2 GW258.out) _).trans (((cell_far (p := ⟨gb258, _, none⟩) (far_ne34 hw256_2 GW258.out) _).trans (((cell_far (p := ⟨gb258, _, none⟩) (far_ne34 hw256_2 GW258.out) _).trans (hHeld.2.2.2.2.2.2.1)))))), ((cell_far (p := ⟨gb258, _, none⟩) (far_ne34 hw257_0 GW258.out) _).trans (((cell_far (p := ⟨gb258, _, none⟩) (far_ne34 hw257_0 GW258.out) _).trans (((cell_far (p := ⟨gb258, _, none⟩) (far_ne34 hw257_0 GW258.out) _).trans (hHeld.2.2.2.2.2.2.2.1)))))), ((cell_far (p := ⟨gb258, _, none⟩) (far_ne34 hw257_1 GW258.out) _).trans (((cell_far (p := ⟨gb258, _, none⟩) (far_ne34 hw257_1 GW258.out) _).trans (((cell_far (p := ⟨gb258, _, none⟩) (far_ne34 hw257_1 GW258.out) _).trans (hHeld.2.2.2.2.2.2.2.2.1)))))), ((cell_far (p := ⟨gb258, _, none⟩) (far_ne34 hw257_2 GW258.out) _).trans (((cell_far (p := ⟨gb258, _, none⟩) (far_ne34 hw257_2 GW258.out) _).trans (((cell_far (p := ⟨gb258, _, none⟩) (far_ne34 hw257_2 GW258.out) _).trans (hHeld.2.2.2.2.2.2.2.2.2))))))⟩ (fun hHeld => ?_)
            clear hK K
            refine sOn 13 none (fun K hK => ?_)
            have hs49 : w45.cell? ⟨gb259, 0, none⟩ = some (.string (⟨#[]⟩ : ByteArray)) := (blk_cell BK259.out 0).trans rfl
            have hfs49 := blk_frozen BK259.out 0
            have hns49_0 := NB254_259.out
            have hns49_1 := NB255_259.out
            have hns49_2 := NB258_259.out
            have hms49_0 := NB259_254.out
            have hms49_1 := NB259_255.out
            have hms49_2 := NB259_258.out
            have hs50 : w45.cell? ⟨gb259, 1, none⟩ = some (.int .i64 0) := (blk_cell BK259.out 1).trans rfl
            have hfs50 := blk_frozen BK259.out 1
            have hns50_0 := NB254_259.out
            have hns50_1 := NB255_259.out
            have hns50_2 := NB258_259.out
            have hms50_0 := NB259_254.out
            have hms50_1 := NB259_255.out
            have hms50_2 := NB259_258.out
            have hs51 : w45.cell? ⟨gb259, 2, none⟩ = some (.slice none 0 0) := (blk_cell BK259.out 2).trans rfl
            have hfs51 := blk_frozen BK259.out 2
            have hns51_0 := NB254_259.out
            have hns51_1 := NB255_259.out
            have hns51_2 := NB258_259.out
            have hms51_0 := NB259_254.out
            have hms51_1 := NB259_255.out
            have hms51_2 := NB259_258.out
            refine skip_ (w1 := ?_) (by rfl) rfl ?_ ?_
            rotate_left
            ·go_simp
             rfl
            refine hK.out _ _ ⟨((cell_far (p := ⟨gb259, _, none⟩) NB254_259.out _).trans (((cell_far (p := ⟨gb259, _, none⟩) NB254_259.out _).trans (((cell_far (p := ⟨gb259, _, none⟩) NB254_259.out _).trans (hHeld.1)))))), ((cell_far (p := ⟨gb259, _, none⟩) NB254_259.out _).trans (((cell_far (p := ⟨gb259, _, none⟩) NB254_259.out _).trans (((cell_far (p := ⟨gb259, _, none⟩) NB254_259.out _).trans (hHeld.2.1)))))), ((cell_far (p := ⟨gb259, _, none⟩) NB255_259.out _).trans (((cell_far (p := ⟨gb259, _, none⟩) NB255_259.out _).trans (((cell_far (p := ⟨gb259, _, none⟩) NB255_259.out _).trans (hHeld.2.2.1)))))), ((cell_far (p := ⟨gb259, _, none⟩) NB255_259.out _).trans (((cell_far (p := ⟨gb259, _, none⟩) NB255_259.out _).trans (((cell_far (p := ⟨gb259, _, none⟩) NB255_259.out _).trans (hHeld.2.2.2.1)))))), ((cell_far (p := ⟨gb259, _, none⟩) (far_ne34 hw256_0 GW259.out) _).trans (((cell_far (p := ⟨gb259, _, none⟩) (far_ne34 hw256_0 GW259.out) _).trans (((cell_far (p := ⟨gb259, _, none⟩) (far_ne34 hw256_0 GW259.out) _).trans (hHeld.2.2.2.2.1)))))), ((cell_far (p := ⟨gb259, _, none⟩) (far_ne34 hw256_1 GW259.out) _).trans (((cell_far (p := ⟨gb259, _, none⟩) (far_ne34 hw256_1 GW259.out) _).trans (((cell_far (p := ⟨gb259, _, none⟩) (far_ne34 hw256_1 GW259.out) _).trans (hHeld.2.2.2.2.2.1)))))), ((cell_far (p := ⟨gb259, _, none⟩) (far_ne34 hw256_2 GW259.out) _).trans (((cell_far (p := ⟨gb259, _, none⟩) (far_ne34 hw256_2 GW259.out) _).trans (((cell_far (p := ⟨gb259, _, none⟩) (far_ne34 hw256_2 GW259.out) _).trans (hHeld.2.2.2.2.2.2.1)))))), ((cell_far (p := ⟨gb259, _, none⟩) (far_ne34 hw257_0 GW259.out) _).trans (((cell_far (p := ⟨gb259, _, none⟩) (far_ne34 hw257_0 GW259.out) _).trans (((cell_far (p := ⟨gb259, _, none⟩) (far_ne34 hw257_0 GW259.out) _).trans (hHeld.2.2.2.2.2.2.2.1)))))), ((cell_far (p := ⟨gb259, _, none⟩) (far_ne34 hw257_1 GW259.out) _).trans (((cell_far (p := ⟨gb259, _, none⟩) (far_ne34 hw257_1 GW259.out) _).trans (((cell_far (p := ⟨gb259, _, none⟩) (far_ne34 hw257_1 GW259.out) _).trans (hHeld.2.2.2.2.2.2.2.2.1)))))), ((cell_far (p := ⟨gb259, _, none⟩) (far_ne34 hw257_2 GW259.out) _).trans (((cell_far (p := ⟨gb259, _, none⟩) (far_ne34 hw257_2 GW259.out) _).trans (((cell_far (p := ⟨gb259, _, none⟩) (far_ne34 hw257_2 GW259.out) _).trans (hHeld.2.2.2.2.2.2.2.2.2))))))⟩ (fun hHeld => ?_)
            clear hK K
            refine done_ (done_of HT_.out (by kernel_rfl)) ?_
            have hnb52 := NB258_254.out
            have hnc52 := NB254_258.out
            have hnb53 := NB258_255.out
            have hnc53 := NB255_258.out
            have hnb54 := NB258_259.out
            have hnc54 := NB259_258.out
            obtain ⟨hcz55_0, hcz55_1, hcz55_2, hfz55_0, hfz55_1, hfz55_2⟩ := bq3 BK258
            have hnb56 := NB259_254.out
            have hnc56 := NB254_259.out
            have hnb57 := NB259_255.out
            have hnc57 := NB255_259.out
            obtain ⟨hcz58_0, hcz58_1, hcz58_2, hfz58_0, hfz58_1, hfz58_2⟩ := bq3 BK259
            try go_wp2_with (first | (go_at_call 69; (with_reducible refine (paraphrastref01_SameTuples.calls k2 _ _ ((rd_T52 l0_1 x5_2).f2) _ _ ((rd_T52 l1_1 x5_2).f2) false _ ?side1 ?side2 ?side3 ?side4 A19.out).mono ?_); (case side1 => exact Kd.C_below HR256_2.out bel); (case side2 => exact HC256_2.out); (case side3 => exact Kd.C_below HR257_2.out bel); (case side4 => exact HC257_2.out); rintro e w' ⟨rfl, ⟨nd, rfl⟩⟩))
            go_ret
            exact ⟨eN, bel⟩
          ·rw [if_neg c18] at H
           have c18b0 : (((rd_T52 l0_1 x5_2).f1) == ((rd_T52 l1_1 x5_2).f1)) = false := beq_eq_false_iff_ne.mpr c18
           have c18b1 : (((rd_T52 l0_1 x5_2).f1) != ((rd_T52 l1_1 x5_2).f1)) = true := bne_iff_ne.mpr c18
           obtain rfl := Option.some.inj H
           have hnb59 := NB254_255.out
           have hnc59 := NB255_254.out
           obtain ⟨hcz60_0, hcz60_1, hfz60_0, hfz60_1⟩ := bq2 BK254
           try go_wp2
           replace BK254 := Aside0.mk (blk_drew BK254.out)
           replace BK255 := Aside0.mk (blk_drew BK255.out)
           replace HB := Aside0.mk (below_drew1 HB.out)
           have p256 : 0 ≤ (x5_2 : Int) := dtr
           have q256 : x5_2 < (l0_1.length : Int) := dtr
           obtain ⟨ad256, A256_2, c256_2, e256, hx256_0, hx256_1, hx256_2, hl256_2, hi256_2⟩ := at_T52 HR0_1.out x5_2 p256 q256
           have hw256_2 := hx256_2
           have hw256_1 := hx256_1
           have hw256_0 := hx256_0
           cases e256
           replace hx256_0 := oc hx256_0
           replace hx256_1 := oc hx256_1
           replace hx256_2 := oc hx256_2
           have HR256_2 := Aside0.mk hi256_2
           have HC256_2 := Aside0.mk hl256_2
           clear hi256_2 hl256_2
           replace p256 := eq_true p256
           replace q256 := eq_true q256
           have p257 : 0 ≤ (x5_2 : Int) := dtr
           have q257 : x5_2 < (l1_1.length : Int) := dtr
           obtain ⟨ad257, A257_2, c257_2, e257, hx257_0, hx257_1, hx257_2, hl257_2, hi257_2⟩ := at_T52 HR1_1.out x5_2 p257 q257
           have hw257_2 := hx257_2
           have hw257_1 := hx257_1
           have hw257_0 := hx257_0
           cases e257
           replace hx257_0 := oc hx257_0
           replace hx257_1 := oc hx257_1
           replace hx257_2 := oc hx257_2
           have HR257_2 := Aside0.mk hi257_2
           have HC257_2 := Aside0.mk hl257_2
           clear hi257_2 hl257_2
           replace p257 := eq_true p257
           replace q257 := eq_true q257
           refine start_ (n := 14) (S := fun w' => w'.cell? ⟨gb254, 0, none⟩ = some (.int .i64 a0_0) ∧ w'.cell? ⟨gb254, 1, none⟩ = some (.slice (some ad256) l0_1.length c0_1) ∧ w'.cell? ⟨gb255, 0, none⟩ = some (.int .i64 a1_0) ∧ w'.cell? ⟨gb255, 1, none⟩ = some (.slice (some ad257) l1_1.length c1_1) ∧ w'.cell? (ad256.add ((x5_2).toNat * 3)) = some (.string ((rd_T52 l0_1 x5_2).f0)) ∧ w'.cell? ⟨(ad256.add ((x5_2).toNat * 3)).block, (ad256.add ((x5_2).toNat * 3)).off + 1, none⟩ = some (.int .i64 ((rd_T52 l0_1 x5_2).f1)) ∧ w'.cell? ⟨(ad256.add ((x5_2).toNat * 3)).block, (ad256.add ((x5_2).toNat * 3)).off + 2, none⟩ = some (.slice A256_2 ((rd_T52 l0_1 x5_2).f2).length c256_2) ∧ w'.cell? (ad257.add ((x5_2).toNat * 3)) = some (.string ((rd_T52 l1_1 x5_2).f0)) ∧ w'.cell? ⟨(ad257.add ((x5_2).toNat * 3)).block, (ad257.add ((x5_2).toNat * 3)).off + 1, none⟩ = some (.int .i64 ((rd_T52 l1_1 x5_2).f1)) ∧ w'.cell? ⟨(ad257.add ((x5_2).toNat * 3)).block, (ad257.add ((x5_2).toNat * 3)).off + 2, none⟩ = some (.slice A257_2 ((rd_T52 l1_1 x5_2).f2).length c257_2)) (ds := []) #[false, false, false, false, false, false, false, false, false, false, false, false, false, false] (by kernel_rfl) rfl rfl ⟨(blk_cell BK254.out 0).trans rfl, (blk_cell BK254.out 1).trans rfl, (blk_cell BK255.out 0).trans rfl, (blk_cell BK255.out 1).trans rfl, (oc hw256_0), (oc hw256_1), (oc hw256_2), (oc hw257_0), (oc hw257_1), (oc hw257_2)⟩ (fun hHeld => ?_); refine with_tabW paraphrastref01_Same.tab6 paraphrastref01_Same.bits6 (fun HT_ HW_ => ?_)
           generalize wr.drew = w61 at BK254 BK255 HB HR256_2 HR257_2 hx256_0 hx256_1 hx256_2 hx257_0 hx257_1 hx257_2 hHeld ⊢
           refine sPu 0 (some 29) ?_
           refine sPu 2 (some 31) ?_
           refine sPu 5 (some 34) ?_
           refine sPu 7 (some 36) ?_
           refine sTk 1 (some 30) ?_
           refine sPu 3 (some 32) ?_
           refine sTk 4 (some 33) ?_
           refine sTk 6 (some 35) ?_
           refine sPu 8 (some 37) ?_
           refine sTk 9 (some 38) ?_
           refine join_ (σ := Nat × Nat) 2 #[true, true, true, true, true, true, true, true, true, true, true, true, false, false] (fun s_ => [(6, .pointer (some ⟨s_.1, 0, none⟩)), (7, .pointer (some ⟨s_.2, 0, none⟩))]) (fun s_ w' => (w'.cell? ⟨gb254, 0, none⟩ = some (.int .i64 a0_0) ∧ w'.cell? ⟨gb254, 1, none⟩ = some (.slice (some ad256) l0_1.length c0_1) ∧ w'.cell? ⟨gb255, 0, none⟩ = some (.int .i64 a1_0) ∧ w'.cell? ⟨gb255, 1, none⟩ = some (.slice (some ad257) l1_1.length c1_1) ∧ w'.cell? (ad256.add ((x5_2).toNat * 3)) = some (.string ((rd_T52 l0_1 x5_2).f0)) ∧ w'.cell? ⟨(ad256.add ((x5_2).toNat * 3)).block, (ad256.add ((x5_2).toNat * 3)).off + 1, none⟩ = some (.int .i64 ((rd_T52 l0_1 x5_2).f1)) ∧ w'.cell? ⟨(ad256.add ((x5_2).toNat * 3)).block, (ad256.add ((x5_2).toNat * 3)).off + 2, none⟩ = some (.slice A256_2 ((rd_T52 l0_1 x5_2).f2).length c256_2) ∧ w'.cell? (ad257.add ((x5_2).toNat * 3)) = some (.string ((rd_T52 l1_1 x5_2).f0)) ∧ w'.cell? ⟨(ad257.add ((x5_2).toNat * 3)).block, (ad257.add ((x5_2).toNat * 3)).off + 1, none⟩ = some (.int .i64 ((rd_T52 l1_1 x5_2).f1)) ∧ w'.cell? ⟨(ad257.add ((x5_2).toNat * 3)).block, (ad257.add ((x5_2).toNat * 3)).off + 2, none⟩ = some (.slice A257_2 ((rd_T52 l1_1 x5_2).f2).length c257_2)) ∧ (w'.heap[gb254]? = some (.cells #[.int .i64 a0_0, .slice (some ad256) l0_1.length c0_1] 24 (0, 0))) ∧ (w'.heap[gb255]? = some (.cells #[.int .i64 a1_0, .slice (some ad257) l1_1.length c1_1] 24 (0, 0))) ∧ (w'.heap[s_.1]? = some (.cells #[.string (⟨#[]⟩ : ByteArray), .int .i64 0, .slice none 0 0] 52 (0, 0))) ∧ (w'.heap[s_.2]? = some (.cells #[.string (⟨#[]⟩ : ByteArray), .int .i64 0, .slice none 0 0] 52 (0, 0))) ∧ (w.heap.size ≤ s_.1) ∧ (w.heap.size ≤ s_.1) ∧ (gb254 ≠ s_.1) ∧ (s_.1 ≠ gb254) ∧ (gb255 ≠ s_.1) ∧ (s_.1 ≠ gb255) ∧ (s_.2 ≠ s_.1) ∧ (s_.1 ≠ s_.2) ∧ (w.heap.size ≤ s_.2) ∧ (w.heap.size ≤ s_.2) ∧ (gb254 ≠ s_.2) ∧ (s_.2 ≠ gb254) ∧ (gb255 ≠ s_.2) ∧ (s_.2 ≠ gb255) ∧ (Below w.heap.size w w')) ?_ ?_
           rotate_left
           ·intro hCont
            refine two_ (i := 10) (j := 11) (Ni := some 6) (Nj := some 7) #[true, true, true, true, true, true, true, true, true, true, true, false, false, false] #[true, true, true, true, true, true, true, true, true, true, false, true, false, false] rfl rfl rfl rfl (two_of HT_.out (by kernel_rfl)) (by decide) (by decide) (fun K hK => ?_) (fun K hK => ?_)
            ·skip
             refine box_step ?hg (N := 6) ?hd (cs := #[.string (⟨#[]⟩ : ByteArray), .int .i64 0, .slice none 0 0]) (t := 52) ?hr ?_; (case hd => rfl); (case hg => rfl); (case hr => first | (go_simp; done) | (go_simp; rfl))
             intro gb258 hg w62 hbox hb
             have BK258 := Aside0.mk (hbox)
             have GW258 := geB w hg
             have GE258 := geB w hg
             have NB254_258 := neL BK254 hg
             have NB258_254 := neG BK254 hg
             have NB255_258 := neL BK255 hg
             have NB258_255 := neG BK255 hg
             replace BK254 := blB BK254 hb
             replace BK255 := blB BK255 hb
             replace HB := Aside0.mk (below_step bel hb)
             clear hb hbox hg
             refine hK.out _ _ ⟨(blk_cell BK254.out 0).trans rfl, (blk_cell BK254.out 1).trans rfl, (blk_cell BK255.out 0).trans rfl, (blk_cell BK255.out 1).trans rfl, (oc hw256_0), (oc hw256_1), (oc hw256_2), (oc hw257_0), (oc hw257_1), (oc hw257_2)⟩ (fun hHeld => ?_)
             clear hK K
             refine norm_ (a' := ?_) ?_ ?_
             rotate_left
             ·show Act.put _ (some 6) _ = _
              simp only [Act.put, List.setIfInBounds_toArray, List.set_cons_zero, List.set_cons_succ, i64_w, i32_w]
              rfl
             refine sOn 11 (some 7) (fun K hK => ?_)
             refine box_step ?hg (N := 7) ?hd (cs := #[.string (⟨#[]⟩ : ByteArray), .int .i64 0, .slice none 0 0]) (t := 52) ?hr ?_; (case hd => rfl); (case hg => rfl); (case hr => first | (go_simp; done) | (go_simp; rfl))
             intro gb259 hg w63 hbox hb
             have BK259 := Aside0.mk (hbox)
             have GW259 := geB w hg
             have GE259 := geB w hg
             have NB254_259 := neL BK254 hg
             have NB259_254 := neG BK254 hg
             have NB255_259 := neL BK255 hg
             have NB259_255 := neG BK255 hg
             have NB258_259 := neL BK258 hg
             have NB259_258 := neG BK258 hg
             replace BK254 := blB BK254 hb
             replace BK255 := blB BK255 hb
             replace BK258 := blB BK258 hb
             replace HB := Aside0.mk (below_step bel hb)
             clear hb hbox hg
             refine hK.out _ _ ⟨(blk_cell BK254.out 0).trans rfl, (blk_cell BK254.out 1).trans rfl, (blk_cell BK255.out 0).trans rfl, (blk_cell BK255.out 1).trans rfl, (oc hw256_0), (oc hw256_1), (oc hw256_2), (oc hw257_0), (oc hw257_1), (oc hw257_2)⟩ (fun hHeld => ?_)
             clear hK K
             refine norm_ (a' := ?_) ?_ ?_
             rotate_left
             ·show Act.put _ (some 7) _ = _
              simp only [Act.put, List.setIfInBounds_toArray, List.set_cons_zero, List.set_cons_succ, i64_w, i32_w]
              rfl
             exact norm_ (by simp only [putAll, Act.put, List.setIfInBounds_toArray, List.set_cons_zero, List.set_cons_succ]) (hCont (gb258, gb259) _ ⟨hHeld, (bk BK254), (bk BK255), (bk BK258), (bk BK259), GW258.out, GE258.out, NB254_258.out, NB258_254.out, NB255_258.out, NB258_255.out, NB259_258.out, NB258_259.out, GW259.out, GE259.out, NB254_259.out, NB259_254.out, NB255_259.out, NB259_255.out, bel⟩)
            ·skip
             refine box_step ?hg (N := 7) ?hd (cs := #[.string (⟨#[]⟩ : ByteArray), .int .i64 0, .slice none 0 0]) (t := 52) ?hr ?_; (case hd => rfl); (case hg => rfl); (case hr => first | (go_simp; done) | (go_simp; rfl))
             intro gb259 hg w62 hbox hb
             have BK259 := Aside0.mk (hbox)
             have GW259 := geB w hg
             have GE259 := geB w hg
             have NB254_259 := neL BK254 hg
             have NB259_254 := neG BK254 hg
             have NB255_259 := neL BK255 hg
             have NB259_255 := neG BK255 hg
             replace BK254 := blB BK254 hb
             replace BK255 := blB BK255 hb
             replace HB := Aside0.mk (below_step bel hb)
             clear hb hbox hg
             refine hK.out _ _ ⟨(blk_cell BK254.out 0).trans rfl, (blk_cell BK254.out 1).trans rfl, (blk_cell BK255.out 0).trans rfl, (blk_cell BK255.out 1).trans rfl, (oc hw256_0), (oc hw256_1), (oc hw256_2), (oc hw257_0), (oc hw257_1), (oc hw257_2)⟩ (fun hHeld => ?_)
             clear hK K
             refine norm_ (a' := ?_) ?_ ?_
             rotate_left
             ·show Act.put _ (some 7) _ = _
              simp only [Act.put, List.setIfInBounds_toArray, List.set_cons_zero, List.set_cons_succ, i64_w, i32_w]
              rfl
             refine sOn 10 (some 6) (fun K hK => ?_)
             refine box_step ?hg (N := 6) ?hd (cs := #[.string (⟨#[]⟩ : ByteArray), .int .i64 0, .slice none 0 0]) (t := 52) ?hr ?_; (case hd => rfl); (case hg => rfl); (case hr => first | (go_simp; done) | (go_simp; rfl))
             intro gb258 hg w63 hbox hb
             have BK258 := Aside0.mk (hbox)
             have GW258 := geB w hg
             have GE258 := geB w hg
             have NB254_258 := neL BK254 hg
             have NB258_254 := neG BK254 hg
             have NB255_258 := neL BK255 hg
             have NB258_255 := neG BK255 hg
             have NB259_258 := neL BK259 hg
             have NB258_259 := neG BK259 hg
             replace BK254 := blB BK254 hb
             replace BK255 := blB BK255 hb
             replace BK259 := blB BK259 hb
             replace HB := Aside0.mk (below_step bel hb)
             clear hb hbox hg
             refine hK.out _ _ ⟨(blk_cell BK254.out 0).trans rfl, (blk_cell BK254.out 1).trans rfl, (blk_cell BK255.out 0).trans rfl, (blk_cell BK255.out 1).trans rfl, (oc hw256_0), (oc hw256_1), (oc hw256_2), (oc hw257_0), (oc hw257_1), (oc hw257_2)⟩ (fun hHeld => ?_)
             clear hK K
             refine norm_ (a' := ?_) ?_ ?_
             rotate_left
             ·show Act.put _ (some 6) _ = _
              simp only [Act.put, List.setIfInBounds_toArray, List.set_cons_zero, List.set_cons_succ, i64_w, i32_w]
              rfl
             exact norm_ (by simp only [putAll, Act.put, List.setIfInBounds_toArray, List.set_cons_zero, List.set_cons_succ]) (hCont (gb258, gb259) _ ⟨hHeld, (bk BK254), (bk BK255), (bk BK258), (bk BK259), GW258.out, GE258.out, NB254_258.out, NB258_254.out, NB255_258.out, NB258_255.out, NB259_258.out, NB258_259.out, GW259.out, GE259.out, NB254_259.out, NB259_254.out, NB255_259.out, NB259_255.out, bel⟩)
           rintro ⟨gb258, gb259⟩ w64 ⟨hS_, h0_, h1_, h2_, h3_, h4_, h5_, h6_, h7_, h8_, h9_, h10_, h11_, h12_, h13_, h14_, h15_, h16_, h17_, h18_⟩
           have n0_ : Aside0 (w64.heap[gb254]? = some (.cells #[.int .i64 a0_0, .slice (some ad256) l0_1.length c0_1] 24 (0, 0))) := ⟨h0_⟩
           have n1_ : Aside0 (w64.heap[gb255]? = some (.cells #[.int .i64 a1_0, .slice (some ad257) l1_1.length c1_1] 24 (0, 0))) := ⟨h1_⟩
           have n2_ : Aside0 (w64.heap[gb258]? = some (.cells #[.string (⟨#[]⟩ : ByteArray), .int .i64 0, .slice none 0 0] 52 (0, 0))) := ⟨h2_⟩
           have n3_ : Aside0 (w64.heap[gb259]? = some (.cells #[.string (⟨#[]⟩ : ByteArray), .int .i64 0, .slice none 0 0] 52 (0, 0))) := ⟨h3_⟩
           have n4_ : Aside0 (w.heap.size ≤ gb258) := ⟨h4_⟩
           have n5_ : Aside0 (w.heap.size ≤ gb258) := ⟨h5_⟩
           have n6_ : Aside0 (gb254 ≠ gb258) := ⟨h6_⟩
           have n7_ : Aside0 (gb258 ≠ gb254) := ⟨h7_⟩
           have n8_ : Aside0 (gb255 ≠ gb258) := ⟨h8_⟩
           have n9_ : Aside0 (gb258 ≠ gb255) := ⟨h9_⟩
           have n10_ : Aside0 (gb259 ≠ gb258) := ⟨h10_⟩
           have n11_ : Aside0 (gb258 ≠ gb259) := ⟨h11_⟩
           have n12_ : Aside0 (w.heap.size ≤ gb259) := ⟨h12_⟩
           have n13_ : Aside0 (w.heap.size ≤ gb259) := ⟨h13_⟩
           have n14_ : Aside0 (gb254 ≠ gb259) := ⟨h14_⟩
           have n15_ : Aside0 (gb259 ≠ gb254) := ⟨h15_⟩
           have n16_ : Aside0 (gb255 ≠ gb259) := ⟨h16_⟩
           have n17_ : Aside0 (gb259 ≠ gb255) := ⟨h17_⟩
           have n18_ : Aside0 (Below w.heap.size w w64) := ⟨h18_⟩
           clear BK254
           clear BK255
           clear HB
           clear h0_ h1_ h2_ h3_ h4_ h5_ h6_ h7_ h8_ h9_ h10_ h11_ h12_ h13_ h14_ h15_ h16_ h17_ h18_
           have BK254 := n0_
           have BK255 := n1_
           have BK258 := n2_
           have BK259 := n3_
           have GW258 := n4_
           have GE258 := n5_
           have NB254_258 := n6_
           have NB258_254 := n7_
           have NB255_258 := n8_
           have NB258_255 := n9_
           have NB259_258 := n10_
           have NB258_259 := n11_
           have GW259 := n12_
           have GE259 := n13_
           have NB254_259 := n14_
           have NB259_254 := n15_
           have NB255_259 := n16_
           have NB259_255 := n17_
           have HB := n18_
           clear n0_ n1_ n2_ n3_ n4_ n5_ n6_ n7_ n8_ n9_ n10_ n11_ n12_ n13_ n14_ n15_ n16_ n17_ n18_
           have hHeld : w64.cell? ⟨gb254, 0, none⟩ = some (.int .i64 a0_0) ∧ w64.cell? ⟨gb254, 1, none⟩ = some (.slice (some ad256) l0_1.length c0_1) ∧ w64.cell? ⟨gb255, 0, none⟩ = some (.int .i64 a1_0) ∧ w64.cell? ⟨gb255, 1, none⟩ = some (.slice (some ad257) l1_1.length c1_1) ∧ w64.cell? (ad256.add ((x5_2).toNat * 3)) = some (.string ((rd_T52 l0_1 x5_2).f0)) ∧ w64.cell? ⟨(ad256.add ((x5_2).toNat * 3)).block, (ad256.add ((x5_2).toNat * 3)).off + 1, none⟩ = some (.int .i64 ((rd_T52 l0_1 x5_2).f1)) ∧ w64.cell? ⟨(ad256.add ((x5_2).toNat * 3)).block, (ad256.add ((x5_2).toNat * 3)).off + 2, none⟩ = some (.slice A256_2 ((rd_T52 l0_1 x5_2).f2).length c256_2) ∧ w64.cell? (ad257.add ((x5_2).toNat * 3)) = some (.string ((rd_T52 l1_1 x5_2).f0)) ∧ w64.cell? ⟨(ad257.add ((x5_2).toNat * 3)).block, (ad257.add ((x5_2).toNat * 3)).off + 1, none⟩ = some (.int .i64 ((rd_T52 l1_1 x5_2).f1)) ∧ w64.cell? ⟨(ad257.add ((x5_2).toNat * 3)).block, (ad257.add ((x5_2).toNat * 3)).off + 2, none⟩ = some (.slice A257_2 ((rd_T52 l1_1 x5_2).f2).length c257_2) := hS_
           refine norm_ (a' := ?_) ?_ ?_
           rotate_left
           ·simp only [putAll, Act.put, List.setIfInBounds_toArray, List.set_cons_zero, List.set_cons_succ]
            rfl
           refine sOn 12 none (fun K hK => ?_)
           have hs65 : w64.cell? ⟨gb258, 0, none⟩ = some (.string (⟨#[]⟩ : ByteArray)) := (blk_cell BK258.out 0).trans rfl
           have hfs65 := blk_frozen BK258.out 0
           have hns65_0 := NB254_258.out
           have hns65_1 := NB255_258.out
           have hns65_3 := NB259_258.out
           have hms65_0 := NB258_254.out
           have hms65_1 := NB258_255.out
           have hms65_3 := NB258_259.out
           have hs66 : w64.cell? ⟨gb258, 1, none⟩ = some (.int .i64 0) := (blk_cell BK258.out 1).trans rfl
           have hfs66 := blk_frozen BK258.out 1
           have hns66_0 := NB254_258.out
           have hns66_1 := NB255_258.out
           have hns66_3 := NB259_258.out
           have hms66_0 := NB258_254.out
           have hms66_1 := NB258_255.out
           have hms66_3 := NB258_259.out
           have hs67 : w64.cell? ⟨gb258, 2, none⟩ = some (.slice none 0 0) := (blk_cell BK258.out 2).trans rfl
           have hfs67 := blk_frozen BK258.out 2
           have hns67_0 := NB254_258.out
           have hns67_1 := NB255_258.out
           have hns67_3 := NB259_258.out
           have hms67_0 := NB258_254.out
           have hms67_1 := NB258_255.out
           have hms67_3 := NB258_259.out
           refine skip_ (w1 := ?_) (by rfl) rfl ?_ ?_
           rotate_left
           ·go_simp
            rfl
           refine hK.out _ _ ⟨((cell_far (p := ⟨gb258, _, none⟩) NB254_258.out _).trans (((cell_far (p := ⟨gb258, _, none⟩) NB254_258.out _).trans (((cell_far (p := ⟨gb258, _, none⟩) NB254_258.out _).trans (hHeld.1)))))), ((cell_far (p := ⟨gb258, _, none⟩) NB254_258.out _).trans (((cell_far (p := ⟨gb258, _, none⟩) NB254_258.out _).trans (((cell_far (p := ⟨gb258, _, none⟩) NB254_258.out _).trans (hHeld.2.1)))))), ((cell_far (p := ⟨gb258, _, none⟩) NB255_258.out _).trans (((cell_far (p := ⟨gb258, _, none⟩) NB255_258.out _).trans (((cell_far (p := ⟨gb258, _, none⟩) NB255_258.out _).trans (hHeld.2.2.1)))))), ((cell_far (p := ⟨gb258, _, none⟩) NB255_258.out _).trans (((cell_far (p := ⟨gb258, _, none⟩) NB255_258.out _).trans (((cell_far (p := ⟨gb258, _, none⟩) NB255_258.out _).trans (hHeld.2.2.2.1)))))), ((cell_far (p := ⟨gb258, _, none⟩) (far_ne34 hw256_0 GW258.out) _).trans (((cell_far (p := ⟨gb258, _, none⟩) (far_ne34 hw256_0 GW258.out) _).trans (((cell_far (p := ⟨gb258, _, none⟩) (far_ne34 hw256_0 GW258.out) _).trans (hHeld.2.2.2.2.1)))))), ((cell_far (p := ⟨gb258, _, none⟩) (far_ne34 hw256_1 GW258.out) _).trans (((cell_far (p := ⟨gb258, _, none⟩) (far_ne34 hw256_1 GW258.out) _).trans (((cell_far (p := ⟨gb258, _, none⟩) (far_ne34 hw256_1 GW258.out) _).trans (hHeld.2.2.2.2.2.1)))))), ((cell_far (p := ⟨gb258, _, none⟩) (far_ne34 hw256_2 GW258.out) _).trans (((cell_far (p := ⟨gb258, _, none⟩) (far_ne34 hw256_2 GW258.out) _).trans (((cell_far (p := ⟨gb258, _, none⟩) (far_ne34 hw256_2 GW258.out) _).trans (hHeld.2.2.2.2.2.2.1)))))), ((cell_far (p := ⟨gb258, _, none⟩) (far_ne34 hw257_0 GW258.out) _).trans (((cell_far (p := ⟨gb258, _, none⟩) (far_ne34 hw257_0 GW258.out) _).trans (((cell_far (p := ⟨gb258, _, none⟩) (far_ne34 hw257_0 GW258.out) _).trans (hHeld.2.2.2.2.2.2.2.1)))))), ((cell_far (p := ⟨gb258, _, none⟩) (far_ne34 hw257_1 GW258.out) _).trans (((cell_far (p := ⟨gb258, _, none⟩) (far_ne34 hw257_1 GW258.out) _).trans (((cell_far (p := ⟨gb258, _, none⟩) (far_ne34 hw257_1 GW258.out) _).trans (hHeld.2.2.2.2.2.2.2.2.1)))))), ((cell_far (p := ⟨gb258, _, none⟩) (far_ne34 hw257_2 GW258.out) _).trans (((cell_far (p := ⟨gb258, _, none⟩) (far_ne34 hw257_2 GW258.out) _).trans (((cell_far (p := ⟨gb258, _, none⟩) (far_ne34 hw257_2 GW258.out) _).trans (hHeld.2.2.2.2.2.2.2.2.2))))))⟩ (fun hHeld => ?_)
           clear hK K
           refine sOn 13 none (fun K hK => ?_)
           have hs68 : w64.cell? ⟨gb259, 0, none⟩ = some (.string (⟨#[]⟩ : ByteArray)) := (blk_cell BK259.out 0).trans rfl
           have hfs68 := blk_frozen BK259.out 0
           have hns68_0 := NB254_259.out
           have hns68_1 := NB255_259.out
           have hns68_2 := NB258_259.out
           have hms68_0 := NB259_254.out
           have hms68_1 := NB259_255.out
           have hms68_2 := NB259_258.out
           have hs69 : w64.cell? ⟨gb259, 1, none⟩ = some (.int .i64 0) := (blk_cell BK259.out 1).trans rfl
           have hfs69 := blk_frozen BK259.out 1
           have hns69_0 := NB254_259.out
           have hns69_1 := NB255_259.out
           have hns69_2 := NB258_259.out
           have hms69_0 := NB259_254.out
           have hms69_1 := NB259_255.out
           have hms69_2 := NB259_258.out
           have hs70 : w64.cell? ⟨gb259, 2, none⟩ = some (.slice none 0 0) := (blk_cell BK259.out 2).trans rfl
           have hfs70 := blk_frozen BK259.out 2
           have hns70_0 := NB254_259.out
           have hns70_1 := NB255_259.out
           have hns70_2 := NB258_259.out
           have hms70_0 := NB259_254.out
           have hms70_1 := NB259_255.out
           have hms70_2 := NB259_258.out
           refine skip_ (w1 := ?_) (by rfl) rfl ?_ ?_
           rotate_left
           ·go_simp
            rfl
           refine hK.out _ _ ⟨((cell_far (p := ⟨gb259, _, none⟩) NB254_259.out _).trans (((cell_far (p := ⟨gb259, _, none⟩) NB254_259.out _).trans (((cell_far (p := ⟨gb259, _, none⟩) NB254_259.out _).trans (hHeld.1)))))), ((cell_far (p := ⟨gb259, _, none⟩) NB254_259.out _).trans (((cell_far (p := ⟨gb259, _, none⟩) NB254_259.out _).trans (((cell_far (p := ⟨gb259, _, none⟩) NB254_259.out _).trans (hHeld.2.1)))))), ((cell_far (p := ⟨gb259, _, none⟩) NB255_259.out _).trans (((cell_far (p := ⟨gb259, _, none⟩) NB255_259.out _).trans (((cell_far (p := ⟨gb259, _, none⟩) NB255_259.out _).trans (hHeld.2.2.1)))))), ((cell_far (p := ⟨gb259, _, none⟩) NB255_259.out _).trans (((cell_far (p := ⟨gb259, _, none⟩) NB255_259.out _).trans (((cell_far (p := ⟨gb259, _, none⟩) NB255_259.out _).trans (hHeld.2.2.2.1)))))), ((cell_far (p := ⟨gb259, _, none⟩) (far_ne34 hw256_0 GW259.out) _).trans (((cell_far (p := ⟨gb259, _, none⟩) (far_ne34 hw256_0 GW259.out) _).trans (((cell_far (p := ⟨gb259, _, none⟩) (far_ne34 hw256_0 GW259.out) _).trans (hHeld.2.2.2.2.1)))))), ((cell_far (p := ⟨gb259, _, none⟩) (far_ne34 hw256_1 GW259.out) _).trans (((cell_far (p := ⟨gb259, _, none⟩) (far_ne34 hw256_1 GW259.out) _).trans (((cell_far (p := ⟨gb259, _, none⟩) (far_ne34 hw256_1 GW259.out) _).trans (hHeld.2.2.2.2.2.1)))))), ((cell_far (p := ⟨gb259, _, none⟩) (far_ne34 hw256_2 GW259.out) _).trans (((cell_far (p := ⟨gb259, _, none⟩) (far_ne34 hw256_2 GW259.out) _).trans (((cell_far (p := ⟨gb259, _, none⟩) (far_ne34 hw256_2 GW259.out) _).trans (hHeld.2.2.2.2.2.2.1)))))), ((cell_far (p := ⟨gb259, _, none⟩) (far_ne34 hw257_0 GW259.out) _).trans (((cell_far (p := ⟨gb259, _, none⟩) (far_ne34 hw257_0 GW259.out) _).trans (((cell_far (p := ⟨gb259, _, none⟩) (far_ne34 hw257_0 GW259.out) _).trans (hHeld.2.2.2.2.2.2.2.1)))))), ((cell_far (p := ⟨gb259, _, none⟩) (far_ne34 hw257_1 GW259.out) _).trans (((cell_far (p := ⟨gb259, _, none⟩) (far_ne34 hw257_1 GW259.out) _).trans (((cell_far (p := ⟨gb259, _, none⟩) (far_ne34 hw257_1 GW259.out) _).trans (hHeld.2.2.2.2.2.2.2.2.1)))))), ((cell_far (p := ⟨gb259, _, none⟩) (far_ne34 hw257_2 GW259.out) _).trans (((cell_far (p := ⟨gb259, _, none⟩) (far_ne34 hw257_2 GW259.out) _).trans (((cell_far (p := ⟨gb259, _, none⟩) (far_ne34 hw257_2 GW259.out) _).trans (hHeld.2.2.2.2.2.2.2.2.2))))))⟩ (fun hHeld => ?_)
           clear hK K
           refine done_ (done_of HT_.out (by kernel_rfl)) ?_
           have hnb71 := NB258_254.out
           have hnc71 := NB254_258.out
           have hnb72 := NB258_255.out
           have hnc72 := NB255_258.out
           have hnb73 := NB258_259.out
           have hnc73 := NB259_258.out
           obtain ⟨hcz74_0, hcz74_1, hcz74_2, hfz74_0, hfz74_1, hfz74_2⟩ := bq3 BK258
           have hnb75 := NB259_254.out
           have hnc75 := NB254_259.out
           have hnb76 := NB259_255.out
           have hnc76 := NB255_259.out
           obtain ⟨hcz77_0, hcz77_1, hcz77_2, hfz77_0, hfz77_1, hfz77_2⟩ := bq3 BK259
           try go_wp2
           go_ret
           exact ⟨eN, bel⟩
         ·rw [if_neg c17] at H
          have c17b0 : (((rd_T52 l0_1 x5_2).f0).toList == ((rd_T52 l1_1 x5_2).f0).toList) = false := beq_eq_false_iff_ne.mpr c17
          have c17b1 : (((rd_T52 l0_1 x5_2).f0).toList != ((rd_T52 l1_1 x5_2).f0).toList) = true := bne_iff_ne.mpr c17
          obtain rfl := Option.some.inj H
          have hnb78 := NB254_255.out
          have hnc78 := NB255_254.out
          obtain ⟨hcz79_0, hcz79_1, hfz79_0, hfz79_1⟩ := bq2 BK254
          try go_wp2
          replace BK254 := Aside0.mk (blk_drew BK254.out)
          replace BK255 := Aside0.mk (blk_drew BK255.out)
          replace HB := Aside0.mk (below_drew1 HB.out)
          have p256 : 0 ≤ (x5_2 : Int) := dtr
          have q256 : x5_2 < (l0_1.length : Int) := dtr
          obtain ⟨ad256, A256_2, c256_2, e256, hx256_0, hx256_1, hx256_2, hl256_2, hi256_2⟩ := at_T52 HR0_1.out x5_2 p256 q256
          have hw256_2 := hx256_2
          have hw256_1 := hx256_1
          have hw256_0 := hx256_0
          cases e256
          replace hx256_0 := oc hx256_0
          replace hx256_1 := oc hx256_1
          replace hx256_2 := oc hx256_2
          have HR256_2 := Aside0.mk hi256_2
          have HC256_2 := Aside0.mk hl256_2
          clear hi256_2 hl256_2
          replace p256 := eq_true p256
          replace q256 := eq_true q256
          have p257 : 0 ≤ (x5_2 : Int) := dtr
          have q257 : x5_2 < (l1_1.length : Int) := dtr
          obtain ⟨ad257, A257_2, c257_2, e257, hx257_0, hx257_1, hx257_2, hl257_2, hi257_2⟩ := at_T52 HR1_1.out x5_2 p257 q257
          have hw257_2 := hx257_2
          have hw257_1 := hx257_1
          have hw257_0 := hx257_0
          cases e257
          replace hx257_0 := oc hx257_0
          replace hx257_1 := oc hx257_1
          replace hx257_2 := oc hx257_2
          have HR257_2 := Aside0.mk hi257_2
          have HC257_2 := Aside0.mk hl257_2
          clear hi257_2 hl257_2
          replace p257 := eq_true p257
          replace q257 := eq_true q257
          refine start_ (n := 14) (S := fun w' => w'.cell? ⟨gb254, 0, none⟩ = some (.int .i64 a0_0) ∧ w'.cell? ⟨gb254, 1, none⟩ = some (.slice (some ad256) l0_1.length c0_1) ∧ w'.cell? ⟨gb255, 0, none⟩ = some (.int .i64 a1_0) ∧ w'.cell? ⟨gb255, 1, none⟩ = some (.slice (some ad257) l1_1.length c1_1) ∧ w'.cell? (ad256.add ((x5_2).toNat * 3)) = some (.string ((rd_T52 l0_1 x5_2).f0)) ∧ w'.cell? ⟨(ad256.add ((x5_2).toNat * 3)).block, (ad256.add ((x5_2).toNat * 3)).off + 1, none⟩ = some (.int .i64 ((rd_T52 l0_1 x5_2).f1)) ∧ w'.cell? ⟨(ad256.add ((x5_2).toNat * 3)).block, (ad256.add ((x5_2).toNat * 3)).off + 2, none⟩ = some (.slice A256_2 ((rd_T52 l0_1 x5_2).f2).length c256_2) ∧ w'.cell? (ad257.add ((x5_2).toNat * 3)) = some (.string ((rd_T52 l1_1 x5_2).f0)) ∧ w'.cell? ⟨(ad257.add ((x5_2).toNat * 3)).block, (ad257.add ((x5_2).toNat * 3)).off + 1, none⟩ = some (.int .i64 ((rd_T52 l1_1 x5_2).f1)) ∧ w'.cell? ⟨(ad257.add ((x5_2).toNat * 3)).block, (ad257.add ((x5_2).toNat * 3)).off + 2, none⟩ = some (.slice A257_2 ((rd_T52 l1_1 x5_2).f2).length c257_2)) (ds := []) #[false, false, false, false, false, false, false, false, false, false, false, false, false, false] (by kernel_rfl) rfl rfl ⟨(blk_cell BK254.out 0).trans rfl, (blk_cell BK254.out 1).trans rfl, (blk_cell BK255.out 0).trans rfl, (blk_cell BK255.out 1).trans rfl, (oc hw256_0), (oc hw256_1), (oc hw256_2), (oc hw257_0), (oc hw257_1), (oc hw257_2)⟩ (fun hHeld => ?_); refine with_tabW paraphrastref01_Same.tab6 paraphrastref01_Same.bits6 (fun HT_ HW_ => ?_)
          generalize wr.drew = w80 at BK254 BK255 HB HR256_2 HR257_2 hx256_0 hx256_1 hx256_2 hx257_0 hx257_1 hx257_2 hHeld ⊢
          refine sPu 0 (some 29) ?_
          refine sPu 2 (some 31) ?_
          refine sPu 5 (some 34) ?_
          refine sPu 7 (some 36) ?_
          refine sTk 1 (some 30) ?_
          refine sPu 3 (some 32) ?_
          refine sTk 4 (some 33) ?_
          refine sTk 6 (some 35) ?_
          refine sPu 8 (some 37) ?_
          refine sTk 9 (some 38) ?_
          refine join_ (σ := Nat × Nat) 2 #[true, true, true, true, true, true, true, true, true, true, true, true, false, false] (fun s_ => [(6, .pointer (some ⟨s_.1, 0, none⟩)), (7, .pointer (some ⟨s_.2, 0, none⟩))]) (fun s_ w' => (w'.cell? ⟨gb254, 0, none⟩ = some (.int .i64 a0_0) ∧ w'.cell? ⟨gb254, 1, none⟩ = some (.slice (some ad256) l0_1.length c0_1) ∧ w'.cell? ⟨gb255, 0, none⟩ = some (.int .i64 a1_0) ∧ w'.cell? ⟨gb255, 1, none⟩ = some (.slice (some ad257) l1_1.length c1_1) ∧ w'.cell? (ad256.add ((x5_2).toNat * 3)) = some (.string ((rd_T52 l0_1 x5_2).f0)) ∧ w'.cell? ⟨(ad256.add ((x5_2).toNat * 3)).block, (ad256.add ((x5_2).toNat * 3)).off + 1, none⟩ = some (.int .i64 ((rd_T52 l0_1 x5_2).f1)) ∧ w'.cell? ⟨(ad256.add ((x5_2).toNat * 3)).block, (ad256.add ((x5_2).toNat * 3)).off + 2, none⟩ = some (.slice A256_2 ((rd_T52 l0_1 x5_2).f2).length c256_2) ∧ w'.cell? (ad257.add ((x5_2).toNat * 3)) = some (.string ((rd_T52 l1_1 x5_2).f0)) ∧ w'.cell? ⟨(ad257.add ((x5_2).toNat * 3)).block, (ad257.add ((x5_2).toNat * 3)).off + 1, none⟩ = some (.int .i64 ((rd_T52 l1_1 x5_2).f1)) ∧ w'.cell? ⟨(ad257.add ((x5_2).toNat * 3)).block, (ad257.add ((x5_2).toNat * 3)).off + 2, none⟩ = some (.slice A257_2 ((rd_T52 l1_1 x5_2).f2).length c257_2)) ∧ (w'.heap[gb254]? = some (.cells #[.int .i64 a0_0, .slice (some ad256) l0_1.length c0_1] 24 (0, 0))) ∧ (w'.heap[gb255]? = some (.cells #[.int .i64 a1_0, .slice (some ad257) l1_1.length c1_1] 24 (0, 0))) ∧ (w'.heap[s_.1]? = some (.cells #[.string (⟨#[]⟩ : ByteArray), .int .i64 0, .slice none 0 0] 52 (0, 0))) ∧ (w'.heap[s_.2]? = some (.cells #[.string (⟨#[]⟩ : ByteArray), .int .i64 0, .slice none 0 0] 52 (0, 0))) ∧ (w.heap.size ≤ s_.1) ∧ (w.heap.size ≤ s_.1) ∧ (gb254 ≠ s_.1) ∧ (s_.1 ≠ gb254) ∧ (gb255 ≠ s_.1) ∧ (s_.1 ≠ gb255) ∧ (s_.2 ≠ s_.1) ∧ (s_.1 ≠ s_.2) ∧ (w.heap.size ≤ s_.2) ∧ (w.heap.size ≤ s_.2) ∧ (gb254 ≠ s_.2) ∧ (s_.2 ≠ gb254) ∧ (gb255 ≠ s_.2) ∧ (s_.2 ≠ gb255) ∧ (Below w.heap.size w w')) ?_ ?_
          rotate_left
          ·intro hCont
           refine two_ (i := 10) (j := 11) (Ni := some 6) (Nj := some 7) #[true, true, true, true, true, true, true, true, true, true, true, false, false, false] #[true, true, true, true, true, true, true, true, true, true, false, true, false, false] rfl rfl rfl rfl (two_of HT_.out (by kernel_rfl)) (by decide) (by decide) (fun K hK => ?_) (fun K hK => ?_)
           ·skip
            refine box_step ?hg (N := 6) ?hd (cs := #[.string (⟨#[]⟩ : ByteArray), .int .i64 0, .slice none 0 0]) (t := 52) ?hr ?_; (case hd => rfl); (case hg => rfl); (case hr => first | (go_simp; done) | (go_simp; rfl))
            intro gb258 hg w81 hbox hb
            have BK258 := Aside0.mk (hbox)
            have GW258 := geB w hg
            have GE258 := geB w hg
            have NB254_258 := neL BK254 hg
            have NB258_254 := neG BK254 hg
            have NB255_258 := neL BK255 hg
            have NB258_255 := neG BK255 hg
            replace BK254 := blB BK254 hb
            replace BK255 := blB BK255 hb
            replace HB := Aside0.mk (below_step bel hb)
            clear hb hbox hg
            refine hK.out _ _ ⟨(blk_cell BK254.out 0).trans rfl, (blk_cell BK254.out 1).trans rfl, (blk_cell BK255.out 0).trans rfl, (blk_cell BK255.out 1).trans rfl, (oc hw256_0), (oc hw256_1), (oc hw256_2), (oc hw257_0), (oc hw257_1), (oc hw257_2)⟩ (fun hHeld => ?_)
            clear hK K
            refine norm_ (a' := ?_) ?_ ?_
            rotate_left
            ·show Act.put _ (some 6) _ = _
             simp only [Act.put, List.setIfInBounds_toArray, List.set_cons_zero, List.set_cons_succ, i64_w, i32_w]
             rfl
            refine sOn 11 (some 7) (fun K hK => ?_)
            refine box_step ?hg (N := 7) ?hd (cs := #[.string (⟨#[]⟩ : ByteArray), .int .i64 0, .slice none 0 0]) (t := 52) ?hr ?_; (case hd => rfl); (case hg => rfl); (case hr => first | (go_simp; done) | (go_simp; rfl))
            intro gb259 hg w82 hbox hb
            have BK259 := Aside0.mk (hbox)
            have GW259 := geB w hg
            have GE259 := geB w hg
            have NB254_259 := neL BK254 hg
            have NB259_254 := neG BK254 hg
            have NB255_259 := neL BK255 hg
            have NB259_255 := neG BK255 hg
            have NB258_259 := neL BK258 hg
            have NB259_258 := neG BK258 hg
            replace BK254 := blB BK254 hb
            replace BK255 := blB BK255 hb
            replace BK258 := blB BK258 hb
            replace HB := Aside0.mk (below_step bel hb)
            clear hb hbox hg
            refine hK.out _ _ ⟨(blk_cell BK254.out 0).trans rfl, (blk_cell BK254.out 1).trans rfl, (blk_cell BK255.out 0).trans rfl, (blk_cell BK255.out 1).trans rfl, (oc hw256_0), (oc hw256_1), (oc hw256_2), (oc hw257_0), (oc hw257_1), (oc hw257_2)⟩ (fun hHeld => ?_)
            clear hK K
            refine norm_ (a' := ?_) ?_ ?_
            rotate_left
            ·show Act.put _ (some 7) _ = _
             simp only [Act.put, List.setIfInBounds_toArray, List.set_cons_zero, List.set_cons_succ, i64_w, i32_w]
             rfl
            exact norm_ (by simp only [putAll, Act.put, List.setIfInBounds_toArray, List.set_cons_zero, List.set_cons_succ]) (hCont (gb258, gb259) _ ⟨hHeld, (bk BK254), (bk BK255), (bk BK258), (bk BK259), GW258.out, GE258.out, NB254_258.out, NB258_254.out, NB255_258.out, NB258_255.out, NB259_258.out, NB258_259.out, GW259.out, GE259.out, NB254_259.out, NB259_254.out, NB255_259.out, NB259_255.out, bel⟩)
           ·skip
            refine box_step ?hg (N := 7) ?hd (cs := #[.string (⟨#[]⟩ : ByteArray), .int .i64 0, .slice none 0 0]) (t := 52) ?hr ?_; (case hd => rfl); (case hg => rfl); (case hr => first | (go_simp; done) | (go_simp; rfl))
            intro gb259 hg w81 hbox hb
            have BK259 := Aside0.mk (hbox)
            have GW259 := geB w hg
            have GE259 := geB w hg
            have NB254_259 := neL BK254 hg
            have NB259_254 := neG BK254 hg
            have NB255_259 := neL BK255 hg
            have NB259_255 := neG BK255 hg
            replace BK254 := blB BK254 hb
            replace BK255 := blB BK255 hb
            replace HB := Aside0.mk (below_step bel hb)
            clear hb hbox hg
            refine hK.out _ _ ⟨(blk_cell BK254.out 0).trans rfl, (blk_cell BK254.out 1).trans rfl, (blk_cell BK255.out 0).trans rfl, (blk_cell BK255.out 1).trans rfl, (oc hw256_0), (oc hw256_1), (oc hw256_2), (oc hw257_0), (oc hw257_1), (oc hw257_2)⟩ (fun hHeld => ?_)
            clear hK K
            refine norm_ (a' := ?_) ?_ ?_
            rotate_left
            ·show Act.put _ (some 7) _ = _
             simp only [Act.put, List.setIfInBounds_toArray, List.set_cons_zero, List.set_cons_succ, i64_w, i32_w]
             rfl
            refine sOn 10 (some 6) (fun K hK => ?_)
            refine box_step ?hg (N := 6) ?hd (cs := #[.string (⟨#[]⟩ : ByteArray), .int .i64 0, .slice none 0 0]) (t := 52) ?hr ?_; (case hd => rfl); (case hg => rfl); (case hr => first | (go_simp; done) | (go_simp; rfl))
            intro gb258 hg w82 hbox hb
            have BK258 := Aside0.mk (hbox)
            have GW258 := geB w hg
            have GE258 := geB w hg
            have NB254_258 := neL BK254 hg
            have NB258_254 := neG BK254 hg
            have NB255_258 := neL BK255 hg
            have NB258_255 := neG BK255 hg
            have NB259_258 := neL BK259 hg
            have NB258_259 := neG BK259 hg
            replace BK254 := blB BK254 hb
            replace BK255 := blB BK255 hb
            replace BK259 := blB BK259 hb
            replace HB := Aside0.mk (below_step bel hb)
            clear hb hbox hg
            refine hK.out _ _ ⟨(blk_cell BK254.out 0).trans rfl, (blk_cell BK254.out 1).trans rfl, (blk_cell BK255.out 0).trans rfl, (blk_cell BK255.out 1).trans rfl, (oc hw256_0), (oc hw256_1), (oc hw256_2), (oc hw257_0), (oc hw257_1), (oc hw257_2)⟩ (fun hHeld => ?_)
            clear hK K
            refine norm_ (a' := ?_) ?_ ?_
            rotate_left
            ·show Act.put _ (some 6) _ = _
             simp only [Act.put, List.setIfInBounds_toArray, List.set_cons_zero, List.set_cons_succ, i64_w, i32_w]
             rfl
            exact norm_ (by simp only [putAll, Act.put, List.setIfInBounds_toArray, List.set_cons_zero, List.set_cons_succ]) (hCont (gb258, gb259) _ ⟨hHeld, (bk BK254), (bk BK255), (bk BK258), (bk BK259), GW258.out, GE258.out, NB254_258.out, NB258_254.out, NB255_258.out, NB258_255.out, NB259_258.out, NB258_259.out, GW259.out, GE259.out, NB254_259.out, NB259_254.out, NB255_259.out, NB259_255.out, bel⟩)
          rintro ⟨gb258, gb259⟩ w83 ⟨hS_, h0_, h1_, h2_, h3_, h4_, h5_, h6_, h7_, h8_, h9_, h10_, h11_, h12_, h13_, h14_, h15_, h16_, h17_, h18_⟩
          have n0_ : Aside0 (w83.heap[gb254]? = some (.cells #[.int .i64 a0_0, .slice (some ad256) l0_1.length c0_1] 24 (0, 0))) := ⟨h0_⟩
          have n1_ : Aside0 (w83.heap[gb255]? = some (.cells #[.int .i64 a1_0, .slice (some ad257) l1_1.length c1_1] 24 (0, 0))) := ⟨h1_⟩
          have n2_ : Aside0 (w83.heap[gb258]? = some (.cells #[.string (⟨#[]⟩ : ByteArray), .int .i64 0, .slice none 0 0] 52 (0, 0))) := ⟨h2_⟩
          have n3_ : Aside0 (w83.heap[gb259]? = some (.cells #[.string (⟨#[]⟩ : ByteArray), .int .i64 0, .slice none 0 0] 52 (0, 0))) := ⟨h3_⟩
          have n4_ : Aside0 (w.heap.size ≤ gb258) := ⟨h4_⟩
          have n5_ : Aside0 (w.heap.size ≤ gb258) := ⟨h5_⟩
          have n6_ : Aside0 (gb254 ≠ gb258) := ⟨h6_⟩
          have n7_ : Aside0 (gb258 ≠ gb254) := ⟨h7_⟩
          have n8_ : Aside0 (gb255 ≠ gb258) := ⟨h8_⟩
          have n9_ : Aside0 (gb258 ≠ gb255) := ⟨h9_⟩
          have n10_ : Aside0 (gb259 ≠ gb258) := ⟨h10_⟩
          have n11_ : Aside0 (gb258 ≠ gb259) := ⟨h11_⟩
          have n12_ : Aside0 (w.heap.size ≤ gb259) := ⟨h12_⟩
          have n13_ : Aside0 (w.heap.size ≤ gb259) := ⟨h13_⟩
          have n14_ : Aside0 (gb254 ≠ gb259) := ⟨h14_⟩
          have n15_ : Aside0 (gb259 ≠ gb254) := ⟨h15_⟩
          have n16_ : Aside0 (gb255 ≠ gb259) := ⟨h16_⟩
          have n17_ : Aside0 (gb259 ≠ gb255) := ⟨h17_⟩
          have n18_ : Aside0 (Below w.heap.size w w83) := ⟨h18_⟩
          clear BK254
          clear BK255
          clear HB
          clear h0_ h1_ h2_ h3_ h4_ h5_ h6_ h7_ h8_ h9_ h10_ h11_ h12_ h13_ h14_ h15_ h16_ h17_ h18_
          have BK254 := n0_
          have BK255 := n1_
          have BK258 := n2_
          have BK259 := n3_
          have GW258 := n4_
          have GE258 := n5_
          have NB254_258 := n6_
          have NB258_254 := n7_
          have NB255_258 := n8_
          have NB258_255 := n9_
          have NB259_258 := n10_
          have NB258_259 := n11_
          have GW259 := n12_
          have GE259 := n13_
          have NB254_259 := n14_
          have NB259_254 := n15_
          have NB255_259 := n16_
          have NB259_255 := n17_
          have HB := n18_
          clear n0_ n1_ n2_ n3_ n4_ n5_ n6_ n7_ n8_ n9_ n10_ n11_ n12_ n13_ n14_ n15_ n16_ n17_ n18_
          have hHeld : w83.cell? ⟨gb254, 0, none⟩ = some (.int .i64 a0_0) ∧ w83.cell? ⟨gb254, 1, none⟩ = some (.slice (some ad256) l0_1.length c0_1) ∧ w83.cell? ⟨gb255, 0, none⟩ = some (.int .i64 a1_0) ∧ w83.cell? ⟨gb255, 1, none⟩ = some (.slice (some ad257) l1_1.length c1_1) ∧ w83.cell? (ad256.add ((x5_2).toNat * 3)) = some (.string ((rd_T52 l0_1 x5_2).f0)) ∧ w83.cell? ⟨(ad256.add ((x5_2).toNat * 3)).block, (ad256.add ((x5_2).toNat * 3)).off + 1, none⟩ = some (.int .i64 ((rd_T52 l0_1 x5_2).f1)) ∧ w83.cell? ⟨(ad256.add ((x5_2).toNat * 3)).block, (ad256.add ((x5_2).toNat * 3)).off + 2, none⟩ = some (.slice A256_2 ((rd_T52 l0_1 x5_2).f2).length c256_2) ∧ w83.cell? (ad257.add ((x5_2).toNat * 3)) = some (.string ((rd_T52 l1_1 x5_2).f0)) ∧ w83.cell? ⟨(ad257.add ((x5_2).toNat * 3)).block, (ad257.add ((x5_2).toNat * 3)).off + 1, none⟩ = some (.int .i64 ((rd_T52 l1_1 x5_2).f1)) ∧ w83.cell? ⟨(ad257.add ((x5_2).toNat * 3)).block, (ad257.add ((x5_2).toNat * 3)).off + 2, none⟩ = some (.slice A257_2 ((rd_T52 l1_1 x5_2).f2).length c257_2) := hS_
          refine norm_ (a' := ?_) ?_ ?_
          rotate_left
          ·simp only [putAll, Act.put, List.setIfInBounds_toArray, List.set_cons_zero, List.set_cons_succ]
           rfl
          refine sOn 12 none (fun K hK => ?_)
          have hs84 : w83.cell? ⟨gb258, 0, none⟩ = some (.string (⟨#[]⟩ : ByteArray)) := (blk_cell BK258.out 0).trans rfl
          have hfs84 := blk_frozen BK258.out 0
          have hns84_0 := NB254_258.out
          have hns84_1 := NB255_258.out
          have hns84_3 := NB259_258.out
          have hms84_0 := NB258_254.out
          have hms84_1 := NB258_255.out
          have hms84_3 := NB258_259.out
          have hs85 : w83.cell? ⟨gb258, 1, none⟩ = some (.int .i64 0) := (blk_cell BK258.out 1).trans rfl
          have hfs85 := blk_frozen BK258.out 1
          have hns85_0 := NB254_258.out
          have hns85_1 := NB255_258.out
          have hns85_3 := NB259_258.out
          have hms85_0 := NB258_254.out
          have hms85_1 := NB258_255.out
          have hms85_3 := NB258_259.out
          have hs86 : w83.cell? ⟨gb258, 2, none⟩ = some (.slice none 0 0) := (blk_cell BK258.out 2).trans rfl
          have hfs86 := blk_frozen BK258.out 2
          have hns86_0 := NB254_258.out
          have hns86_1 := NB255_258.out
          have hns86_3 := NB259_258.out
          have hms86_0 := NB258_254.out
          have hms86_1 := NB258_255.out
          have hms86_3 := NB258_259.out
          refine skip_ (w1 := ?_) (by rfl) rfl ?_ ?_
          rotate_left
          ·go_simp
           rfl
          refine hK.out _ _ ⟨((cell_far (p := ⟨gb258, _, none⟩) NB254_258.out _).trans (((cell_far (p := ⟨gb258, _, none⟩) NB254_258.out _).trans (((cell_far (p := ⟨gb258, _, none⟩) NB254_258.out _).trans (hHeld.1)))))), ((cell_far (p := ⟨gb258, _, none⟩) NB254_258.out _).trans (((cell_far (p := ⟨gb258, _, none⟩) NB254_258.out _).trans (((cell_far (p := ⟨gb258, _, none⟩) NB254_258.out _).trans (hHeld.2.1)))))), ((cell_far (p := ⟨gb258, _, none⟩) NB255_258.out _).trans (((cell_far (p := ⟨gb258, _, none⟩) NB255_258.out _).trans (((cell_far (p := ⟨gb258, _, none⟩) NB255_258.out _).trans (hHeld.2.2.1)))))), ((cell_far (p := ⟨gb258, _, none⟩) NB255_258.out _).trans (((cell_far (p := ⟨gb258, _, none⟩) NB255_258.out _).trans (((cell_far (p := ⟨gb258, _, none⟩) NB255_258.out _).trans (hHeld.2.2.2.1)))))), ((cell_far (p := ⟨gb258, _, none⟩) (far_ne34 hw256_0 GW258.out) _).trans (((cell_far (p := ⟨gb258, _, none⟩) (far_ne34 hw256_0 GW258.out) _).trans (((cell_far (p := ⟨gb258, _, none⟩) (far_ne34 hw256_0 GW258.out) _).trans (hHeld.2.2.2.2.1)))))), ((cell_far (p := ⟨gb258, _, none⟩) (far_ne34 hw256_1 GW258.out) _).trans (((cell_far (p := ⟨gb258, _, none⟩) (far_ne34 hw256_1 GW258.out) _).trans (((cell_far (p := ⟨gb258, _, none⟩) (far_ne34 hw256_1 GW258.out) _).trans (hHeld.2.2.2.2.2.1)))))), ((cell_far (p := ⟨gb258, _, none⟩) (far_ne34 hw256_2 GW258.out) _).trans (((cell_far (p := ⟨gb258, _, none⟩) (far_ne34 hw256_2 GW258.out) _).trans (((cell_far (p := ⟨gb258, _, none⟩) (far_ne34 hw256_2 GW258.out) _).trans (hHeld.2.2.2.2.2.2.1)))))), ((cell_far (p := ⟨gb258, _, none⟩) (far_ne34 hw257_0 GW258.out) _).trans (((cell_far (p := ⟨gb258, _, none⟩) (far_ne34 hw257_0 GW258.out) _).trans (((cell_far (p := ⟨gb258, _, none⟩) (far_ne34 hw257_0 GW258.out) _).trans (hHeld.2.2.2.2.2.2.2.1)))))), ((cell_far (p := ⟨gb258, _, none⟩) (far_ne34 hw257_1 GW258.out) _).trans (((cell_far (p := ⟨gb258, _, none⟩) (far_ne34 hw257_1 GW258.out) _).trans (((cell_far (p := ⟨gb258, _, none⟩) (far_ne34 hw257_1 GW258.out) _).trans (hHeld.2.2.2.2.2.2.2.2.1)))))), ((cell_far (p := ⟨gb258, _, none⟩) (far_ne34 hw257_2 GW258.out) _).trans (((cell_far (p := ⟨gb258, _, none⟩) (far_ne34 hw257_2 GW258.out) _).trans (((cell_far (p := ⟨gb258, _, none⟩) (far_ne34 hw257_2 GW258.out) _).trans (hHeld.2.2.2.2.2.2.2.2.2))))))⟩ (fun hHeld => ?_)
          clear hK K
          refine sOn 13 none (fun K hK => ?_)
          have hs87 : w83.cell? ⟨gb259, 0, none⟩ = some (.string (⟨#[]⟩ : ByteArray)) := (blk_cell BK259.out 0).trans rfl
          have hfs87 := blk_frozen BK259.out 0
          have hns87_0 := NB254_259.out
          have hns87_1 := NB255_259.out
          have hns87_2 := NB258_259.out
          have hms87_0 := NB259_254.out
          have hms87_1 := NB259_255.out
          have hms87_2 := NB259_258.out
          have hs88 : w83.cell? ⟨gb259, 1, none⟩ = some (.int .i64 0) := (blk_cell BK259.out 1).trans rfl
          have hfs88 := blk_frozen BK259.out 1
          have hns88_0 := NB254_259.out
          have hns88_1 := NB255_259.out
          have hns88_2 := NB258_259.out
          have hms88_0 := NB259_254.out
          have hms88_1 := NB259_255.out
          have hms88_2 := NB259_258.out
          have hs89 : w83.cell? ⟨gb259, 2, none⟩ = some (.slice none 0 0) := (blk_cell BK259.out 2).trans rfl
          have hfs89 := blk_frozen BK259.out 2
          have hns89_0 := NB254_259.out
          have hns89_1 := NB255_259.out
          have hns89_2 := NB258_259.out
          have hms89_0 := NB259_254.out
          have hms89_1 := NB259_255.out
          have hms89_2 := NB259_258.out
          refine skip_ (w1 := ?_) (by rfl) rfl ?_ ?_
          rotate_left
          ·go_simp
           rfl
          refine hK.out _ _ ⟨((cell_far (p := ⟨gb259, _, none⟩) NB254_259.out _).trans (((cell_far (p := ⟨gb259, _, none⟩) NB254_259.out _).trans (((cell_far (p := ⟨gb259, _, none⟩) NB254_259.out _).trans (hHeld.1)))))), ((cell_far (p := ⟨gb259, _, none⟩) NB254_259.out _).trans (((cell_far (p := ⟨gb259, _, none⟩) NB254_259.out _).trans (((cell_far (p := ⟨gb259, _, none⟩) NB254_259.out _).trans (hHeld.2.1)))))), ((cell_far (p := ⟨gb259, _, none⟩) NB255_259.out _).trans (((cell_far (p := ⟨gb259, _, none⟩) NB255_259.out _).trans (((cell_far (p := ⟨gb259, _, none⟩) NB255_259.out _).trans (hHeld.2.2.1)))))), ((cell_far (p := ⟨gb259, _, none⟩) NB255_259.out _).trans (((cell_far (p := ⟨gb259, _, none⟩) NB255_259.out _).trans (((cell_far (p := ⟨gb259, _, none⟩) NB255_259.out _).trans (hHeld.2.2.2.1)))))), ((cell_far (p := ⟨gb259, _, none⟩) (far_ne34 hw256_0 GW259.out) _).trans (((cell_far (p := ⟨gb259, _, none⟩) (far_ne34 hw256_0 GW259.out) _).trans (((cell_far (p := ⟨gb259, _, none⟩) (far_ne34 hw256_0 GW259.out) _).trans (hHeld.2.2.2.2.1)))))), ((cell_far (p := ⟨gb259, _, none⟩) (far_ne34 hw256_1 GW259.out) _).trans (((cell_far (p := ⟨gb259, _, none⟩) (far_ne34 hw256_1 GW259.out) _).trans (((cell_far (p := ⟨gb259, _, none⟩) (far_ne34 hw256_1 GW259.out) _).trans (hHeld.2.2.2.2.2.1)))))), ((cell_far (p := ⟨gb259, _, none⟩) (far_ne34 hw256_2 GW259.out) _).trans (((cell_far (p := ⟨gb259, _, none⟩) (far_ne34 hw256_2 GW259.out) _).trans (((cell_far (p := ⟨gb259, _, none⟩) (far_ne34 hw256_2 GW259.out) _).trans (hHeld.2.2.2.2.2.2.1)))))), ((cell_far (p := ⟨gb259, _, none⟩) (far_ne34 hw257_0 GW259.out) _).trans (((cell_far (p := ⟨gb259, _, none⟩) (far_ne34 hw257_0 GW259.out) _).trans (((cell_far (p := ⟨gb259, _, none⟩) (far_ne34 hw257_0 GW259.out) _).trans (hHeld.2.2.2.2.2.2.2.1)))))), ((cell_far (p := ⟨gb259, _, none⟩) (far_ne34 hw257_1 GW259.out) _).trans (((cell_far (p := ⟨gb259, _, none⟩) (far_ne34 hw257_1 GW259.out) _).trans (((cell_far (p := ⟨gb259, _, none⟩) (far_ne34 hw257_1 GW259.out) _).trans (hHeld.2.2.2.2.2.2.2.2.1)))))), ((cell_far (p := ⟨gb259, _, none⟩) (far_ne34 hw257_2 GW259.out) _).trans (((cell_far (p := ⟨gb259, _, none⟩) (far_ne34 hw257_2 GW259.out) _).trans (((cell_far (p := ⟨gb259, _, none⟩) (far_ne34 hw257_2 GW259.out) _).trans (hHeld.2.2.2.2.2.2.2.2.2))))))⟩ (fun hHeld => ?_)
          clear hK K
          refine done_ (done_of HT_.out (by kernel_rfl)) ?_
          have hnb90 := NB258_254.out
          have hnc90 := NB254_258.out
          have hnb91 := NB258_255.out
          have hnc91 := NB255_258.out
          have hnb92 := NB258_259.out
          have hnc92 := NB259_258.out
          obtain ⟨hcz93_0, hcz93_1, hcz93_2, hfz93_0, hfz93_1, hfz93_2⟩ := bq3 BK258
          have hnb94 := NB259_254.out
          have hnc94 := NB254_259.out
          have hnb95 := NB259_255.out
          have hnc95 := NB255_259.out
          obtain ⟨hcz96_0, hcz96_1, hcz96_2, hfz96_0, hfz96_1, hfz96_2⟩ := bq3 BK259
          try go_wp2
          go_ret
          exact ⟨eN, bel⟩
        ·rw [if_neg c16] at H
         exact absurd H (by simp)
       ·rw [if_neg c15] at H
        exact absurd H (by simp)
      ·rw [if_neg c14] at H
       have c14b0 : decide (x5_2 < (l0_1.length : Int)) = false := decide_eq_false c14
       clear c14
       obtain rfl := Option.some.inj H
       have hnb97 := NB254_255.out
       have hnc97 := NB255_254.out
       obtain ⟨hcz98_0, hcz98_1, hfz98_0, hfz98_1⟩ := bq2 BK254
       go_wp2
       go_ret
       exact ⟨eN, bel⟩
end Go.Proofs.YtfmpaofbnjlniaaGreatDoor.F
/- Same, Text and Parse at structures: what they answer. -/
namespace Go.Proofs.YtfmpaofbnjlniaaGreatDoor.F
open Go.RowKit Go.Proofs.YtfmpaofbnjlniaaGreatDoorW.PrintWords Go.Proofs.YtfmpaofbnjlniaaGreatDoorW.PrintLast Go.Proofs.YtfmpaofbnjlniaaGreatDoorW.PrintMore
set_option linter.unusedVariables false
theorem rdL2_nat (l : List (List Int)) (i : Nat) (h : i < l.length) : rd_L2 l (i : Int) = l[i] := by unfold rd_L2; rw [Int.toNat_natCast, List.getD_eq_getElem?_getD, List.getElem?_eq_getElem h]; rfl
end Go.Proofs.YtfmpaofbnjlniaaGreatDoor.F
/- slices.Clone at []int, by hand. -/
namespace Go.Proofs.YtfmpaofbnjlniaaGreatDoor.F
open Go.RowKit Go.Proofs.YtfmpaofbnjlniaaGreatDoorW.PrintWords Go.Proofs.YtfmpaofbnjlniaaGreatDoorW.PrintLast Go.Proofs.YtfmpaofbnjlniaaGreatDoorW.PrintMore
set_option linter.unusedVariables false
set_option linter.unusedSimpArgs false
def slices_Clone_int_int.f (l : List Int) : Option (List Int) := if l.length ≤ 100000 then some l else none
set_option maxHeartbeats 4000000 in
set_option maxRecDepth 100000 in
theorem slices_Clone_int_int.calls (A0 : Option Addr) (c0 : Nat) (l0 : List Int) (r1 : List Int) (w : World) (hr0 : Kd.C (Kd.int .i64) w A0 l0.length l0) (hc0 : l0.length ≤ c0) (h : slices_Clone_int_int.f l0 = some r1) :
    Calls Tryz.prog 60 #[.slice A0 l0.length c0] w fun e w' => ∃ v0_ : Value, e = .returned v0_ ∧ Kd.R (Kd.int .i64) 3 w' w.heap.size (fun _ => True) v0_ r1 ∧ Below w.heap.size w w' := by
  unfold slices_Clone_int_int.f at h
  by_cases hl : l0.length ≤ 100000
  case neg => rw [if_neg hl] at h; cases h
  rw [if_pos hl] at h
  obtain rfl := Option.some.inj h
  clear h
  have HR0 := Aside0.mk hr0
  have HC0 := Aside0.mk hc0
  clear hr0 hc0
  have hq : ∀ (n c : Nat) (W : World), (binOp .eql 46 (.slice A0 n c) (.slice none 0 0)).run Tryz.prog W = .ok (.bool A0.isNone) W := fun n c W => Lib.run_eql_slice_nil W 46 3 A0 n c 0 0 Tryz.underlying46
  go_enter Tryz.func60, Tryz.ntmps60
  cases A0 with
  | none =>
    have h0 : l0 = [] := by
      cases l0 with
      | nil => rfl
      | cons x xs => obtain ⟨ad, h, _⟩ := HR0.out.2.2 (by simp); cases h
    subst h0
    go_wp2
    go_ret
    exact ⟨_, rfl, Kd.R_nil _ _ _ _ _, Below.refl _ _⟩
  | some ad =>
    have HO := Aside0.mk (show Kd.R (Kd.int .i64) 3 (w.alloc (.cells #[] 3)) w.heap.size (fun _ => True) (.slice (some ⟨w.heap.size, 0, none⟩) 0 0) [] from Kd.R_of_own (h1 := fun _ => rfl) (ok := fun _ => True) (own_lit_of (enc := Value.int .i64) w w.heap.size 3 [] (Nat.le_refl _) (by simp)) (fun _ _ => trivial))
    have HC := Aside0.mk (Kd.C_alloc HR0.out (.cells #[] 3))
    have HB := Aside0.mk (below_alloc (Below.refl w.heap.size w) (.cells #[] 3))
    go_wp2_with (first | ((with_reducible refine gate_builtin (b := .append) (xs := #[.tmp 5, .tmp 6]) rfl ?_); at_builtin; refine Kd.R_append_rows (Kd.int .i64) (w0 := w) w.heap.size rfl (.tmp 5) (.tmp 6) 46 3 (.int .i64 0) 8 rfl Tryz.underlying46 infoInt rfl (by decide) (by omega) (.slice (some ⟨w.heap.size, 0, none⟩) 0 0) [] l0 _ _ _ (fun _ => True) (fun _ => False) rfl rfl ?aO ?aR (fun _ _ h => h) (fun _ h => h.elim) ?aF ?aB ?aS ?aL ?_; (case aO => exact HO.out); (case aR => exact HC.out); (case aF => exact fun _ _ => trivial); (case aB => exact HB.out); (case aS => exact HB.out.size); (case aL => simp; omega); intro v7 w7 ho hb hg hat; have n0_ := Aside0.mk ho; have n1_ := Aside0.mk hb; clear ho hb hg hat HO HC HB))
    go_ret
    exact ⟨_, rfl, n0_.out, n1_.out⟩
end Go.Proofs.YtfmpaofbnjlniaaGreatDoor.F
/- slices.Insert at [][]int, by hand (the walk turned from the kit's worked one at []string). -/
namespace Go.Proofs.YtfmpaofbnjlniaaGreatDoor.F
open Go.RowKit Go.Lib Go.Proofs.YtfmpaofbnjlniaaGreatDoorW.PrintWords Go.Proofs.YtfmpaofbnjlniaaGreatDoorW.PrintLast Go.Proofs.YtfmpaofbnjlniaaGreatDoorW.PrintMore
set_option linter.unusedVariables false
set_option linter.unusedSimpArgs false
theorem wp_copy_runI {P : Program} (w : World) {o : Oper} {a : Act} {K : Act → World → Prop} {Q : Exit → Act → World → Prop} (d s : Operand) (t t' : TypeId)
    (ho : o.op = .call { callee := .builtin .copy, args := #[d, s], argTypes := #[t, t'] }) (v u : Value) (hd : a.eval d = v) (hs : a.eval s = u) {v' : Value} {w' : World}
    (hr : (Builtin.copy_ #[t, t'] o.type #[v, u]).run P w = .ok v' w') (h : K (a.put o.dst v') w') : o.wp P a w K Q := by
  unfold Oper.wp execOp
  simp only [ho, resolve, invoke, builtin, Sem.run_bind, Sem.run_pure, Result.andThen_ok, List.map_toArray, List.map_cons, List.map_nil, hd, hs, hr]
  exact h
theorem wpList_copy_runI {P : Program} (w : World) {ops : Array Oper} {rest : List Oper} {o : Oper} {a : Act} {Q : Exit → Act → World → Prop} (hgd : o.guard = none) (d s : Operand) (t t' : TypeId)
    (ho : o.op = .call { callee := .builtin .copy, args := #[d, s], argTypes := #[t, t'] }) (v u : Value) (hd : a.eval d = v) (hs : a.eval s = u) {v' : Value} {w' : World}
    (hr : (Builtin.copy_ #[t, t'] o.type #[v, u]).run P w = .ok v' w') (h : wpList P ops Q rest (a.put o.dst v') w') : wpList P ops Q (o :: rest) a w :=
  wpList_plain hgd fun _ hK => wp_copy_runI w d s t t' ho v u hd hs hr (hK _ _ h)
theorem step_copy_runI {P : Program} {ops : Array Oper} {o : Oper} {a : Act} {w : World} {K : Act → World → Prop} {Q : Exit → Act → World → Prop} {E : Prop}
    (hg : o.guard = none) (d x : Operand) (dT sT : TypeId) (hop : o.op = Op.call { callee := Callee.builtin Builtin.copy, args := #[d, x], argTypes := #[dT, sT] })
    (v u : Value) (hd : a.eval d = v) (hx : a.eval x = u) {v' : Value} {w' : World} (hr : (Builtin.copy_ #[dT, sT] o.type #[v, u]).run P w = .ok v' w') (hK : K (a.put o.dst v') w') :
    if Region.wanted o (yielded ops a.tmps) = true then Oper.wp P o a w K Q else E := by
  have hw : Region.wanted o (yielded ops a.tmps) = true := by simp [Region.wanted, hg]
  rw [if_pos hw]
  unfold Oper.wp
  simp [execOp, hop, resolve, invoke, builtin, hd, hx, hr, Result.andThen]
  exact hK
theorem isSome_setCells (b : Nat) (vs : List Value) (o : Nat) (w : World) (h : ∀ j, j < vs.length → (w.cell? ⟨b, o + j, none⟩).isSome = true) (k : Nat) (hk : (w.cell? ⟨b, k, none⟩).isSome = true) : ((w.setCells b o vs).cell? ⟨b, k, none⟩).isSome = true := by
  by_cases hin : o ≤ k ∧ k < o + vs.length
  · have := World.cell?_setCells_in b vs o w h (k - o) (by omega)
    rw [show o + (k - o) = k by omega] at this
    rw [this]; rfl
  · rw [World.cell?_setCells_out b vs o w ⟨b, k, none⟩ (fun _ _ => by show k < o ∨ o + vs.length ≤ k; omega)]
    exact hk
set_option maxHeartbeats 4000000 in
set_option maxRecDepth 100000 in
theorem insert_shift (b off n c i vb voff m vc : Nat) (cs vs : List Value) (w : World) (hi : i < n) (hm : 0 < m) (hroom : n + m ≤ c) (hc63 : c ≤ 9223372036854775807) (hvb : vb ≠ b)
    (hcl : cs.length = n) (hvl : vs.length = m)
    (hcs : ∀ j v, cs[j]? = some v → w.cell? ⟨b, off + j, none⟩ = some v) (hsp : ∀ j, j < n + m → (w.cell? ⟨b, off + j, none⟩).isSome = true) (hfz : ∀ j, j < n + m → w.frozen? ⟨b, off + j, none⟩ = false)
    (hvs : ∀ j v, vs[j]? = some v → w.cell? ⟨vb, voff + j, none⟩ = some v) (h1c : ∀ v ∈ cs, v.oneCell' = true) (h1v : ∀ v ∈ vs, v.oneCell' = true)
    (tA tB : TypeId) (kA kB : Nat) (hsa : w.shape? vb = some (tA, kA)) (hsb : w.shape? b = some (tB, kB)) (hkB : kB ≠ 0) (hfa : w.frozen? ⟨vb, voff, none⟩ = false) (hfe : w.frozen? ⟨vb, kA, none⟩ = false) :
    Calls Tryz.prog 59 #[.slice (some ⟨b, off, none⟩) n c, .int .i64 i, .slice (some ⟨vb, voff, none⟩) m vc] w fun e w' =>
      e = .returned (.slice (some ⟨b, off, none⟩) (n + m) c) ∧ w' = (w.drew.setCells b (off + (i + m)) (cs.drop i)).setCells b (off + i) vs := by
  have hz1 : ¬ ((m : Int) = 0) := by omega
  have hz2 : ¬ ((i : Int) = (n : Int)) := by omega
  have hsz : (Tryz.prog.info? 46).map (·.size) = some 1 := by
    obtain ⟨i0, hi0, h0, h1, h2⟩ := info_parts infoInts
    rw [hi0]; simp [h1]
  have hov : ∀ lb cb, (callFunc 88 #[.slice (some ⟨vb, voff, none⟩) m vc, .slice (some ⟨b, off + (i + m), none⟩) lb cb]).run Tryz.prog w = .ok (.value (.bool false)) w := fun lb cb => by
    rw [run_callFunc_extern Tryz.func88 (by kernel_rfl) (by kernel_rfl) (by kernel_rfl) (e := Extern.SlicesOverlaps.overlaps #[50, 50] #[4]) (by kernel_rfl),
      Lib.run_overlaps_apart w 50 4 46 Tryz.underlying50 1 (fun w => by kernel_rfl) ⟨vb, voff, none⟩ ⟨b, off + (i + m), none⟩ m vc lb cb hvb tA tB kA kB hsa hsb hkB hfa hfe]
    rfl
  have hdl : (cs.drop i).length = n - i := by rw [List.length_drop, hcl]
  have hw1 : IntKind.i64.wrap ((i : Int) + (m : Int)) = (i : Int) + (m : Int) := by rw [IntKind.wrap_i64]; omega
  have hb1 : (0 : Int) ≤ (i : Int) + (m : Int) := by omega
  have hin : i ≤ n := by omega
  have htn : ((i : Int) + (m : Int)).toNat = i + m := by omega
  have hb2 : ¬ (c = i + m) := by omega
  have hb3 : (i : Int) ≤ (n : Int) + (m : Int) := by omega
  have hb4 : ¬ (c = i) := by omega
  have hcp1 : ∀ ty dc sc, (Builtin.copy_ #[50, 50] ty #[.slice (some ⟨b, off + (i + m), none⟩) (n + m - (i + m)) dc, .slice (some ⟨b, off + i, none⟩) (n + m - i) sc]).run Tryz.prog w.drew = .ok (goInt (cs.drop i).length) (w.drew.setCells b (off + (i + m)) (cs.drop i)) := fun ty dc sc =>
    run_copy_cells w.drew _ _ ty 46 b (off + (i + m)) (n + m - (i + m)) dc ⟨b, off + i, none⟩ (n + m - i) sc (cs.drop i) Tryz.underlying50 hsz (by rw [hdl]; simp only [Nat.min_def]; split <;> omega)
      (fun j v hj => by rw [Addr.add_lit, Nat.add_assoc]; exact hcs (i + j) v (by rwa [List.getElem?_drop] at hj))
      (fun j hj => by rw [Nat.add_assoc]; exact hsp _ (by omega)) (fun j hj => by rw [Nat.add_assoc]; exact hfz _ (by omega)) (fun v hv => h1c v (List.mem_of_mem_drop hv))
  obtain ⟨W1, hW1⟩ : ∃ W1, W1 = w.drew.setCells b (off + (i + m)) (cs.drop i) := ⟨_, rfl⟩
  have hsp1 : ∀ k, k < n + m → (W1.cell? ⟨b, off + k, none⟩).isSome = true := fun k hk => by
    rw [hW1]
    exact isSome_setCells b _ _ _ (fun j hj => by rw [Nat.add_assoc]; exact hsp _ (by omega)) _ (hsp k hk)
  have hcp2 : ∀ (W : World), (∀ x, W.cell? x = W1.cell? x) → (∀ x, W.frozen? x = W1.frozen? x) → ∀ ty dc, (Builtin.copy_ #[50, 50] ty #[.slice (some ⟨b, off + i, none⟩) (n + m - i) dc, .slice (some ⟨vb, voff, none⟩) m vc]).run Tryz.prog W = .ok (goInt vs.length) (W.setCells b (off + i) vs) := fun W hWc hWf ty dc =>
    run_copy_cells W _ _ ty 46 b (off + i) (n + m - i) dc ⟨vb, voff, none⟩ m vc vs Tryz.underlying50 hsz (by rw [hvl]; simp only [Nat.min_def]; split <;> omega)
      (fun j v hj => by
        rw [Addr.add_lit, hWc, hW1, World.cell?_setCells_out b _ _ _ _ (fun h _ => absurd h hvb)]
        exact hvs j v hj)
      (fun j hj => by rw [hWc, Nat.add_assoc]; exact hsp1 _ (by omega)) (fun j hj => by rw [hWf, hW1, World.frozen?_setCells, Nat.add_assoc]; exact hfz _ (by omega)) h1v
  rw [← hW1] at hcp1
  go_enter Tryz.func59, Tryz.ntmps59
  go_wp2_with (simp only [hov])
  go_region_law (refine step_copy_runI rfl _ _ 50 50 rfl _ _ (by simp [Act.eval, Act.put]) (by simp [Act.eval, Act.put]) (hcp1 _ _ _) ?_)
  go_wp2_with (at_builtin; refine wpList_copy_runI _ rfl _ _ 50 50 rfl _ _ rfl rfl (hcp2 _ (fun _ => rfl) (fun _ => rfl) _ _) ?_)
  go_ret
  first | exact ⟨rfl, rfl⟩ | exact ⟨rfl, by rw [hW1]⟩
set_option maxHeartbeats 4000000 in
set_option maxRecDepth 100000 in
theorem insert_grow (b off n c i vb voff m vc : Nat) (cs vs : List Value) (w : World) (hi : i < n) (hm : 0 < m) (hnc : n ≤ c) (hroom : c < n + m) (hbig : (n + m) * 24 ≤ 140737488355328)
    (hcl : cs.length = n) (hvl : vs.length = m)
    (hcs : ∀ j v, cs[j]? = some v → w.cell? ⟨b, off + j, none⟩ = some v)
    (hvs : ∀ j v, vs[j]? = some v → w.cell? ⟨vb, voff + j, none⟩ = some v) (h1c : ∀ v ∈ cs, v.oneCell' = true) (h1v : ∀ v ∈ vs, v.oneCell' = true) :
    Calls Tryz.prog 59 #[.slice (some ⟨b, off, none⟩) n c, .int .i64 i, .slice (some ⟨vb, voff, none⟩) m vc] w fun e w' =>
      e = .returned (.slice (some ⟨w.heap.size, 0, none⟩) (n + m) (grownCap w (n + m) c 46)) ∧
      w' = (((w.alloc (.cells ((cs.take i).toArray ++ Builtin.zeroCells (Value.slice none 0 0).cells (n + m - i) ++ Builtin.zeroCells (Value.slice none 0 0).cells (grownCap w (n + m) c 46 - (n + m))) 46)).drew.setCells w.heap.size i vs).drew).setCells w.heap.size (i + m) (cs.drop i) := by
  obtain ⟨i0, hi0, hz0, hzs, hzb⟩ := info_parts infoInts
  have hz1 : ¬ ((m : Int) = 0) := by omega
  have hz2 : ¬ ((i : Int) = (n : Int)) := by omega
  have hz3 : (c : Int) < (n : Int) + (m : Int) := by omega
  have hsz : (Tryz.prog.info? 46).map (·.size) = some 1 := by rw [hi0]; simp [hzs]
  have hbw : b < w.heap.size := block_lt_of_cell (hcs 0 _ (List.getElem?_eq_getElem (by omega)))
  have hvw : vb < w.heap.size := block_lt_of_cell (hvs 0 _ (List.getElem?_eq_getElem (by omega)))
  have hkk : (n : Int) + (m : Int) - (i : Int) = ((n + m - i : Nat) : Int) := by omega
  have hik : i + (n + m - i) = n + m := by omega
  have hold : (Builtin.firstCells i0.size i (.slice (some ⟨b, off, none⟩) i c)).run Tryz.prog w.drew = .ok (cs.take i).toArray w.drew := by
    rw [hzs]
    exact run_firstCells_some w.drew 1 i ⟨b, off, none⟩ i c (cs.take i) (by rw [List.length_take]; omega) (fun j v hj => by
      rw [Addr.add_lit]
      rw [List.getElem?_take] at hj
      split at hj
      · exact hcs j v hj
      · cases hj)
  have hrz : ∀ ty, (Builtin.append_ #[50, 3] ty #[.slice (some ⟨b, off, none⟩) i c, .int .i64 ((n : Int) + (m : Int) - (i : Int))]).run Tryz.prog w =
      .ok (.slice (some ⟨w.heap.size, 0, none⟩) (n + m) (grownCap w (n + m) c 46)) (w.drew.alloc (.cells ((cs.take i).toArray ++ Builtin.zeroCells (Value.slice none 0 0).cells (n + m - i) ++ Builtin.zeroCells (Value.slice none 0 0).cells (grownCap w (n + m) c 46 - (n + m))) 46)) := fun ty => by
    have h := Lib.run_append_grow_zeros w 50 3 ty 46 i0 _ .i64 .i64 Tryz.underlying50 Tryz.underlying3 hi0 hz0 (some ⟨b, off, none⟩) i c (cs.take i) hold (n + m - i) (by omega) (by omega) (by omega) (by omega) (by rw [hzb]; omega) (by rw [hzb, hik]; exact growslice_fits hroom hbig)
    rw [hik] at h
    rw [hkk]
    exact h
  obtain ⟨G, hG⟩ : ∃ G, G = grownCap w (n + m) c 46 := ⟨_, rfl⟩
  obtain ⟨ROW, hROW⟩ : ∃ ROW : Array Value, ROW = (cs.take i).toArray ++ Builtin.zeroCells (Value.slice none 0 0).cells (n + m - i) ++ Builtin.zeroCells (Value.slice none 0 0).cells (G - (n + m)) := ⟨_, rfl⟩
  rw [← hG] at hrz ⊢
  rw [← hROW] at hrz ⊢
  have hRl : n + m ≤ ROW.size := by
    rw [hROW]
    simp [Builtin.zeroCells, Value.cells]
    omega
  obtain ⟨W1, hW1⟩ : ∃ W1, W1 = w.drew.alloc (.cells ROW 46) := ⟨_, rfl⟩
  rw [← hW1] at hrz
  have hN : ∀ j, j < n + m → (W1.cell? ⟨w.heap.size, j, none⟩).isSome = true := fun j hj => by
    rw [hW1, World.cell?_alloc_at (w := w.drew) ROW _ w.heap.size j rfl, Array.getElem?_eq_getElem (by omega)]; rfl
  have hNf : ∀ j, W1.frozen? ⟨w.heap.size, j, none⟩ = false := fun j => by rw [hW1]; exact World.frozen?_alloc_at (w := w.drew) ROW _ w.heap.size j rfl
  have hOb : ∀ j v, w.cell? ⟨b, j, none⟩ = some v → W1.cell? ⟨b, j, none⟩ = some v := fun j v h => by rw [hW1, World.cell?_alloc_past (w := w.drew) _ b j hbw]; exact h
  have hOv : ∀ j v, w.cell? ⟨vb, j, none⟩ = some v → W1.cell? ⟨vb, j, none⟩ = some v := fun j v h => by rw [hW1, World.cell?_alloc_past (w := w.drew) _ vb j hvw]; exact h
  have hcpA : ∀ (W : World), (∀ x, W.cell? x = W1.cell? x) → (∀ x, W.frozen? x = W1.frozen? x) → ∀ ty dc, (Builtin.copy_ #[50, 50] ty #[.slice (some ⟨w.heap.size, i, none⟩) (n + m - i) dc, .slice (some ⟨vb, voff, none⟩) m vc]).run Tryz.prog W = .ok (goInt vs.length) (W.setCells w.heap.size i vs) := fun W hWc hWf ty dc =>
    run_copy_cells W _ _ ty 46 w.heap.size i (n + m - i) dc ⟨vb, voff, none⟩ m vc vs Tryz.underlying50 hsz (by rw [hvl]; simp only [Nat.min_def]; split <;> omega)
      (fun j v hj => by rw [Addr.add_lit, hWc]; exact hOv _ v (hvs j v hj))
      (fun j hj => by rw [hWc]; exact hN _ (by omega)) (fun j hj => by rw [hWf]; exact hNf _) h1v
  have hGn : n + m ≤ G := by rw [hG]; exact grownCap_ge w _ _ _
  have hG63 : G ≤ 9223372036854775807 := by
    have := grownCap_le_maxLen w (n + m) c 46 (by unfold maxLen; omega)
    rw [← hG] at this
    unfold maxLen at this
    omega
  have hGi : ¬ (G = i) := by omega
  have hGim : ¬ (G = i + m) := by omega
  have hci : ¬ (c = i) := by omega
  have hbN : b ≠ w.heap.size := by omega
  have hdl : (cs.drop i).length = n - i := by rw [List.length_drop, hcl]
  have hcpB : ∀ (W : World), (∀ x, W.cell? x = (W1.setCells w.heap.size i vs).cell? x) → (∀ x, W.frozen? x = (W1.setCells w.heap.size i vs).frozen? x) → ∀ ty dc sc, (Builtin.copy_ #[50, 50] ty #[.slice (some ⟨w.heap.size, i + m, none⟩) (n + m - (i + m)) dc, .slice (some ⟨b, off + i, none⟩) (n - i) sc]).run Tryz.prog W = .ok (goInt (cs.drop i).length) (W.setCells w.heap.size (i + m) (cs.drop i)) := fun W hWc hWf ty dc sc =>
    run_copy_cells W _ _ ty 46 w.heap.size (i + m) (n + m - (i + m)) dc ⟨b, off + i, none⟩ (n - i) sc (cs.drop i) Tryz.underlying50 hsz (by rw [hdl]; simp only [Nat.min_def]; split <;> omega)
      (fun j v hj => by
        rw [Addr.add_lit, hWc, World.cell?_setCells_out _ _ _ _ _ (fun h _ => absurd h hbN), Nat.add_assoc]
        exact hOb _ v (hcs (i + j) v (by rwa [List.getElem?_drop] at hj)))
      (fun j hj => by rw [hWc]; exact isSome_setCells _ _ _ _ (fun t ht => hN _ (by omega)) _ (hN _ (by omega)))
      (fun j hj => by rw [hWf, World.frozen?_setCells]; exact hNf _) (fun v hv => h1c v (List.mem_of_mem_drop hv))
  subst hW1
  have hE1 : ∀ x, ((w.alloc (.cells ROW 46)).drew).cell? x = (w.drew.alloc (.cells ROW 46)).cell? x := fun x => rfl
  have hE2 : ∀ x, ((w.alloc (.cells ROW 46)).drew).frozen? x = (w.drew.alloc (.cells ROW 46)).frozen? x := fun x => rfl
  have hF1 : ∀ x, (((w.alloc (.cells ROW 46)).drew.setCells w.heap.size i vs).drew).cell? x = ((w.drew.alloc (.cells ROW 46)).setCells w.heap.size i vs).cell? x := fun x => rfl
  have hF2 : ∀ x, (((w.alloc (.cells ROW 46)).drew.setCells w.heap.size i vs).drew).frozen? x = ((w.drew.alloc (.cells ROW 46)).setCells w.heap.size i vs).frozen? x := fun x => rfl
  have hw1 : IntKind.i64.wrap ((i : Int) + (m : Int)) = (i : Int) + (m : Int) := by rw [IntKind.wrap_i64]; omega
  have hb1 : (0 : Int) ≤ (i : Int) + (m : Int) := by omega
  have hin : i ≤ n := by omega
  have htn : ((i : Int) + (m : Int)).toNat = i + m := by omega
  have hb3 : (i : Int) ≤ (n : Int) := by omega
  clear hkk hik hold hROW hG hRl
  go_enter Tryz.func59, Tryz.ntmps59
  go_wp2_with (first
    | (at_builtin; refine Lib.wpList_append_run _ rfl _ _ _ _ rfl _ _ rfl rfl _ _ (hrz _) ?_)
    | (at_builtin; refine wpList_copy_runI _ rfl _ _ 50 50 rfl _ _ rfl rfl (hcpA _ hE1 hE2 _ _) ?_)
    | (at_builtin; refine wpList_copy_runI _ rfl _ _ 50 50 rfl _ _ rfl rfl (hcpB _ (fun _ => rfl) (fun _ => rfl) _ _ _) ?_))
  go_region_law (refine step_copy_runI rfl _ _ 50 50 rfl (.slice (some ⟨w.heap.size, i + m, none⟩) (n + m - (i + m)) (G - (i + m))) (.slice (some ⟨b, off + i, none⟩) (n - i) (c - i)) (by simp [Act.eval, Act.put]) (by simp [Act.eval, Act.put]) (hcpB _ hF1 hF2 3 (G - (i + m)) (c - i)) ?_)
  go_wp2
  go_ret
  exact ⟨rfl, rfl⟩
/-- How Insert ends: the row with the new cell at its place; nothing but the row's own block has turned. -/
def InsEnds (w : World) (base : Nat) (v : Value) (n i : Nat) (inner : List Value) (xv : Value) (e : Ending) (w' : World) : Prop :=
  ∃ v', e = .returned v' ∧ w'.ownsRow base 46 1 v' (n + 1) (inner.take i ++ [xv] ++ inner.drop i) ∧ w.grownBy w' v.ownBlock ∧ (v'.ownBlock = v.ownBlock ∨ ∃ b, v'.ownBlock = some b ∧ w.heap.size ≤ b)
abbrev OneV := { v : Value // v.oneCell' = true }
def vK : Kd OneV := Kd.scalar Subtype.val (fun x => x.2)
theorem oneVs : ∀ inner : List Value, (∀ u ∈ inner, u.oneCell' = true) → ∃ xs : List OneV, encs Subtype.val xs = inner
  | [], _ => ⟨[], rfl⟩
  | u :: us, h => by
    obtain ⟨xs, e⟩ := oneVs us (fun x hx => h x (List.mem_cons_of_mem _ hx))
    exact ⟨⟨u, h u List.mem_cons_self⟩ :: xs, congrArg (u :: ·) e⟩
set_option maxHeartbeats 4000000 in
set_option maxRecDepth 100000 in
theorem insert_last (A : Option Addr) (n c : Nat) (inner : List Value) (h1i : ∀ u ∈ inner, u.oneCell' = true) (g' : Nat) (xv : Value) (base : Nat) (w : World) (hown : w.ownsRow base 46 1 (.slice A n c) n inner) (hn : n ≤ 100000) (hbase : base ≤ w.heap.size)
    (hx : w.heap[g']? = some (.cells #[xv] 46 (0, 0))) (h1 : xv.oneCell' = true) :
    Calls Tryz.prog 59 #[.slice A n c, .int .i64 n, .slice (some ⟨g', 0, none⟩) 1 1] w (InsEnds w base (.slice A n c) n n inner xv) := by
  obtain ⟨xs, rfl⟩ := oneVs inner h1i
  have hlen : xs.length = n := by have := hown.1; rw [encs_length] at this; omega
  subst hlen
  obtain ⟨i0, hi0, _, hsz0, _⟩ := info_parts infoInts
  have hcut := cut_from (P := Tryz.prog) 50 46 .i64 Tryz.underlying50 hi0 1 hsz0 A xs.length c xs.length (by omega) (by omega)
  have hcx : w.cell? ⟨g', 0, none⟩ = some xv := by simp [World.cell?, hx]
  have HO := Aside0.mk (show vK.R 46 w base (fun _ => True) (.slice A xs.length c) xs from Kd.R_of_own (h1 := fun x => x.2) (ok := fun _ => True) hown (fun _ _ => trivial))
  have HX := Aside0.mk (show ReadsRow (fun (x : OneV) (cs : List Value) => cs = [x.1]) 1 w (some ⟨g', 0, none⟩) 1 [⟨xv, h1⟩] from ⟨rfl, by omega, fun _ => ⟨_, rfl, fun j p hj => by
    cases j with
    | zero =>
      simp at hj; subst hj
      exact ⟨[xv], rfl, rfl, fun i u hu => by
        cases i with
        | zero => simp at hu; subst hu; simpa [Addr.add] using hcx
        | succ i => simp at hu⟩
    | succ j => simp at hj⟩⟩)
  have HB := Aside0.mk (show Below base w w from Below.refl _ _)
  clear hown hx h1i
  go_enter Tryz.func59, Tryz.ntmps59
  go_wp2_with (first | ((with_reducible refine gate_builtin (b := .append) (xs := #[.tmp 23, .tmp 24]) rfl ?_); at_builtin; refine Kd.R_append_rows vK (w0 := w) base rfl (.tmp 23) (.tmp 24) 50 46 (.slice none 0 0) 24 rfl Tryz.underlying50 infoInts rfl (by decide) (by omega) (.slice A xs.length c) xs [⟨xv, h1⟩] (some ⟨g', 0, none⟩) 1 1 (fun _ => True) (fun _ => False) rfl rfl HO.out HX.out (fun _ _ h => h) (fun _ h => h.elim) (fun _ _ => trivial) HB.out hbase (by omega) ?_; intro v7 w7 ho hb hg hat; have n0_ := Aside0.mk ho; have n1_ := Aside0.mk hg; have n2_ := Aside0.mk hat; clear ho hb hg hat))
  all_goals
    go_ret
    refine ⟨_, rfl, ?_, by have h := n1_.out; cases A <;> exact h, by have h := n2_.out; cases A <;> exact h⟩
    have h := Kd.own_of_R n0_.out
    rw [List.length_append, encs_append] at h
    rw [List.take_of_length_le (by rw [encs_length]; exact Nat.le_refl _), List.drop_eq_nil_of_le (by rw [encs_length]; exact Nat.le_refl _), List.append_nil]
    exact h
theorem insert_row (A : Option Addr) (n c i : Nat) (inner : List Value) (h1i : ∀ u ∈ inner, u.oneCell' = true) (g' : Nat) (xv : Value) (base : Nat) (w : World) (hown : w.ownsRow base 46 1 (.slice A n c) n inner) (hi : i ≤ n) (hn : n ≤ 100000) (hbase : base ≤ w.heap.size)
    (hx : w.heap[g']? = some (.cells #[xv] 46 (0, 0))) (h1 : xv.oneCell' = true) (hne : some g' ≠ (Value.slice A n c).ownBlock) :
    Calls Tryz.prog 59 #[.slice A n c, .int .i64 i, .slice (some ⟨g', 0, none⟩) 1 1] w (InsEnds w base (.slice A n c) n i inner xv) := by
  by_cases hin : i = n
  · subst hin
    exact insert_last A i c inner h1i g' xv base w hown hn hbase hx h1
  have hil : inner.length = n := by have := hown.1; omega
  rcases hown.2 with ⟨hv, h0⟩ | ⟨g, cap, cur, hv, hbg, hg, hnc, hcm, hcs, htake⟩
  · omega
  · obtain ⟨rfl, rfl⟩ : A = some ⟨g, 0, none⟩ ∧ c = cap := by injection hv with h2 h3 h4; exact ⟨h2, h4⟩
    rw [Nat.mul_one] at htake hcs
    have hclen : cur.toList.length = c := by rw [Array.length_toList]; exact hcs
    have hcell : ∀ j v, inner[j]? = some v → w.cell? ⟨g, 0 + j, none⟩ = some v := by
      intro j v hj
      rw [← htake, List.getElem?_take] at hj
      split at hj
      · rw [Array.getElem?_toList] at hj; simp [World.cell?, hg, hj]
      · cases hj
    have hvcell : ∀ j v, [xv][j]? = some v → w.cell? ⟨g', 0 + j, none⟩ = some v := by
      intro j v hj
      cases j with
      | zero => simp at hj; subst hj; simp [World.cell?, hx]
      | succ j => simp at hj
    have h1v : ∀ v ∈ [xv], v.oneCell' = true := fun v hv => by rw [List.mem_singleton.1 hv]; exact h1
    have hgg : g' ≠ g := fun e => hne (by rw [e]; rfl)
    have hdl : (inner.drop i).length = n - i := by rw [List.length_drop, hil]
    have htl : (inner.take i).length = i := by rw [List.length_take, hil]; omega
    have hlen3 : (inner.take i ++ [xv] ++ inner.drop i).length = (n + 1) * 1 := by simp only [List.length_append, List.length_singleton, htl, hdl]; omega
    by_cases hroom : n + 1 ≤ c
    · refine (insert_shift g 0 n c i g' 0 1 1 inner [xv] w (by omega) (by omega) hroom (by unfold maxLen at hcm; omega) hgg hil rfl hcell
        (fun j hj => by simp [World.cell?, hg]; omega) (fun j hj => by simp [World.frozen?, hg]) hvcell h1i h1v 46 46 1 cur.size (by simp [World.shape?, hx]) (by simp [World.shape?, hg]) (by omega) (by simp [World.frozen?, hx]) (by simp [World.frozen?, hx])).mono ?_
      rintro e w' ⟨rfl, rfl⟩
      rw [Nat.zero_add, Nat.zero_add]
      obtain ⟨c1, hc1, hz1, hl1⟩ := setCells_row (inner.drop i) (i + 1) w.drew cur hg (by omega)
      obtain ⟨c2, hc2, hz2, hl2⟩ := setCells_row [xv] i (w.drew.setCells g (i + 1) (inner.drop i)) c1 hc1 (by simp; omega)
      obtain ⟨s1, s2, s3, s4⟩ := setCells_same g (inner.drop i) (i + 1) w.drew
      obtain ⟨t1, t2, t3, t4⟩ := setCells_same g [xv] i (w.drew.setCells g (i + 1) (inner.drop i))
      refine ⟨_, rfl, ⟨hlen3, .inr ⟨g, c, c2, rfl, hbg, hc2, hroom, hcm, by omega, ?_⟩⟩, ⟨t1.trans s1, t2.trans s2, t3.trans s3, by rw [t4, s4]; exact Nat.le_refl _, fun k hk hkr => ?_⟩, Or.inl rfl⟩
      · have e1 : c1.toList.take i = inner.take i := by
          rw [hl1, List.append_assoc, List.take_append_of_le_length (by rw [List.length_take]; omega), List.take_take, Nat.min_eq_left (by omega), ← htake, List.take_take, Nat.min_eq_left (by omega)]
        have e2 : c1.toList.drop (i + 1) = inner.drop i ++ cur.toList.drop (i + 1 + (inner.drop i).length) := by
          rw [hl1, List.append_assoc, List.drop_left' (by rw [List.length_take]; omega)]
        rw [hl2, List.length_singleton, e1, e2, ← List.append_assoc, ← hlen3]
        exact List.take_left
      · have hkg : k ≠ g := fun e => hkr (by rw [e]; rfl)
        exact (setCells_far [xv] i k hkg).trans (setCells_far (inner.drop i) (i + 1) k hkg)
    · refine (insert_grow g 0 n c i g' 0 1 1 inner [xv] w (by omega) (by omega) hnc (by omega) (by omega) hil rfl hcell hvcell h1i h1v).mono ?_
      rintro e w' ⟨rfl, rfl⟩
      generalize hG : grownCap w (n + 1) c 46 = G
      have hGn : n + 1 ≤ G := by rw [← hG]; exact grownCap_ge w _ _ _
      have hGm : G ≤ maxLen := by rw [← hG]; exact grownCap_le_maxLen w _ _ _ (by unfold maxLen; omega)
      generalize hR : (inner.take i).toArray ++ Builtin.zeroCells (Value.slice none 0 0).cells (n + 1 - i) ++ Builtin.zeroCells (Value.slice none 0 0).cells (G - (n + 1)) = ROW
      have hRs : ROW.size = G := by rw [← hR]; simp [Builtin.zeroCells, Value.cells, htl]; omega
      have hRl : ROW.toList.take i = inner.take i := by rw [← hR]; simp [List.take_append_of_le_length, htl]
      have hN : (w.alloc (.cells ROW 46)).drew.heap[w.heap.size]? = some (.cells ROW 46 (0, 0)) := heap_alloc_new w _
      obtain ⟨c1, hc1, hz1, hl1⟩ := setCells_row [xv] i (w.alloc (.cells ROW 46)).drew ROW hN (by simp; omega)
      obtain ⟨c2, hc2, hz2, hl2⟩ := setCells_row (inner.drop i) (i + 1) ((w.alloc (.cells ROW 46)).drew.setCells w.heap.size i [xv]).drew c1 hc1 (by omega)
      obtain ⟨s1, s2, s3, s4⟩ := setCells_same w.heap.size [xv] i (w.alloc (.cells ROW 46)).drew
      obtain ⟨t1, t2, t3, t4⟩ := setCells_same w.heap.size (inner.drop i) (i + 1) ((w.alloc (.cells ROW 46)).drew.setCells w.heap.size i [xv]).drew
      refine ⟨_, rfl, ⟨hlen3, .inr ⟨w.heap.size, G, c2, rfl, hbase, hc2, hGn, hGm, by omega, ?_⟩⟩, ⟨t1.trans s1, t2.trans s2, t3.trans s3, by rw [t4]; show _ ≤ ((w.alloc (.cells ROW 46)).drew.setCells w.heap.size i [xv]).heap.size; rw [s4]; simp, fun k hk hkr => ?_⟩, Or.inr ⟨_, rfl, Nat.le_refl _⟩⟩
      · have e1 : c1.toList.take (i + 1) = inner.take i ++ [xv] := by
          rw [hl1, hRl]
          exact List.take_left' (by simp [htl])
        rw [hl2, e1, ← hlen3]
        exact List.take_left
      · have hkg : k ≠ w.heap.size := by omega
        exact (setCells_far (inner.drop i) (i + 1) k hkg).trans ((setCells_far (w := (w.alloc (.cells ROW 46)).drew) [xv] i k hkg).trans (heap_alloc_old w _ hk))
end Go.Proofs.YtfmpaofbnjlniaaGreatDoor.F
/- slices.Delete at [][]int, one element, by hand (the walk turned from the kit's worked one). -/
namespace Go.Proofs.YtfmpaofbnjlniaaGreatDoor.F
open Go.RowKit Go.Lib Go.Proofs.YtfmpaofbnjlniaaGreatDoorW.PrintWords Go.Proofs.YtfmpaofbnjlniaaGreatDoorW.PrintLast Go.Proofs.YtfmpaofbnjlniaaGreatDoorW.PrintMore
set_option linter.unusedVariables false
set_option linter.unusedSimpArgs false
set_option maxHeartbeats 4000000 in
set_option maxRecDepth 100000 in
theorem delete_room (b n c i : Nat) (cs : List Value) (w : World) (hi : i < n) (hnc : n ≤ c) (hc63 : c ≤ 9223372036854775807) (hcl : cs.length = n)
    (hcs : ∀ j v, cs[j]? = some v → w.cell? ⟨b, 0 + j, none⟩ = some v) (hsp : ∀ j, j < c → (w.cell? ⟨b, j, none⟩).isSome = true) (hfz : ∀ j, w.frozen? ⟨b, j, none⟩ = false) (h1c : ∀ v ∈ cs, v.oneCell' = true) :
    Calls Tryz.prog 61 #[.slice (some ⟨b, 0, none⟩) n c, .int .i64 i, .int .i64 ((i : Int) + 1)] w fun e w' =>
      e = .returned (.slice (some ⟨b, 0, none⟩) (i + (n - (i + 1))) c) ∧ w' = (w.drew.setCells b (0 + i * 1) (cs.drop (i + 1))).setCells b ((i + (n - (i + 1)))) (List.replicate (n - (i + (n - (i + 1)))) (.slice none 0 0)) := by
  obtain ⟨i0, hi0, hz0, hz1, hzb⟩ := info_parts infoInts
  obtain ⟨news, hnews⟩ : ∃ news, news = cs.drop (i + 1) := ⟨_, rfl⟩
  have hlen : news.length = n - (i + 1) := by rw [hnews, List.length_drop, hcl]
  obtain ⟨A, hA, hsrc⟩ : ∃ A : Addr, (if c = i + 1 then some (⟨b, 0, none⟩ : Addr) else some ⟨b, i + 1, none⟩) = some A ∧ Hid (∀ t u, news[t]? = some u → w.drew.cell? (A.add t) = some u) := by
    by_cases h : c = i + 1
    · refine ⟨⟨b, 0, none⟩, by simp [h], fun t u hu => ?_⟩
      have h0 : news.length = 0 := by rw [hlen]; omega
      rw [List.length_eq_zero_iff.1 h0] at hu
      simp at hu
    · refine ⟨⟨b, i + 1, none⟩, by simp [h], fun t u hu => ?_⟩
      rw [hnews, List.getElem?_drop] at hu
      rw [Addr.add_lit]
      have := hcs (i + 1 + t) u hu
      rwa [Nat.zero_add] at this
  have s1 : Hid (news.length = (n - (i + 1)) * 1) := by rw [Nat.mul_one]; exact hlen
  have s2 : Hid (∀ u ∈ news, u.oneCell' = true) := fun u hu => h1c u (by rw [hnews] at hu; exact List.mem_of_mem_drop hu)
  have s3 : Hid (∀ t, t < news.length → (w.drew.cell? ⟨b, 0 + i * 1 + t, none⟩).isSome = true ∧ w.drew.frozen? ⟨b, 0 + i * 1 + t, none⟩ = false) := by
    intro t ht
    rw [hlen] at ht
    exact ⟨hsp _ (by omega), hfz _⟩
  obtain ⟨W1, hW1⟩ : ∃ W1, W1 = w.drew.setCells b (0 + i * 1) news := ⟨_, rfl⟩
  have hc1 : ∀ j, j < c → (W1.cell? ⟨b, j, none⟩).isSome = true := fun j hj => by rw [hW1]; exact isSome_setCells b news _ w.drew (fun t ht => (s3.out t ht).1) j (hsp j hj)
  have hf1 : ∀ j, W1.frozen? ⟨b, j, none⟩ = false := fun j => by rw [hW1, World.frozen?_setCells]; exact hfz j
  have hcl : ∀ ty, (Builtin.clear_ #[50] ty #[.slice (some ⟨b, (i + (n - (i + 1))), none⟩) (n - (i + (n - (i + 1)))) (c - (i + (n - (i + 1))))]).run Tryz.prog W1 = .ok (.tuple #[]) (W1.setCells b ((i + (n - (i + 1)))) (List.replicate (n - (i + (n - (i + 1)))) (.slice none 0 0))) :=
    fun ty => Lib.run_clear_slice W1 _ _ ty _ Tryz.underlying50 (fun w => by kernel_rfl) rfl rfl b ((i + (n - (i + 1)))) _ _ (by omega) (fun t ht => hc1 _ (by omega)) (fun t ht => hf1 _)
  have hW : Hid (W1 = w.drew.setCells b (0 + i * 1) news) := hW1
  have hic : i ≤ c := by omega
  have hjc : i + 1 ≤ c := by omega
  have hw1 : IntKind.i64.wrap ((i : Int) + 1) = (i : Int) + 1 := by rw [IntKind.wrap_i64]; omega
  have hp0 : (0 : Int) ≤ (i : Int) + 1 := by omega
  have hp1 : (i : Int) + 1 ≤ (n : Int) := by omega
  have hp2 : ((i : Int) + 1).toNat = i + 1 := by omega
  rw [← hnews, ← hW1]
  clear hW1 hcs hnews hlen hc1 hf1 hsp hfz
  go_enter Tryz.func61, Tryz.ntmps61
  go_wp2_with fail
  go_region_law (refine step_append_room rfl (.tmp 22) (.tmp 25) 50 rfl 46 i0 1 Tryz.underlying50 hi0 hz1 b 0 i c (by simp [Act.eval, Act.put]) A (n - (i + 1)) (c - (i + 1)) news (by simp [Act.eval, Act.put]) s1.out hsrc.out s2.out (by omega) s3.out ?_; rw [← hW.out])
  go_wp2
  go_ret
  exact ⟨rfl, rfl⟩
/-- How Delete ends: the row without its cell i; nothing but the row's own block has turned. -/
def DelEnds (w : World) (base : Nat) (v : Value) (n i : Nat) (inner : List Value) (e : Ending) (w' : World) : Prop :=
  ∃ v', e = .returned v' ∧ w'.ownsRow base 46 1 v' (n - 1) (inner.take i ++ inner.drop (i + 1)) ∧ w.grownBy w' v.ownBlock ∧ v'.ownBlock = v.ownBlock
theorem delete_row (A : Option Addr) (n c i : Nat) (inner : List Value) (h1i : ∀ u ∈ inner, u.oneCell' = true) (base : Nat) (w : World) (hown : w.ownsRow base 46 1 (.slice A n c) n inner) (hi : i < n) :
    Calls Tryz.prog 61 #[.slice A n c, .int .i64 i, .int .i64 ((i : Int) + 1)] w (DelEnds w base (.slice A n c) n i inner) := by
  have hil : inner.length = n := by have := hown.1; omega
  rcases hown.2 with ⟨hv, h0⟩ | ⟨g, cap, cur, hv, hbg, hg, hnc, hcm, hcs, htake⟩
  · omega
  · obtain ⟨rfl, rfl⟩ : A = some ⟨g, 0, none⟩ ∧ c = cap := by injection hv with h2 h3 h4; exact ⟨h2, h4⟩
    rw [Nat.mul_one] at htake hcs
    have hclen : cur.toList.length = c := by rw [Array.length_toList]; exact hcs
    have hcell : ∀ j v, inner[j]? = some v → w.cell? ⟨g, 0 + j, none⟩ = some v := by
      intro j v hj
      rw [← htake, List.getElem?_take] at hj
      split at hj
      · rw [Array.getElem?_toList] at hj; simp [World.cell?, hg, hj]
      · cases hj
    have hm : i + (n - (i + 1)) = n - 1 := by omega
    have h1n : n - (n - 1) = 1 := by omega
    have hdl : (inner.drop (i + 1)).length = n - (i + 1) := by rw [List.length_drop, hil]
    have htl : (inner.take i).length = i := by rw [List.length_take, hil]; omega
    have hlen3 : (inner.take i ++ inner.drop (i + 1)).length = (n - 1) * 1 := by simp only [List.length_append, htl, hdl]; omega
    refine (delete_room g n c i inner w hi hnc (by unfold maxLen at hcm; omega) hil hcell (fun j hj => by simp [World.cell?, hg]; omega) (fun j => by simp [World.frozen?, hg]) h1i).mono ?_
    rintro e w' ⟨rfl, rfl⟩
    rw [Nat.zero_add, Nat.mul_one, hm, h1n]
    obtain ⟨c1, hc1, hz1, hl1⟩ := setCells_row (inner.drop (i + 1)) i w.drew cur hg (by omega)
    obtain ⟨c2, hc2, hz2, hl2⟩ := setCells_row [.slice none 0 0] (n - 1) (w.drew.setCells g i (inner.drop (i + 1))) c1 hc1 (by simp; omega)
    obtain ⟨s1, s2, s3, s4⟩ := setCells_same g (inner.drop (i + 1)) i w.drew
    obtain ⟨t1, t2, t3, t4⟩ := setCells_same g [.slice none 0 0] (n - 1) (w.drew.setCells g i (inner.drop (i + 1)))
    refine ⟨_, rfl, ⟨hlen3, .inr ⟨g, c, c2, rfl, hbg, hc2, by omega, hcm, by omega, ?_⟩⟩, ⟨t1.trans s1, t2.trans s2, t3.trans s3, by rw [show List.replicate 1 (Value.slice none 0 0) = [.slice none 0 0] from rfl, t4, s4]; exact Nat.le_refl _, fun k hk hkr => ?_⟩, rfl⟩
    · have e1 : c1.toList.take (n - 1) = inner.take i ++ inner.drop (i + 1) := by
        rw [hl1]
        have e0 : cur.toList.take i = inner.take i := by rw [← htake, List.take_take, Nat.min_eq_left (by omega)]
        rw [e0]
        exact List.take_left' (by simp only [List.length_append, htl, hdl]; omega)
      rw [hl2, List.append_assoc, e1, ← hlen3]
      exact List.take_left
    · have hkg : k ≠ g := fun e => hkr (by rw [e]; rfl)
      exact (setCells_far [.slice none 0 0] (n - 1) k hkg).trans (setCells_far (inner.drop (i + 1)) i k hkg)
end Go.Proofs.YtfmpaofbnjlniaaGreatDoor.F
/- shape.Copy, by hand: the copy's relations lie apart from each other. -/
namespace Go.Proofs.YtfmpaofbnjlniaaGreatDoor.F
open Go.RowKit Go.Proofs.YtfmpaofbnjlniaaGreatDoorW.PrintWords Go.Proofs.YtfmpaofbnjlniaaGreatDoorW.PrintLast Go.Proofs.YtfmpaofbnjlniaaGreatDoorW.PrintMore
set_option linter.unusedVariables false
set_option linter.unusedSimpArgs false
def copyOk (l : List S52) : Prop := l.length ≤ 100000 ∧ ∀ r ∈ l, r.f2.length ≤ 100000 ∧ ∀ t ∈ r.f2, t.length ≤ 100000
theorem infoRel' : (Tryz.prog.info? 52).map (fun i => (i.zero, i.size, i.bytes)) = some (some (.agg #[.string ⟨#[]⟩, .int .i64 0, .slice none 0 0]), 3, 48) := by kernel_rfl
set_option maxHeartbeats 4000000 in
set_option maxRecDepth 100000 in
theorem copy_calls (n : Int) (A : Option Addr) (c : Nat) (l : List S52) (w : World) (hC : Kd.C k52 w A l.length l) (hlc : l.length ≤ c) (hok : copyOk l) :
    Calls Tryz.prog 54 #[.agg #[.int .i64 n, .slice A l.length c]] w fun e w' => ∃ v, e = .returned (.agg #[.int .i64 n, v]) ∧ Kd.S k52 52 w' w.heap.size (fun _ => True) v l ∧ Below w.heap.size w w' := by
  have hu38 := Tryz.underlying24
  have hu54 := Tryz.underlying52
  have HC := Aside0.mk hC
  have HL := Aside0.mk hlc
  have HOK := Aside0.mk hok
  have hl0 := hok.1
  clear hC hlc hok
  go_enter Tryz.func54, Tryz.ntmps54
  go_wp2
  have HB3 := Aside0.mk (below_alloc (below_alloc (below_alloc (Below.refl w.heap.size w) (.cells #[.int .i64 n, .slice A l.length c] 24)) (.cells #[.int .i64 0, .slice none 0 0] 24)) (.cells #[.int .i64 n, .slice none 0 0] 24))
  have H2 := Aside0.mk (show (((w.alloc (.cells #[.int .i64 n, .slice A l.length c] 24)).alloc (.cells #[.int .i64 0, .slice none 0 0] 24)).alloc (.cells #[.int .i64 n, .slice none 0 0] 24)).heap[w.heap.size + 1]? = some (.cells #[.int .i64 0, .slice none 0 0] 24 (0, 0)) from (heap_alloc_old _ _ (by simp)).trans (by have := heap_alloc_new (w.alloc (.cells #[.int .i64 n, .slice A l.length c] 24)) (.cells #[.int .i64 0, .slice none 0 0] 24); simpa using this))
  have H3 := Aside0.mk (show (((w.alloc (.cells #[.int .i64 n, .slice A l.length c] 24)).alloc (.cells #[.int .i64 0, .slice none 0 0] 24)).alloc (.cells #[.int .i64 n, .slice none 0 0] 24)).heap[w.heap.size + 1 + 1]? = some (.cells #[.int .i64 n, .slice none 0 0] 24 (0, 0)) from by have := heap_alloc_new ((w.alloc (.cells #[.int .i64 n, .slice A l.length c] 24)).alloc (.cells #[.int .i64 0, .slice none 0 0] 24)) (.cells #[.int .i64 n, .slice none 0 0] 24); simpa using this)
  generalize hW3 : ((w.alloc (.cells #[.int .i64 n, .slice A l.length c] 24)).alloc (.cells #[.int .i64 0, .slice none 0 0] 24)).alloc (.cells #[.int .i64 n, .slice none 0 0] 24) = W3 at *
  clear hW3
  generalize hg2 : w.heap.size + 1 = g2 at *
  generalize hg3 : g2 + 1 = g3 at *
  have hg2w : w.heap.size ≤ g2 := by omega
  have hg3w : w.heap.size ≤ g3 := by omega
  go_loopw [15] (fun v15 wr => ∃ (j : Nat) (v : Value), v15 = .int .i64 j ∧ j ≤ l.length ∧ Aside0 (wr.heap[g2]? = some (.cells #[.int .i64 0, .slice none 0 0] 24 (0, 0))) ∧ Aside0 (wr.heap[g3]? = some (.cells #[.int .i64 n, v] 24 (0, 0))) ∧ Aside0 (Kd.S k52 52 wr w.heap.size (fun _ => True) v (l.take j)) ∧ Aside0 (Below w.heap.size w wr)) (fun v15 _ => l.length - (intOf v15).toNat)
  case atStart => exact ⟨0, .slice none 0 0, rfl, Nat.zero_le _, H2, H3, ⟨Kd.S_nil _ _ _ _ _⟩, HB3⟩
  case round =>
    clear H2 H3 HB3
    obtain ⟨j, v, rfl, hj, H2, H3, HV, HB⟩ := hrel
    generalize wr = wq at *
    by_cases hlt : j < l.length
    · obtain ⟨ad, A2, c2, hA, hx0, hx1, hx2, hl2, hi2⟩ := at_T52 HC.out (j : Int) (by omega) (by omega)
      subst hA
      simp only [Int.toNat_natCast] at hx0 hx1 hx2
      have hrj : rd_T52 l (j : Int) = l[j] := by unfold rd_T52; rw [Int.toNat_natCast, List.getD_eq_getElem?_getD, List.getElem?_eq_getElem hlt]; rfl
      rw [hrj] at hx0 hx1 hx2 hl2 hi2
      have HRJ := Aside0.mk (show l[j]? = some l[j] from List.getElem?_eq_getElem hlt)
      have hrok := HOK.out.2 l[j] (List.getElem_mem hlt)
      generalize l[j] = r at *
      replace hx0 := (HB.out.cell (World.block_lt_of_cell? w _ hx0)).trans hx0
      replace hx1 := (HB.out.cell (World.block_lt_of_cell? w _ hx1)).trans hx1
      replace hx2 := (HB.out.cell (World.block_lt_of_cell? w _ hx2)).trans hx2
      have HT := Aside0.mk hi2
      have HL2 := Aside0.mk hl2
      have hr2 := hrok.1
      have HRT := Aside0.mk hrok.2
      clear hi2 hl2 hrj hrok
      have hlt2' : g2 < wq.heap.size := (Array.getElem?_eq_some_iff.1 H2.out).1
      have hlt3 : g3 < wq.heap.size := (Array.getElem?_eq_some_iff.1 H3.out).1
      go_wp2
      have HBa := Aside0.mk (below_alloc (below_alloc (Below.refl wq.heap.size wq) (.cells #[.string r.f0, .int .i64 r.f1, .slice A2 r.f2.length c2] 52)) (.cells #[.string r.f0, .int .i64 r.f1, .slice none 0 0] 52))
      have H6 := Aside0.mk (show ((wq.alloc (.cells #[.string r.f0, .int .i64 r.f1, .slice A2 r.f2.length c2] 52)).alloc (.cells #[.string r.f0, .int .i64 r.f1, .slice none 0 0] 52)).heap[wq.heap.size + 1]? = some (.cells #[.string r.f0, .int .i64 r.f1, .slice none 0 0] 52 (0, 0)) from by have := heap_alloc_new (wq.alloc (.cells #[.string r.f0, .int .i64 r.f1, .slice A2 r.f2.length c2] 52)) (.cells #[.string r.f0, .int .i64 r.f1, .slice none 0 0] 52); simpa using this)
      generalize hW5 : (wq.alloc (.cells #[.string r.f0, .int .i64 r.f1, .slice A2 r.f2.length c2] 52)).alloc (.cells #[.string r.f0, .int .i64 r.f1, .slice none 0 0] 52) = W5 at *
      clear hW5
      generalize hg6 : wq.heap.size + 1 = g6 at *
      have hg6w : wq.heap.size ≤ g6 := by omega
      clear hx0 hx1 hx2
      go_loopw [27] (fun v27 wl => ∃ (i : Nat) (vt : Value), v27 = .int .i64 i ∧ i ≤ r.f2.length ∧ Aside0 (wl.heap[g6]? = some (.cells #[.string r.f0, .int .i64 r.f1, vt] 52 (0, 0))) ∧ Aside0 (Kd.R (Kd.slice 3 (Kd.int .i64)) 46 wl wq.heap.size (fun _ => True) vt (r.f2.take i)) ∧ Aside0 (Below wq.heap.size wq wl)) (fun v27 _ => r.f2.length - (intOf v27).toNat)
      case atStart => exact ⟨0, .slice none 0 0, rfl, Nat.zero_le _, H6, ⟨Kd.R_nil _ _ _ _ _⟩, HBa⟩
      case round =>
        clear H6 HBa
        obtain ⟨i, vt, rfl, hi, H6, HR, HBl⟩ := hrel
        by_cases hlt2 : i < r.f2.length
        · obtain ⟨ad3, A4, c4, hA3, hy0, hl4, hi4⟩ := at_L2 HT.out (i : Int) (by omega) (by omega)
          subst hA3
          simp only [Int.toNat_natCast] at hy0
          have hrt : rd_L2 r.f2 (i : Int) = r.f2[i] := by unfold rd_L2; rw [Int.toNat_natCast, List.getD_eq_getElem?_getD, List.getElem?_eq_getElem hlt2]; rfl
          rw [hrt] at hy0 hl4 hi4
          have HTI := Aside0.mk (show r.f2[i]? = some r.f2[i] from List.getElem?_eq_getElem hlt2)
          have htl := HRT.out r.f2[i] (List.getElem_mem hlt2)
          generalize r.f2[i] = t at *
          have hb2 := below_step HB.out HBl.out
          replace hy0 := (hb2.cell (World.block_lt_of_cell? w _ hy0)).trans hy0
          have HC4 := Aside0.mk (Kd.C_below hi4 (hb2.mono (Nat.le_refl _)))
          have HL4 := Aside0.mk hl4
          clear hi4 hl4 hrt hb2
          have hc6 : wr.cell? ⟨g6, 2, none⟩ = some vt := (blk_cell H6.out 2).trans rfl
          have hf6 := blk_frozen H6.out 2
          go_upto_region 9 with (fail)
          have HBd := Aside0.mk (below_drew HBl.out)
          have H6d := Aside0.mk (show wr.drew.heap[g6]? = some (.cells #[.string r.f0, .int .i64 r.f1, vt] 52 (0, 0)) from H6.out)
          have HRd := Aside0.mk (Kd.R_drew HR.out)
          have HCd := Aside0.mk (Kd.C_drew HC4.out)
          have hg6d : g6 < wr.drew.heap.size := (Array.getElem?_eq_some_iff.1 H6d.out).1
          have hcd : wr.drew.cell? ⟨g6, 2, none⟩ = some vt := hc6
          refine wp_region_noPanic ?_
          refine start_ (n := 8) (S := fun w' => w'.cell? ⟨g6, 2, none⟩ = some vt) (ds := [7]) #[false, false, false, false, false, false, false, false] (by kernel_rfl) rfl rfl hcd (fun hHeld => ?_)
          generalize wr.drew = wd at *
          refine pure_ (i := 0) (N := some 31) (v := ?_) (a' := ?_) #[true, false, false, false, false, false, false, false] rfl rfl (by kernel_rfl) (fun _ _ _ h => h) (Or.inl ⟨by rfl, ?_⟩) ?_ ?_
          rotate_left
          · intro w'
            go_simp
            with_reducible rfl
          rotate_left
          · simp only [Act.put, List.setIfInBounds_toArray, List.set_cons_zero, List.set_cons_succ, i64_w, i32_w]
            rfl
          refine pure_ (i := 2) (N := some 33) (v := ?_) (a' := ?_) #[true, false, true, false, false, false, false, false] rfl rfl (by kernel_rfl) (fun _ _ _ h => h) (Or.inl ⟨by rfl, ?_⟩) ?_ ?_
          rotate_left
          · intro w'
            go_simp
            with_reducible rfl
          rotate_left
          · simp only [Act.put, List.setIfInBounds_toArray, List.set_cons_zero, List.set_cons_succ, i64_w, i32_w]
            rfl
          refine take_ (i := 1) (N := some 32) (v := ?_) (a' := ?_) #[true, true, true, false, false, false, false, false] rfl rfl (by kernel_rfl) (fun _ _ _ h => h) (Or.inl ⟨by rfl, ?_⟩) hHeld ?_ ?_
          rotate_left
          · intro w' s0
            go_simp
            with_reducible rfl
          rotate_left
          · simp only [Act.put, List.setIfInBounds_toArray, List.set_cons_zero, List.set_cons_succ, i64_w, i32_w]
            rfl
          refine one_ (i := 3) (N := some 34) #[true, true, true, true, false, false, false, false] rfl rfl (by kernel_rfl) (by decide) (fun K hK => ?_)
          refine callE_ 60 #[.slice A4 t.length c4] (by rfl) rfl (by go_simp) ?_
          refine (slices_Clone_int_int.calls A4 c4 t t _ HCd.out HL4.out (if_pos htl)).mono ?_
          rintro e w6 ⟨va, rfl, hRa, hb6⟩
          obtain ⟨Aa, ca, ea⟩ := Kd.R_slice hRa
          subst ea
          left
          refine ⟨_, rfl, ?_⟩
          have HB6 := Aside0.mk (below_step HBd.out hb6)
          have H66 := Aside0.mk ((hb6.block g6 hg6d).trans H6d.out)
          have HR6 := Aside0.mk (Kd.R_below HRd.out hb6)
          have HRa := Aside0.mk (Kd.R_lower (Kd.R_newR hRa HRd.out) HBd.out.size)
          refine hK.out _ _ (pw_cell_below hb6 hcd) (fun hHeld2 => ?_)
          clear hK K hb6 hRa HRd HR H6 H6d HBd HBl
          refine norm_ (a' := ?_) ?_ ?_
          rotate_left
          · show Act.put _ (some 34) _ = _
            simp only [Act.put, List.setIfInBounds_toArray, List.set_cons_zero, List.set_cons_succ, i64_w, i32_w]
            rfl
          refine one_ (i := 4) (N := some 35) #[true, true, true, true, true, false, false, false] rfl rfl (by kernel_rfl) (by decide) (fun K hK => ?_)
          refine value_ (w1 := ?_) (v := ?_) (by rfl) rfl ?_ ?_
          rotate_left 2
          · go_simp
            constructor
            · rfl
            · rfl
          refine hK.out _ _ ((blk_cell (blk_alloc H66.out _) 2).trans rfl) (fun hHeld => ?_)
          clear hK K
          refine norm_ (a' := ?_) ?_ ?_
          rotate_left
          · show Act.put _ (some 35) _ = _
            simp only [Act.put, List.setIfInBounds_toArray, List.set_cons_zero, List.set_cons_succ, i64_w, i32_w]
            rfl
          refine one_ (i := 5) (N := some 36) #[true, true, true, true, true, true, false, false] rfl rfl (by kernel_rfl) (by decide) (fun K hK => ?_)
          refine Kd.R_append_step (Kd.slice 3 (Kd.int .i64)) (w0 := wq) wq.heap.size (by rfl) (.tmp 32) (.tmp 35) 50 46 (.slice none 0 0) 24 rfl Tryz.underlying50 infoInts rfl (by decide) (by omega) vt (r.f2.take i) t [.slice Aa t.length ca] (fun _ => True) (fun k_ => True ∧ some k_ ≠ vt.ownBlock) rfl rfl ?aP (fun _ hk => hk) ?aF ?aO ?aB ?aS ?aL ?_
          (case aP => exact Kd.M_row HRa.out)
          (case aB => exact HB6.out)
          (case aF => exact (fun _ _ => trivial))
          (case aO => exact HR6.out)
          (case aS => exact HB6.out.size)
          (case aL => rw [List.length_take]; omega)
          intro v7 w7 ho hb hg hat
          have n0_ := Aside0.mk hb
          have n1_ := Aside0.mk ho
          have n2_ := Aside0.mk (blk_grown H66.out hg (Kd.R_ne HR6.out H66.out (by decide)))
          clear ho hb hg hat HB6 HR6 HRa
          obtain ⟨A7, c7, e7⟩ := Kd.R_slice n1_.out
          subst e7
          rw [show (r.f2.take i ++ [t]).length = i + 1 from by rw [List.length_append, List.length_singleton, List.length_take]; omega] at n1_ ⊢
          refine hK.out _ _ ((blk_cell n2_.out 2).trans rfl) (fun hHeld => ?_)
          clear hK K
          refine norm_ (a' := ?_) ?_ ?_
          rotate_left
          · show Act.put _ (some 36) _ = _
            simp only [Act.put, List.setIfInBounds_toArray, List.set_cons_zero, List.set_cons_succ, i64_w, i32_w]
            rfl
          refine pure_ (i := 6) (N := some 37) (v := ?_) (a' := ?_) #[true, true, true, true, true, true, true, false] rfl rfl (by kernel_rfl) (fun _ _ _ h => h) (Or.inl ⟨by rfl, ?_⟩) ?_ ?_
          rotate_left
          · intro w'
            go_simp
            with_reducible rfl
          rotate_left
          · simp only [Act.put, List.setIfInBounds_toArray, List.set_cons_zero, List.set_cons_succ, i64_w, i32_w]
            rfl
          refine last_ (i := 7) (N := none) #[true, true, true, true, true, true, true, true] rfl rfl (by kernel_rfl) (by decide) (fun K hK => ?_)
          have hs7 : w7.cell? ⟨g6, 2, none⟩ = some vt := (blk_cell n2_.out 2).trans rfl
          have hf7 := blk_frozen n2_.out 2
          refine skip_ (w1 := ?_) (by rfl) rfl ?_ ?_
          rotate_left
          · go_simp
            rfl
          refine hK.out _ _ ?_
          clear hK K
          refine done_ (by kernel_rfl) ?_
          refine NoPanic.normal ?_
          have n3_ := Aside0.mk (Kd.R_set n1_.out n2_.out (by decide) 2 (.slice A7 (i + 1) c7))
          have n4_ := Aside0.mk (blk_put (cs' := #[.string r.f0, .int .i64 r.f1, .slice A7 (i + 1) c7]) n2_.out 2 (.slice A7 (i + 1) c7) rfl)
          have n5_ := Aside0.mk (below_set (j := 2) (v := .slice A7 (i + 1) c7) n0_.out hg6w)
          rw [← take_snoc' HTI.out] at n3_
          try go_wp2
          go_roundw
          · exact ⟨i + 1, _, (by simp), hlt2, n4_, n3_, n5_⟩
          · simp [intOf]; omega
        · obtain rfl : i = r.f2.length := by omega
          rw [List.take_length] at HR
          have H3l := Aside0.mk ((HBl.out.block g3 hlt3).trans H3.out)
          have H2l := Aside0.mk ((HBl.out.block g2 hlt2').trans H2.out)
          obtain ⟨At, ct, hvt⟩ := Kd.R_slice HR.out
          subst hvt
          have hc3 : wr.cell? ⟨g3, 1, none⟩ = some v := (blk_cell H3l.out 1).trans rfl
          have hc6_0 : wr.cell? ⟨g6, 0, none⟩ = some (.string r.f0) := (blk_cell H6.out 0).trans rfl
          have hc6_1 : wr.cell? ⟨g6, 1, none⟩ = some (.int .i64 r.f1) := (blk_cell H6.out 1).trans rfl
          have hc6_2 : wr.cell? ⟨g6, 2, none⟩ = some (.slice At r.f2.length ct) := (blk_cell H6.out 2).trans rfl
          have HRb := Aside0.mk (Kd.R_lower (Kd.R_mono (Kd.R_bound HR.out) (fun k_ hk => (hk.2.1 : wq.heap.size ≤ k_))) HB.out.size)
          have HVl := Aside0.mk (Kd.S_mono (ok' := fun k_ => True ∧ ¬ wq.heap.size ≤ k_) (Kd.S_below (Kd.S_bound HV.out) HBl.out) (fun k_ hk => ⟨trivial, by have := hk.2.2.1; omega⟩))
          have HVN := Aside0.mk (Kd.S_lt HV.out)
          have HBw := Aside0.mk (below_step HB.out HBl.out)
          have hjl : (l.take j).length ≤ 100000 := by rw [List.length_take]; omega
          go_wp2_with (first | ((with_reducible refine gate_builtin (b := .append) (xs := #[.tmp 40, .tmp 42]) rfl ?_); at_builtin; refine Kd.S_append k52 (w0 := w) w.heap.size rfl (.tmp 40) (.tmp 42) 22 52 (.agg #[.string ⟨#[]⟩, .int .i64 0, .slice none 0 0]) 48 rfl Tryz.underlying22 infoRel' rfl (by decide) (by omega) v (l.take j) r [.string r.f0, .int .i64 r.f1, .slice At r.f2.length ct] (fun _ => True) (fun k_ => wq.heap.size ≤ k_) rfl rfl ?aP ?aK ?aF ?aO ?aB ?aS ?aL ?_; (case aP => exact k52_mkM _ _ _ r HRb.out); (case aK => exact fun k_ hk => ⟨trivial, fun e => by have := HVN.out k_ e.symm; omega⟩); (case aF => exact fun _ _ => trivial); (case aO => exact HVl.out); (case aB => exact HBw.out); (case aS => exact HBw.out.size); (case aL => omega); intro v7 w7 ho hb hg hat; have n0_ := Aside0.mk hb; have n1_ := Aside0.mk ho; have n2_ := Aside0.mk (blk_grown H3l.out hg (Kd.S_ne HVl.out H3l.out (by decide))); have n3_ := Aside0.mk (blk_grown H2l.out hg (Kd.S_ne HVl.out H2l.out (by decide))); clear ho hb hg hat; obtain ⟨A7, c7, e7⟩ := Kd.S_slice n1_.out; subst e7; have hc9 : w7.cell? ⟨g3, 1, none⟩ = some v := (blk_cell n2_.out 1).trans rfl; have hf9 := blk_frozen n2_.out 1))
          rw [show (l.take j ++ [r]).length = j + 1 from by rw [List.length_append, List.length_singleton, List.length_take]; omega] at n1_
          have n4_ := Aside0.mk (Kd.S_set n1_.out n2_.out (by decide) 1 (.slice A7 (j + 1) c7))
          have n5_ := Aside0.mk (blk_put (cs' := #[.int .i64 n, .slice A7 (j + 1) c7]) n2_.out 1 (.slice A7 (j + 1) c7) rfl)
          have n6_ := Aside0.mk ((Below.heap_setCell w7 ⟨g3, 1, none⟩ (.slice A7 (j + 1) c7) g2 (by show g2 ≠ g3; omega)).trans n3_.out)
          have n7_ := Aside0.mk (below_set (j := 1) (v := .slice A7 (j + 1) c7) n0_.out hg3w)
          rw [← take_snoc' HRJ.out] at n4_
          go_roundw
          · exact ⟨j + 1, _, (by simp), hlt, n6_, n5_, n4_, n7_⟩
          · simp [intOf]; omega
    · obtain rfl : j = l.length := by omega
      rw [List.take_length] at HV
      obtain ⟨Av, cv, hv⟩ := Kd.S_slice HV.out
      subst hv
      have hcz3_0 : wq.cell? ⟨g3, 0, none⟩ = some (.int .i64 n) := (blk_cell H3.out 0).trans rfl
      have hcz3_1 : wq.cell? ⟨g3, 1, none⟩ = some (.slice Av l.length cv) := (blk_cell H3.out 1).trans rfl
      have hcz2_0 : wq.cell? ⟨g2, 0, none⟩ = some (.int .i64 0) := (blk_cell H2.out 0).trans rfl
      have hcz2_1 : wq.cell? ⟨g2, 1, none⟩ = some (.slice none 0 0) := (blk_cell H2.out 1).trans rfl
      have hfz2_0 := blk_frozen H2.out 0
      have hfz2_1 := blk_frozen H2.out 1
      go_wp2
      have HX := blk_put (cs' := #[.int .i64 n, .slice Av l.length cv]) (blk_put (cs' := #[.int .i64 n, .slice none 0 0]) H2.out 0 (.int .i64 n) rfl) 1 (.slice Av l.length cv) rfl
      have HV1 := Kd.S_set HV.out H2.out (by decide) 0 (.int .i64 n)
      have HV2 := Kd.S_set HV1 (blk_put (cs' := #[.int .i64 n, .slice none 0 0]) H2.out 0 (.int .i64 n) rfl) (by decide) 1 (.slice Av l.length cv)
      have HBX := below_set (j := 1) (v := .slice Av l.length cv) (below_set (j := 0) (v := .int .i64 n) HB.out hg2w) hg2w
      refine bodyPost_ret (results_cell_row rfl _ _ g2 24 #[.int .i64 n, .slice Av l.length cv] (0, 0) _ rfl HX Tryz.underlying24 rfl (by kernel_rfl)) rfl ?_
      exact ⟨_, rfl, HV2, HBX⟩
end Go.Proofs.YtfmpaofbnjlniaaGreatDoor.F
/- slices.Insert and slices.Delete at rows of tuples: the walks' ends in the printed form. -/
namespace Go.Proofs.YtfmpaofbnjlniaaGreatDoor.F
open Go.RowKit Go.Proofs.YtfmpaofbnjlniaaGreatDoorW.PrintWords Go.Proofs.YtfmpaofbnjlniaaGreatDoorW.PrintLast Go.Proofs.YtfmpaofbnjlniaaGreatDoorW.PrintMore
set_option linter.unusedVariables false
set_option linter.unusedSimpArgs false
def insAt (ts : List (List Int)) (i : Nat) (t : List Int) : List (List Int) := ts.take i ++ [t] ++ ts.drop i
def delAt (ts : List (List Int)) (i : Nat) : List (List Int) := ts.take i ++ ts.drop (i + 1)
abbrev tK : Kd (List Int) := Kd.slice 3 (Kd.int .i64)
theorem tK_one {w : World} {base : Nat} {ok : Nat → Prop} {ts : List (List Int)} {inner : List Value} (hr : Reps (tK.M w base ok) 1 ts inner) : ∀ u ∈ inner, u.oneCell' = true := by
  intro u hu
  obtain ⟨j, hj, rfl⟩ := List.getElem_of_mem hu
  have hl := hr.1
  have hjt : j < ts.length := by omega
  have h := hr.2 j _ (List.getElem?_eq_getElem hjt)
  refine tK.K_one (tK.K_of_M h) _ ?_
  rw [Nat.mul_one, List.drop_eq_getElem_cons hj]
  exact List.mem_cons_self
theorem rowed {w w1 : World} {base : Nat} {ok : Nat → Prop} {v v1 : Value} {ts' : List (List Int)} {inner' : List Value} (h0 : ∀ k, v.ownBlock = some k → ok k) (hfresh : ∀ k, w.heap.size ≤ k → ok k)
    (hr : Reps (tK.M w base (fun k => ok k ∧ some k ≠ v.ownBlock)) 1 ts' inner') (hown : w1.ownsRow base 46 1 v1 ts'.length inner') (hg : w.grownBy w1 v.ownBlock) (hat : v1.ownBlock = v.ownBlock ∨ ∃ b, v1.ownBlock = some b ∧ w.heap.size ≤ b) : tK.R 46 w1 base ok v1 ts' := by
  have hne : ∀ k, some k ≠ v.ownBlock → k < w.heap.size → some k ≠ v1.ownBlock := by
    intro k hk hlt
    rcases hat with hat | ⟨b, hb, hle⟩
    · rw [hat]; exact hk
    · rw [hb]
      intro he
      injection he with he
      omega
  refine ⟨fun k hk => ?_, inner', hown, hr.imp_ (fun q c hq => ?_)⟩
  · rcases hat with hat | ⟨b, hb, hle⟩
    · exact h0 k (hat ▸ hk)
    · rw [hb] at hk
      injection hk with hk
      exact hfresh k (by omega)
  · have h1 := tK.M_move (w1 := w1) (fun k hk => hg.block k hk.2.2.1 hk.1.2) (tK.M_bound hq)
    exact tK.M_mono (fun k hk => ⟨hk.1.1, hne k hk.1.2 hk.2.2.1⟩) h1
theorem insert_calls (A : Option Addr) (c : Nat) (ts : List (List Int)) (i : Nat) (x : List Int) (gB : Nat) (vx : Value) (base : Nat) (ok okx : Nat → Prop) (w : World) (HO : tK.R 46 w base ok (.slice A ts.length c) ts) (hi : i ≤ ts.length) (hn : ts.length ≤ 100000) (hbase : base ≤ w.heap.size)
    (hx : w.heap[gB]? = some (.cells #[vx] 46 (0, 0))) (hvx : Kd.R (Kd.int .i64) 3 w base okx vx x) (hokx : ∀ k, okx k → ok k ∧ some k ≠ (Value.slice A ts.length c).ownBlock) (hfresh : ∀ k, w.heap.size ≤ k → ok k) (hne : some gB ≠ (Value.slice A ts.length c).ownBlock) :
    Calls Tryz.prog 59 #[.slice A ts.length c, .int .i64 i, .slice (some ⟨gB, 0, none⟩) 1 1] w fun e w' => ∃ v', e = .returned v' ∧ tK.R 46 w' base ok v' (insAt ts i x) ∧ w.grownBy w' (Value.slice A ts.length c).ownBlock ∧ (v'.ownBlock = (Value.slice A ts.length c).ownBlock ∨ ∃ b, v'.ownBlock = some b ∧ w.heap.size ≤ b) := by
  obtain ⟨h0, inner, hown, hr⟩ := HO
  have hvo : vx.oneCell' = true := tK.K_one (tK.K_of_M (Kd.M_row hvx)) vx (List.mem_singleton.2 rfl)
  refine (insert_row A ts.length c i inner (tK_one hr) gB vx base w hown hi hn hbase hx hvo hne).mono ?_
  rintro e w' ⟨v', rfl, hown', hg, hat⟩
  refine ⟨v', rfl, ?_, hg, hat⟩
  have r1 : Reps (tK.M w base (fun k => ok k ∧ some k ≠ (Value.slice A ts.length c).ownBlock)) 1 [x] [vx] := Reps.one (Kd.M_row (Kd.R_mono hvx hokx)) (Reps.none _ _)
  have hr' := Kd.reps_append (Kd.reps_append (Kd.reps_take hr hi) r1) (Kd.reps_drop (m := i) hr)
  rw [show i * tK.sz = i from Nat.mul_one i] at hr'
  refine rowed h0 hfresh hr' ?_ hg hat
  have hl : (insAt ts i x).length = ts.length + 1 := by simp [insAt]; omega
  rw [hl]
  exact hown'
theorem delete_calls (A : Option Addr) (c : Nat) (ts : List (List Int)) (i : Nat) (base : Nat) (ok : Nat → Prop) (w : World) (HO : tK.R 46 w base ok (.slice A ts.length c) ts) (hi : i < ts.length) (hfresh : ∀ k, w.heap.size ≤ k → ok k) :
    Calls Tryz.prog 61 #[.slice A ts.length c, .int .i64 i, .int .i64 ((i : Int) + 1)] w fun e w' => ∃ v', e = .returned v' ∧ tK.R 46 w' base ok v' (delAt ts i) ∧ w.grownBy w' (Value.slice A ts.length c).ownBlock ∧ (v'.ownBlock = (Value.slice A ts.length c).ownBlock ∨ ∃ b, v'.ownBlock = some b ∧ w.heap.size ≤ b) := by
  obtain ⟨h0, inner, hown, hr⟩ := HO
  refine (delete_row A ts.length c i inner (tK_one hr) base w hown hi).mono ?_
  rintro e w' ⟨v', rfl, hown', hg, hat⟩
  refine ⟨v', rfl, ?_, hg, Or.inl hat⟩
  have hr' := Kd.reps_append (Kd.reps_take hr (Nat.le_of_lt hi)) (Kd.reps_drop (m := i + 1) hr)
  rw [show i * tK.sz = i from Nat.mul_one i, show (i + 1) * tK.sz = i + 1 from Nat.mul_one _] at hr'
  refine rowed h0 hfresh hr' ?_ hg (Or.inl hat)
  have hl : (delAt ts i).length = ts.length - 1 := by simp [delAt]; omega
  rw [hl]
  exact hown'
end Go.Proofs.YtfmpaofbnjlniaaGreatDoor.F
/- shape.Put, by hand. -/
namespace Go.Proofs.YtfmpaofbnjlniaaGreatDoor.F
open Go.RowKit Go.Proofs.YtfmpaofbnjlniaaGreatDoorW.PrintWords Go.Proofs.YtfmpaofbnjlniaaGreatDoorW.PrintLast Go.Proofs.YtfmpaofbnjlniaaGreatDoorW.PrintMore
set_option linter.unusedVariables false
set_option linter.unusedSimpArgs false
instance (l : List S52) : Decidable (copyOk l) := by unfold copyOk; infer_instance
def putRel (r : S52) (ts : List (List Int)) : S52 := ⟨r.f0, r.f1, ts⟩
/-- What Put answers once the place has been found. -/
def putEnd (n : Int) (l : List S52) (x q : Int) (t : List Int) (b there : Bool) : Option (Int × List S52 × Int) :=
  if 0 ≤ x ∧ x < (l.length : Int) then
    if (b && !there) = true then (if 0 ≤ q ∧ q ≤ ((rd_T52 l x).f2.length : Int) then some (n, l.set x.toNat (putRel (rd_T52 l x) (insAt (rd_T52 l x).f2 q.toNat t)), 0) else none)
    else if (!b && there) = true then (if 0 ≤ q ∧ q < ((rd_T52 l x).f2.length : Int) then some (n, l.set x.toNat (putRel (rd_T52 l x) (delAt (rd_T52 l x).f2 q.toNat)), 0) else none)
    else some (n, l, 0)
  else none
def shape_Put.f (k : Nat) (n : Int) (l : List S52) (nm : ByteArray) (t : List Int) (b : Bool) : Option (Int × List S52 × Int) :=
  (shape_Has.f k n l nm t).bind fun p => if p.2 = 0 then (shape_elements.f n t).bind fun e => if e = true then (if copyOk l ∧ t.length ≤ 100000 then (shape_Find.f n l nm (t.length : Int)).bind fun x => (slices_BinarySearchFunc_int_int_int.f k (rd_T52 l x).f2 t).bind fun q => putEnd n l x q.1 t b p.1 else none) else some (0, [], 2) else some (0, [], p.2)
theorem results_put (tmps : Array Value) (W : World) (g8 : Nat) (a b : Int) (v : Value) (hp8 : tmps.getD 8 undef = .pointer (some ⟨g8, 0, none⟩)) (hp9 : tmps.getD 9 undef = .int .i64 b)
    (h8 : W.heap[g8]? = some (.cells #[.int .i64 a, v] 24 (0, 0))) :
    (results Tryz.f28 tmps).run Tryz.prog W = .ok (.tuple #[.agg #[.int .i64 a, v], .int .i64 b]) W := by
  have hp8' : tmps[8]?.getD undef = .pointer (some ⟨g8, 0, none⟩) := by simpa using hp8
  have hp9' : tmps[9]?.getD undef = .int .i64 b := by simpa using hp9
  have hr := run_loadVar_row (P := Tryz.prog) W g8 24 24 #[.int .i64 a, v] (0, 0) _ h8 Tryz.underlying24 rfl (by kernel_rfl)
  simp [results, Tryz.results28, hp8', hp9', asAddr, hr]
def PutEnds (w : World) (r : Int × List S52 × Int) (e : Ending) (w' : World) : Prop := ∃ v : Value, e = .returned (.tuple #[.agg #[.int .i64 r.1, v], .int .i64 r.2.2]) ∧ Kd.R k52 52 w' w.heap.size (fun _ => True) v r.2.1 ∧ Below w.heap.size w w'
set_option maxHeartbeats 4000000 in
set_option maxRecDepth 100000 in
theorem put_calls (k : Nat) (n : Int) (A : Option Addr) (c : Nat) (l : List S52) (nm : ByteArray) (A2 : Option Addr) (c2 : Nat) (t : List Int) (b : Bool) (r : Int × List S52 × Int) (w : World)
    (hC : Kd.C k52 w A l.length l) (hlc : l.length ≤ c) (hC2 : Kd.C (Kd.int .i64) w A2 t.length t) (hlc2 : t.length ≤ c2) (h : shape_Put.f k n l nm t b = some r) :
    Calls Tryz.prog 28 #[.agg #[.int .i64 n, .slice A l.length c], .string nm, .slice A2 t.length c2, .bool b] w (PutEnds w r) := by
  have hu38 := Tryz.underlying24
  have hu54 := Tryz.underlying52
  unfold shape_Put.f at h
  obtain ⟨⟨there, e1⟩, hh, h⟩ := Option.bind_eq_some_iff.1 h
  simp only at h
  have hB1 := below_alloc (below_alloc (Below.refl w.heap.size w) (.cells #[.int .i64 n, .slice A l.length c] 24)) (.cells #[.int .i64 0, .slice none 0 0] 24)
  have HC1 := Aside0.mk (Kd.C_below hC hB1)
  have HT1 := Aside0.mk (Kd.C_below hC2 hB1)
  have HB1 := Aside0.mk hB1
  have HLC := Aside0.mk hlc
  have HLC2 := Aside0.mk hlc2
  have HH := Aside0.mk hh
  have H := Aside0.mk h
  have K4 := Aside0.mk (show ((w.alloc (.cells #[.int .i64 n, .slice A l.length c] 24)).alloc (.cells #[.int .i64 0, .slice none 0 0] 24)).heap[w.heap.size]? = some (.cells #[.int .i64 n, .slice A l.length c] 24 (0, 0)) from (heap_alloc_old _ _ (by simp)).trans (heap_alloc_new w _))
  have K8 := Aside0.mk (show ((w.alloc (.cells #[.int .i64 n, .slice A l.length c] 24)).alloc (.cells #[.int .i64 0, .slice none 0 0] 24)).heap[w.heap.size + 1]? = some (.cells #[.int .i64 0, .slice none 0 0] 24 (0, 0)) from by have := heap_alloc_new (w.alloc (.cells #[.int .i64 n, .slice A l.length c] 24)) (.cells #[.int .i64 0, .slice none 0 0] 24); simpa using this)
  clear hB1 hC hlc hC2 hlc2 hh h
  go_enter Tryz.func28, Tryz.ntmps28
  go_wp2_with (fail)
  refine (shape_Has.calls k n A c l nm A2 c2 t there e1 _ HC1.out HLC.out HT1.out HLC2.out HH.out).mono ?_
  rintro e w1 ⟨rfl, hb1⟩
  generalize hg8 : w.heap.size + 1 = g8 at *
  have hg8w : w.heap.size ≤ g8 := by omega
  have K4' := Aside0.mk ((hb1.block w.heap.size (Array.getElem?_eq_some_iff.1 K4.out).1).trans K4.out)
  have K8' := Aside0.mk ((hb1.block g8 (Array.getElem?_eq_some_iff.1 K8.out).1).trans K8.out)
  have HB2 := Aside0.mk (below_step HB1.out hb1)
  have HC2 := Aside0.mk (Kd.C_below HC1.out hb1)
  have HT2 := Aside0.mk (Kd.C_below HT1.out hb1)
  clear hb1 K4 K8 HB1 HC1 HT1
  have c8_0 : w1.cell? ⟨g8, 0, none⟩ = some (.int .i64 0) := (blk_cell K8'.out 0).trans rfl
  have c8_1 : w1.cell? ⟨g8, 1, none⟩ = some (.slice none 0 0) := (blk_cell K8'.out 1).trans rfl
  have f8_0 := blk_frozen K8'.out 0
  have f8_1 := blk_frozen K8'.out 1
  have c4_0 : w1.cell? ⟨w.heap.size, 0, none⟩ = some (.int .i64 n) := (blk_cell K4'.out 0).trans rfl
  have c4_1 : w1.cell? ⟨w.heap.size, 1, none⟩ = some (.slice A l.length c) := (blk_cell K4'.out 1).trans rfl
  by_cases he : e1 = 0
  · subst he
    have h2 := H.out
    rw [if_pos rfl] at h2
    obtain ⟨el, hel, h3⟩ := Option.bind_eq_some_iff.1 h2
    clear H h2
    have HEL := Aside0.mk hel
    have H := Aside0.mk h3
    clear hel h3
    go_wp2_with (fail)
    refine (shape_elements.calls n A2 c2 t el _ HT2.out HLC2.out HEL.out).mono ?_
    rintro e w2 ⟨rfl, hb2⟩
    have K4 := Aside0.mk ((hb2.block w.heap.size (Array.getElem?_eq_some_iff.1 K4'.out).1).trans K4'.out)
    have K8 := Aside0.mk ((hb2.block g8 (Array.getElem?_eq_some_iff.1 K8'.out).1).trans K8'.out)
    have HB3 := Aside0.mk (below_step HB2.out hb2)
    have HC3 := Aside0.mk (Kd.C_below HC2.out hb2)
    have HT3 := Aside0.mk (Kd.C_below HT2.out hb2)
    clear hb2 K4' K8' HB2 HC2 HT2 c8_0 c8_1 f8_0 f8_1 c4_0 c4_1
    have c8_0 : w2.cell? ⟨g8, 0, none⟩ = some (.int .i64 0) := (blk_cell K8.out 0).trans rfl
    have c8_1 : w2.cell? ⟨g8, 1, none⟩ = some (.slice none 0 0) := (blk_cell K8.out 1).trans rfl
    have f8_0 := blk_frozen K8.out 0
    have f8_1 := blk_frozen K8.out 1
    have c4_0 : w2.cell? ⟨w.heap.size, 0, none⟩ = some (.int .i64 n) := (blk_cell K4.out 0).trans rfl
    have c4_1 : w2.cell? ⟨w.heap.size, 1, none⟩ = some (.slice A l.length c) := (blk_cell K4.out 1).trans rfl
    cases el with
    | false =>
      have h2 := H.out
      rw [if_neg (by simp)] at h2
      obtain rfl := Option.some.inj h2
      clear h2 H
      go_wp2
      have HX := blk_put (cs' := #[.int .i64 0, .slice none 0 0]) (blk_put (cs' := #[.int .i64 0, .slice none 0 0]) K8.out 0 (.int .i64 0) rfl) 1 (.slice none 0 0) rfl
      have HBX := below_set (j := 1) (v := .slice none 0 0) (below_set (j := 0) (v := .int .i64 0) HB3.out hg8w) hg8w
      refine bodyPost_ret (results_put _ _ g8 0 2 _ rfl rfl HX) rfl ?_
      exact ⟨_, rfl, Kd.R_nil _ _ _ _ _, HBX⟩
    | true =>
      have h2 := H.out
      rw [if_pos rfl] at h2
      by_cases hcp : copyOk l ∧ t.length ≤ 100000
      case neg => rw [if_neg hcp] at h2; cases h2
      rw [if_pos hcp] at h2
      obtain ⟨x, hx, h3⟩ := Option.bind_eq_some_iff.1 h2
      obtain ⟨⟨q, q2⟩, hq, h4⟩ := Option.bind_eq_some_iff.1 h3
      have HCP := Aside0.mk hcp.1
      have HTL := Aside0.mk hcp.2
      have HX := Aside0.mk hx
      have HQ := Aside0.mk hq
      clear H h2 h3 hx hq hcp
      have H := Aside0.mk h4
      clear h4
      go_wp2_with (fail)
      refine (copy_calls n A c l _ HC3.out HLC.out HCP.out).mono ?_
      rintro e w3 ⟨v3, rfl, hS, hb3⟩
      have K4' := Aside0.mk ((hb3.block w.heap.size (Array.getElem?_eq_some_iff.1 K4.out).1).trans K4.out)
      have K8' := Aside0.mk ((hb3.block g8 (Array.getElem?_eq_some_iff.1 K8.out).1).trans K8.out)
      have HB4 := Aside0.mk (below_step HB3.out hb3)
      have HC4 := Aside0.mk (Kd.C_below HC3.out hb3)
      have HT4 := Aside0.mk (Kd.C_below HT3.out hb3)
      have HS4 := Aside0.mk (Kd.S_lower hS HB3.out.size)
      obtain ⟨A3, c3, hv3⟩ := Kd.S_slice hS
      subst hv3
      clear hb3 hS K4 K8 HB3 HC3 HT3 c8_0 c8_1 f8_0 f8_1 c4_0 c4_1
      go_wp2
      have hxb : 0 ≤ x ∧ x < (l.length : Int) := by
        have h2 := H.out
        unfold putEnd at h2
        by_cases hb : 0 ≤ x ∧ x < (l.length : Int)
        · exact hb
        · rw [if_neg hb] at h2; cases h2
      obtain ⟨g, cap, eA, hbg, hglt, cells3, hcell3⟩ := Kd.S_form HS4.out (by omega)
      obtain ⟨rfl, rfl⟩ : A3 = some ⟨g, 0, none⟩ ∧ c3 = cap := by injection eA with h2 h3 h4; exact ⟨h2, h4⟩
      have K12 := Aside0.mk (heap_alloc_new w3 (.cells #[.int .i64 n, .slice (some ⟨g, 0, none⟩) l.length c3] 24))
      have hba := below_alloc (Below.refl w3.heap.size w3) (.cells #[.int .i64 n, .slice (some ⟨g, 0, none⟩) l.length c3] 24)
      have K4 := Aside0.mk ((hba.block w.heap.size (Array.getElem?_eq_some_iff.1 K4'.out).1).trans K4'.out)
      have K8 := Aside0.mk ((hba.block g8 (Array.getElem?_eq_some_iff.1 K8'.out).1).trans K8'.out)
      have HC5 := Aside0.mk (Kd.C_below HC4.out hba)
      have HT5 := Aside0.mk (Kd.C_below HT4.out hba)
      have HS5 := Aside0.mk (Kd.S_below HS4.out hba)
      have HB5 := Aside0.mk (below_step HB4.out hba)
      have hg12 := HB4.out.size
      generalize w3.alloc (.cells #[.int .i64 n, .slice (some ⟨g, 0, none⟩) l.length c3] 24) = w4 at *
      generalize w3.heap.size = g12 at *
      clear hba K4' K8' HC4 HT4 HS4 HB4 eA hglt hcell3
      have c12 : w4.cell? ⟨g12, 1, none⟩ = some (.slice (some ⟨g, 0, none⟩) l.length c3) := (blk_cell K12.out 1).trans rfl
      have c4_0 : w4.cell? ⟨w.heap.size, 0, none⟩ = some (.int .i64 n) := (blk_cell K4.out 0).trans rfl
      have c4_1 : w4.cell? ⟨w.heap.size, 1, none⟩ = some (.slice A l.length c) := (blk_cell K4.out 1).trans rfl
      refine wp_region_noPanic ?_
      refine start_ (n := 9) (S := fun w' => w'.cell? ⟨g12, 1, none⟩ = some (.slice (some ⟨g, 0, none⟩) l.length c3) ∧ w'.cell? ⟨w.heap.size, 0, none⟩ = some (.int .i64 n) ∧ w'.cell? ⟨w.heap.size, 1, none⟩ = some (.slice A l.length c)) (ds := []) #[false, false, false, false, false, false, false, false, false] (by kernel_rfl) rfl rfl ⟨c12, c4_0, c4_1⟩ (fun hHeld => ?_)
      have HC6 := Aside0.mk (Kd.C_drew HC5.out)
      have HT6 := Aside0.mk (Kd.C_drew HT5.out)
      have HS6 := Aside0.mk (Kd.S_drew HS5.out)
      have HB6 := Aside0.mk (below_drew HB5.out)
      have K12' := Aside0.mk (show w4.drew.heap[g12]? = _ from K12.out)
      have K4' := Aside0.mk (show w4.drew.heap[w.heap.size]? = _ from K4.out)
      have K8' := Aside0.mk (show w4.drew.heap[g8]? = _ from K8.out)
      clear HC5 HT5 HS5 HB5 K12 K4 K8 c12 c4_0 c4_1
      generalize w4.drew = wd at *
      refine pure_ (i := 0) (N := some 37) (v := ?_) (a' := ?_) #[true, false, false, false, false, false, false, false, false] rfl rfl (by kernel_rfl) (fun _ _ _ h => h) (Or.inl ⟨by rfl, ?_⟩) ?_ ?_
      rotate_left
      · intro w'
        go_simp
        with_reducible rfl
      rotate_left
      · simp only [Act.put, List.setIfInBounds_toArray, List.set_cons_zero, List.set_cons_succ, i64_w, i32_w]
        rfl
      refine pure_ (i := 3) (N := some 40) (v := ?_) (a' := ?_) #[true, false, false, true, false, false, false, false, false] rfl rfl (by kernel_rfl) (fun _ _ _ h => h) (Or.inl ⟨by rfl, ?_⟩) ?_ ?_
      rotate_left
      · intro w'
        go_simp
        with_reducible rfl
      rotate_left
      · simp only [Act.put, List.setIfInBounds_toArray, List.set_cons_zero, List.set_cons_succ, i64_w, i32_w]
        rfl
      refine pure_ (i := 4) (N := some 41) (v := ?_) (a' := ?_) #[true, false, false, true, true, false, false, false, false] rfl rfl (by kernel_rfl) (fun _ _ _ h => h) (Or.inl ⟨by rfl, ?_⟩) ?_ ?_
      rotate_left
      · intro w'
        go_simp
        with_reducible rfl
      rotate_left
      · simp only [Act.put, List.setIfInBounds_toArray, List.set_cons_zero, List.set_cons_succ, i64_w, i32_w]
        rfl
      refine pure_ (i := 5) (N := some 42) (v := ?_) (a' := ?_) #[true, false, false, true, true, true, false, false, false] rfl rfl (by kernel_rfl) (fun _ _ _ h => h) (Or.inl ⟨by rfl, ?_⟩) ?_ ?_
      rotate_left
      · intro w'
        go_simp
        with_reducible rfl
      rotate_left
      · simp only [Act.put, List.setIfInBounds_toArray, List.set_cons_zero, List.set_cons_succ, i64_w, i32_w]
        rfl
      refine take_ (i := 1) (N := some 38) (v := ?_) (a' := ?_) #[true, true, false, true, true, true, false, false, false] rfl rfl (by kernel_rfl) (fun _ _ _ h => h) (Or.inl ⟨by rfl, ?_⟩) hHeld ?_ ?_
      rotate_left
      · rintro w' ⟨s1, s2, s3⟩
        go_simp
        with_reducible rfl
      rotate_left
      · simp only [Act.put, List.setIfInBounds_toArray, List.set_cons_zero, List.set_cons_succ, i64_w, i32_w]
        rfl
      refine take_ (i := 2) (N := some 39) (v := ?_) (a' := ?_) #[true, true, true, true, true, true, false, false, false] rfl rfl (by kernel_rfl) (fun _ _ _ h => h) (Or.inl ⟨by rfl, ?_⟩) hHeld ?_ ?_
      rotate_left
      · rintro w' ⟨s1, s2, s3⟩
        go_simp
        with_reducible rfl
      rotate_left
      · simp only [Act.put, List.setIfInBounds_toArray, List.set_cons_zero, List.set_cons_succ, i64_w, i32_w]
        rfl
      refine one_ (i := 6) (N := some 43) #[true, true, true, true, true, true, true, false, false] rfl rfl (by kernel_rfl) (by decide) (fun K hK => ?_)
      refine callE_ 55 #[.agg #[.int .i64 n, .slice A l.length c], .string nm, .int .i64 t.length] (by rfl) rfl (by go_simp) ?_
      refine (shape_Find.calls n A c l nm (t.length : Int) x _ HC6.out HLC.out HX.out).mono ?_
      rintro e w5 ⟨rfl, hb5⟩
      left
      refine ⟨_, rfl, ?_⟩
      have HB7 := Aside0.mk (below_step HB6.out hb5)
      have HC7 := Aside0.mk (Kd.C_below HC6.out hb5)
      have HT7 := Aside0.mk (Kd.C_below HT6.out hb5)
      have HS7 := Aside0.mk (Kd.S_below HS6.out hb5)
      have K12 := Aside0.mk ((hb5.block g12 (Array.getElem?_eq_some_iff.1 K12'.out).1).trans K12'.out)
      have K4 := Aside0.mk ((hb5.block w.heap.size (Array.getElem?_eq_some_iff.1 K4'.out).1).trans K4'.out)
      have K8 := Aside0.mk ((hb5.block g8 (Array.getElem?_eq_some_iff.1 K8'.out).1).trans K8'.out)
      refine hK.out _ _ ⟨(blk_cell K12.out 1).trans rfl, (blk_cell K4.out 0).trans rfl, (blk_cell K4.out 1).trans rfl⟩ (fun hHeld2 => ?_)
      clear hK K hb5 HB6 HC6 HT6 HS6 K12' K4' K8' HX
      refine norm_ (a' := ?_) ?_ ?_
      rotate_left
      · show Act.put _ (some 43) _ = _
        simp only [Act.put, List.setIfInBounds_toArray, List.set_cons_zero, List.set_cons_succ, i64_w, i32_w]
        rfl
      have hx0 := eq_true hxb.1
      have hx1 := eq_true hxb.2
      refine pure_ (i := 7) (N := some 44) (v := ?_) (a' := ?_) #[true, true, true, true, true, true, true, true, false] rfl rfl (by kernel_rfl) (fun _ _ _ h => h) (Or.inl ⟨by rfl, ?_⟩) ?_ ?_
      rotate_left
      · intro w'
        go_simp
        with_reducible rfl
      rotate_left
      · simp only [Act.put, List.setIfInBounds_toArray, List.set_cons_zero, List.set_cons_succ, i64_w, i32_w]
        rfl
      refine pure_ (i := 8) (N := some 13) (v := ?_) (a' := ?_) #[true, true, true, true, true, true, true, true, true] rfl rfl (by kernel_rfl) (fun _ _ _ h => h) (Or.inl ⟨by rfl, ?_⟩) ?_ ?_
      rotate_left
      · intro w'
        go_simp
        with_reducible rfl
      rotate_left
      · simp only [Act.put, List.setIfInBounds_toArray, List.set_cons_zero, List.set_cons_succ, i64_w, i32_w]
        rfl
      refine done_ (by kernel_rfl) ?_
      refine NoPanic.normal ?_
      -- behind region 7
      obtain ⟨oki, cc, hcl, hM, hcells, hoki, hH⟩ := Kd.S_lend HS7.out z52 x hxb.1 hxb.2
      have h2 := H.out
      unfold putEnd at h2
      rw [if_pos hxb] at h2
      have hQ := HQ.out
      have hM2 : k52.M w5 w.heap.size oki (rd_T52 l x) cc := hM
      have hcrl : (rd_T52 l x).f2.length ≤ 100000 := by
        have hr0 : rd_T52 l x ∈ l := by
          unfold rd_T52
          rw [List.getD_eq_getElem?_getD, List.getElem?_eq_getElem (by omega)]
          exact List.getElem_mem _
        exact (HCP.out.2 _ hr0).1
      generalize rd_T52 l x = r0 at h2 hQ hM2 hcrl
      clear hM HQ H
      obtain ⟨v2, rfl, hR2⟩ := k52_openM hM2
      obtain ⟨A5, c5, hv2⟩ := Kd.R_slice hR2
      subst hv2
      have hy2 : w5.cell? ⟨g, x.toNat * 3 + 2, none⟩ = some (.slice A5 r0.f2.length c5) := hcells 2 _ rfl
      obtain ⟨g', cap', eA', hbg', hglt', cells5, HG5⟩ := Kd.S_form HS7.out (by omega)
      obtain rfl : g = g' := by injection eA' with h3; injection h3 with h3; injection h3 with h3
      have HQ := Aside0.mk hQ
      have H := Aside0.mk h2
      have HH := Aside0.mk hH
      have HR2 := Aside0.mk hR2
      have HG := Aside0.mk HG5
      have HK := Aside0.mk hoki
      clear hQ h2 hH hR2 HG5 hM2 hcells eA' hcl hoki HC7
      go_wp2_with (fail)
      refine (slices_BinarySearchFunc_int_int_int.calls k A5 c5 r0.f2 A2 c2 t q q2 _ (Kd.R_reads' HR2.out).2.2 (Kd.R_reads' HR2.out).2.1 HT7.out HLC2.out HQ.out).mono ?_
      rintro e w6 ⟨rfl, hd⟩
      have hb := hd.below
      have hlt5 : g < w5.heap.size := hglt'
      have HB8 := Aside0.mk (below_step HB7.out hb)
      have HT8 := Aside0.mk (Kd.C_below HT7.out hb)
      have HS8 := Aside0.mk (Kd.S_below HS7.out hb)
      have HH8 := Aside0.mk (Kd.H_below HH.out hb)
      have HR8 := Aside0.mk (Kd.R_below HR2.out hb)
      have HG8 := Aside0.mk ((hb.block g hlt5).trans HG.out)
      have K12' := Aside0.mk ((hb.block g12 (Array.getElem?_eq_some_iff.1 K12.out).1).trans K12.out)
      have K8' := Aside0.mk ((hb.block g8 (Array.getElem?_eq_some_iff.1 K8.out).1).trans K8.out)
      have hy := pw_cell_below hb hy2
      have hg6 : g < w6.heap.size := (Array.getElem?_eq_some_iff.1 HG8.out).1
      clear hd hb HB7 HT7 HS7 HH HR2 HG K12 K8 K4 hy2 HQ hglt' hlt5
      have hcr0 : r0.f2.length ≤ 100000 := hcrl
      cases b with
      | true =>
        cases there with
        | true =>
          have h2 := H.out
          rw [if_neg (by simp), if_neg (by simp)] at h2
          obtain rfl := Option.some.inj h2
          clear h2 H HH8 HR8
          have Z12 := K12'
          have Z8 := K8'
          have ZB := HB8
          have ZR := Aside0.mk (Kd.S_R HS8.out)
          clear K12' K8' HB8 HS8
          have c12_0 : w6.cell? ⟨g12, 0, none⟩ = some (.int .i64 n) := (blk_cell Z12.out 0).trans rfl
          have c12_1 : w6.cell? ⟨g12, 1, none⟩ = some (.slice (some ⟨g, 0, none⟩) l.length c3) := (blk_cell Z12.out 1).trans rfl
          have c8_0 : w6.cell? ⟨g8, 0, none⟩ = some (.int .i64 0) := (blk_cell Z8.out 0).trans rfl
          have c8_1 : w6.cell? ⟨g8, 1, none⟩ = some (.slice none 0 0) := (blk_cell Z8.out 1).trans rfl
          have f8_0 := blk_frozen Z8.out 0
          have f8_1 := blk_frozen Z8.out 1
          go_wp2
          have HX := blk_put (cs' := #[.int .i64 n, .slice (some ⟨g, 0, none⟩) l.length c3]) (blk_put (cs' := #[.int .i64 n, .slice none 0 0]) Z8.out 0 (.int .i64 n) rfl) 1 (.slice (some ⟨g, 0, none⟩) l.length c3) rfl
          have HV1 := Kd.R_set ZR.out Z8.out (by decide) 0 (.int .i64 n)
          have HV2 := Kd.R_set HV1 (blk_put (cs' := #[.int .i64 n, .slice none 0 0]) Z8.out 0 (.int .i64 n) rfl) (by decide) 1 (.slice (some ⟨g, 0, none⟩) l.length c3)
          have HBX := below_set (j := 1) (v := .slice (some ⟨g, 0, none⟩) l.length c3) (below_set (j := 0) (v := .int .i64 n) ZB.out hg8w) hg8w
          refine bodyPost_ret (results_put _ _ g8 n 0 _ rfl rfl HX) rfl ?_
          exact ⟨_, rfl, HV2, HBX⟩
        | false =>
          have h2 := H.out
          rw [if_pos (by simp)] at h2
          by_cases hqb : 0 ≤ q ∧ q ≤ (r0.f2.length : Int)
          case neg => rw [if_neg hqb] at h2; cases h2
          rw [if_pos hqb] at h2
          obtain rfl := Option.some.inj h2
          clear h2 H
          have hlr : r0.f2.length ≤ 100000 := hcr0
          have fy := blk_frozen HG8.out (x.toNat * 3 + 2)
          go_upto_region 10 with (fail)
          refine wp_region_noPanic ?_
          refine start_ (n := 13) (S := fun w' => w'.cell? ⟨g, x.toNat * 3 + 2, none⟩ = some (.slice A5 r0.f2.length c5)) (ds := [12]) #[false, false, false, false, false, false, false, false, false, false, false, false, false] (by kernel_rfl) rfl rfl hy (fun hHeld => ?_)
          have HB9 := Aside0.mk (below_drew HB8.out)
          have HT9 := Aside0.mk (Kd.C_drew HT8.out)
          have HH9 := Aside0.mk (Kd.H_drew HH8.out)
          have HR9 := Aside0.mk (Kd.R_drew HR8.out)
          have HG9 := Aside0.mk (show w6.drew.heap[g]? = _ from HG8.out)
          have K12 := Aside0.mk (show w6.drew.heap[g12]? = _ from K12'.out)
          have K8 := Aside0.mk (show w6.drew.heap[g8]? = _ from K8'.out)
          have hy9 : w6.drew.cell? ⟨g, x.toNat * 3 + 2, none⟩ = some (.slice A5 r0.f2.length c5) := hy
          have hg9 : g < w6.drew.heap.size := hg6
          clear HB8 HT8 HH8 HR8 HG8 K12' K8' HS8 hy hg6 fy
          generalize w6.drew = wd at *
          refine pure_ (i := 0) (N := some 60) (v := ?_) (a' := ?_) #[true, false, false, false, false, false, false, false, false, false, false, false, false] rfl rfl (by kernel_rfl) (fun _ _ _ h => h) (Or.inl ⟨by rfl, ?_⟩) ?_ ?_
          rotate_left
          · intro w'
            go_simp
            with_reducible rfl
          rotate_left
          · simp only [Act.put, List.setIfInBounds_toArray, List.set_cons_zero, List.set_cons_succ, i64_w, i32_w]
            rfl
          refine pure_ (i := 1) (N := some 61) (v := ?_) (a' := ?_) #[true, true, false, false, false, false, false, false, false, false, false, false, false] rfl rfl (by kernel_rfl) (fun _ _ _ h => h) (Or.inl ⟨by rfl, ?_⟩) ?_ ?_
          rotate_left
          · intro w'
            go_simp
            with_reducible rfl
          rotate_left
          · simp only [Act.put, List.setIfInBounds_toArray, List.set_cons_zero, List.set_cons_succ, i64_w, i32_w]
            rfl
          refine pure_ (i := 2) (N := some 62) (v := ?_) (a' := ?_) #[true, true, true, false, false, false, false, false, false, false, false, false, false] rfl rfl (by kernel_rfl) (fun _ _ _ h => h) (Or.inl ⟨by rfl, ?_⟩) ?_ ?_
          rotate_left
          · intro w'
            go_simp
            with_reducible rfl
          rotate_left
          · simp only [Act.put, List.setIfInBounds_toArray, List.set_cons_zero, List.set_cons_succ, i64_w, i32_w]
            rfl
          refine pure_ (i := 3) (N := some 63) (v := ?_) (a' := ?_) #[true, true, true, true, false, false, false, false, false, false, false, false, false] rfl rfl (by kernel_rfl) (fun _ _ _ h => h) (Or.inl ⟨by rfl, ?_⟩) ?_ ?_
          rotate_left
          · intro w'
            go_simp
            with_reducible rfl
          rotate_left
          · simp only [Act.put, List.setIfInBounds_toArray, List.set_cons_zero, List.set_cons_succ, i64_w, i32_w]
            rfl
          refine pure_ (i := 5) (N := some 65) (v := ?_) (a' := ?_) #[true, true, true, true, false, true, false, false, false, false, false, false, false] rfl rfl (by kernel_rfl) (fun _ _ _ h => h) (Or.inl ⟨by rfl, ?_⟩) ?_ ?_
          rotate_left
          · intro w'
            go_simp
            with_reducible rfl
          rotate_left
          · simp only [Act.put, List.setIfInBounds_toArray, List.set_cons_zero, List.set_cons_succ, i64_w, i32_w]
            rfl
          refine pure_ (i := 6) (N := some 66) (v := ?_) (a' := ?_) #[true, true, true, true, false, true, true, false, false, false, false, false, false] rfl rfl (by kernel_rfl) (fun _ _ _ h => h) (Or.inl ⟨by rfl, ?_⟩) ?_ ?_
          rotate_left
          · intro w'
            go_simp
            with_reducible rfl
          rotate_left
          · simp only [Act.put, List.setIfInBounds_toArray, List.set_cons_zero, List.set_cons_succ, i64_w, i32_w]
            rfl
          refine take_ (i := 4) (N := some 64) (v := ?_) (a' := ?_) #[true, true, true, true, true, true, true, false, false, false, false, false, false] rfl rfl (by kernel_rfl) (fun _ _ _ h => h) (Or.inl ⟨by rfl, ?_⟩) hHeld ?_ ?_
          rotate_left
          · intro w' s0
            go_simp
            with_reducible rfl
          rotate_left
          · simp only [Act.put, List.setIfInBounds_toArray, List.set_cons_zero, List.set_cons_succ, i64_w, i32_w]
            rfl
          refine one_ (i := 7) (N := some 67) #[true, true, true, true, true, true, true, true, false, false, false, false, false] rfl rfl (by kernel_rfl) (by decide) (fun K hK => ?_)
          refine callE_ 60 #[.slice A2 t.length c2] (by rfl) rfl (by go_simp) ?_
          refine (slices_Clone_int_int.calls A2 c2 t t _ HT9.out HLC2.out (if_pos HTL.out)).mono ?_
          rintro e w7 ⟨va, rfl, hRa, hb7⟩
          obtain ⟨Aa, ca, ea⟩ := Kd.R_slice hRa
          subst ea
          left
          refine ⟨_, rfl, ?_⟩
          have HHW := Aside0.mk (Kd.H_below (Kd.H_widen HH9.out) hb7)
          have HB10 := Aside0.mk (below_step HB9.out hb7)
          have HR10 := Aside0.mk (Kd.R_below HR9.out hb7)
          have HRL := Aside0.mk (Kd.R_lt HR9.out)
          have HG10 := Aside0.mk ((hb7.block g hg9).trans HG9.out)
          have K12' := Aside0.mk ((hb7.block g12 (Array.getElem?_eq_some_iff.1 K12.out).1).trans K12.out)
          have K8' := Aside0.mk ((hb7.block g8 (Array.getElem?_eq_some_iff.1 K8.out).1).trans K8.out)
          have HVA := Aside0.mk (Kd.R_lower (Kd.R_mono (ok' := fun k_ => wd.heap.size ≤ k_) (Kd.R_bound hRa) (fun k_ hk => hk.2.1)) HB9.out.size)
          have hsz7 := hb7.size
          have hy10 := pw_cell_below hb7 hy9
          refine hK.out _ _ hy10 (fun hHeld2 => ?_)
          clear hK K hb7 hRa HB9 HT9 HH9 HR9 HG9 K12 K8
          refine norm_ (a' := ?_) ?_ ?_
          rotate_left
          · show Act.put _ (some 67) _ = _
            simp only [Act.put, List.setIfInBounds_toArray, List.set_cons_zero, List.set_cons_succ, i64_w, i32_w]
            rfl
          refine one_ (i := 8) (N := some 68) #[true, true, true, true, true, true, true, true, true, false, false, false, false] rfl rfl (by kernel_rfl) (by decide) (fun K hK => ?_)
          refine value_ (w1 := ?_) (v := ?_) (by rfl) rfl ?_ ?_
          rotate_left 2
          · go_simp
            constructor
            · rfl
            · rfl
          have HX14 := Aside0.mk (heap_alloc_new w7 (.cells #[.slice Aa t.length ca] 46))
          have hba := below_alloc (Below.refl w7.heap.size w7) (.cells #[.slice Aa t.length ca] 46)
          have HHW' := Aside0.mk (Kd.H_below HHW.out hba)
          have HB11 := Aside0.mk (below_step HB10.out hba)
          have HR11 := Aside0.mk (Kd.R_below HR10.out hba)
          have HG11 := Aside0.mk ((hba.block g (Array.getElem?_eq_some_iff.1 HG10.out).1).trans HG10.out)
          have K12 := Aside0.mk ((hba.block g12 (Array.getElem?_eq_some_iff.1 K12'.out).1).trans K12'.out)
          have K8 := Aside0.mk ((hba.block g8 (Array.getElem?_eq_some_iff.1 K8'.out).1).trans K8'.out)
          have HVA' := Aside0.mk (Kd.R_below HVA.out hba)
          have hsz8 := hba.size
          have hy11 := pw_cell_below hba hy10
          refine hK.out _ _ hy11 (fun hHeld3 => ?_)
          clear hK K hba HHW HB10 HR10 HG10 K12' K8' HVA
          refine norm_ (a' := ?_) ?_ ?_
          rotate_left
          · show Act.put _ (some 68) _ = _
            simp only [Act.put, List.setIfInBounds_toArray, List.set_cons_zero, List.set_cons_succ, i64_w, i32_w]
            rfl
          generalize hw8 : w7.alloc (.cells #[.slice Aa t.length ca] 46) = w8 at *
          clear hw8
          generalize hg14 : w7.heap.size = g14 at *
          refine one_ (i := 9) (N := some 69) #[true, true, true, true, true, true, true, true, true, true, false, false, false] rfl rfl (by kernel_rfl) (by decide) (fun K hK => ?_)
          refine callE_ 59 #[.slice A5 r0.f2.length c5, .int .i64 (q.toNat : Int), .slice (some ⟨g14, 0, none⟩) 1 1] (by rfl) rfl (by rw [Int.toNat_of_nonneg hqb.1]; go_simp) ?_
          have HRO := Aside0.mk (Kd.R_mono (ok' := fun k_ => oki k_ ∨ True ∧ wd.heap.size ≤ k_) HR11.out (fun k_ hk => Or.inl hk))
          refine (insert_calls A5 c5 r0.f2 q.toNat t g14 (.slice Aa t.length ca) w.heap.size (fun k_ => oki k_ ∨ True ∧ wd.heap.size ≤ k_) (fun k_ => wd.heap.size ≤ k_) w8 HRO.out (by omega) hlr HB11.out.size HX14.out HVA'.out (fun k_ hk => ⟨Or.inr ⟨trivial, hk⟩, fun e => by have := HRL.out k_ e.symm; omega⟩) (fun k_ hk => Or.inr ⟨trivial, by omega⟩) (fun e => by have := HRL.out g14 e.symm; omega)).mono ?_
          rintro e w9 ⟨v', rfl, hRn, hgr, hat⟩
          left
          refine ⟨_, rfl, ?_⟩
          have hgne : some g ≠ (Value.slice A5 r0.f2.length c5).ownBlock := fun e => (HK.out g (HR11.out.1 g e.symm)).2 rfl
          have HHG := Aside0.mk (Kd.H_grown HHW'.out hgr (fun k_ hk => HRO.out.1 k_ hk))
          have HB12 := Aside0.mk (pw_below_grown HB11.out _ HB11.out.size hgr (fun k_ hk => Kd.R_base HR11.out k_ hk))
          have HG12 := Aside0.mk (blk_grown HG11.out hgr hgne)
          have K12' := Aside0.mk (blk_grown K12.out hgr (Kd.R_ne HR11.out K12.out (by decide)))
          have K8' := Aside0.mk (blk_grown K8.out hgr (Kd.R_ne HR11.out K8.out (by decide)))
          have HRn := Aside0.mk hRn
          have hy12 := hgr.cell hy11 hgne
          refine hK.out _ _ hy12 (fun hHeld4 => ?_)
          clear hK K hgr hat hRn HHW' HB11 HR11 HG11 K12 K8 HVA' HX14 HRO hgne
          refine norm_ (a' := ?_) ?_ ?_
          rotate_left
          · show Act.put _ (some 69) _ = _
            simp only [Act.put, List.setIfInBounds_toArray, List.set_cons_zero, List.set_cons_succ, i64_w, i32_w]
            rfl
          refine pure_ (i := 10) (N := some 70) (v := ?_) (a' := ?_) #[true, true, true, true, true, true, true, true, true, true, true, false, false] rfl rfl (by kernel_rfl) (fun _ _ _ h => h) (Or.inl ⟨by rfl, ?_⟩) ?_ ?_
          rotate_left
          · intro w'
            go_simp
            with_reducible rfl
          rotate_left
          · simp only [Act.put, List.setIfInBounds_toArray, List.set_cons_zero, List.set_cons_succ, i64_w, i32_w]
            rfl
          refine pure_ (i := 11) (N := some 71) (v := ?_) (a' := ?_) #[true, true, true, true, true, true, true, true, true, true, true, true, false] rfl rfl (by kernel_rfl) (fun _ _ _ h => h) (Or.inl ⟨by rfl, ?_⟩) ?_ ?_
          rotate_left
          · intro w'
            go_simp
            with_reducible rfl
          rotate_left
          · simp only [Act.put, List.setIfInBounds_toArray, List.set_cons_zero, List.set_cons_succ, i64_w, i32_w]
            rfl
          refine last_ (i := 12) (N := none) #[true, true, true, true, true, true, true, true, true, true, true, true, true] rfl rfl (by kernel_rfl) (by decide) (fun K hK => ?_)
          have fy := blk_frozen HG12.out (x.toNat * 3 + 2)
          obtain ⟨An, cn, en⟩ := Kd.R_slice HRn.out
          subst en
          refine skip_ (w1 := ?_) (by rfl) rfl ?_ ?_
          rotate_left
          · go_simp
            rfl
          refine hK.out _ _ ?_
          clear hK K
          refine done_ (by kernel_rfl) ?_
          refine NoPanic.normal ?_
          have hko : ∀ k_, (oki k_ ∨ True ∧ wd.heap.size ≤ k_) → k_ ≠ g := fun k_ hk e => by
            rcases hk with hk | hk
            · exact (HK.out k_ hk).2 e
            · omega
          have hseg := Kd.H_seg HHG.out hxb.1 hxb.2 (seg := [.slice An (insAt r0.f2 q.toNat t).length cn]) (j := 2) (Nat.le_refl 3) (fun u hu => by rw [List.mem_singleton.1 hu]; rfl)
          have hback := Kd.H_back hseg.1 (x' := putRel r0 (insAt r0.f2 q.toNat t)) (okp := fun k_ => oki k_ ∨ True ∧ wd.heap.size ≤ k_) (k52_mkM _ _ _ (putRel r0 (insAt r0.f2 q.toNat t)) (Kd.R_far (p := ⟨g, x.toNat * 3 + 2, none⟩) HRn.out hko _)) (fun k_ hk => hk)
          have ZR := Aside0.mk (Kd.S_R hback)
          have ZB := Aside0.mk (below_set (g := g) (j := x.toNat * 3 + 2) (v := .slice An (insAt r0.f2 q.toNat t).length cn) HB12.out hbg)
          have Z12 := Aside0.mk ((Below.heap_setCell w9 ⟨g, x.toNat * 3 + 2, none⟩ (.slice An (insAt r0.f2 q.toNat t).length cn) g12 (fun e => by have e2 : g12 = g := e; rw [e2] at K12'; have := HG12.out.symm.trans K12'.out; injection this with h; injection h with h1 h2; cases h2)).trans K12'.out)
          have Z8 := Aside0.mk ((Below.heap_setCell w9 ⟨g, x.toNat * 3 + 2, none⟩ (.slice An (insAt r0.f2 q.toNat t).length cn) g8 (fun e => by have e2 : g8 = g := e; rw [e2] at K8'; have := HG12.out.symm.trans K8'.out; injection this with h; injection h with h1 h2; cases h2)).trans K8'.out)
          clear hseg hback HHG HRn HB12 HG12 K12' K8' fy hy12
          have ZR := Aside0.mk (show Kd.R k52 52 (w9.setCell ⟨g, x.toNat * 3 + 2, none⟩ (.slice An (insAt r0.f2 q.toNat t).length cn)) w.heap.size (fun _ => True) (.slice (some ⟨g, 0, none⟩) l.length c3) (l.set x.toNat (putRel r0 (insAt r0.f2 q.toNat t))) from ZR.out)
          generalize w9.setCell ⟨g, x.toNat * 3 + 2, none⟩ (.slice An (insAt r0.f2 q.toNat t).length cn) = wz at *
          have c12_0 : wz.cell? ⟨g12, 0, none⟩ = some (.int .i64 n) := (blk_cell Z12.out 0).trans rfl
          have c12_1 : wz.cell? ⟨g12, 1, none⟩ = some (.slice (some ⟨g, 0, none⟩) l.length c3) := (blk_cell Z12.out 1).trans rfl
          have c8_0 : wz.cell? ⟨g8, 0, none⟩ = some (.int .i64 0) := (blk_cell Z8.out 0).trans rfl
          have c8_1 : wz.cell? ⟨g8, 1, none⟩ = some (.slice none 0 0) := (blk_cell Z8.out 1).trans rfl
          have f8_0 := blk_frozen Z8.out 0
          have f8_1 := blk_frozen Z8.out 1
          go_wp2
          have HX := blk_put (cs' := #[.int .i64 n, .slice (some ⟨g, 0, none⟩) l.length c3]) (blk_put (cs' := #[.int .i64 n, .slice none 0 0]) Z8.out 0 (.int .i64 n) rfl) 1 (.slice (some ⟨g, 0, none⟩) l.length c3) rfl
          have HV1 := Kd.R_set ZR.out Z8.out (by decide) 0 (.int .i64 n)
          have HV2 := Kd.R_set HV1 (blk_put (cs' := #[.int .i64 n, .slice none 0 0]) Z8.out 0 (.int .i64 n) rfl) (by decide) 1 (.slice (some ⟨g, 0, none⟩) l.length c3)
          have HBX := below_set (j := 1) (v := .slice (some ⟨g, 0, none⟩) l.length c3) (below_set (j := 0) (v := .int .i64 n) ZB.out hg8w) hg8w
          refine bodyPost_ret (results_put _ _ g8 n 0 _ rfl rfl HX) rfl ?_
          exact ⟨_, rfl, HV2, HBX⟩
      | false =>
        cases there with
        | false =>
          have h2 := H.out
          rw [if_neg (by simp), if_neg (by simp)] at h2
          obtain rfl := Option.some.inj h2
          clear h2 H HH8 HR8
          have Z12 := K12'
          have Z8 := K8'
          have ZB := HB8
          have ZR := Aside0.mk (Kd.S_R HS8.out)
          clear K12' K8' HB8 HS8
          have c12_0 : w6.cell? ⟨g12, 0, none⟩ = some (.int .i64 n) := (blk_cell Z12.out 0).trans rfl
          have c12_1 : w6.cell? ⟨g12, 1, none⟩ = some (.slice (some ⟨g, 0, none⟩) l.length c3) := (blk_cell Z12.out 1).trans rfl
          have c8_0 : w6.cell? ⟨g8, 0, none⟩ = some (.int .i64 0) := (blk_cell Z8.out 0).trans rfl
          have c8_1 : w6.cell? ⟨g8, 1, none⟩ = some (.slice none 0 0) := (blk_cell Z8.out 1).trans rfl
          have f8_0 := blk_frozen Z8.out 0
          have f8_1 := blk_frozen Z8.out 1
          go_wp2
          have HX := blk_put (cs' := #[.int .i64 n, .slice (some ⟨g, 0, none⟩) l.length c3]) (blk_put (cs' := #[.int .i64 n, .slice none 0 0]) Z8.out 0 (.int .i64 n) rfl) 1 (.slice (some ⟨g, 0, none⟩) l.length c3) rfl
          have HV1 := Kd.R_set ZR.out Z8.out (by decide) 0 (.int .i64 n)
          have HV2 := Kd.R_set HV1 (blk_put (cs' := #[.int .i64 n, .slice none 0 0]) Z8.out 0 (.int .i64 n) rfl) (by decide) 1 (.slice (some ⟨g, 0, none⟩) l.length c3)
          have HBX := below_set (j := 1) (v := .slice (some ⟨g, 0, none⟩) l.length c3) (below_set (j := 0) (v := .int .i64 n) ZB.out hg8w) hg8w
          refine bodyPost_ret (results_put _ _ g8 n 0 _ rfl rfl HX) rfl ?_
          exact ⟨_, rfl, HV2, HBX⟩
        | true =>
          have h2 := H.out
          rw [if_neg (by simp), if_pos (by simp)] at h2
          by_cases hqb : 0 ≤ q ∧ q < (r0.f2.length : Int)
          case neg => rw [if_neg hqb] at h2; cases h2
          rw [if_pos hqb] at h2
          obtain rfl := Option.some.inj h2
          clear h2 H HS8 HT8
          have hlr : r0.f2.length ≤ 100000 := hcr0
          have hqw : IntKind.i64.wrap (q + 1) = q + 1 := by rw [IntKind.wrap_i64]; omega
          have hqn : ((q.toNat : Nat) : Int) = q := Int.toNat_of_nonneg hqb.1
          have fy := blk_frozen HG8.out (x.toNat * 3 + 2)
          go_wp2_with (fail)
          have HRO := Aside0.mk (Kd.R_mono (ok' := fun k_ => oki k_ ∨ True ∧ w6.heap.size ≤ k_) HR8.out (fun k_ hk => Or.inl hk))
          have hdel := delete_calls A5 c5 r0.f2 q.toNat w.heap.size (fun k_ => oki k_ ∨ True ∧ w6.heap.size ≤ k_) w6 HRO.out (by omega) (fun k_ hk => Or.inr ⟨trivial, hk⟩)
          rw [hqn] at hdel
          refine hdel.mono ?_
          rintro e w9 ⟨v', rfl, hRn, hgr, hat⟩
          have hgne : some g ≠ (Value.slice A5 r0.f2.length c5).ownBlock := fun e => (HK.out g (HR8.out.1 g e.symm)).2 rfl
          have HHG := Aside0.mk (Kd.H_grown (Kd.H_widen HH8.out) hgr (fun k_ hk => HRO.out.1 k_ hk))
          have HB12 := Aside0.mk (pw_below_grown HB8.out _ HB8.out.size hgr (fun k_ hk => Kd.R_base HR8.out k_ hk))
          have HG12 := Aside0.mk (blk_grown HG8.out hgr hgne)
          have Y12 := Aside0.mk (blk_grown K12'.out hgr (Kd.R_ne HR8.out K12'.out (by decide)))
          have Y8 := Aside0.mk (blk_grown K8'.out hgr (Kd.R_ne HR8.out K8'.out (by decide)))
          have HRn := Aside0.mk hRn
          have hy12 := hgr.cell hy hgne
          have fy := blk_frozen HG12.out (x.toNat * 3 + 2)
          clear hdel hgr hat hRn HH8 HB8 HR8 HG8 K12' K8' HRO hgne hy
          obtain ⟨An, cn, en⟩ := Kd.R_slice HRn.out
          subst en
          have hko : ∀ k_, (oki k_ ∨ True ∧ w6.heap.size ≤ k_) → k_ ≠ g := fun k_ hk e => by
            rcases hk with hk | hk
            · exact (HK.out k_ hk).2 e
            · omega
          have hseg := Kd.H_seg HHG.out hxb.1 hxb.2 (seg := [.slice An (delAt r0.f2 q.toNat).length cn]) (j := 2) (Nat.le_refl 3) (fun u hu => by rw [List.mem_singleton.1 hu]; rfl)
          have hback := Kd.H_back hseg.1 (x' := putRel r0 (delAt r0.f2 q.toNat)) (okp := fun k_ => oki k_ ∨ True ∧ w6.heap.size ≤ k_) (k52_mkM _ _ _ (putRel r0 (delAt r0.f2 q.toNat)) (Kd.R_far (p := ⟨g, x.toNat * 3 + 2, none⟩) HRn.out hko _)) (fun k_ hk => hk)
          have ZB := Aside0.mk (below_set (g := g) (j := x.toNat * 3 + 2) (v := .slice An (delAt r0.f2 q.toNat).length cn) HB12.out hbg)
          have Z12 := Aside0.mk ((Below.heap_setCell w9 ⟨g, x.toNat * 3 + 2, none⟩ (.slice An (delAt r0.f2 q.toNat).length cn) g12 (fun e => by have e2 : g12 = g := e; rw [e2] at Y12; have := HG12.out.symm.trans Y12.out; injection this with h; injection h with h1 h2; cases h2)).trans Y12.out)
          have Z8 := Aside0.mk ((Below.heap_setCell w9 ⟨g, x.toNat * 3 + 2, none⟩ (.slice An (delAt r0.f2 q.toNat).length cn) g8 (fun e => by have e2 : g8 = g := e; rw [e2] at Y8; have := HG12.out.symm.trans Y8.out; injection this with h; injection h with h1 h2; cases h2)).trans Y8.out)
          have ZR := Aside0.mk (show Kd.R k52 52 (w9.setCell ⟨g, x.toNat * 3 + 2, none⟩ (.slice An (delAt r0.f2 q.toNat).length cn)) w.heap.size (fun _ => True) (.slice (some ⟨g, 0, none⟩) l.length c3) (l.set x.toNat (putRel r0 (delAt r0.f2 q.toNat))) from Kd.S_R hback)
          clear hseg hback HHG HRn HB12 Y12 Y8
          go_upto_region 13 with (fail)
          generalize w9.setCell ⟨g, x.toNat * 3 + 2, none⟩ (.slice An (delAt r0.f2 q.toNat).length cn) = wz at *
          have c12_0 : wz.cell? ⟨g12, 0, none⟩ = some (.int .i64 n) := (blk_cell Z12.out 0).trans rfl
          have c12_1 : wz.cell? ⟨g12, 1, none⟩ = some (.slice (some ⟨g, 0, none⟩) l.length c3) := (blk_cell Z12.out 1).trans rfl
          have c8_0 : wz.cell? ⟨g8, 0, none⟩ = some (.int .i64 0) := (blk_cell Z8.out 0).trans rfl
          have c8_1 : wz.cell? ⟨g8, 1, none⟩ = some (.slice none 0 0) := (blk_cell Z8.out 1).trans rfl
          have f8_0 := blk_frozen Z8.out 0
          have f8_1 := blk_frozen Z8.out 1
          go_wp2
          have HX := blk_put (cs' := #[.int .i64 n, .slice (some ⟨g, 0, none⟩) l.length c3]) (blk_put (cs' := #[.int .i64 n, .slice none 0 0]) Z8.out 0 (.int .i64 n) rfl) 1 (.slice (some ⟨g, 0, none⟩) l.length c3) rfl
          have HV1 := Kd.R_set ZR.out Z8.out (by decide) 0 (.int .i64 n)
          have HV2 := Kd.R_set HV1 (blk_put (cs' := #[.int .i64 n, .slice none 0 0]) Z8.out 0 (.int .i64 n) rfl) (by decide) 1 (.slice (some ⟨g, 0, none⟩) l.length c3)
          have HBX := below_set (j := 1) (v := .slice (some ⟨g, 0, none⟩) l.length c3) (below_set (j := 0) (v := .int .i64 n) ZB.out hg8w) hg8w
          refine bodyPost_ret (results_put _ _ g8 n 0 _ rfl rfl HX) rfl ?_
          exact ⟨_, rfl, HV2, HBX⟩
  · have h2 := H.out
    rw [if_neg he] at h2
    obtain rfl := Option.some.inj h2
    clear h2
    have e0 : (e1 == 0) = false := beq_eq_false_iff_ne.mpr he
    have e0' : (e1 != 0) = true := bne_iff_ne.mpr he
    clear H
    go_wp2
    have HX := blk_put (cs' := #[.int .i64 0, .slice none 0 0]) (blk_put (cs' := #[.int .i64 0, .slice none 0 0]) K8'.out 0 (.int .i64 0) rfl) 1 (.slice none 0 0) rfl
    have HBX := below_set (j := 1) (v := .slice none 0 0) (below_set (j := 0) (v := .int .i64 0) HB2.out hg8w) hg8w
    refine bodyPost_ret (results_put _ _ g8 0 e1 _ rfl rfl HX) rfl ?_
    exact ⟨_, rfl, Kd.R_nil _ _ _ _ _, HBX⟩
theorem shape_Put.calls (k : Nat) (a0_0 : Int) (A0_1 : Option Addr) (c0_1 : Nat) (l0_1 : List S52) (a1 : ByteArray) (A2 : Option Addr) (c2 : Nat) (l2 : List Int) (a3 : Bool) (r1 : Int) (r2 : List S52) (r3 : Int) (w : World) (hr0_1 : Kd.C k52 w A0_1 l0_1.length l0_1) (hc0_1 : l0_1.length ≤ c0_1) (hr2 : Kd.C (Kd.int .i64) w A2 l2.length l2) (hc2 : l2.length ≤ c2) (h : shape_Put.f k a0_0 l0_1 a1 l2 a3 = some (r1, r2, r3)) :
    Calls Tryz.prog 28 #[.agg #[.int .i64 a0_0, .slice A0_1 l0_1.length c0_1], .string a1, .slice A2 l2.length c2, .bool a3] w fun e w' => ∃ v1_ : Value, e = .returned (.tuple #[.agg #[.int .i64 r1, v1_], .int .i64 r3]) ∧ Kd.R k52 52 w' w.heap.size (fun _ => True) v1_ r2 ∧ Below w.heap.size w w' :=
  put_calls k a0_0 A0_1 c0_1 l0_1 a1 A2 c2 l2 a3 (r1, r2, r3) w hr0_1 hc0_1 hr2 hc2 h
end Go.Proofs.YtfmpaofbnjlniaaGreatDoor.F
/- What Has and Put answer at valid structures; plain lemmas. -/
namespace Go.Proofs.YtfmpaofbnjlniaaGreatDoor.F
open Go.RowKit Go.Proofs.YtfmpaofbnjlniaaGreatDoorW.PrintWords Go.Proofs.YtfmpaofbnjlniaaGreatDoorW.PrintLast Go.Proofs.YtfmpaofbnjlniaaGreatDoorW.PrintMore
set_option linter.unusedVariables false
/-! ### the lexicographic order -/
theorem lex_irr : ∀ x : List Int, lexL x x = false
  | [] => rfl
  | a :: x => by unfold lexL; rw [if_pos rfl]; exact lex_irr x
theorem lex_trans : ∀ x y z : List Int, x.length = y.length → y.length = z.length → lexL x y = true → lexL y z = true → lexL x z = true
  | [], y, z, h1, h2, h, _ => by unfold lexL at h; cases h
  | a :: x, [], z, h1, h2, h, _ => by simp at h1
  | a :: x, b :: y, [], h1, h2, h, _ => by simp at h2
  | a :: x, b :: y, c :: z, h1, h2, h, h' => by
    unfold lexL at h h' ⊢
    simp only [List.length_cons] at h1 h2
    by_cases e1 : a = b
    · by_cases e2 : b = c
      · rw [if_pos e1] at h
        rw [if_pos e2] at h'
        rw [if_pos (e1.trans e2)]
        exact lex_trans x y z (by omega) (by omega) h h'
      · rw [if_neg e2, decide_eq_true_eq] at h'
        rw [if_neg (by omega), decide_eq_true_eq]; omega
    · rw [if_neg e1, decide_eq_true_eq] at h
      by_cases e2 : b = c
      · rw [if_neg (by omega), decide_eq_true_eq]; omega
      · rw [if_neg e2, decide_eq_true_eq] at h'
        rw [if_neg (by omega), decide_eq_true_eq]; omega
theorem lex_tri : ∀ x y : List Int, x.length = y.length → lexL x y = false → x ≠ y → lexL y x = true
  | [], [], _, _, h => absurd rfl h
  | [], _ :: _, h, _, _ => by simp at h
  | _ :: _, [], h, _, _ => by simp at h
  | a :: x, b :: y, h1, h, hne => by
    unfold lexL at h ⊢
    by_cases e : a = b
    · rw [if_pos e] at h
      rw [if_pos e.symm]
      exact lex_tri x y (by simpa using h1) h (fun e2 => hne (by rw [e, e2]))
    · rw [if_neg e, decide_eq_false_iff_not] at h
      rw [if_neg (fun e2 => e e2.symm), decide_eq_true_eq]; omega
theorem cmp_loop (x y : List Int) (hl : x.length = y.length) (hx : x.length ≤ 100000) : ∀ (j i k : Nat), i + j = x.length → j + 1 ≤ k → ∃ c, slices_Compare_int_int.l0 k x y x (x.length : Int) (i : Int) = some c ∧ (c < 0 ↔ lexL (x.drop i) (y.drop i) = true) ∧ (c = 0 ↔ x.drop i = y.drop i)
  | 0, i, k + 1, h, hk => by
    refine ⟨0, ?_, ?_, ?_⟩
    · unfold slices_Compare_int_int.l0; rw [if_neg (by omega), if_neg (by omega)]
    · rw [List.drop_eq_nil_of_le (by omega)]; simp [lexL]
    · rw [List.drop_eq_nil_of_le (by omega), List.drop_eq_nil_of_le (by omega)]; simp
  | j + 1, i, k + 1, h, hk => by
    have hi : i < x.length := by omega
    have hi2 : i < y.length := by omega
    unfold slices_Compare_int_int.l0
    rw [if_pos (by omega), if_pos (by omega), if_pos (by omega), if_neg (by omega), if_pos (by omega), rd_nat x i hi, rd_nat y i hi2, List.drop_eq_getElem_cons hi, List.drop_eq_getElem_cons hi2, w64 (by omega) (by omega)]
    unfold cmp_Compare_int.f cmp_isNaN_int.f lexL
    simp only [bne_self_eq_false, Option.bind_some, Bool.false_eq_true, if_false]
    rcases Int.lt_trichotomy x[i] y[i] with h1 | h1 | h1
    · exact ⟨-1, by simp [h1], by rw [if_neg (by omega)]; simp [h1], ⟨fun e => by omega, fun e => by have := (List.cons.inj e).1; omega⟩⟩
    · obtain ⟨c, hc, hd, he⟩ := cmp_loop x y hl hx j (i + 1) k (by omega) (by omega)
      rw [show ((i + 1 : Nat) : Int) = (i : Int) + 1 by omega] at hc
      exact ⟨c, by simp [h1, hc], by rw [if_pos h1]; exact hd, by rw [he]; exact ⟨fun e => by rw [h1, e], fun e => (List.cons.inj e).2⟩⟩
    · exact ⟨1, by simp [h1, show ¬ x[i] < y[i] by omega], by rw [if_neg (by omega)]; simp; omega, ⟨fun e => by omega, fun e => by have := (List.cons.inj e).1; omega⟩⟩
theorem cmp_eq (x y : List Int) (hl : x.length = y.length) (hx : x.length ≤ 100000) (k : Nat) (hk : x.length + 1 ≤ k) : ∃ c, slices_Compare_int_int.f k x y = some c ∧ (c < 0 ↔ lexL x y = true) ∧ (c = 0 ↔ x = y) :=
  cmp_loop x y hl hx x.length 0 k (by omega) (by omega)
/-! ### the binary search -/
def Sorted (ts : List (List Int)) : Prop := ts.Pairwise (fun a b => lexL a b = true)
/-- The place of t in ts. -/
def PlaceOf (ts : List (List Int)) (t : List Int) (q : Nat) (b : Bool) : Prop := q ≤ ts.length ∧ (∀ a ∈ ts.take q, lexL a t = true) ∧ (∀ a ∈ ts.drop q, lexL a t = false) ∧ (b = true ↔ ∃ h : q < ts.length, ts[q] = t)
theorem mid_eq (lo hi : Nat) (h : lo ≤ hi) (h2 : hi ≤ 100000) : wrap64 ((IntKind.u64.wrap (wrap64 ((lo : Int) + (hi : Int)))) / 2) = (((lo + hi) / 2 : Nat) : Int) := by
  rw [w64 (x := (lo : Int) + hi) (by omega) (by omega), IntKind.wrap_u64, w64 (by omega) (by omega)]
  omega
theorem search_loop (ts : List (List Int)) (t : List Int) (m : Nat) (hm : m ≤ 1000) (hlt : t.length = m) (hl : ∀ a ∈ ts, a.length = m) (hs : Sorted ts) (hn : ts.length ≤ 100000) : ∀ (d lo hi k : Nat), lo ≤ hi → hi ≤ ts.length → hi - lo ≤ d → d + m + 3 ≤ k →
    (∀ (i : Nat) (h : i < ts.length), i < lo → lexL ts[i] t = true) → (∀ (i : Nat) (h : i < ts.length), hi ≤ i → lexL ts[i] t = false) →
    ∃ (q : Nat) (b : Bool), slices_BinarySearchFunc_int_int_int.l0 k ts t (ts.length : Int) (lo : Int) (hi : Int) = some ((q : Int), b) ∧ PlaceOf ts t q b
  | 0, lo, hi, k + 1, h1, h2, h3, h4, hp, hq => by
    obtain rfl : lo = hi := by omega
    have T1 : ∀ a ∈ ts.take lo, lexL a t = true := fun a ha => by
      obtain ⟨i, hi, rfl⟩ := List.getElem_of_mem ha
      rw [List.length_take] at hi
      rw [List.getElem_take]
      exact hp i (by omega) (by omega)
    have T2 : ∀ a ∈ ts.drop lo, lexL a t = false := fun a ha => by
      obtain ⟨i, hi, rfl⟩ := List.getElem_of_mem ha
      rw [List.length_drop] at hi
      rw [List.getElem_drop]
      exact hq _ (by omega) (by omega)
    unfold slices_BinarySearchFunc_int_int_int.l0
    rw [if_neg (by omega)]
    by_cases hlo : lo < ts.length
    · obtain ⟨c, hc, _, h0⟩ := cmp_eq ts[lo] t (by rw [hl _ (List.getElem_mem hlo), hlt]) (by rw [hl _ (List.getElem_mem hlo)]; omega) k (by rw [hl _ (List.getElem_mem hlo)]; omega)
      rw [if_pos (by omega), if_pos (by omega), if_pos (by omega), rdL2_nat ts lo hlo, hc]
      exact ⟨lo, _, rfl, h2, T1, T2, by rw [beq_iff_eq, h0]; exact ⟨fun e => ⟨hlo, e⟩, fun ⟨_, e⟩ => e⟩⟩
    · rw [if_neg (by omega)]
      exact ⟨lo, false, rfl, h2, T1, T2, by simp; omega⟩
  | d + 1, lo, hi, k + 1, h1, h2, h3, h4, hp, hq => by
    by_cases hlh : lo < hi
    · have hmid := mid_eq lo hi h1 (by omega)
      have hm1 : (lo + hi) / 2 < ts.length := by omega
      unfold slices_BinarySearchFunc_int_int_int.l0
      rw [if_pos (by omega)]
      simp only [hmid]
      rw [if_pos (by omega), if_pos (by omega), rdL2_nat ts _ hm1]
      obtain ⟨c, hc, hlx, _⟩ := cmp_eq ts[(lo + hi) / 2] t (by rw [hl _ (List.getElem_mem hm1), hlt]) (by rw [hl _ (List.getElem_mem hm1)]; omega) k (by rw [hl _ (List.getElem_mem hm1)]; omega)
      rw [hc]
      simp only [Option.bind_some]
      have hpw := List.pairwise_iff_getElem.1 hs
      by_cases hc0 : c < 0
      · rw [if_pos hc0, w64 (by omega) (by omega), show (((lo + hi) / 2 : Nat) : Int) + 1 = (((lo + hi) / 2 + 1 : Nat) : Int) by omega]
        refine search_loop ts t m hm hlt hl hs hn d ((lo + hi) / 2 + 1) hi k (by omega) h2 (by omega) (by omega) (fun i h hi' => ?_) hq
        by_cases e : i = (lo + hi) / 2
        · subst e; exact hlx.1 hc0
        · exact lex_trans _ _ _ (by rw [hl _ (List.getElem_mem h), hl _ (List.getElem_mem hm1)]) (by rw [hl _ (List.getElem_mem hm1), hlt]) (hpw i _ h hm1 (by omega)) (hlx.1 hc0)
      · rw [if_neg hc0]
        refine search_loop ts t m hm hlt hl hs hn d lo ((lo + hi) / 2) k (by omega) (by omega) (by omega) (by omega) hp (fun i h hi' => ?_)
        have hf : lexL ts[(lo + hi) / 2] t = false := by
          cases hb : lexL ts[(lo + hi) / 2] t with
          | false => rfl
          | true => exact absurd (hlx.2 hb) hc0
        by_cases e : i = (lo + hi) / 2
        · subst e; exact hf
        · cases hb : lexL ts[i] t with
          | false => rfl
          | true =>
            have := lex_trans _ _ _ (by rw [hl _ (List.getElem_mem hm1), hl _ (List.getElem_mem h)]) (by rw [hl _ (List.getElem_mem h), hlt]) (hpw _ i hm1 h (by omega)) hb
            rw [hf] at this; cases this
    · exact search_loop ts t m hm hlt hl hs hn d lo hi (k + 1) h1 h2 (by omega) (by omega) hp hq
theorem search_eq (ts : List (List Int)) (t : List Int) (m : Nat) (hm : m ≤ 1000) (hlt : t.length = m) (hl : ∀ a ∈ ts, a.length = m) (hs : Sorted ts) (hn : ts.length ≤ 5000) : ∃ (q : Nat) (b : Bool), PlaceOf ts t q b ∧ ∀ k, 7000 ≤ k → slices_BinarySearchFunc_int_int_int.f k ts t = some ((q : Int), b) := by
  obtain ⟨q, b, h, hp⟩ := search_loop ts t m hm hlt hl hs (by omega) ts.length 0 ts.length 7000 (by omega) (Nat.le_refl _) (by omega) (by omega) (fun i _ h => by omega) (fun i _ h => by omega)
  exact ⟨q, b, hp, fun k hk => at_rounds (slices_BinarySearchFunc_int_int_int.mono _ _) hk h⟩
theorem place_mem {ts : List (List Int)} {t : List Int} {q : Nat} {b : Bool} (h : PlaceOf ts t q b) (hs : Sorted ts) (m : Nat) (hlt : t.length = m) (hl : ∀ a ∈ ts, a.length = m) : b = true ↔ t ∈ ts := by
  obtain ⟨h1, h2, h3, h4⟩ := h
  rw [h4]
  constructor
  · rintro ⟨hq, e⟩
    rw [← e]; exact List.getElem_mem hq
  · intro ht
    rw [← List.take_append_drop q ts, List.mem_append] at ht
    rcases ht with ht | ht
    · have := h2 t ht
      rw [lex_irr] at this; cases this
    · have hq : q < ts.length := by
        have := List.length_pos_of_mem ht
        rw [List.length_drop] at this; omega
      refine ⟨hq, ?_⟩
      rw [List.drop_eq_getElem_cons hq] at ht
      rcases List.mem_cons.1 ht with ht | ht
      · exact ht.symm
      · have hp : Sorted (ts.drop q) := List.Pairwise.sublist (List.drop_sublist q ts) hs
        rw [List.drop_eq_getElem_cons hq] at hp
        have := (List.pairwise_cons.1 hp).1 t ht
        rw [h3 _ (by rw [List.drop_eq_getElem_cons hq]; exact List.mem_cons_self)] at this
        cases this
/-! ### inserting, deleting -/
theorem ins_mem (ts : List (List Int)) (q : Nat) (t a : List Int) : a ∈ insAt ts q t ↔ a = t ∨ a ∈ ts := by
  unfold insAt
  conv => rhs; rw [← List.take_append_drop q ts]
  simp only [List.mem_append, List.mem_singleton]
  constructor
  · rintro ((h | h) | h)
    · exact Or.inr (Or.inl h)
    · exact Or.inl h
    · exact Or.inr (Or.inr h)
  · rintro (h | h | h)
    · exact Or.inl (Or.inr h)
    · exact Or.inl (Or.inl h)
    · exact Or.inr h
theorem ins_sorted {ts : List (List Int)} {t : List Int} {q : Nat} {b : Bool} (h : PlaceOf ts t q b) (hs : Sorted ts) (m : Nat) (hlt : t.length = m) (hl : ∀ a ∈ ts, a.length = m) (hn : t ∉ ts) : Sorted (insAt ts q t) := by
  obtain ⟨h1, h2, h3, h4⟩ := h
  unfold Sorted at hs ⊢
  rw [← List.take_append_drop q ts, List.pairwise_append] at hs
  obtain ⟨s1, s2, s3⟩ := hs
  have hd : ∀ a ∈ ts.drop q, lexL t a = true := fun a ha => lex_tri a t (by rw [hl a (List.mem_of_mem_drop ha), hlt]) (h3 a ha) (fun e => hn (e ▸ List.mem_of_mem_drop ha))
  unfold insAt
  rw [List.pairwise_append, List.pairwise_append]
  refine ⟨⟨s1, List.pairwise_singleton _ _, fun a ha b hb => by rw [List.mem_singleton.1 hb]; exact h2 a ha⟩, s2, fun a ha b hb => ?_⟩
  rcases List.mem_append.1 ha with ha | ha
  · exact s3 a ha b hb
  · rw [List.mem_singleton.1 ha]; exact hd b hb
theorem del_sub (ts : List (List Int)) (q : Nat) : List.Sublist (delAt ts q) ts := by
  have := List.eraseIdx_sublist ts q
  rwa [List.eraseIdx_eq_take_drop_succ] at this
theorem del_mem (ts : List (List Int)) (q : Nat) (hq : q < ts.length) (a : List Int) (ha : a ∈ ts) : a ∈ delAt ts q ∨ a = ts[q] := by
  rw [← List.take_append_drop q ts, List.mem_append, List.drop_eq_getElem_cons hq, List.mem_cons] at ha
  unfold delAt
  rw [List.mem_append]
  rcases ha with h | h | h
  · exact Or.inl (Or.inl h)
  · exact Or.inr h
  · exact Or.inl (Or.inr h)
theorem del_not {ts : List (List Int)} {q : Nat} (hq : q < ts.length) (hs : Sorted ts) : ts[q] ∉ delAt ts q := by
  intro h
  unfold Sorted at hs
  rw [← List.take_append_drop q ts, List.pairwise_append, List.drop_eq_getElem_cons hq, List.pairwise_cons] at hs
  obtain ⟨_, ⟨s2, _⟩, s3⟩ := hs
  unfold delAt at h
  rcases List.mem_append.1 h with h | h
  · have := s3 _ h _ List.mem_cons_self
    rw [lex_irr] at this; cases this
  · have := s2 _ h
    rw [lex_irr] at this; cases this
end Go.Proofs.YtfmpaofbnjlniaaGreatDoor.F
/- What Has and Put answer at valid structures. -/
namespace Go.Proofs.YtfmpaofbnjlniaaGreatDoor.F
open Go.RowKit Go.Proofs.YtfmpaofbnjlniaaGreatDoorW.PrintWords Go.Proofs.YtfmpaofbnjlniaaGreatDoorW.PrintLast Go.Proofs.YtfmpaofbnjlniaaGreatDoorW.PrintMore
set_option linter.unusedVariables false
theorem tups_sorted (n a : Int) (ts : List (List Int)) (h : tupsV n a ts ts.length 0 = true) : Sorted ts ∧ ∀ t ∈ ts, tupV n a t = true := by
  have hA := tupsV_all n a ts ts.length 0 h (by omega)
  have hT : ∀ t ∈ ts, tupV n a t = true := fun t ht => by
    obtain ⟨j, hj, rfl⟩ := List.getElem_of_mem ht
    exact (hA j hj (by omega)).1
  refine ⟨List.pairwise_iff_getElem.2 (fun i j hi hj hij => ?_), hT⟩
  have hl : ∀ (m : Nat) (hm : m < ts.length), (ts[m].length : Int) = a := fun m hm => (tupV_in n a _ (hT _ (List.getElem_mem hm))).1
  induction j with
  | zero => omega
  | succ j ih =>
    obtain ⟨_, h2⟩ := (hA (j + 1) hj (by omega)).2 (by omega)
    simp only [Nat.add_sub_cancel] at h2
    by_cases e : i = j
    · subst e; exact h2
    · have e1 := hl i hi
      have e2 := hl j (by omega)
      have e3 := hl (j + 1) hj
      exact lex_trans _ _ _ (by omega) (by omega) (ih (by omega) (by omega)) h2
theorem tupsV_mk (n a : Int) (ts : List (List Int)) (hs : Sorted ts) (hT : ∀ t ∈ ts, tupV n a t = true) : ∀ (d i : Nat), i + d = ts.length → tupsV n a ts d i = true
  | 0, i, h => rfl
  | d + 1, i, h => by
    have hi : i < ts.length := by omega
    unfold tupsV
    rw [rdL2_nat ts i hi, hT _ (List.getElem_mem hi), tupsV_mk n a ts hs hT d (i + 1) (by omega)]
    by_cases e : i = 0
    · simp [e]
    · have r2 : rd_L2 ts ((i : Int) - 1) = ts[i - 1]'(by omega) := by unfold rd_L2; rw [show ((i : Int) - 1).toNat = i - 1 by omega, List.getD_eq_getElem?_getD, List.getElem?_eq_getElem (by omega)]; rfl
      rw [r2, List.pairwise_iff_getElem.1 hs (i - 1) i (by omega) hi (by omega)]
      simp
theorem rels_names (n : Int) (l : List S52) : ∀ (d i : Nat), relsV n l d i = true → i + d = l.length → ∀ j (hj : j < l.length), i ≤ j → (l.take j).any (nameIs l[j].f0) = false
  | 0, i, _, h, j, hj, hi => by omega
  | d + 1, i, h, hl, j, hj, hi => by
    unfold relsV at h
    simp only [Bool.and_eq_true] at h
    by_cases e : j = i
    · subst e
      rw [rdT_nat l j hj] at h
      simpa using h.1.2
    · exact rels_names n l d (i + 1) h.2 (by omega) j hj (by omega)
theorem rels_mk (n : Int) (l : List S52) (h1 : ∀ j (hj : j < l.length), relV n l[j] = true) (h2 : ∀ j (hj : j < l.length), (l.take j).any (nameIs l[j].f0) = false) : ∀ (d i : Nat), i + d = l.length → relsV n l d i = true
  | 0, i, h => rfl
  | d + 1, i, h => by
    have hi : i < l.length := by omega
    unfold relsV
    rw [rdT_nat l i hi, h1 i hi, h2 i hi, rels_mk n l h1 h2 d (i + 1) (by omega)]
    rfl
theorem valid_parts (n : Int) (l : List S52) (h : validB n l = true) : (∀ j (hj : j < l.length), relV n l[j] = true) ∧ ∀ j (hj : j < l.length), (l.take j).any (nameIs l[j].f0) = false := by
  unfold validB at h
  simp only [Bool.and_eq_true] at h
  exact ⟨fun j hj => relsV_all n l l.length 0 h.2 (by omega) j hj (by omega), fun j hj => rels_names n l l.length 0 h.2 (by omega) j hj (by omega)⟩
theorem rel_sorted (n : Int) (r : S52) (h : relV n r = true) : Sorted r.f2 ∧ ∀ t ∈ r.f2, tupV n r.f1 t = true := by
  unfold relV at h
  simp only [Bool.and_eq_true] at h
  exact tups_sorted n r.f1 r.f2 h.2
theorem names_ne (n : Int) (l : List S52) (h : validB n l = true) (i j : Nat) (hij : i < j) (hj : j < l.length) : (l[i]'(by omega)).f0.toList ≠ l[j].f0.toList := by
  have := (valid_parts n l h).2 j hj
  rw [List.any_eq_false] at this
  have h2 := this (l[i]'(by omega)) (by rw [List.mem_iff_getElem]; exact ⟨i, by rw [List.length_take]; omega, by rw [List.getElem_take]⟩)
  unfold nameIs at h2
  simpa using h2
theorem find_at (n : Int) (l : List S52) (h : validB n l = true) (i : Nat) (hi : i < l.length) (m : Int) (hm : l[i].f1 = m) : shape_Find.f n l l[i].f0 m = some (i : Int) := by
  unfold shape_Find.f shape_Find_1_idx.f
  rw [Option.bind_some, fidx_at (List.getElem?_eq_getElem hi) (by unfold symIs; simp [hm]) (fun j y hj hy => by
    obtain ⟨hjl, rfl⟩ := List.getElem?_eq_some_iff.1 hy
    have := names_ne n l h j i hj hi
    unfold symIs
    rw [beq_eq_false_iff_ne.2 this]; rfl)]
theorem max_valid (n : Int) (l : List S52) (h : validB n l = true) : ∀ r ∈ l, r.f2.length ≤ 4096 := fun r hr => ((valid_facts n l h).2.2.2 r hr).2.2.2
theorem has_at (n : Int) (l : List S52) (h : validB n l = true) (i : Nat) (hi : i < l.length) (t : List Int) (ht : (t.length : Int) = l[i].f1) :
    ∃ (q : Nat) (b : Bool), PlaceOf l[i].f2 t q b ∧ (b = true ↔ t ∈ l[i].f2) ∧ (∀ k, 7000 ≤ k → shape_Has.f k n l l[i].f0 t = some (b, 0)) ∧ ∀ k, 7000 ≤ k → slices_BinarySearchFunc_int_int_int.f k l[i].f2 t = some ((q : Int), b) := by
  obtain ⟨h1, h2, h3, h4⟩ := valid_facts n l h
  obtain ⟨_, g1, g2, g3⟩ := h4 _ (List.getElem_mem hi)
  have hs := (rel_sorted n _ ((valid_parts n l h).1 i hi)).1
  have hl : ∀ a ∈ l[i].f2, a.length = t.length := fun a ha => by have := (g2 a ha).1; omega
  obtain ⟨q, b, hp, hb⟩ := search_eq l[i].f2 t t.length (by omega) rfl hl hs (by omega)
  refine ⟨q, b, hp, place_mem hp hs t.length rfl hl, fun k hk => ?_, hb⟩
  unfold shape_Has.f
  rw [valid_eq n l 4096 (by omega) (max_valid n l h) k (by omega), h, Option.bind_some, if_pos rfl, find_at n l h i hi _ ht.symm, Option.bind_some, if_neg (by omega), if_pos (by omega), if_pos (by omega), rdT_nat l i hi, hb k hk]
  rfl
theorem has_none (n : Int) (l : List S52) (h : validB n l = true) (nm : ByteArray) (t : List Int) (hn : ∀ r ∈ l, symIs nm t.length r = false) (k : Nat) (hk : 7000 ≤ k) : shape_Has.f k n l nm t = some (false, 4) := by
  unfold shape_Has.f
  rw [valid_eq n l 4096 (by omega) (max_valid n l h) k (by omega), h, Option.bind_some, if_pos rfl]
  unfold shape_Find.f shape_Find_1_idx.f
  rw [Option.bind_some, fidx_none (fun j y hj hy => hn y (List.mem_of_getElem? hy)), Option.bind_some, if_pos (by omega)]
theorem valid_set (n : Int) (l : List S52) (h : validB n l = true) (i : Nat) (hi : i < l.length) (ts : List (List Int)) (hs : Sorted ts) (hT : ∀ t ∈ ts, tupV n l[i].f1 t = true) : validB n (l.set i (putRel l[i] ts)) = true := by
  obtain ⟨p1, p2⟩ := valid_parts n l h
  have hf0 : ∀ j (hj : j < l.length), ((l.set i (putRel l[i] ts))[j]'(by simpa using hj)).f0 = l[j].f0 := fun j hj => by
    rw [List.getElem_set]; split
    · rename_i e; subst e; rfl
    · rfl
  unfold validB at h ⊢
  simp only [Bool.and_eq_true] at h ⊢
  refine ⟨by rw [List.length_set]; exact h.1, ?_⟩
  rw [List.length_set]
  refine rels_mk n _ (fun j hj => ?_) (fun j hj => ?_) l.length 0 (by simp)
  · rw [List.length_set] at hj
    rw [List.getElem_set]
    split
    · have := p1 i hi
      unfold relV at this ⊢
      simp only [Bool.and_eq_true] at this ⊢
      exact ⟨this.1, tupsV_mk n l[i].f1 ts hs hT ts.length 0 (by omega)⟩
    · exact p1 j hj
  · rw [List.length_set] at hj
    rw [hf0 j hj]
    have := p2 j hj
    rw [List.any_eq_false] at this ⊢
    intro r hr
    obtain ⟨m, hm, rfl⟩ := List.getElem_of_mem hr
    rw [List.length_take, List.length_set] at hm
    rw [List.getElem_take]
    have h2 := this (l[m]'(by omega)) (by rw [List.mem_iff_getElem]; exact ⟨m, by rw [List.length_take]; omega, by rw [List.getElem_take]⟩)
    unfold nameIs at h2 ⊢
    rw [hf0 m (by omega)]
    exact h2
theorem tup_of (n : Int) (t : List Int) (a : Int) (ha : (t.length : Int) = a) (ho : t.any (outB n) = false) : tupV n a t = true := by
  unfold tupV
  rw [decide_eq_true ha, ho]; rfl
theorem set_same (l : List S52) (i : Nat) (hi : i < l.length) : l.set i (putRel l[i] l[i].f2) = l := by
  have : putRel l[i] l[i].f2 = l[i] := rfl
  rw [this, List.set_getElem_self]
theorem put_at (n : Int) (l : List S52) (h : validB n l = true) (i : Nat) (hi : i < l.length) (t : List Int) (ht : (t.length : Int) = l[i].f1) (ho : t.any (outB n) = false) (ins : Bool) :
    ∃ ts : List (List Int), Sorted ts ∧ (∀ a ∈ ts, tupV n l[i].f1 a = true) ∧ (t ∈ ts ↔ ins = true) ∧ (∀ a ∈ ts, a ∈ l[i].f2 ∨ a = t) ∧ (∀ a ∈ l[i].f2, a ∈ ts ∨ a = t) ∧ ∀ k, 7000 ≤ k → shape_Put.f k n l l[i].f0 t ins = some (n, l.set i (putRel l[i] ts), 0) := by
  obtain ⟨q, b, hp, hb, hh, hq⟩ := has_at n l h i hi t ht
  obtain ⟨h1, h2, h3, h4⟩ := valid_facts n l h
  obtain ⟨_, g1, g2, g3⟩ := h4 _ (List.getElem_mem hi)
  obtain ⟨hs, hT⟩ := rel_sorted n _ ((valid_parts n l h).1 i hi)
  have hl : ∀ a ∈ l[i].f2, a.length = t.length := fun a ha => by have := (g2 a ha).1; omega
  have hcp : copyOk l ∧ t.length ≤ 100000 := ⟨⟨by omega, fun r hr => ⟨by have := max_valid n l h r hr; omega, fun x hx => by have := ((h4 r hr).2.2.1 x hx).1; have := (h4 r hr).2.1; omega⟩⟩, by omega⟩
  have hput : ∀ k, 7000 ≤ k → shape_Put.f k n l l[i].f0 t ins = putEnd n l (i : Int) (q : Int) t ins b := fun k hk => by
    unfold shape_Put.f
    rw [hh k hk, Option.bind_some]
    simp only [if_true]
    rw [elements_eq, ho, Option.bind_some, if_pos (show (!false) = true from rfl), if_pos hcp, find_at n l h i hi _ ht.symm, Option.bind_some, rdT_nat l i hi, hq k hk, Option.bind_some]
  have hin : (0 : Int) ≤ (i : Int) ∧ (i : Int) < (l.length : Int) := ⟨by omega, by omega⟩
  have hqn : ((q : Nat) : Int).toNat = q := Int.toNat_natCast q
  have htt := tup_of n t l[i].f1 ht ho
  unfold putEnd at hput
  rw [if_pos hin, rdT_nat l i hi, hqn, Int.toNat_natCast] at hput
  cases ins with
  | true =>
    cases b with
    | false =>
      have hnt : t ∉ l[i].f2 := fun e => by have := hb.2 e; cases this
      rw [if_pos (by rfl), if_pos ⟨by omega, by have := hp.1; omega⟩] at hput
      refine ⟨insAt l[i].f2 q t, ins_sorted hp hs t.length rfl hl hnt, fun a ha => ?_, ?_, fun a ha => ?_, fun a ha => ?_, hput⟩
      · rcases (ins_mem _ _ _ _).1 ha with rfl | ha
        · exact htt
        · exact hT a ha
      · simp [ins_mem]
      · exact ((ins_mem _ _ _ _).1 ha).elim Or.inr Or.inl
      · exact Or.inl ((ins_mem _ _ _ _).2 (Or.inr ha))
    | true =>
      rw [if_neg (by simp), if_neg (by simp)] at hput
      exact ⟨l[i].f2, hs, hT, by simp [hb.1 rfl], fun a ha => Or.inl ha, fun a ha => Or.inl ha, fun k hk => by rw [set_same l i hi]; exact hput k hk⟩
  | false =>
    cases b with
    | false =>
      have hnt : t ∉ l[i].f2 := fun e => by have := hb.2 e; cases this
      rw [if_neg (by simp), if_neg (by simp)] at hput
      exact ⟨l[i].f2, hs, hT, by simp [hnt], fun a ha => Or.inl ha, fun a ha => Or.inl ha, fun k hk => by rw [set_same l i hi]; exact hput k hk⟩
    | true =>
      obtain ⟨hql, hqe⟩ := hp.2.2.2.1 rfl
      rw [if_neg (by simp), if_pos (by rfl), if_pos ⟨by omega, by omega⟩] at hput
      refine ⟨delAt l[i].f2 q, List.Pairwise.sublist (del_sub _ _) hs, fun a ha => hT a ((del_sub _ _).subset ha), ?_, fun a ha => Or.inl ((del_sub _ _).subset ha), fun a ha => ?_, hput⟩
      · have := del_not hql hs
        rw [hqe] at this
        simp [this]
      · have := del_mem _ q hql a ha
        rwa [hqe] at this
end Go.Proofs.YtfmpaofbnjlniaaGreatDoor.F
/- paraphrastref01.Sorted, by hand. -/
namespace Go.Proofs.YtfmpaofbnjlniaaGreatDoor.F
open Go.RowKit Go.Proofs.YtfmpaofbnjlniaaGreatDoorW.PrintWords Go.Proofs.YtfmpaofbnjlniaaGreatDoorW.PrintLast Go.Proofs.YtfmpaofbnjlniaaGreatDoorW.PrintMore
set_option linter.unusedVariables false
set_option linter.unusedSimpArgs false
/-- Where Sorted puts t among the first k of out. -/
def kFrom (out : List (List Int)) (t : List Int) : Nat → Nat
  | 0 => 0
  | k + 1 => if lexL t (rd_L2 out (k : Int)) = true then kFrom out t k else k + 1
def insOne (out : List (List Int)) (t : List Int) : List (List Int) :=
  if 0 < kFrom out t out.length ∧ rd_L2 out ((kFrom out t out.length : Int) - 1) = t then out else insAt out (kFrom out t out.length) t
def sortedB (l : List (List Int)) : List (List Int) := l.foldl insOne []
def sortOk (l : List (List Int)) : Prop := l.length ≤ 100000 ∧ ∀ t ∈ l, t.length = (l.headD []).length ∧ t.length ≤ 1000
instance (l : List (List Int)) : Decidable (sortOk l) := by unfold sortOk; infer_instance
def paraphrastref01_Sorted.f (l : List (List Int)) : Option (List (List Int)) := if sortOk l then some (sortedB l) else none
theorem kFrom_le (out : List (List Int)) (t : List Int) : ∀ k, kFrom out t k ≤ k
  | 0 => Nat.le_refl _
  | k + 1 => by
    unfold kFrom
    split
    · exact Nat.le_succ_of_le (kFrom_le out t k)
    · exact Nat.le_refl _
theorem insOne_len (out : List (List Int)) (t : List Int) : (insOne out t).length ≤ out.length + 1 := by
  unfold insOne
  split
  · omega
  · unfold insAt; simp; omega
theorem sortedB_len : ∀ (l : List (List Int)) (acc : List (List Int)), (l.foldl insOne acc).length ≤ acc.length + l.length
  | [], acc => Nat.le_refl _
  | t :: l, acc => by
    have h1 := sortedB_len l (insOne acc t)
    have h2 := insOne_len acc t
    simp only [List.foldl_cons, List.length_cons]
    omega
theorem rd_mem (out : List (List Int)) (k : Nat) (h : k < out.length) : rd_L2 out (k : Int) ∈ out := by
  unfold rd_L2
  rw [Int.toNat_natCast, List.getD_eq_getElem?_getD, List.getElem?_eq_getElem h]
  exact List.getElem_mem h
end Go.Proofs.YtfmpaofbnjlniaaGreatDoor.F
/- Sorted: what it answers. -/
namespace Go.Proofs.YtfmpaofbnjlniaaGreatDoor.F
open Go.RowKit Go.Proofs.YtfmpaofbnjlniaaGreatDoorW.PrintWords Go.Proofs.YtfmpaofbnjlniaaGreatDoorW.PrintLast Go.Proofs.YtfmpaofbnjlniaaGreatDoorW.PrintMore
set_option linter.unusedVariables false
theorem lex_asym (x y : List Int) (hl : x.length = y.length) (h : lexL x y = true) : lexL y x = false := by
  cases h2 : lexL y x with
  | false => rfl
  | true => have := lex_trans x y x hl hl.symm h h2; rw [lex_irr] at this; cases this
theorem sorted_ext (m : Nat) : ∀ (xs ys : List (List Int)), Sorted xs → Sorted ys → (∀ a ∈ xs, a.length = m) → (∀ a ∈ ys, a.length = m) → (∀ a, a ∈ xs ↔ a ∈ ys) → xs = ys
  | [], [], _, _, _, _, _ => rfl
  | [], y :: ys, _, _, _, _, h => by have := (h y).2 List.mem_cons_self; cases this
  | x :: xs, [], _, _, _, _, h => by have := (h x).1 List.mem_cons_self; cases this
  | x :: xs, y :: ys, h1, h2, l1, l2, h => by
    have hx := List.pairwise_cons.1 h1
    have hy := List.pairwise_cons.1 h2
    have lx := l1 x List.mem_cons_self
    have ly := l2 y List.mem_cons_self
    have e : x = y := by
      rcases List.mem_cons.1 ((h x).1 List.mem_cons_self) with e | e1
      · exact e
      · rcases List.mem_cons.1 ((h y).2 List.mem_cons_self) with e | e2
        · exact e.symm
        · have a1 := hy.1 x e1
          have a2 := hx.1 y e2
          rw [lex_asym x y (lx.trans ly.symm) a2] at a1
          cases a1
    subst e
    have nx : x ∉ xs := fun e => by have := hx.1 x e; rw [lex_irr] at this; cases this
    have ny : x ∉ ys := fun e => by have := hy.1 x e; rw [lex_irr] at this; cases this
    congr 1
    refine sorted_ext m xs ys hx.2 hy.2 (fun a ha => l1 a (List.mem_cons_of_mem _ ha)) (fun a ha => l2 a (List.mem_cons_of_mem _ ha)) (fun a => ⟨fun ha => ?_, fun ha => ?_⟩)
    · rcases List.mem_cons.1 ((h a).1 (List.mem_cons_of_mem _ ha)) with e | e
      · exact absurd (e ▸ ha) nx
      · exact e
    · rcases List.mem_cons.1 ((h a).2 (List.mem_cons_of_mem _ ha)) with e | e
      · exact absurd (e ▸ ha) ny
      · exact e
theorem kFrom_facts (out : List (List Int)) (t : List Int) : ∀ (k : Nat) (hk : k ≤ out.length), (∀ j (hj : j < out.length), kFrom out t k ≤ j → j < k → lexL t out[j] = true) ∧ (∀ q, kFrom out t k = q + 1 → ∃ hq : q < out.length, lexL t out[q] = false)
  | 0, _ => ⟨fun j hj h1 h2 => by omega, fun q h => by cases h⟩
  | k + 1, hk => by
    obtain ⟨h1, h2⟩ := kFrom_facts out t k (by omega)
    have hr := rdL2_nat out k (by omega)
    unfold kFrom
    rw [hr]
    cases hb : lexL t out[k] with
    | true =>
      rw [if_pos rfl]
      refine ⟨fun j hj a b => ?_, h2⟩
      by_cases e : j = k
      · subst e; exact hb
      · exact h1 j hj a (by omega)
    | false =>
      rw [if_neg (by simp)]
      refine ⟨fun j hj a b => by omega, fun q e => ?_⟩
      obtain rfl : k = q := by omega
      exact ⟨by omega, hb⟩
theorem insOne_sorted (m : Nat) (out : List (List Int)) (t : List Int) (hs : Sorted out) (hl : ∀ a ∈ out, a.length = m) (ht : t.length = m) : Sorted (insOne out t) ∧ ∀ a, a ∈ insOne out t ↔ a = t ∨ a ∈ out := by
  obtain ⟨k1, k2⟩ := kFrom_facts out t out.length (Nat.le_refl _)
  have kl := kFrom_le out t out.length
  unfold insOne
  split
  · rename_i h
    refine ⟨hs, fun a => ⟨Or.inr, fun h' => h'.elim (fun e => ?_) id⟩⟩
    rw [e, ← h.2]
    have : ((kFrom out t out.length : Int) - 1) = ((kFrom out t out.length - 1 : Nat) : Int) := by omega
    rw [this]
    exact rd_mem out _ (by omega)
  · rename_i h
    have hdrop : ∀ a ∈ out.drop (kFrom out t out.length), lexL t a = true := fun a ha => by
      obtain ⟨j, hj, rfl⟩ := List.getElem_of_mem ha
      rw [List.getElem_drop]
      rw [List.length_drop] at hj
      exact k1 _ (by omega) (by omega) (by omega)
    have htake : ∀ a ∈ out.take (kFrom out t out.length), lexL a t = true := fun a ha => by
      obtain ⟨j, hj, rfl⟩ := List.getElem_of_mem ha
      rw [List.getElem_take]
      rw [List.length_take] at hj
      obtain ⟨q, hq⟩ : ∃ q, kFrom out t out.length = q + 1 := ⟨kFrom out t out.length - 1, by omega⟩
      obtain ⟨hql, hqf⟩ := k2 q hq
      have hne : t ≠ out[q] := fun e => h ⟨by omega, by rw [hq, show ((q + 1 : Nat) : Int) - 1 = (q : Int) by omega, rdL2_nat out q hql]; exact e.symm⟩
      have hqt := lex_tri t out[q] (by rw [ht, hl _ (List.getElem_mem hql)]) hqf hne
      by_cases e : j = q
      · subst e; exact hqt
      · have hjq := List.pairwise_iff_getElem.1 hs j q (by omega) hql (by omega)
        exact lex_trans _ _ _ (by rw [hl _ (List.getElem_mem _), hl _ (List.getElem_mem _)]) (by rw [hl _ (List.getElem_mem _), ht]) hjq hqt
    have hnot : t ∉ out := fun ht' => by
      rw [← List.take_append_drop (kFrom out t out.length) out] at ht'
      rcases List.mem_append.1 ht' with e | e
      · have := htake t e; rw [lex_irr] at this; cases this
      · have := hdrop t e; rw [lex_irr] at this; cases this
    have hp : PlaceOf out t (kFrom out t out.length) false := ⟨kl, htake, fun a ha => lex_asym t a (by rw [ht, hl a (List.mem_of_mem_drop ha)]) (hdrop a ha), ⟨fun e => (by cases e), fun ⟨hq, e⟩ => absurd (e ▸ List.getElem_mem hq) hnot⟩⟩
    exact ⟨ins_sorted hp hs m ht hl hnot, fun a => ins_mem _ _ _ _⟩
theorem sortedB_facts (m : Nat) : ∀ (l acc : List (List Int)), Sorted acc → (∀ a ∈ acc, a.length = m) → (∀ a ∈ l, a.length = m) → Sorted (l.foldl insOne acc) ∧ ∀ a, a ∈ l.foldl insOne acc ↔ a ∈ acc ∨ a ∈ l
  | [], acc, hs, _, _ => ⟨hs, fun a => by simp⟩
  | t :: l, acc, hs, h1, h2 => by
    obtain ⟨g1, g2⟩ := insOne_sorted m acc t hs h1 (h2 t List.mem_cons_self)
    obtain ⟨f1, f2⟩ := sortedB_facts m l (insOne acc t) g1 (fun a ha => ((g2 a).1 ha).elim (fun e => by rw [e]; exact h2 t List.mem_cons_self) (h1 a)) (fun a ha => h2 a (List.mem_cons_of_mem _ ha))
    refine ⟨f1, fun a => ?_⟩
    rw [List.foldl_cons, f2, g2, List.mem_cons]
    constructor
    · rintro ((h | h) | h)
      · exact Or.inr (Or.inl h)
      · exact Or.inl h
      · exact Or.inr (Or.inr h)
    · rintro (h | h | h)
      · exact Or.inl (Or.inr h)
      · exact Or.inl (Or.inl h)
      · exact Or.inr h
theorem sorted_eq (m : Nat) (hm : m ≤ 1000) (l : List (List Int)) (hl : ∀ a ∈ l, a.length = m) (hn : l.length ≤ 100000) : paraphrastref01_Sorted.f l = some (sortedB l) ∧ Sorted (sortedB l) ∧ ∀ a, a ∈ sortedB l ↔ a ∈ l := by
  obtain ⟨h1, h2⟩ := sortedB_facts m l [] List.Pairwise.nil (fun a ha => by cases ha) hl
  refine ⟨if_pos ⟨hn, fun t ht => ?_⟩, h1, fun a => (h2 a).trans (by simp)⟩
  cases l with
  | nil => cases ht
  | cons x l => exact ⟨by rw [hl t ht]; exact (hl x List.mem_cons_self).symm, by rw [hl t ht]; exact hm⟩
end Go.Proofs.YtfmpaofbnjlniaaGreatDoor.F
namespace Go.Proofs.YtfmpaofbnjlniaaGreatDoor.F
open Go.RowKit Go.Proofs.YtfmpaofbnjlniaaGreatDoorW.PrintWords Go.Proofs.YtfmpaofbnjlniaaGreatDoorW.PrintLast Go.Proofs.YtfmpaofbnjlniaaGreatDoorW.PrintMore
attribute [local go_sem] max2_int min2_int max_two min_two max_three min_three max_four min_four
set_option linter.unusedVariables false
set_option linter.unusedSimpArgs false
/-! ### paraphrastref01_copied: function 53 -/
def paraphrastref01_copied.l0 : Nat → List (List Int) → List (List Int) → Int → Option ((List (List Int)))
 | 0, _, _, _ => none
 | k + 1, x0, x3, x4 => if x4 < (x0.length : Int) then ((some (([] : List Int) : List Int)).bind fun y316 => (if 0 ≤ x4 then (if y316.length + (rd_L2 x0 x4).length < 17592186044416 then (if x3.length < 5864062014805 then (paraphrastref01_copied.l0 k x0 (x3 ++ [(y316 ++ (rd_L2 x0 x4))]) (wrap64 (x4 + 1))) else (none)) else (none)) else (none))) else (some x3)
def paraphrastref01_copied.f (k : Nat) (l0 : List (List Int)) : Option ((List (List Int))) := paraphrastref01_copied.l0 k l0 ([] : List (List Int)) 0
set_option maxHeartbeats 8000000 in
set_option maxRecDepth 100000 in
theorem paraphrastref01_copied.calls (k : Nat) (A0 : Option Addr) (c0 : Nat) (l0 : List (List Int)) (r : List (List Int)) (w : World) (hr0 : Kd.C (Kd.slice 3 (Kd.int .i64)) w A0 l0.length l0) (hc0 : l0.length ≤ c0) (h : paraphrastref01_copied.f k l0 = some r) :
  Calls Tryz.prog 53 #[.slice A0 l0.length c0] w fun e w' => ∃ v0_ : Value, e = .returned (v0_) ∧ Kd.S (Kd.slice 3 (Kd.int .i64)) 46 w' w.heap.size (fun _ => True) v0_ r ∧ Below w.heap.size w w' := by
 have HR0 := Aside0.mk hr0
 have HC0 := Aside0.mk hc0
 clear hr0 hc0
 have HB := Aside0.mk (Below.refl w.heap.size w)
 have H : (paraphrastref01_copied.l0 k l0 ([] : List (List Int)) 0) = some r := h
 clear h
 have H' := Aside0.mk H
 clear H
 go_enter Tryz.func53, Tryz.ntmps53
 go_wp2
 go_loopg [3, 4] k (fun kq v3 v4 w' => ∃ (x3_1 : List (List Int)) (x4_1 : Int), v4 = .int .i64 x4_1 ∧ Aside0 (paraphrastref01_copied.l0 kq l0 x3_1 x4_1 = some r) ∧ Aside0 (kq ≤ k) ∧ Aside0 (Kd.S (Kd.slice 3 (Kd.int .i64)) 46 w' w.heap.size (fun _ => True) v3 x3_1) ∧ Aside0 (Below w.heap.size w w'))
 case atStart => exact ⟨(([] : List (List Int))), (0), eS, H', ⟨Nat.le_refl _⟩, ⟨by first | exact Kd.S_nil _ _ _ _ _ | exact Kd.N_nil _ _ _ _ _ | exact Kd.V_nil _ _ _ _ _ | exact Kd.Q_nil _ _ _ _ _ | exact Kd.R_nil _ _ _ _ _⟩, ⟨bel⟩⟩
 case round =>
  clear H'
  obtain ⟨x3_1, x4_1, rfl, HA, HK1, HO_3, HB⟩ := hrel
  cases gk with
  | zero => exact absurd HA.out (by simp [paraphrastref01_copied.l0])
  | succ k1 =>
   have H := HA.out
   clear HA
   simp only [paraphrastref01_copied.l0] at H
   by_cases c2 : x4_1 < (l0.length : Int)
   ·rw [if_pos c2] at H
    have c2b0 : decide (x4_1 < (l0.length : Int)) = true := decide_eq_true c2
    clear c2
    obtain ⟨y316, hy316⟩ : ∃ y_ : List Int, y_ = (([] : List Int)) := ⟨_, rfl⟩
    replace H : (if 0 ≤ x4_1 then (if y316.length + (rd_L2 l0 x4_1).length < 17592186044416 then (if x3_1.length < 5864062014805 then (paraphrastref01_copied.l0 k1 l0 (x3_1 ++ [(y316 ++ (rd_L2 l0 x4_1))]) (wrap64 (x4_1 + 1))) else (none)) else (none)) else (none)) = some r := by first | (rw [hy316]; with_reducible exact H) | (have H2_ := (Option.bind_some _ _).symm.trans H; rw [hy316]; with_reducible exact H2_) | (have H2_ := (Option.bind_some _ _).symm.trans H; with_reducible exact H2_) | with_reducible exact H | (rw [hy316]; exact H) | exact H
    have Ny316 := Aside0.mk hy316
    clear hy316
    by_cases c3 : 0 ≤ x4_1
    ·rw [if_pos c3] at H
     have c3b0 : decide (0 ≤ x4_1) = true := decide_eq_true c3
     clear c3
     by_cases c4 : y316.length + (rd_L2 l0 x4_1).length < 17592186044416
     ·rw [if_pos c4] at H
      have LMc4 := Aside0.mk c4
      clear c4
      obtain ⟨y320, hy320⟩ : ∃ y_ : List Int, y_ = (y316 ++ (rd_L2 l0 x4_1)) := ⟨_, rfl⟩
      replace H : (if x3_1.length < 5864062014805 then (paraphrastref01_copied.l0 k1 l0 (x3_1 ++ [y320]) (wrap64 (x4_1 + 1))) else (none)) = some r := by first | (rw [hy320]; with_reducible exact H) | (have H2_ := (Option.bind_some _ _).symm.trans H; rw [hy320]; with_reducible exact H2_) | (have H2_ := (Option.bind_some _ _).symm.trans H; with_reducible exact H2_) | with_reducible exact H | (rw [hy320]; exact H) | exact H
      have Ny320 := Aside0.mk hy320
      clear hy320
      by_cases c5 : x3_1.length < 5864062014805
      ·rw [if_pos c5] at H
       have LMc5 := Aside0.mk c5
       clear c5
       obtain ⟨y323, hy323⟩ : ∃ y_ : List (List Int), y_ = (x3_1 ++ [y320]) := ⟨_, rfl⟩
       replace H : (paraphrastref01_copied.l0 k1 l0 y323 (wrap64 (x4_1 + 1))) = some r := by first | (rw [hy323]; with_reducible exact H) | (have H2_ := (Option.bind_some _ _).symm.trans H; rw [hy323]; with_reducible exact H2_) | (have H2_ := (Option.bind_some _ _).symm.trans H; with_reducible exact H2_) | with_reducible exact H | (rw [hy323]; exact H) | exact H
       have Ny323 := Aside0.mk hy323
       clear hy323
       have H' := Aside0.mk H
       clear H
       go_wp2_with (first | ((with_reducible refine gate_dst (N := 12) rfl ?_); refine Kd.R_lit (Kd.int .i64) _ 3 ?hg (N := 12) ?hd (xs := ([] : List Int)) (inner := []) (ok := fun _ => True) (okp := fun _ => True) ?hr ?hp (fun _ hk => hk) trivial (Below.refl _ _) (Nat.le_refl _) (by simp) ?_; (case hd => rfl); (case hg => rfl); (case hr => first | (go_simp; done) | (go_simp; rfl)); (case hp => exact (Reps.none _ _)); intro v317 w6 ho7 hb hg_ hnew_; clear hg_ hnew_; (first | rw [← Ny316.out] at ho7 | (simp only [Int.reduceToNat] at ho7; rw [← Ny316.out] at ho7)); have HO318 := Aside0.mk (Kd.R_lower ho7 (below_size bel)); replace HO_3 := Aside0.mk (Kd.S_elder' (by (with_reducible repeat (first | apply Kd.S_alloc | apply Kd.S_drewN | apply Kd.S_drew)); exact HO_3.out) (Kd.R_base ho7) hb); replace HB := Aside0.mk (below_step bel hb); clear hb ho7; have p319 : 0 ≤ (x4_1 : Int) := dtr; have q319 : x4_1 < (l0.length : Int) := dtr; obtain ⟨ad319, A319_0, c319_0, e319, hx319_0, hl319_0, hi319_0⟩ := at_L2 HR0.out x4_1 p319 q319; cases e319; replace hx319_0 := oc hx319_0; have HR319_0 := Aside0.mk hi319_0; have HC319_0 := Aside0.mk hl319_0; clear hi319_0 hl319_0; replace p319 := eq_true p319; replace q319 := eq_true q319) | ((with_reducible refine gate_builtin (b := .append) (xs := #[.tmp 12, .tmp 16]) rfl ?_); at_builtin; refine Kd.R_append_rows (Kd.int .i64) (w0 := w) w.heap.size rfl (.tmp 12) (.tmp 16) 46 3 (.int .i64 0) 8 rfl Tryz.underlying46 info3 rfl (by decide) (by omega) v317 y316 (rd_L2 l0 x4_1) _ _ _ (fun _ => True) (fun _ => False) rfl rfl ?aO ?aR (fun _ _ h => h) (fun _ h => h.elim) ?aF ?aB ?aS ?aL ?_; (case aR => exact cS (Kd.C_below HR319_0.out HB.out)); (case aB => exact bel); (case aF => exact (fun _ _ => trivial)); (case aO => exact (tw HO318.out)); (case aS => exact (below_size bel)); (case aL => have := LMc4.out; omega); intro v321 w8 ho hb hg hat; rw [← Ny320.out] at ho; have HO322 := Aside0.mk (ho); replace HO_3 := Aside0.mk (Kd.S_after (ok := (fun _ => True)) (by (with_reducible repeat (first | apply Kd.S_alloc | apply Kd.S_drewN | apply Kd.S_drew)); exact HO_3.out) hg hat); replace HB := Aside0.mk (hb); clear HO318; clear ho hb hg hat; obtain ⟨Ao10, co10, eo10⟩ := Kd.R_slice HO322.out; subst eo10) | ((with_reducible refine gate_builtin (b := .append) (xs := #[.tmp 11, .tmp 18]) rfl ?_); at_builtin; refine Kd.S_append (Kd.slice 3 (Kd.int .i64)) (w0 := w) w.heap.size rfl (.tmp 11) (.tmp 18) 50 46 (.slice none 0 0) 24 rfl Tryz.underlying50 info46 rfl (by decide) (by omega) u3 x3_1 y320 [.slice Ao10 y320.length co10] (fun _ => True) (fun k_ => some k_ = (.slice Ao10 y320.length co10 : Value).ownBlock) rfl rfl ?aP (fun k_ hk_ => ((Kd.R_mono (ok' := fun k_ => ((fun _ => True)) k_ ∧ some k_ ≠ (u3 : Value).ownBlock) (Kd.R_apart' (HO322.out) (Kd.S_typed HO_3.out) (by decide)) (fun k_ hk => ⟨trivial, hk.2⟩))).1 k_ hk_.symm) ?aF ?aO ?aB ?aS ?aL ?_; (case aP => exact Kd.M_row (Kd.R_mono (Kd.R_tight rfl (Kd.R_mono (ok' := fun k_ => ((fun _ => True)) k_ ∧ some k_ ≠ (u3 : Value).ownBlock) (Kd.R_apart' (HO322.out) (Kd.S_typed HO_3.out) (by decide)) (fun k_ hk => ⟨trivial, hk.2⟩))) (fun _ h_ => h_))); (case aB => exact bel); (case aF => exact (fun _ _ => trivial)); (case aO => exact (by (with_reducible repeat (first | apply Kd.S_alloc | apply Kd.S_drewN | apply Kd.S_drew)); exact Kd.S_mono HO_3.out (fun k_ hk => ⟨trivial, fun e_ => hk.2 e_⟩))); (case aS => exact (below_size bel)); (case aL => have := LMc5.out; omega); intro v324 w9 ho hb hg hat; rw [← Ny323.out] at ho; have HO325 := Aside0.mk (ho); replace HB := Aside0.mk (hb); clear HO_3 HO322; clear ho hb hg hat))
       go_roundg k1
       case measure => have := HK1.out; omega
       case rel => exact ⟨(y323), (wrap64 (x4_1 + 1)), eS, H', ⟨by have := HK1.out; omega⟩, ⟨by (with_reducible repeat (first | apply Kd.S_alloc | apply Kd.S_drewN | apply Kd.S_drew)); exact HO325.out⟩, ⟨bel⟩⟩
      ·rw [if_neg c5] at H
       exact absurd H (by simp)
     ·rw [if_neg c4] at H
      exact absurd H (by simp)
    ·rw [if_neg c3] at H
     exact absurd H (by simp)
   ·rw [if_neg c2] at H
    have c2b0 : decide (x4_1 < (l0.length : Int)) = false := decide_eq_false c2
    clear c2
    obtain rfl := Option.some.inj H
    go_wp2
    go_ret
    exact ⟨_, eN, by (with_reducible repeat (first | apply Kd.S_alloc | apply Kd.S_drewN | apply Kd.S_drew)); exact HO_3.out, bel⟩
end Go.Proofs.YtfmpaofbnjlniaaGreatDoor.F
