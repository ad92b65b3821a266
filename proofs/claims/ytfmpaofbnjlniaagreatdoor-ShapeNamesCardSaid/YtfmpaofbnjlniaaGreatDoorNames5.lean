/- ShapeNames: a renamed tuple is in the permuted structure just when the tuple is in the structure, and the inverse permutation restores it. -/
import Derived.Test.YtfmpaofbnjlniaaGreatDoorNames4
import Derived.Test.YtfmpaofbnjlniaaGreatDoorCards
import Derived.Test.YtfmpaofbnjlniaaGreatDoorTie
import Derived.SevenTiedAt
namespace Go.Proofs.YtfmpaofbnjlniaaGreatDoor.F
open Go.RowKit Go.Proofs.YtfmpaofbnjlniaaGreatDoorW.PrintWords Go.Proofs.YtfmpaofbnjlniaaGreatDoorW.PrintLast Go.Proofs.YtfmpaofbnjlniaaGreatDoorW.PrintMore
attribute [local go_sem] max2_int min2_int max_two min_two max_three min_three max_four min_four
set_option linter.unusedVariables false
set_option linter.unusedSimpArgs false
/-! ### paraphrastlaw01_ShapeNames: function 7 -/
mutual
noncomputable def paraphrastlaw01_ShapeNames.j0 : Nat → List Int → List Int → Bool → Int → List (S52) → Option (Bool)
 | 0, _, _, _, _, _ => none
 | k + 1, x1, x2, x37, x536000, x536001 => if x37 = true then ((paraphrastlaw01_alive.f k).bind fun t541 => (some t541)) else (if 0 ≤ x536000 then (if (x536000 : Int).toNat ≤ 35184372088832 then (paraphrastlaw01_ShapeNames.l0 k x1 x2 (List.replicate (x536000 : Int).toNat 0) (List.replicate (x536000 : Int).toNat 0) 0 x536000 x536001) else (none)) else (none))
noncomputable def paraphrastlaw01_ShapeNames.l0 : Nat → List Int → List Int → List Int → List Int → Int → Int → List (S52) → Option (Bool)
 | 0, _, _, _, _, _, _, _ => none
 | k + 1, x1, x2, x7, x8, x9, x536000, x536001 => if x9 < x536000 then (if 0 ≤ x9 then (if x9 < (x7.length : Int) then (paraphrastlaw01_ShapeNames.l0 k x1 x2 (x7.set (x9 : Int).toNat x9) x8 (wrap64 (x9 + 1)) x536000 x536001) else (none)) else (none)) else (paraphrastlaw01_ShapeNames.l1 k x1 x2 x7 x8 0 x536000 x536001)
noncomputable def paraphrastlaw01_ShapeNames.j3 : Nat → List Int → List Int → List Int → Int → List (S52) → Option (Bool)
 | 0, _, _, _, _, _ => none
 | k + 1, x2, x7, x8, x536000, x536001 => paraphrastlaw01_ShapeNames.l2 k x2 x7 x8 0 x536000 x536001
noncomputable def paraphrastlaw01_ShapeNames.l2 : Nat → List Int → List Int → List Int → Int → Int → List (S52) → Option (Bool)
 | 0, _, _, _, _, _, _ => none
 | k + 1, x2, x7, x8, x12, x536000, x536001 => if x12 < x536000 then (if 0 ≤ x12 then (if x12 < (x7.length : Int) then (if 0 ≤ (rd x7 x12) then (if (rd x7 x12) < (x8.length : Int) then (paraphrastlaw01_ShapeNames.l2 k x2 x7 (x8.set ((rd x7 x12) : Int).toNat x12) (wrap64 (x12 + 1)) x536000 x536001) else (none)) else (none)) else (none)) else (none)) else ((shape_Permute.f k x536000 x536001 x7).bind fun bt556 => ((shape_Permute.f k bt556.1 bt556.2.1 x8).bind fun bt562 => (if bt556.2.2 = 0 then (if bt562.2.2 = 0 then ((paraphrastref01_Same.f k bt562.1 bt562.2.1 x536000 x536001).bind fun t568 => (paraphrastlaw01_ShapeNames.j5 k x2 x7 (!t568) x536000 x536001 bt556.1 bt556.2.1)) else (paraphrastlaw01_ShapeNames.j5 k x2 x7 true x536000 x536001 bt556.1 bt556.2.1)) else (paraphrastlaw01_ShapeNames.j5 k x2 x7 true x536000 x536001 bt556.1 bt556.2.1))))
noncomputable def paraphrastlaw01_ShapeNames.j5 : Nat → List Int → List Int → Bool → Int → List (S52) → Int → List (S52) → Option (Bool)
 | 0, _, _, _, _, _, _, _ => none
 | k + 1, x2, x7, x125, x536000, x536001, x562000, x562001 => if x125 = true then (some false) else (paraphrastlaw01_ShapeNames.l3 k x2 x7 0 x536000 x536001 x562000 x562001)
noncomputable def paraphrastlaw01_ShapeNames.l3 : Nat → List Int → List Int → Int → Int → List (S52) → Int → List (S52) → Option (Bool)
 | 0, _, _, _, _, _, _, _ => none
 | k + 1, x2, x7, x17, x536000, x536001, x562000, x562001 => if x17 < (x536001.length : Int) then (if 0 ≤ x17 then (if (x2.length : Int) < ((rd_T52 x536001 x17).f1) then (paraphrastlaw01_ShapeNames.l3 k x2 x7 (wrap64 (x17 + 1)) x536000 x536001 x562000 x562001) else (paraphrastlaw01_ShapeNames.l4 k x2 x7 x17 ([] : List Int) 0 x536000 x536001 x562000 x562001)) else (none)) else ((paraphrastlaw01_alive.f k).bind fun t569 => (some t569))
noncomputable def paraphrastlaw01_ShapeNames.l4 : Nat → List Int → List Int → Int → List Int → Int → Int → List (S52) → Int → List (S52) → Option (Bool)
 | 0, _, _, _, _, _, _, _, _, _ => none
 | k + 1, x2, x7, x17, x18, x19, x536000, x536001, x562000, x562001 => if 0 ≤ x17 then (if x17 < (x536001.length : Int) then (if x19 < ((rd_T52 x536001 x17).f1) then (if 0 ≤ x19 then (if x19 < (x2.length : Int) then (if x536000 = 0 then (none) else (if x18.length < 17592186044416 then (paraphrastlaw01_ShapeNames.l4 k x2 x7 x17 (x18 ++ [Int.tmod (wrap64 ((Int.tmod (rd x2 x19) x536000) + x536000)) x536000]) (wrap64 (x19 + 1)) x536000 x536001 x562000 x562001) else (none))) else (none)) else (none)) else ((shape_Has.f k x536000 x536001 ((rd_T52 x536001 x17).f0) x18).bind fun bt577 => ((paraphrastref01_Renamed.f k x18 x7).bind fun t580 => ((shape_Has.f k x562000 x562001 ((rd_T52 x536001 x17).f0) t580).bind fun bt583 => (if bt577.2 = 0 then (if bt583.2 = 0 then (if (bt577.1 != bt583.1) = true then (some false) else (paraphrastlaw01_ShapeNames.l3 k x2 x7 (wrap64 (x17 + 1)) x536000 x536001 x562000 x562001)) else (some false)) else (some false)))))) else (none)) else (none)
noncomputable def paraphrastlaw01_ShapeNames.l1 : Nat → List Int → List Int → List Int → List Int → Int → Int → List (S52) → Option (Bool)
 | 0, _, _, _, _, _, _, _ => none
 | k + 1, x1, x2, x7, x8, x10, x536000, x536001 => if x10 < (x1.length : Int) then (if x10 < x536000 then (if 0 ≤ x10 then (if x536000 = 0 then (none) else (if 0 ≤ (Int.tmod (wrap64 (rd x1 x10)) x536000) then (if (Int.tmod (wrap64 (rd x1 x10)) x536000) < (x7.length : Int) then (if x10 < (x7.length : Int) then (paraphrastlaw01_ShapeNames.l1 k x1 x2 ((x7.set (x10 : Int).toNat (rd x7 (Int.tmod (wrap64 (rd x1 x10)) x536000))).set ((Int.tmod (wrap64 (rd x1 x10)) x536000) : Int).toNat (rd x7 x10)) x8 (wrap64 (x10 + 1)) x536000 x536001) else (none)) else (none)) else (none))) else (none)) else (paraphrastlaw01_ShapeNames.j3 k x2 x7 x8 x536000 x536001)) else (paraphrastlaw01_ShapeNames.j3 k x2 x7 x8 x536000 x536001)
end
noncomputable def paraphrastlaw01_ShapeNames.f (k : Nat) (a0_0 : Int) (l0_1 : List (S52)) (l1 : List Int) (l2 : List Int) : Option (Bool) := (paraphrastlaw01_Few.f k (([(⟨a0_0, l0_1⟩ : S24)] : List (S24)))).bind fun t539 => (if t539 = true then ((shape_Valid.f k a0_0 l0_1).bind fun t540 => (if t540 = true then (paraphrastlaw01_ShapeNames.j0 k l1 l2 (decide ((l2.length : Int) > 12)) a0_0 l0_1) else (paraphrastlaw01_ShapeNames.j0 k l1 l2 true a0_0 l0_1))) else (paraphrastlaw01_ShapeNames.j0 k l1 l2 true a0_0 l0_1))
noncomputable def paraphrastlaw01_ShapeNames.T3 : Bool × List (List Nat × List Nat) := (true, [([], []), ([0], [0]), ([1, 1], [1]), ([], []), ([3], [3]), ([4, 4], [4]), ([2, 0, 1, 2], [2]), ([5, 6, 0, 1, 2, 3, 4, 5, 6], [5])])
noncomputable def paraphrastlaw01_ShapeNames.B3 : List Nat := [0, 1, 3, 0, 8, 24, 7, 127]
theorem paraphrastlaw01_ShapeNames.tab3 : rtab .any (opsOf Tryz.f7 3) = paraphrastlaw01_ShapeNames.T3 := by kernel_rfl
theorem paraphrastlaw01_ShapeNames.bits3 : waitsOk paraphrastlaw01_ShapeNames.T3.2 paraphrastlaw01_ShapeNames.B3 = true := by kernel_rfl
noncomputable def paraphrastlaw01_ShapeNames.T11 : Bool × List (List Nat × List Nat) := (true, [([], []), ([], []), ([0, 1], [0, 1]), ([2], [2]), ([3], [3]), ([], []), ([5], [5]), ([4, 6], [4, 6]), ([7, 0, 1, 2, 3, 4, 5, 6, 7], [7])])
noncomputable def paraphrastlaw01_ShapeNames.B11 : List Nat := [0, 0, 3, 7, 15, 0, 32, 127, 255]
theorem paraphrastlaw01_ShapeNames.tab11 : rtab .any (opsOf Tryz.f7 11) = paraphrastlaw01_ShapeNames.T11 := by kernel_rfl
theorem paraphrastlaw01_ShapeNames.bits11 : waitsOk paraphrastlaw01_ShapeNames.T11.2 paraphrastlaw01_ShapeNames.B11 = true := by kernel_rfl
noncomputable def paraphrastlaw01_ShapeNames.T12 : Bool × List (List Nat × List Nat) := (true, [([], []), ([], []), ([], []), ([], []), ([], []), ([], []), ([4, 5], [4, 5]), ([6], [6]), ([], []), ([], []), ([8, 9], [8, 9]), ([10], [10]), ([0, 1, 0, 1, 4, 5, 6, 7, 11], [0, 1]), ([12, 7, 0, 1, 4, 5, 6, 7, 11], [7, 12]), ([2, 3, 0, 1, 2, 3, 4, 5, 6, 7, 8, 9, 10, 11, 12, 13], [2, 3]), ([14, 11, 13, 0, 1, 2, 3, 4, 5, 6, 7, 8, 9, 10, 11, 12, 13], [11, 14])])
noncomputable def paraphrastlaw01_ShapeNames.B12 : List Nat := [0, 0, 0, 0, 0, 0, 48, 112, 0, 0, 768, 1792, 4083, 8179, 16383, 32767]
theorem paraphrastlaw01_ShapeNames.tab12 : rtab .any (opsOf Tryz.f7 12) = paraphrastlaw01_ShapeNames.T12 := by kernel_rfl
theorem paraphrastlaw01_ShapeNames.bits12 : waitsOk paraphrastlaw01_ShapeNames.T12.2 paraphrastlaw01_ShapeNames.B12 = true := by kernel_rfl
noncomputable def paraphrastlaw01_ShapeNames.T29 : Bool × List (List Nat × List Nat) := (true, [([], []), ([], []), ([], []), ([1, 2], [1, 2]), ([3], [3]), ([], []), ([5], [5]), ([4, 6], [4, 6]), ([], []), ([8], [8]), ([7, 9], [7, 9]), ([], []), ([11], [11]), ([10, 12], [10, 12]), ([13], [13]), ([0, 14], [0, 14]), ([15, 15, 0, 1, 2, 3, 4, 5, 6, 7, 8, 9, 10, 11, 12, 13, 14, 15], [0, 15])])
noncomputable def paraphrastlaw01_ShapeNames.B29 : List Nat := [0, 0, 0, 6, 14, 0, 32, 126, 0, 256, 1022, 0, 2048, 8190, 16382, 32767, 65535]
theorem paraphrastlaw01_ShapeNames.tab29 : rtab .any (opsOf Tryz.f7 29) = paraphrastlaw01_ShapeNames.T29 := by kernel_rfl
theorem paraphrastlaw01_ShapeNames.bits29 : waitsOk paraphrastlaw01_ShapeNames.T29.2 paraphrastlaw01_ShapeNames.B29 = true := by kernel_rfl
noncomputable def paraphrastlaw01_ShapeNames.T30 : Bool × List (List Nat × List Nat) := (true, [([], []), ([], []), ([1], [1]), ([], []), ([2, 3], [2, 3]), ([4], [4]), ([5], [5]), ([], []), ([0, 6, 7], [0, 6, 7]), ([8], [8]), ([9], [9]), ([9], [9]), ([10, 8, 0, 1, 2, 3, 4, 5, 6, 7, 8, 9, 10], [10]), ([11, 12, 0, 1, 2, 3, 4, 5, 6, 7, 8, 9, 10, 11, 12], [11])])
noncomputable def paraphrastlaw01_ShapeNames.B30 : List Nat := [0, 0, 2, 0, 14, 30, 62, 0, 255, 511, 1023, 1023, 2047, 8191]
theorem paraphrastlaw01_ShapeNames.tab30 : rtab .any (opsOf Tryz.f7 30) = paraphrastlaw01_ShapeNames.T30 := by kernel_rfl
theorem paraphrastlaw01_ShapeNames.bits30 : waitsOk paraphrastlaw01_ShapeNames.T30.2 paraphrastlaw01_ShapeNames.B30 = true := by kernel_rfl
noncomputable def paraphrastlaw01_ShapeNames.T31 : Bool × List (List Nat × List Nat) := (true, [([], []), ([], []), ([1], [1]), ([], []), ([2, 3], [2, 3]), ([4], [4]), ([5], [5]), ([], []), ([], []), ([7, 8], [7, 8]), ([0, 6, 9, 9], [0, 6, 9]), ([10], [10]), ([11], [11]), ([11], [11]), ([12, 10, 0, 1, 2, 3, 4, 5, 6, 7, 8, 9, 10, 11, 12], [12]), ([13, 14, 0, 1, 2, 3, 4, 5, 6, 7, 8, 9, 10, 11, 12, 13, 14], [13])])
noncomputable def paraphrastlaw01_ShapeNames.B31 : List Nat := [0, 0, 2, 0, 14, 30, 62, 0, 0, 384, 1023, 2047, 4095, 4095, 8191, 32767]
theorem paraphrastlaw01_ShapeNames.tab31 : rtab .any (opsOf Tryz.f7 31) = paraphrastlaw01_ShapeNames.T31 := by kernel_rfl
theorem paraphrastlaw01_ShapeNames.bits31 : waitsOk paraphrastlaw01_ShapeNames.T31.2 paraphrastlaw01_ShapeNames.B31 = true := by kernel_rfl
set_option maxHeartbeats 8000000 in
set_option maxRecDepth 100000 in
theorem paraphrastlaw01_ShapeNames.calls (k : Nat) (a0_0 : Int) (P0_1_ : Nat → Prop) (A0_1 : Option Addr) (c0_1 : Nat) (l0_1 : List (S52)) (A1 : Option Addr) (c1 : Nat) (l1 : List Int) (A2 : Option Addr) (c2 : Nat) (l2 : List Int) (r : Bool) (w : World) (hG : Glob w) (hs0_1 : Kd.V k52 52 w w.heap.size (fun k_ => P0_1_ k_) (.slice A0_1 l0_1.length c0_1) l0_1) (hr1 : Kd.C (Kd.int .u8) w A1 l1.length l1) (hc1 : l1.length ≤ c1) (hr2 : Kd.C (Kd.int .i64) w A2 l2.length l2) (hc2 : l2.length ≤ c2) (h : paraphrastlaw01_ShapeNames.f k a0_0 l0_1 l1 l2 = some r) :
  Calls Tryz.prog 7 #[.agg #[.int .i64 a0_0, .slice A0_1 l0_1.length c0_1], .slice A1 l1.length c1, .slice A2 l2.length c2] w fun e w' => e = .returned (.bool r) ∧ Below w.heap.size w w' := by
 have hu24 := Tryz.underlying24
 have HO0_1 := Aside0.mk (show Kd.V k52 52 w w.heap.size (fun k_ => (P0_1_ k_ ∨ w.heap.size ≤ k_)) (.slice A0_1 l0_1.length c0_1) l0_1 from Kd.V_mono hs0_1 (fun k_ hk => .inl hk))
 have HR1 := Aside0.mk hr1
 have HC1 := Aside0.mk hc1
 clear hr1 hc1
 have HR2 := Aside0.mk hr2
 have HC2 := Aside0.mk hc2
 clear hr2 hc2
 have HG := Aside0.mk hG
 clear hG
 have HB := Aside0.mk (Below.refl w.heap.size w)
 have H : ((paraphrastlaw01_Few.f k (([(⟨a0_0, l0_1⟩ : S24)] : List (S24)))).bind fun t539 => (if t539 = true then ((shape_Valid.f k a0_0 l0_1).bind fun t540 => (if t540 = true then (paraphrastlaw01_ShapeNames.j0 k l1 l2 (decide ((l2.length : Int) > 12)) a0_0 l0_1) else (paraphrastlaw01_ShapeNames.j0 k l1 l2 true a0_0 l0_1))) else (paraphrastlaw01_ShapeNames.j0 k l1 l2 true a0_0 l0_1))) = some r := h
 clear h
 have HC4 := Aside0.mk H
 clear H
 go_enter Tryz.func7, Tryz.ntmps7
 go_upto_region 1 with (first | ((with_reducible refine gate_dst (N := 3) rfl ?_); (try (refine gate_guard (by rfl) ?_; dsimp only)); refine box_event ?hg (N := 3) ?hd (cs := #[.int .i64 a0_0, .slice A0_1 l0_1.length c0_1]) (t := 24) ?hr ?_; (case hd => rfl); (case hg => rfl); (case hr => first | (go_simp; done) | (go_simp; rfl)); intro gb535 hg w5 hbox hb; have BK535 := Aside0.mk (hbox); have GW535 := geB w hg; have GE535 := geB w hg; replace HO0_1 := vB HO0_1 hg hb; replace HB := Aside0.mk (below_step bel hb); clear hb hbox hg))
 (try simp only [Act.put, List.setIfInBounds_toArray, List.set_cons_zero, List.set_cons_succ])
 go_cut [37] (fun v37 wc => ∃ (kq : Nat) (x37_3 : Bool), v37 = .bool x37_3 ∧ Aside0 (paraphrastlaw01_ShapeNames.j0 kq l1 l2 x37_3 a0_0 l0_1 = some r) ∧ Aside0 (kq ≤ k) ∧ Aside0 (Kd.V k52 52 wc w.heap.size (fun k_ => (P0_1_ k_ ∨ w.heap.size ≤ k_) ∧ k_ ≠ gb535) (.slice A0_1 l0_1.length c0_1) l0_1) ∧ Aside0 (wc.heap[gb535]? = some (.cells #[.int .i64 a0_0, (.slice A0_1 l0_1.length c0_1)] 24 (0, 0))) ∧ Aside0 (Below w.heap.size w wc))
 case first => as_aux_lemma =>
  have H := HC4.out
  clear HC4
  obtain ⟨y536, hy536⟩ : ∃ y_ : List (S24), y_ = (([(⟨a0_0, l0_1⟩ : S24)] : List (S24))) := ⟨_, rfl⟩
  replace H : ((paraphrastlaw01_Few.f k y536).bind fun t539 => (if t539 = true then ((shape_Valid.f k a0_0 l0_1).bind fun t540 => (if t540 = true then (paraphrastlaw01_ShapeNames.j0 k l1 l2 (decide ((l2.length : Int) > 12)) a0_0 l0_1) else (paraphrastlaw01_ShapeNames.j0 k l1 l2 true a0_0 l0_1))) else (paraphrastlaw01_ShapeNames.j0 k l1 l2 true a0_0 l0_1))) = some r := by first | (rw [hy536]; with_reducible exact H) | (have H2_ := (Option.bind_some _ _).symm.trans H; rw [hy536]; with_reducible exact H2_) | (have H2_ := (Option.bind_some _ _).symm.trans H; with_reducible exact H2_) | with_reducible exact H | (rw [hy536]; exact H) | exact H
  have Ny536 := Aside0.mk hy536
  clear hy536
  replace H := Option.bind_eq_some_iff.mp H
  obtain ⟨t539, A60, H⟩ := H
  replace H : (if t539 = true then ((shape_Valid.f k a0_0 l0_1).bind fun t540 => (if t540 = true then (paraphrastlaw01_ShapeNames.j0 k l1 l2 (decide ((l2.length : Int) > 12)) a0_0 l0_1) else (paraphrastlaw01_ShapeNames.j0 k l1 l2 true a0_0 l0_1))) else (paraphrastlaw01_ShapeNames.j0 k l1 l2 true a0_0 l0_1)) = some r := H
  have A6 := Aside0.mk A60
  clear A60
  by_cases c7 : t539 = true
  ·subst c7
   have H1 : ((shape_Valid.f k a0_0 l0_1).bind fun t540 => (if t540 = true then (paraphrastlaw01_ShapeNames.j0 k l1 l2 (decide ((l2.length : Int) > 12)) a0_0 l0_1) else (paraphrastlaw01_ShapeNames.j0 k l1 l2 true a0_0 l0_1))) = some r := by rw [if_pos rfl] at H; exact H
   clear H
   have H := H1
   clear H1
   replace H := Option.bind_eq_some_iff.mp H
   obtain ⟨t540, A80, H⟩ := H
   replace H : (if t540 = true then (paraphrastlaw01_ShapeNames.j0 k l1 l2 (decide ((l2.length : Int) > 12)) a0_0 l0_1) else (paraphrastlaw01_ShapeNames.j0 k l1 l2 true a0_0 l0_1)) = some r := H
   have A8 := Aside0.mk A80
   clear A80
   by_cases c9 : t540 = true
   ·subst c9
    have H1 : (paraphrastlaw01_ShapeNames.j0 k l1 l2 (decide ((l2.length : Int) > 12)) a0_0 l0_1) = some r := by rw [if_pos rfl] at H; exact H
    clear H
    have H := H1
    clear H1
    have H' := Aside0.mk H
    clear H
    obtain ⟨hcz10_0, hcz10_1, hfz10_0, hfz10_1⟩ := bq2 BK535
    go_wp2_with (first | ((with_reducible refine gate_dst (N := 25) rfl ?_); (try (refine gate_guard (by rfl) ?_; dsimp only)); refine Kd.N_lit k24 _ 24 ?hg (N' := 25) ?hd (xs := ([(⟨a0_0, l0_1⟩ : S24)] : List (S24))) (inner := [.int .i64 a0_0, .slice A0_1 l0_1.length c0_1]) (ok := (fun k_ => (P0_1_ k_ ∨ w.heap.size ≤ k_) ∧ k_ ≠ gb535)) (okp := (fun k_ => (P0_1_ k_ ∨ w.heap.size ≤ k_) ∧ k_ ≠ gb535)) ?hr ?hp (fun _ hk => hk) ((show ∀ k_, w5.heap.size ≤ k_ → (fun k_ => (P0_1_ k_ ∨ w.heap.size ≤ k_) ∧ k_ ≠ gb535) k_ from fun k_ hk => ⟨(.inr (Nat.le_trans (below_size bel) hk)), Kd.freshB (g := gb535) (o := .cells #[.int .i64 a0_0, .slice A0_1 l0_1.length c0_1] 24 (0, 0)) (bk BK535) k_ hk⟩) _ (Nat.le_refl _)) (Below.refl _ _) (Nat.le_refl _) (by simp) ?_; (case hd => rfl); (case hg => rfl); (case hr => first | (go_simp; done) | (go_simp; rfl)); (case hp => exact (Reps.c2 (show Kd.FK k24 _ _ (⟨a0_0, l0_1⟩ : S24) [.int .i64 a0_0, .slice A0_1 l0_1.length c0_1] from (k24_mkF _ _ (⟨a0_0, l0_1⟩ : S24) (Kd.V_reads' (Kd.V_mono (ok' := (fun k_ => (P0_1_ k_ ∨ w.heap.size ≤ k_) ∧ k_ ≠ gb535)) (HO0_1.out) (fun k_ hk => ⟨hk.1, hk.2⟩))).2.1 (Kd.V_F (Kd.V_mono (ok' := (fun k_ => (P0_1_ k_ ∨ w.heap.size ≤ k_) ∧ k_ ≠ gb535)) (HO0_1.out) (fun k_ hk => ⟨hk.1, hk.2⟩))))) (Reps.none _ _))); intro v537 w11 ho12 hb hg_ hnew_; clear hg_ hnew_; (first | rw [← Ny536.out] at ho12 | (simp only [Int.reduceToNat] at ho12; rw [← Ny536.out] at ho12)); have HO538 := Aside0.mk (Kd.N_lower ho12 (below_size bel)); replace HO0_1 := Aside0.mk (Kd.V_elder' (tw HO0_1.out) (Kd.N_base ho12) hb); replace BK535 := blB BK535 hb; replace HB := Aside0.mk (below_step bel hb); clear hb ho12; obtain ⟨Ao13, co13, eo13⟩ := Kd.N_slice HO538.out; subst eo13) | ((with_reducible refine gate_callee (f := 9) rfl ?_); refine gL (some 26) Tryz.func9 #[.slice Ao13 y536.length co13] ?_; (with_reducible refine (paraphrastlaw01_Few.calls k _ _ y536 true _ ?side1 ?side2 A6.out).mono ?_); (case side1 => exact cS (Kd.N_reads' HO538.out).2.2); (case side2 => exact (Kd.N_reads' HO538.out).2.1); rintro e w' ⟨rfl, ⟨nd, rfl⟩⟩; refine ⟨_, rfl, ?_⟩; obtain ⟨hcz14_0, hcz14_1, hfz14_0, hfz14_1⟩ := bq2 BK535) | (go_at_call 33; (with_reducible refine (shape_Valid.calls k a0_0 _ _ l0_1 true _ ?side1 ?side2 A8.out).mono ?_); (case side1 => exact cS (Kd.V_reads' HO0_1.out).2.2); (case side2 => exact (Kd.V_reads' HO0_1.out).2.1); rintro e w15 ⟨rfl, hb⟩; replace HO0_1 := vD HO0_1 hb; replace HO538 := nD HO538 hb; replace BK535 := blB BK535 hb; replace HB := Aside0.mk (below_step bel hb); (try clear hb); (try clear hb2); (try clear hk); (try clear hi)))
    go_meet
    case rel => exact ⟨_, (decide ((l2.length : Int) > 12)), eS, H', ⟨kle⟩, ⟨by (with_reducible repeat (first | apply Kd.V_alloc | apply Kd.V_drewN | apply Kd.V_drew)); exact Kd.V_mono HO0_1.out (fun _ hk => ⟨hk.1.1, hk.1.2⟩)⟩, ⟨bk BK535⟩, ⟨bel⟩⟩
   ·replace c9 := Bool.eq_false_iff.mpr c9
    subst c9
    have H1 : (paraphrastlaw01_ShapeNames.j0 k l1 l2 true a0_0 l0_1) = some r := by rw [if_neg (show ¬ (false = true) by decide)] at H; exact H
    clear H
    have H := H1
    clear H1
    have H' := Aside0.mk H
    clear H
    obtain ⟨hcz16_0, hcz16_1, hfz16_0, hfz16_1⟩ := bq2 BK535
    go_wp2_with (first | ((with_reducible refine gate_dst (N := 25) rfl ?_); (try (refine gate_guard (by rfl) ?_; dsimp only)); refine Kd.N_lit k24 _ 24 ?hg (N' := 25) ?hd (xs := ([(⟨a0_0, l0_1⟩ : S24)] : List (S24))) (inner := [.int .i64 a0_0, .slice A0_1 l0_1.length c0_1]) (ok := (fun k_ => (P0_1_ k_ ∨ w.heap.size ≤ k_) ∧ k_ ≠ gb535)) (okp := (fun k_ => (P0_1_ k_ ∨ w.heap.size ≤ k_) ∧ k_ ≠ gb535)) ?hr ?hp (fun _ hk => hk) ((show ∀ k_, w5.heap.size ≤ k_ → (fun k_ => (P0_1_ k_ ∨ w.heap.size ≤ k_) ∧ k_ ≠ gb535) k_ from fun k_ hk => ⟨(.inr (Nat.le_trans (below_size bel) hk)), Kd.freshB (g := gb535) (o := .cells #[.int .i64 a0_0, .slice A0_1 l0_1.length c0_1] 24 (0, 0)) (bk BK535) k_ hk⟩) _ (Nat.le_refl _)) (Below.refl _ _) (Nat.le_refl _) (by simp) ?_; (case hd => rfl); (case hg => rfl); (case hr => first | (go_simp; done) | (go_simp; rfl)); (case hp => exact (Reps.c2 (show Kd.FK k24 _ _ (⟨a0_0, l0_1⟩ : S24) [.int .i64 a0_0, .slice A0_1 l0_1.length c0_1] from (k24_mkF _ _ (⟨a0_0, l0_1⟩ : S24) (Kd.V_reads' (Kd.V_mono (ok' := (fun k_ => (P0_1_ k_ ∨ w.heap.size ≤ k_) ∧ k_ ≠ gb535)) (HO0_1.out) (fun k_ hk => ⟨hk.1, hk.2⟩))).2.1 (Kd.V_F (Kd.V_mono (ok' := (fun k_ => (P0_1_ k_ ∨ w.heap.size ≤ k_) ∧ k_ ≠ gb535)) (HO0_1.out) (fun k_ hk => ⟨hk.1, hk.2⟩))))) (Reps.none _ _))); intro v537 w17 ho18 hb hg_ hnew_; clear hg_ hnew_; (first | rw [← Ny536.out] at ho18 | (simp only [Int.reduceToNat] at ho18; rw [← Ny536.out] at ho18)); have HO538 := Aside0.mk (Kd.N_lower ho18 (below_size bel)); replace HO0_1 := Aside0.mk (Kd.V_elder' (tw HO0_1.out) (Kd.N_base ho18) hb); replace BK535 := blB BK535 hb; replace HB := Aside0.mk (below_step bel hb); clear hb ho18; obtain ⟨Ao19, co19, eo19⟩ := Kd.N_slice HO538.out; subst eo19) | ((with_reducible refine gate_callee (f := 9) rfl ?_); refine gL (some 26) Tryz.func9 #[.slice Ao19 y536.length co19] ?_; (with_reducible refine (paraphrastlaw01_Few.calls k _ _ y536 true _ ?side1 ?side2 A6.out).mono ?_); (case side1 => exact cS (Kd.N_reads' HO538.out).2.2); (case side2 => exact (Kd.N_reads' HO538.out).2.1); rintro e w' ⟨rfl, ⟨nd, rfl⟩⟩; refine ⟨_, rfl, ?_⟩; obtain ⟨hcz20_0, hcz20_1, hfz20_0, hfz20_1⟩ := bq2 BK535) | (go_at_call 33; (with_reducible refine (shape_Valid.calls k a0_0 _ _ l0_1 false _ ?side1 ?side2 A8.out).mono ?_); (case side1 => exact cS (Kd.V_reads' HO0_1.out).2.2); (case side2 => exact (Kd.V_reads' HO0_1.out).2.1); rintro e w21 ⟨rfl, hb⟩; replace HO0_1 := vD HO0_1 hb; replace HO538 := nD HO538 hb; replace BK535 := blB BK535 hb; replace HB := Aside0.mk (below_step bel hb); (try clear hb); (try clear hb2); (try clear hk); (try clear hi)))
    go_meet
    case rel => exact ⟨_, (true), eS, H', ⟨kle⟩, ⟨by (with_reducible repeat (first | apply Kd.V_alloc | apply Kd.V_drewN | apply Kd.V_drew)); exact Kd.V_mono HO0_1.out (fun _ hk => ⟨hk.1.1, hk.1.2⟩)⟩, ⟨bk BK535⟩, ⟨bel⟩⟩
  ·replace c7 := Bool.eq_false_iff.mpr c7
   subst c7
   have H1 : (paraphrastlaw01_ShapeNames.j0 k l1 l2 true a0_0 l0_1) = some r := by rw [if_neg (show ¬ (false = true) by decide)] at H; exact H
   clear H
   have H := H1
   clear H1
   have H' := Aside0.mk H
   clear H
   obtain ⟨hcz22_0, hcz22_1, hfz22_0, hfz22_1⟩ := bq2 BK535
   go_wp2_with (first | ((with_reducible refine gate_dst (N := 25) rfl ?_); (try (refine gate_guard (by rfl) ?_; dsimp only)); refine Kd.N_lit k24 _ 24 ?hg (N' := 25) ?hd (xs := ([(⟨a0_0, l0_1⟩ : S24)] : List (S24))) (inner := [.int .i64 a0_0, .slice A0_1 l0_1.length c0_1]) (ok := (fun k_ => (P0_1_ k_ ∨ w.heap.size ≤ k_) ∧ k_ ≠ gb535)) (okp := (fun k_ => (P0_1_ k_ ∨ w.heap.size ≤ k_) ∧ k_ ≠ gb535)) ?hr ?hp (fun _ hk => hk) ((show ∀ k_, w5.heap.size ≤ k_ → (fun k_ => (P0_1_ k_ ∨ w.heap.size ≤ k_) ∧ k_ ≠ gb535) k_ from fun k_ hk => ⟨(.inr (Nat.le_trans (below_size bel) hk)), Kd.freshB (g := gb535) (o := .cells #[.int .i64 a0_0, .slice A0_1 l0_1.length c0_1] 24 (0, 0)) (bk BK535) k_ hk⟩) _ (Nat.le_refl _)) (Below.refl _ _) (Nat.le_refl _) (by simp) ?_; (case hd => rfl); (case hg => rfl); (case hr => first | (go_simp; done) | (go_simp; rfl)); (case hp => exact (Reps.c2 (show Kd.FK k24 _ _ (⟨a0_0, l0_1⟩ : S24) [.int .i64 a0_0, .slice A0_1 l0_1.length c0_1] from (k24_mkF _ _ (⟨a0_0, l0_1⟩ : S24) (Kd.V_reads' (Kd.V_mono (ok' := (fun k_ => (P0_1_ k_ ∨ w.heap.size ≤ k_) ∧ k_ ≠ gb535)) (HO0_1.out) (fun k_ hk => ⟨hk.1, hk.2⟩))).2.1 (Kd.V_F (Kd.V_mono (ok' := (fun k_ => (P0_1_ k_ ∨ w.heap.size ≤ k_) ∧ k_ ≠ gb535)) (HO0_1.out) (fun k_ hk => ⟨hk.1, hk.2⟩))))) (Reps.none _ _))); intro v537 w23 ho24 hb hg_ hnew_; clear hg_ hnew_; (first | rw [← Ny536.out] at ho24 | (simp only [Int.reduceToNat] at ho24; rw [← Ny536.out] at ho24)); have HO538 := Aside0.mk (Kd.N_lower ho24 (below_size bel)); replace HO0_1 := Aside0.mk (Kd.V_elder' (tw HO0_1.out) (Kd.N_base ho24) hb); replace BK535 := blB BK535 hb; replace HB := Aside0.mk (below_step bel hb); clear hb ho24; obtain ⟨Ao25, co25, eo25⟩ := Kd.N_slice HO538.out; subst eo25) | ((with_reducible refine gate_callee (f := 9) rfl ?_); refine gL (some 26) Tryz.func9 #[.slice Ao25 y536.length co25] ?_; (with_reducible refine (paraphrastlaw01_Few.calls k _ _ y536 false _ ?side1 ?side2 A6.out).mono ?_); (case side1 => exact cS (Kd.N_reads' HO538.out).2.2); (case side2 => exact (Kd.N_reads' HO538.out).2.1); rintro e w' ⟨rfl, ⟨nd, rfl⟩⟩; refine ⟨_, rfl, ?_⟩))
   go_meet
   case rel => exact ⟨_, (true), eS, H', ⟨kle⟩, ⟨by (with_reducible repeat (first | apply Kd.V_alloc | apply Kd.V_drewN | apply Kd.V_drew)); exact Kd.V_mono HO0_1.out (fun _ hk => ⟨hk.1.1, hk.1.2⟩)⟩, ⟨bk BK535⟩, ⟨bel⟩⟩
 case rest => as_aux_lemma =>
  clear HC4
  (try clear c1); (try clear c2)
  obtain ⟨kq, x37_3, rfl, HA, HJ3, HO_536001, BK535, HB⟩ := hcut
  cases kq with
  | zero => exact absurd HA.out (by simp [paraphrastlaw01_ShapeNames.j0])
  | succ kj3 =>
   have H := HA.out
   clear HA
   simp only [paraphrastlaw01_ShapeNames.j0] at H
   by_cases c26 : x37_3 = true
   ·subst c26
    have H1 : ((paraphrastlaw01_alive.f kj3).bind fun t541 => (some t541)) = some r := by rw [if_pos rfl] at H; exact H
    clear H
    have H := H1
    clear H1
    replace H := Option.bind_eq_some_iff.mp H
    obtain ⟨t541, A270, H⟩ := H
    replace H : (some t541) = some r := H
    have A27 := Aside0.mk A270
    clear A270
    obtain rfl := Option.some.inj H
    go_wp2_with (first | ((with_reducible refine gate_callee (f := 10) rfl ?_); refine gL (some 38) Tryz.func10 #[] ?_; (with_reducible refine (paraphrastlaw01_alive.calls kj3  t541 _ ?side1 A27.out).mono ?_); (case side1 => first | exact HG.out | exact Glob.below HG.out bel); rintro e w28 ⟨rfl, hb⟩; refine ⟨_, rfl, ?_⟩; replace HO_536001 := vD HO_536001 hb; replace BK535 := blB BK535 hb; replace HB := Aside0.mk (below_step bel hb); (try clear hb); (try clear hb2); (try clear hk); (try clear hi)))
    go_ret
    exact ⟨eN, bel⟩
   ·replace c26 := Bool.eq_false_iff.mpr c26
    subst c26
    have H1 : (if 0 ≤ a0_0 then (if (a0_0 : Int).toNat ≤ 35184372088832 then (paraphrastlaw01_ShapeNames.l0 kj3 l1 l2 (List.replicate (a0_0 : Int).toNat 0) (List.replicate (a0_0 : Int).toNat 0) 0 a0_0 l0_1) else (none)) else (none)) = some r := by rw [if_neg (show ¬ (false = true) by decide)] at H; exact H
    clear H
    have H := H1
    clear H1
    by_cases c29 : 0 ≤ a0_0
    ·rw [if_pos c29] at H
     have c29b0 := eq_true c29
     have c29b1 : decide (0 ≤ a0_0) = true := decide_eq_true c29
     clear c29
     by_cases c30 : (a0_0 : Int).toNat ≤ 35184372088832
     ·rw [if_pos c30] at H
      have c30b0 := eq_true c30
      have c30b1 : decide ((a0_0 : Int).toNat ≤ 35184372088832) = true := decide_eq_true c30
      clear c30
      obtain ⟨y542, hy542⟩ : ∃ y_ : List Int, y_ = (List.replicate (a0_0 : Int).toNat 0) := ⟨_, rfl⟩
      replace H : (paraphrastlaw01_ShapeNames.l0 kj3 l1 l2 y542 (List.replicate (a0_0 : Int).toNat 0) 0 a0_0 l0_1) = some r := by first | (rw [hy542]; with_reducible exact H) | (have H2_ := (Option.bind_some _ _).symm.trans H; rw [hy542]; with_reducible exact H2_) | (have H2_ := (Option.bind_some _ _).symm.trans H; with_reducible exact H2_) | with_reducible exact H | (rw [hy542]; exact H) | exact H
      have Ny542 := Aside0.mk hy542
      clear hy542
      obtain ⟨y545, hy545⟩ : ∃ y_ : List Int, y_ = (List.replicate (a0_0 : Int).toNat 0) := ⟨_, rfl⟩
      replace H : (paraphrastlaw01_ShapeNames.l0 kj3 l1 l2 y542 y545 0 a0_0 l0_1) = some r := by first | (rw [hy545]; with_reducible exact H) | (have H2_ := (Option.bind_some _ _).symm.trans H; rw [hy545]; with_reducible exact H2_) | (have H2_ := (Option.bind_some _ _).symm.trans H; with_reducible exact H2_) | with_reducible exact H | (rw [hy545]; exact H) | exact H
      have Ny545 := Aside0.mk hy545
      clear hy545
      have H' := Aside0.mk H
      clear H
      try go_wp2
      replace HO_536001 := Aside0.mk (Kd.V_drew HO_536001.out)
      replace BK535 := Aside0.mk (blk_drew BK535.out)
      replace HB := Aside0.mk (below_drew1 HB.out)
      refine start_ (n := 8) (S := fun w' => w'.cell? ⟨gb535, 0, none⟩ = some (.int .i64 a0_0) ∧ w'.cell? ⟨gb535, 1, none⟩ = some (.slice A0_1 l0_1.length c0_1)) (ds := []) #[false, false, false, false, false, false, false, false] (by kernel_rfl) rfl rfl ⟨(blk_cell BK535.out 0).trans rfl, (blk_cell BK535.out 1).trans rfl⟩ (fun hHeld => ?_); refine with_tabW paraphrastlaw01_ShapeNames.tab3 paraphrastlaw01_ShapeNames.bits3 (fun HT_ HW_ => ?_)
      generalize wc.drew = w31 at HO_536001 BK535 HB hHeld ⊢
      refine sPu 0 (some 39) ?_
      refine sPu 3 (some 42) ?_
      refine sTk 1 (some 40) ?_
      refine sTk 4 (some 43) ?_
      refine join_ (σ := Value × Value) 1 #[true, true, true, true, true, true, true, false] (fun s_ => [(41, s_.1), (44, s_.2), (7, s_.1)]) (fun s_ w' => (w'.cell? ⟨gb535, 0, none⟩ = some (.int .i64 a0_0) ∧ w'.cell? ⟨gb535, 1, none⟩ = some (.slice A0_1 l0_1.length c0_1)) ∧ (Kd.R (Kd.int .i64) 3 w' w.heap.size (fun k_ => (w.heap.size ≤ k_) ∧ some k_ ≠ (s_.2 : Value).ownBlock) s_.1 y542) ∧ (Kd.R (Kd.int .i64) 3 w' w.heap.size (fun k_ => (w.heap.size ≤ k_) ∧ some k_ ≠ (s_.1 : Value).ownBlock) s_.2 y545) ∧ (Kd.V k52 52 w' w.heap.size (fun k_ => (P0_1_ k_ ∨ w.heap.size ≤ k_) ∧ some k_ ≠ (s_.1 : Value).ownBlock ∧ some k_ ≠ (s_.2 : Value).ownBlock ∧ k_ ≠ gb535) (.slice A0_1 l0_1.length c0_1) l0_1) ∧ (w'.heap[gb535]? = some (.cells #[.int .i64 a0_0, .slice A0_1 l0_1.length c0_1] 24 (0, 0))) ∧ (Below w.heap.size w w')) ?_ ?_
      rotate_left
      ·intro hCont
       refine two_ (i := 2) (j := 5) (Ni := some 41) (Nj := some 44) #[true, true, true, true, true, false, false, false] #[true, true, false, true, true, true, false, false] rfl rfl rfl rfl (two_of HT_.out (by kernel_rfl)) (by decide) (by decide) (fun K hK => ?_) (fun K hK => ?_)
       ·skip
        refine Kd.R_make_step (Kd.int .i64) _ 3 (by rfl) (N := 41) rfl 46 _ _ rfl a0_0 rfl rfl Tryz.underlying46 (.int .i64 0) 8 info3 rfl (by decide) (by omega) 0 (ok := fun _ => True) (okp := fun _ => True) rfl (fun _ hk => hk) trivial (dtr) (Nat.le_trans (Nat.mul_le_mul_right _ (dtr : a0_0.toNat ≤ 35184372088832)) (by omega)) (Below.refl _ _) (Nat.le_refl _) ?_
        intro v543 w32 ho33 hb hg_ hnew_
        clear hg_ hnew_
        (first | rw [← Ny542.out] at ho33 | (simp only [Int.reduceToNat] at ho33; rw [← Ny542.out] at ho33))
        have HO544 := Aside0.mk (Kd.R_lower (Kd.R_newM (M := fun k_ => (w.heap.size ≤ k_)) ho33 (below_size bel) (fun k_ h_ => h_)) (below_size bel))
        replace HO_536001 := Aside0.mk (Kd.V_elder' (tw HO_536001.out) (Kd.R_base ho33) hb)
        replace BK535 := blB BK535 hb
        replace HB := Aside0.mk (below_step bel hb)
        clear hb ho33
        refine hK.out _ _ ⟨(blk_cell BK535.out 0).trans rfl, (blk_cell BK535.out 1).trans rfl⟩ (fun hHeld => ?_)
        clear hK K
        refine norm_ (a' := ?_) ?_ ?_
        rotate_left
        ·show Act.put _ (some 41) _ = _
         simp only [Act.put, List.setIfInBounds_toArray, List.set_cons_zero, List.set_cons_succ, i64_w, i32_w]
         rfl
        refine sPu 6 (some 7) ?_
        refine sOn 5 (some 44) (fun K hK => ?_)
        refine Kd.R_make_step (Kd.int .i64) _ 3 (by rfl) (N := 44) rfl 46 _ _ rfl a0_0 rfl rfl Tryz.underlying46 (.int .i64 0) 8 info3 rfl (by decide) (by omega) 0 (ok := fun _ => True) (okp := fun _ => True) rfl (fun _ hk => hk) trivial (dtr) (Nat.le_trans (Nat.mul_le_mul_right _ (dtr : a0_0.toNat ≤ 35184372088832)) (by omega)) (Below.refl _ _) (Nat.le_refl _) ?_
        intro v546 w34 ho35 hb hg_ hnew_
        clear hg_ hnew_
        (first | rw [← Ny545.out] at ho35 | (simp only [Int.reduceToNat] at ho35; rw [← Ny545.out] at ho35))
        have HO547 := Aside0.mk (Kd.R_lower (Kd.R_new' (Kd.R_newM (M := fun k_ => (w.heap.size ≤ k_)) ho35 (below_size bel) (fun k_ h_ => h_)) (Kd.R_lt (tw HO544.out))) (below_size bel))
        replace HO_536001 := Aside0.mk (Kd.V_elder' (tw HO_536001.out) (Kd.R_base ho35) hb)
        replace HO544 := Aside0.mk (Kd.R_elder' (tw HO544.out) (Kd.R_base ho35) hb)
        replace BK535 := blB BK535 hb
        replace HB := Aside0.mk (below_step bel hb)
        clear hb ho35
        refine hK.out _ _ ⟨(blk_cell BK535.out 0).trans rfl, (blk_cell BK535.out 1).trans rfl⟩ (fun hHeld => ?_)
        clear hK K
        refine norm_ (a' := ?_) ?_ ?_
        rotate_left
        ·show Act.put _ (some 44) _ = _
         simp only [Act.put, List.setIfInBounds_toArray, List.set_cons_zero, List.set_cons_succ, i64_w, i32_w]
         rfl
        exact norm_ (by simp only [putAll, Act.put, List.setIfInBounds_toArray, List.set_cons_zero, List.set_cons_succ]) (hCont (v543, v546) _ ⟨hHeld, (by (with_reducible repeat (first | apply Kd.R_alloc | apply Kd.R_drewN | apply Kd.R_drew)); exact Kd.R_mono HO544.out (fun _ hk => ⟨hk.1.1, hk.2⟩)), (by (with_reducible repeat (first | apply Kd.R_alloc | apply Kd.R_drewN | apply Kd.R_drew)); exact Kd.R_mono HO547.out (fun _ hk => ⟨hk.1.1, hk.2⟩)), (by (with_reducible repeat (first | apply Kd.V_alloc | apply Kd.V_drewN | apply Kd.V_drew)); exact Kd.V_mono HO_536001.out (fun _ hk => ⟨hk.1.1.1, ⟨hk.1.2, ⟨hk.2, hk.1.1.2⟩⟩⟩)), (bk BK535), bel⟩)
       ·skip
        refine Kd.R_make_step (Kd.int .i64) _ 3 (by rfl) (N := 44) rfl 46 _ _ rfl a0_0 rfl rfl Tryz.underlying46 (.int .i64 0) 8 info3 rfl (by decide) (by omega) 0 (ok := fun _ => True) (okp := fun _ => True) rfl (fun _ hk => hk) trivial (dtr) (Nat.le_trans (Nat.mul_le_mul_right _ (dtr : a0_0.toNat ≤ 35184372088832)) (by omega)) (Below.refl _ _) (Nat.le_refl _) ?_
        intro v546 w32 ho33 hb hg_ hnew_
        clear hg_ hnew_
        (first | rw [← Ny545.out] at ho33 | (simp only [Int.reduceToNat] at ho33; rw [← Ny545.out] at ho33))
        have HO547 := Aside0.mk (Kd.R_lower (Kd.R_newM (M := fun k_ => (w.heap.size ≤ k_)) ho33 (below_size bel) (fun k_ h_ => h_)) (below_size bel))
        replace HO_536001 := Aside0.mk (Kd.V_elder' (tw HO_536001.out) (Kd.R_base ho33) hb)
        replace BK535 := blB BK535 hb
        replace HB := Aside0.mk (below_step bel hb)
        clear hb ho33
        refine hK.out _ _ ⟨(blk_cell BK535.out 0).trans rfl, (blk_cell BK535.out 1).trans rfl⟩ (fun hHeld => ?_)
        clear hK K
        refine norm_ (a' := ?_) ?_ ?_
        rotate_left
        ·show Act.put _ (some 44) _ = _
         simp only [Act.put, List.setIfInBounds_toArray, List.set_cons_zero, List.set_cons_succ, i64_w, i32_w]
         rfl
        refine sOn 2 (some 41) (fun K hK => ?_)
        refine Kd.R_make_step (Kd.int .i64) _ 3 (by rfl) (N := 41) rfl 46 _ _ rfl a0_0 rfl rfl Tryz.underlying46 (.int .i64 0) 8 info3 rfl (by decide) (by omega) 0 (ok := fun _ => True) (okp := fun _ => True) rfl (fun _ hk => hk) trivial (dtr) (Nat.le_trans (Nat.mul_le_mul_right _ (dtr : a0_0.toNat ≤ 35184372088832)) (by omega)) (Below.refl _ _) (Nat.le_refl _) ?_
        intro v543 w34 ho35 hb hg_ hnew_
        clear hg_ hnew_
        (first | rw [← Ny542.out] at ho35 | (simp only [Int.reduceToNat] at ho35; rw [← Ny542.out] at ho35))
        have HO544 := Aside0.mk (Kd.R_lower (Kd.R_new' (Kd.R_newM (M := fun k_ => (w.heap.size ≤ k_)) ho35 (below_size bel) (fun k_ h_ => h_)) (Kd.R_lt (tw HO547.out))) (below_size bel))
        replace HO_536001 := Aside0.mk (Kd.V_elder' (tw HO_536001.out) (Kd.R_base ho35) hb)
        replace HO547 := Aside0.mk (Kd.R_elder' (tw HO547.out) (Kd.R_base ho35) hb)
        replace BK535 := blB BK535 hb
        replace HB := Aside0.mk (below_step bel hb)
        clear hb ho35
        refine hK.out _ _ ⟨(blk_cell BK535.out 0).trans rfl, (blk_cell BK535.out 1).trans rfl⟩ (fun hHeld => ?_)
        clear hK K
        refine norm_ (a' := ?_) ?_ ?_
        rotate_left
        ·show Act.put _ (some 41) _ = _
         simp only [Act.put, List.setIfInBounds_toArray, List.set_cons_zero, List.set_cons_succ, i64_w, i32_w]
         rfl
        refine sPu 6 (some 7) ?_
        exact norm_ (by simp only [putAll, Act.put, List.setIfInBounds_toArray, List.set_cons_zero, List.set_cons_succ]) (hCont (v543, v546) _ ⟨hHeld, (by (with_reducible repeat (first | apply Kd.R_alloc | apply Kd.R_drewN | apply Kd.R_drew)); exact Kd.R_mono HO544.out (fun _ hk => ⟨hk.1.1, hk.2⟩)), (by (with_reducible repeat (first | apply Kd.R_alloc | apply Kd.R_drewN | apply Kd.R_drew)); exact Kd.R_mono HO547.out (fun _ hk => ⟨hk.1.1, hk.2⟩)), (by (with_reducible repeat (first | apply Kd.V_alloc | apply Kd.V_drewN | apply Kd.V_drew)); exact Kd.V_mono HO_536001.out (fun _ hk => ⟨hk.1.1.1, ⟨hk.2, ⟨hk.1.2, hk.1.1.2⟩⟩⟩)), (bk BK535), bel⟩)
      rintro ⟨v543, v546⟩ w36 ⟨hS_, h0_, h1_, h2_, h3_, h4_⟩
      have n0_ : Aside0 (Kd.R (Kd.int .i64) 3 w36 w.heap.size (fun k_ => (w.heap.size ≤ k_) ∧ some k_ ≠ (v546 : Value).ownBlock) v543 y542) := ⟨h0_⟩
      have n1_ : Aside0 (Kd.R (Kd.int .i64) 3 w36 w.heap.size (fun k_ => (w.heap.size ≤ k_) ∧ some k_ ≠ (v543 : Value).ownBlock) v546 y545) := ⟨h1_⟩
      have n2_ : Aside0 (Kd.V k52 52 w36 w.heap.size (fun k_ => (P0_1_ k_ ∨ w.heap.size ≤ k_) ∧ some k_ ≠ (v543 : Value).ownBlock ∧ some k_ ≠ (v546 : Value).ownBlock ∧ k_ ≠ gb535) (.slice A0_1 l0_1.length c0_1) l0_1) := ⟨h2_⟩
      have n3_ : Aside0 (w36.heap[gb535]? = some (.cells #[.int .i64 a0_0, .slice A0_1 l0_1.length c0_1] 24 (0, 0))) := ⟨h3_⟩
      have n4_ : Aside0 (Below w.heap.size w w36) := ⟨h4_⟩
      clear HO_536001
      clear BK535
      clear HB
      clear h0_ h1_ h2_ h3_ h4_
      have HO544 := n0_
      have HO547 := n1_
      have HO_536001 := n2_
      have BK535 := n3_
      have HB := n4_
      clear n0_ n1_ n2_ n3_ n4_
      have hHeld : w36.cell? ⟨gb535, 0, none⟩ = some (.int .i64 a0_0) ∧ w36.cell? ⟨gb535, 1, none⟩ = some (.slice A0_1 l0_1.length c0_1) := hS_
      refine norm_ (a' := ?_) ?_ ?_
      rotate_left
      ·simp only [putAll, Act.put, List.setIfInBounds_toArray, List.set_cons_zero, List.set_cons_succ]
       rfl
      refine sPu 7 (some 8) ?_
      refine done_ (done_of HT_.out (by kernel_rfl)) ?_
      try go_wp2
      go_loopg [9] kj3 (fun kq v9 w' => ∃ (x7_2 : List Int) (x9_2 : Int), v9 = .int .i64 x9_2 ∧ Aside0 (paraphrastlaw01_ShapeNames.l0 kq l1 l2 x7_2 y545 x9_2 a0_0 l0_1 = some r) ∧ Aside0 (kq ≤ kj3) ∧ Aside0 (Kd.R (Kd.int .i64) 3 w' w.heap.size (fun k_ => (w.heap.size ≤ k_) ∧ some k_ ≠ (v546 : Value).ownBlock) v543 x7_2) ∧ Aside0 (Kd.R (Kd.int .i64) 3 w' w.heap.size (fun k_ => (w.heap.size ≤ k_) ∧ some k_ ≠ (v543 : Value).ownBlock) v546 y545) ∧ Aside0 (Kd.V k52 52 w' w.heap.size (fun k_ => (P0_1_ k_ ∨ w.heap.size ≤ k_) ∧ some k_ ≠ (v543 : Value).ownBlock ∧ some k_ ≠ (v546 : Value).ownBlock ∧ k_ ≠ gb535) (.slice A0_1 l0_1.length c0_1) l0_1) ∧ Aside0 (w'.heap[gb535]? = some (.cells #[.int .i64 a0_0, (.slice A0_1 l0_1.length c0_1)] 24 (0, 0))) ∧ Aside0 (Below w.heap.size w w'))
      case atStart => exact ⟨(y542), (0), eS, H', ⟨Nat.le_refl _⟩, ⟨by (with_reducible repeat (first | apply Kd.R_alloc | apply Kd.R_drewN | apply Kd.R_drew)); exact HO544.out⟩, ⟨by (with_reducible repeat (first | apply Kd.R_alloc | apply Kd.R_drewN | apply Kd.R_drew)); exact HO547.out⟩, ⟨by (with_reducible repeat (first | apply Kd.V_alloc | apply Kd.V_drewN | apply Kd.V_drew)); exact HO_536001.out⟩, ⟨bk BK535⟩, ⟨bel⟩⟩
      case round => as_aux_lemma =>
       clear H'
       (try clear c1); (try clear c2); (try clear c26); (try clear c29); (try clear c29b0); (try clear c29b1); (try clear c30); (try clear c30b0); (try clear c30b1)
       obtain ⟨x7_2, x9_2, rfl, HA, HK2, HO_7, HO_8, HO_536001, BK535, HB⟩ := hrel
       cases gk with
       | zero => exact absurd HA.out (by simp [paraphrastlaw01_ShapeNames.l0])
       | succ k2 =>
        have H := HA.out
        clear HA
        simp only [paraphrastlaw01_ShapeNames.l0] at H
        by_cases c37 : x9_2 < a0_0
        ·rw [if_pos c37] at H
         have c37b0 : decide (x9_2 < a0_0) = true := decide_eq_true c37
         clear c37
         by_cases c38 : 0 ≤ x9_2
         ·rw [if_pos c38] at H
          have c38b0 : decide (0 ≤ x9_2) = true := decide_eq_true c38
          clear c38
          by_cases c39 : x9_2 < (x7_2.length : Int)
          ·rw [if_pos c39] at H
           have c39b0 : decide (x9_2 < (x7_2.length : Int)) = true := decide_eq_true c39
           clear c39
           obtain ⟨y548, hy548⟩ : ∃ y_ : List Int, y_ = (x7_2.set (x9_2 : Int).toNat x9_2) := ⟨_, rfl⟩
           replace H : (paraphrastlaw01_ShapeNames.l0 k2 l1 l2 y548 y545 (wrap64 (x9_2 + 1)) a0_0 l0_1) = some r := by first | (rw [hy548]; with_reducible exact H) | (have H2_ := (Option.bind_some _ _).symm.trans H; rw [hy548]; with_reducible exact H2_) | (have H2_ := (Option.bind_some _ _).symm.trans H; with_reducible exact H2_) | with_reducible exact H | (rw [hy548]; exact H) | exact H
           have Ny548 := Aside0.mk hy548
           clear hy548
           have H' := Aside0.mk H
           clear H
           obtain ⟨hcz41_0, hcz41_1, hfz41_0, hfz41_1⟩ := bq2 BK535
           have p40 : 0 ≤ (x9_2 : Int) := dtr
           have q40 : (x9_2 : Int) < ((x7_2.length : Int) : Int) := dtr
           obtain ⟨go40, co40, eo40, gb40, gl40, cl40, HG40⟩ := Kd.R_form HO_7.out (by omega)
           (first | cases eo40 | (injection eo40 with ea_ en_ ec_; (first | subst ea_ | (injection ea_ with ea_; subst ea_)); subst ec_; clear en_))
           have GB40 := Aside0.mk gb40
           have GG40 := Aside0.mk HG40
           clear gb40 gl40 HG40
           obtain ⟨hx40_0, hf40_0⟩ := Kd.R_celln 0 HO_7.out (x9_2 : Int) p40 q40
           replace p40 := eq_true p40
           replace q40 := eq_true q40
           have HP42 := Kd.R_putg HO_7.out (x9_2 : Int) x9_2
           go_wp2_with (first | ((with_reducible refine gate_store (t := 3) (p := 54) rfl ?_); refine store_event (t := 3) (p := 54) (v := ?vo_w43) (w1 := (wr.setCell ⟨go40, (x9_2 : Int).toNat, none⟩ (.int .i64 x9_2))) ?hg ?ho ?hn ?hr ?_; (case ho => rfl); (case hg => rfl); (case hn => rfl); (case hr => first | (go_simp; done) | (go_simp; rfl)); intro w43 hw; have hg : wr.grownBy w43 (some go40) := (by rw [hw]; exact HP42.2); have hp_ : Kd.R (Kd.int .i64) 3 w43 w.heap.size (fun k_ => (w.heap.size ≤ k_) ∧ some k_ ≠ (v546 : Value).ownBlock) (.slice (some ⟨go40, 0, none⟩) x7_2.length co40) y548 := (by rw [hw, Ny548.out]; exact HP42.1); clear HP42; replace HO_8 := Aside0.mk (Kd.R_after (v := (.slice (some ⟨go40, 0, none⟩) x7_2.length co40)) (v1 := (.slice (some ⟨go40, 0, none⟩) x7_2.length co40)) (ok := (fun k_ => (w.heap.size ≤ k_))) (tw HO_8.out) hg (.inl rfl)); replace HO_536001 := Aside0.mk (Kd.V_afterv (v := (.slice (some ⟨go40, 0, none⟩) x7_2.length co40)) (v1 := (.slice (some ⟨go40, 0, none⟩) x7_2.length co40)) (ok := (fun k_ => (P0_1_ k_ ∨ w.heap.size ≤ k_) ∧ some k_ ≠ (v546 : Value).ownBlock ∧ k_ ≠ gb535)) (by (with_reducible repeat (first | apply Kd.V_alloc | apply Kd.V_drewN | apply Kd.V_drew)); exact Kd.V_mono HO_536001.out (fun _ hk => ⟨⟨hk.1, ⟨hk.2.2.1, hk.2.2.2⟩⟩, hk.2.1⟩)) hg (.inl rfl)); replace BK535 := Aside0.mk (blk_grown (g := gb535) (o := .cells #[.int .i64 a0_0, .slice A0_1 l0_1.length c0_1] 24 (0, 0)) (bk BK535) hg (Kd.R_ne HO_7.out BK535.out (by decide))); replace HO_7 := Aside0.mk (hp_); replace HB := Aside0.mk ((by rw [hw]; exact below_set (HB.out) GB40.out : Below w.heap.size w w43)); clear hg hw hp_))
           go_roundg k2
           case measure => have := HJ3.out; have := HK2.out; omega
           case rel => exact ⟨(y548), (wrap64 (x9_2 + 1)), eS, H', ⟨by have := HJ3.out; have := HK2.out; omega⟩, ⟨by (with_reducible repeat (first | apply Kd.R_alloc | apply Kd.R_drewN | apply Kd.R_drew)); exact HO_7.out⟩, ⟨by (with_reducible repeat (first | apply Kd.R_alloc | apply Kd.R_drewN | apply Kd.R_drew)); exact HO_8.out⟩, ⟨by (with_reducible repeat (first | apply Kd.V_alloc | apply Kd.V_drewN | apply Kd.V_drew)); exact Kd.V_mono HO_536001.out (fun _ hk => ⟨hk.1.1, ⟨hk.2, ⟨hk.1.2.1, hk.1.2.2⟩⟩⟩)⟩, ⟨bk BK535⟩, ⟨bel⟩⟩
          ·rw [if_neg c39] at H
           exact absurd H (by simp)
         ·rw [if_neg c38] at H
          exact absurd H (by simp)
        ·rw [if_neg c37] at H
         have c37b0 : decide (x9_2 < a0_0) = false := decide_eq_false c37
         clear c37
         have HC44 := Aside0.mk H
         clear H
         obtain ⟨hcz45_0, hcz45_1, hfz45_0, hfz45_1⟩ := bq2 BK535
         go_upto_block 2 with (fail)
         go_cut [] (fun wc => ∃ (kq : Nat) (x7_43 : List Int), Aside0 (paraphrastlaw01_ShapeNames.j3 kq l2 x7_43 y545 a0_0 l0_1 = some r) ∧ Aside0 (kq ≤ k2) ∧ Aside0 (Kd.R (Kd.int .i64) 3 wc w.heap.size (fun k_ => (w.heap.size ≤ k_) ∧ some k_ ≠ (v546 : Value).ownBlock) v543 x7_43) ∧ Aside0 (Kd.R (Kd.int .i64) 3 wc w.heap.size (fun k_ => (w.heap.size ≤ k_) ∧ some k_ ≠ (v543 : Value).ownBlock) v546 y545) ∧ Aside0 (Kd.V k52 52 wc w.heap.size (fun k_ => (P0_1_ k_ ∨ w.heap.size ≤ k_) ∧ some k_ ≠ (v543 : Value).ownBlock ∧ some k_ ≠ (v546 : Value).ownBlock ∧ k_ ≠ gb535) (.slice A0_1 l0_1.length c0_1) l0_1) ∧ Aside0 (wc.heap[gb535]? = some (.cells #[.int .i64 a0_0, (.slice A0_1 l0_1.length c0_1)] 24 (0, 0))) ∧ Aside0 (Below w.heap.size w wc))
         case first => as_aux_lemma =>
          have H := HC44.out
          clear HC44
          have H' := Aside0.mk H
          clear H
          go_wp2
          go_loopg [10] k2 (fun kq v10 w' => ∃ (x7_3 : List Int) (x10_3 : Int), v10 = .int .i64 x10_3 ∧ Aside0 (paraphrastlaw01_ShapeNames.l1 kq l1 l2 x7_3 y545 x10_3 a0_0 l0_1 = some r) ∧ Aside0 (kq ≤ k2) ∧ Aside0 (Kd.R (Kd.int .i64) 3 w' w.heap.size (fun k_ => (w.heap.size ≤ k_) ∧ some k_ ≠ (v546 : Value).ownBlock) v543 x7_3) ∧ Aside0 (Kd.R (Kd.int .i64) 3 w' w.heap.size (fun k_ => (w.heap.size ≤ k_) ∧ some k_ ≠ (v543 : Value).ownBlock) v546 y545) ∧ Aside0 (Kd.V k52 52 w' w.heap.size (fun k_ => (P0_1_ k_ ∨ w.heap.size ≤ k_) ∧ some k_ ≠ (v543 : Value).ownBlock ∧ some k_ ≠ (v546 : Value).ownBlock ∧ k_ ≠ gb535) (.slice A0_1 l0_1.length c0_1) l0_1) ∧ Aside0 (w'.heap[gb535]? = some (.cells #[.int .i64 a0_0, (.slice A0_1 l0_1.length c0_1)] 24 (0, 0))) ∧ Aside0 (Below w.heap.size w w'))
          case atStart => exact ⟨(x7_2), (0), eS, H', ⟨Nat.le_refl _⟩, ⟨by (with_reducible repeat (first | apply Kd.R_alloc | apply Kd.R_drewN | apply Kd.R_drew)); exact HO_7.out⟩, ⟨by (with_reducible repeat (first | apply Kd.R_alloc | apply Kd.R_drewN | apply Kd.R_drew)); exact HO_8.out⟩, ⟨by (with_reducible repeat (first | apply Kd.V_alloc | apply Kd.V_drewN | apply Kd.V_drew)); exact HO_536001.out⟩, ⟨bk BK535⟩, ⟨bel⟩⟩
          case round => as_aux_lemma =>
           clear H'
           (try clear c1); (try clear c2); (try clear c26); (try clear c29); (try clear c29b0); (try clear c29b1); (try clear c30); (try clear c30b0); (try clear c30b1); (try clear c37); (try clear c37b0); (try clear hcz45_0); (try clear hcz45_1); (try clear hfz45_0); (try clear hfz45_1)
           obtain ⟨x7_3, x10_3, rfl, HA, HK3, HO_7, HO_8, HO_536001, BK535, HB⟩ := hrel
           cases gk with
           | zero => exact absurd HA.out (by simp [paraphrastlaw01_ShapeNames.l1])
           | succ k3 =>
            have H := HA.out
            clear HA
            simp only [paraphrastlaw01_ShapeNames.l1] at H
            by_cases c46 : x10_3 < (l1.length : Int)
            ·rw [if_pos c46] at H
             have c46b0 : decide (x10_3 < (l1.length : Int)) = true := decide_eq_true c46
             clear c46
             (first | rw [c46b0] | (simp only [i64_w, i32_w]; rw [c46b0]) | skip)
             by_cases c47 : x10_3 < a0_0
             ·rw [if_pos c47] at H
              have c47b0 : decide (x10_3 < a0_0) = true := decide_eq_true c47
              clear c47
              by_cases c48 : 0 ≤ x10_3
              ·rw [if_pos c48] at H
               have c48b0 : decide (0 ≤ x10_3) = true := decide_eq_true c48
               clear c48
               by_cases c49 : a0_0 = 0
               ·rw [if_pos c49] at H
                exact absurd H (by simp)
               ·rw [if_neg c49] at H
                have c49b0 : (a0_0 == 0) = false := beq_eq_false_iff_ne.mpr c49
                have c49b1 : (a0_0 != 0) = true := bne_iff_ne.mpr c49
                obtain ⟨ji50, hji50⟩ : ∃ j_ : Int, (Int.tmod (wrap64 (rd l1 x10_3)) a0_0) = j_ := ⟨_, rfl⟩
                replace H : (if 0 ≤ (ji50) then (if (ji50) < (x7_3.length : Int) then (if x10_3 < (x7_3.length : Int) then (paraphrastlaw01_ShapeNames.l1 k3 l1 l2 ((x7_3.set (x10_3 : Int).toNat (rd x7_3 (ji50))).set ((ji50) : Int).toNat (rd x7_3 x10_3)) y545 (wrap64 (x10_3 + 1)) a0_0 l0_1) else (none)) else (none)) else (none)) = some r := by first | (rw [hji50] at H; exact H) | (simp only [hji50] at H ⊢; exact H)
                by_cases c51 : 0 ≤ (ji50)
                ·rw [if_pos c51] at H
                 have c51b0 : decide (0 ≤ (ji50)) = true := decide_eq_true c51
                 clear c51
                 by_cases c52 : (ji50) < (x7_3.length : Int)
                 ·rw [if_pos c52] at H
                  have c52b0 : decide ((ji50) < (x7_3.length : Int)) = true := decide_eq_true c52
                  clear c52
                  by_cases c53 : x10_3 < (x7_3.length : Int)
                  ·rw [if_pos c53] at H
                   have c53b0 : decide (x10_3 < (x7_3.length : Int)) = true := decide_eq_true c53
                   clear c53
                   obtain ⟨y552, hy552⟩ : ∃ y_ : List Int, y_ = (x7_3.set (x10_3 : Int).toNat (rd x7_3 (ji50))) := ⟨_, rfl⟩
                   replace H : (paraphrastlaw01_ShapeNames.l1 k3 l1 l2 (y552.set ((ji50) : Int).toNat (rd x7_3 x10_3)) y545 (wrap64 (x10_3 + 1)) a0_0 l0_1) = some r := by first | (rw [hy552]; with_reducible exact H) | (have H2_ := (Option.bind_some _ _).symm.trans H; rw [hy552]; with_reducible exact H2_) | (have H2_ := (Option.bind_some _ _).symm.trans H; with_reducible exact H2_) | with_reducible exact H | (rw [hy552]; exact H) | exact H
                   have Ny552 := Aside0.mk hy552
                   clear hy552
                   obtain ⟨y553, hy553⟩ : ∃ y_ : List Int, y_ = (y552.set ((ji50) : Int).toNat (rd x7_3 x10_3)) := ⟨_, rfl⟩
                   replace H : (paraphrastlaw01_ShapeNames.l1 k3 l1 l2 y553 y545 (wrap64 (x10_3 + 1)) a0_0 l0_1) = some r := by first | (rw [hy553]; with_reducible exact H) | (have H2_ := (Option.bind_some _ _).symm.trans H; rw [hy553]; with_reducible exact H2_) | (have H2_ := (Option.bind_some _ _).symm.trans H; with_reducible exact H2_) | with_reducible exact H | (rw [hy553]; exact H) | exact H
                   have Ny553 := Aside0.mk hy553
                   clear hy553
                   have H' := Aside0.mk H
                   clear H
                   obtain ⟨hcz56_0, hcz56_1, hfz56_0, hfz56_1⟩ := bq2 BK535
                   try go_wp2
                   replace HO_7 := Aside0.mk (Kd.R_drew HO_7.out)
                   replace HO_8 := Aside0.mk (Kd.R_drew HO_8.out)
                   replace HO_536001 := Aside0.mk (Kd.V_drew HO_536001.out)
                   replace BK535 := Aside0.mk (blk_drew BK535.out)
                   replace HB := Aside0.mk (below_drew1 HB.out)
                   have p549 : 0 ≤ (x10_3 : Int) := dtr
                   have q549 : x10_3 < (l1.length : Int) := dtr
                   obtain ⟨ad549, e549, hx549_0⟩ := Kd.at_int HR1.out x10_3 p549 q549
                   have hw549_0 := hx549_0
                   cases e549
                   replace hx549_0 := oc hx549_0
                   replace p549 := eq_true p549
                   replace q549 := eq_true q549
                   refine start_ (n := 9) (S := fun w' => w'.cell? ⟨gb535, 0, none⟩ = some (.int .i64 a0_0) ∧ w'.cell? ⟨gb535, 1, none⟩ = some (.slice A0_1 l0_1.length c0_1) ∧ w'.cell? (ad549.add (x10_3).toNat) = some (.int .u8 (rd l1 x10_3))) (ds := []) #[false, false, false, false, false, false, false, false, false] (by kernel_rfl) rfl rfl ⟨(blk_cell BK535.out 0).trans rfl, (blk_cell BK535.out 1).trans rfl, (oc hw549_0)⟩ (fun hHeld => ?_); refine with_tabW paraphrastlaw01_ShapeNames.tab11 paraphrastlaw01_ShapeNames.bits11 (fun HT_ HW_ => ?_)
                   generalize wr.drew = w57 at HO_7 HO_8 HO_536001 BK535 HB hx549_0 hHeld ⊢
                   refine sPu 0 (some 67) ?_
                   refine sPu 1 (some 68) ?_
                   refine sPu 2 (some 69) ?_
                   refine sPu 5 (some 72) ?_
                   refine sTk 3 (some 70) ?_
                   refine sPu 4 (some 71) ?_
                   refine sTk 6 (some 73) ?_
                   refine sPu 7 (some 74) ?_
                   refine sPu 8 (some 11) ?_
                   refine done_ (done_of HT_.out (by kernel_rfl)) ?_
                   try go_wp2
                   replace HO_7 := Aside0.mk (Kd.R_drew HO_7.out)
                   replace HO_8 := Aside0.mk (Kd.R_drew HO_8.out)
                   replace HO_536001 := Aside0.mk (Kd.V_drew HO_536001.out)
                   replace BK535 := Aside0.mk (blk_drew BK535.out)
                   replace HB := Aside0.mk (below_drew1 HB.out)
                   obtain ⟨Ao59, co59, eo59⟩ := Kd.R_slice HO_7.out
                   (first | subst eo59 | (injection eo59 with f1_ f2_ f3_; have f4_ := f1_.symm; have f5_ := f3_.symm; clear f1_ f2_ f3_; subst f4_; subst f5_))
                   have p550 : 0 ≤ ((ji50) : Int) := dtr
                   have q550 : (ji50) < (x7_3.length : Int) := dtr
                   obtain ⟨ad550, e550, hx550_0⟩ := Kd.at_int (Kd.R_reads' HO_7.out).2.2 (ji50) p550 q550
                   cases e550
                   replace p550 := eq_true p550
                   replace q550 := eq_true q550
                   have p551 : 0 ≤ (x10_3 : Int) := dtr
                   have q551 : x10_3 < (x7_3.length : Int) := dtr
                   obtain ⟨ad551, e551, hx551_0⟩ := Kd.at_int (Kd.R_reads' HO_7.out).2.2 x10_3 p551 q551
                   obtain rfl : ad550 = ad551 := (by injection e551)
                   replace p551 := eq_true p551
                   replace q551 := eq_true q551
                   have p54 : 0 ≤ (x10_3 : Int) := dtr
                   have q54 : (x10_3 : Int) < ((x7_3.length : Int) : Int) := dtr
                   obtain ⟨go54, co54, eo54, gb54, gl54, cl54, HG54⟩ := Kd.R_form HO_7.out (by omega)
                   (first | cases eo54 | (injection eo54 with ea_ en_ ec_; (first | subst ea_ | (injection ea_ with ea_; subst ea_)); subst ec_; clear en_))
                   have GB54 := Aside0.mk gb54
                   have GG54 := Aside0.mk HG54
                   clear gb54 gl54 HG54
                   (first | simp only [add_plain] at hx550_0 | skip)
                   (first | simp only [add_plain] at hx551_0 | skip)
                   obtain ⟨hx54_0, hf54_0⟩ := Kd.R_celln 0 HO_7.out (x10_3 : Int) p54 q54
                   replace p54 := eq_true p54
                   replace q54 := eq_true q54
                   have HP60 := Kd.R_putn HO_7.out (x10_3 : Int) (rd x7_3 (ji50))
                   rw [← Ny552.out] at HP60
                   have HQ60 := Aside0.mk HP60
                   clear HP60
                   have p55 : 0 ≤ ((ji50) : Int) := dtr
                   have q55 : ((ji50) : Int) < ((x7_3.length : Int) : Int) := dtr
                   obtain ⟨hx55_0, hf55_0⟩ := Kd.R_celln 0 HQ60.out ((ji50) : Int) p55 q55
                   replace p55 := eq_true p55
                   replace q55 := eq_true q55
                   have HP61 := Kd.R_putn HQ60.out ((ji50) : Int) (rd x7_3 x10_3)
                   rw [← Ny553.out] at HP61
                   have HQ61 := Aside0.mk HP61
                   clear HP61
                   refine start_ (n := 16) (S := fun w' => w'.cell? ⟨go54, ((ji50)).toNat, none⟩ = some (.int .i64 (rd x7_3 (ji50))) ∧ w'.cell? ⟨go54, (x10_3).toNat, none⟩ = some (.int .i64 (rd x7_3 x10_3))) (ds := [13, 15]) #[false, false, false, false, false, false, false, false, false, false, false, false, false, false, false, false] (by kernel_rfl) rfl rfl ⟨hx550_0, hx551_0⟩ (fun hHeld => ?_); refine with_tabW paraphrastlaw01_ShapeNames.tab12 paraphrastlaw01_ShapeNames.bits12 (fun HT_ HW_ => ?_)
                   generalize w57.drew = w58 at HO_7 HO_8 HO_536001 BK535 HB GG54 HQ60 HQ61 hf54_0 hf55_0 hx54_0 hx550_0 hx551_0 hx55_0 hHeld ⊢
                   refine sPu 0 (some 75) ?_
                   refine sPu 1 (some 76) ?_
                   refine sPu 2 (some 77) ?_
                   refine sPu 3 (some 78) ?_
                   refine sPu 4 (some 79) ?_
                   refine sPu 5 (some 80) ?_
                   refine sPu 6 (some 81) ?_
                   refine sPu 8 (some 83) ?_
                   refine sPu 9 (some 84) ?_
                   refine sPu 10 (some 85) ?_
                   refine sTk 7 (some 82) ?_
                   refine sTk 11 (some 86) ?_
                   refine sPu 12 (some 87) ?_
                   refine last_ (i := 13) (N := none) #[true, true, true, true, true, true, true, true, true, true, true, true, true, true, false, false] rfl rfl (one_of HT_.out (by kernel_rfl)) (by decide) (fun K hK => ?_)
                   refine skip_ (w1 := ?_) (by rfl) rfl ?_ ?_
                   rotate_left
                   ·go_simp
                    rfl
                   refine hK.out _ _ ?_
                   clear hK K
                   refine sPu 14 (some 88) ?_
                   refine last_ (i := 15) (N := none) #[true, true, true, true, true, true, true, true, true, true, true, true, true, true, true, true] rfl rfl (one_of HT_.out (by kernel_rfl)) (by decide) (fun K hK => ?_)
                   refine skip_ (w1 := ?_) (by rfl) rfl ?_ ?_
                   rotate_left
                   ·go_simp
                    rfl
                   refine hK.out _ _ ?_
                   clear hK K
                   refine done_ (done_of HT_.out (by kernel_rfl)) ?_
                   try go_wp2
                   go_roundg k3
                   case measure => have := HJ3.out; have := HK2.out; have := HK3.out; omega
                   case rel => exact ⟨(y553), (wrap64 (x10_3 + 1)), eS, H', ⟨by have := HJ3.out; have := HK2.out; have := HK3.out; omega⟩, ⟨by (with_reducible repeat (first | apply Kd.R_alloc | apply Kd.R_drewN | apply Kd.R_drew)); exact HQ61.out⟩, ⟨by (with_reducible repeat (first | apply Kd.R_alloc | apply Kd.R_drewN | apply Kd.R_drew)); exact Kd.R_mono (Kd.R_far (p := ⟨go54, ((ji50) : Int).toNat, none⟩) (Kd.R_far (p := ⟨go54, (x10_3 : Int).toNat, none⟩) (Kd.R_mono HO_8.out (fun k_ hk => (⟨hk, fun e_ => hk.2 (by rw [e_]; rfl)⟩ : _ ∧ k_ ≠ go54))) (fun _ hk => hk.2) (.int .i64 (rd x7_3 (ji50)))) (fun _ hk => hk.2) (.int .i64 (rd x7_3 x10_3))) (fun _ hk => ⟨hk.1.1, hk.1.2⟩)⟩, ⟨by (with_reducible repeat (first | apply Kd.V_alloc | apply Kd.V_drewN | apply Kd.V_drew)); exact Kd.V_mono (Kd.V_far (p := ⟨go54, ((ji50) : Int).toNat, none⟩) (Kd.V_far (p := ⟨go54, (x10_3 : Int).toNat, none⟩) (Kd.V_mono HO_536001.out (fun k_ hk => (⟨hk, fun e_ => hk.2.1 (by rw [e_]; rfl)⟩ : _ ∧ k_ ≠ go54))) (fun _ hk => hk.2) (.int .i64 (rd x7_3 (ji50)))) (fun _ hk => hk.2) (.int .i64 (rd x7_3 x10_3))) (fun _ hk => ⟨hk.1.1, ⟨hk.1.2.1, ⟨hk.1.2.2.1, hk.1.2.2.2⟩⟩⟩)⟩, ⟨by (with_reducible repeat (first | refine blk_drewN ?_ _ | refine blk_drew ?_ | refine blk_alloc ?_ _)); refine blk_far ?_ (by have h_ := Kd.R_ne HO_7.out BK535.out (by decide); intro e_; exact h_ (by rw [e_]; rfl)) _; (with_reducible repeat (first | refine blk_drewN ?_ _ | refine blk_drew ?_ | refine blk_alloc ?_ _)); refine blk_far ?_ (by have h_ := Kd.R_ne HO_7.out BK535.out (by decide); intro e_; exact h_ (by rw [e_]; rfl)) _; (with_reducible repeat (first | refine blk_drewN ?_ _ | refine blk_drew ?_ | refine blk_alloc ?_ _)); exact BK535.out⟩, ⟨by repeat (first | (with_reducible first | exact HB.out | apply below_alloc | apply pw_below_drewN | apply below_drew1 | refine below_set ?_ GB54.out | refine below_set ?_ GB54.out | refine below_set ?_ GE535.out) | exact HB.out)⟩⟩
                  ·rw [if_neg c53] at H
                   exact absurd H (by simp)
                 ·rw [if_neg c52] at H
                  exact absurd H (by simp)
                ·rw [if_neg c51] at H
                 exact absurd H (by simp)
              ·rw [if_neg c48] at H
               exact absurd H (by simp)
             ·rw [if_neg c47] at H
              have c47b0 : decide (x10_3 < a0_0) = false := decide_eq_false c47
              clear c47
              have H' := Aside0.mk H
              clear H
              obtain ⟨hcz62_0, hcz62_1, hfz62_0, hfz62_1⟩ := bq2 BK535
              go_wp2
              go_meet
              case rel => exact ⟨_, (x7_3), H', ⟨by have := HJ3.out; have := HK2.out; have := HK3.out; first | omega | exact Nat.le_refl _⟩, ⟨by (with_reducible repeat (first | apply Kd.R_alloc | apply Kd.R_drewN | apply Kd.R_drew)); exact HO_7.out⟩, ⟨by (with_reducible repeat (first | apply Kd.R_alloc | apply Kd.R_drewN | apply Kd.R_drew)); exact HO_8.out⟩, ⟨by (with_reducible repeat (first | apply Kd.V_alloc | apply Kd.V_drewN | apply Kd.V_drew)); exact HO_536001.out⟩, ⟨bk BK535⟩, ⟨bel⟩⟩
            ·rw [if_neg c46] at H
             have c46b0 : decide (x10_3 < (l1.length : Int)) = false := decide_eq_false c46
             clear c46
             (first | rw [c46b0] | (simp only [i64_w, i32_w]; rw [c46b0]) | skip)
             have H' := Aside0.mk H
             clear H
             go_wp2
             go_meet
             case rel => exact ⟨_, (x7_3), H', ⟨by have := HJ3.out; have := HK2.out; have := HK3.out; first | omega | exact Nat.le_refl _⟩, ⟨by (with_reducible repeat (first | apply Kd.R_alloc | apply Kd.R_drewN | apply Kd.R_drew)); exact HO_7.out⟩, ⟨by (with_reducible repeat (first | apply Kd.R_alloc | apply Kd.R_drewN | apply Kd.R_drew)); exact HO_8.out⟩, ⟨by (with_reducible repeat (first | apply Kd.V_alloc | apply Kd.V_drewN | apply Kd.V_drew)); exact HO_536001.out⟩, ⟨bk BK535⟩, ⟨bel⟩⟩
         case rest => as_aux_lemma =>
          clear HC44
          (try clear c1); (try clear c2); (try clear c26); (try clear c29); (try clear c29b0); (try clear c29b1); (try clear c30); (try clear c30b0); (try clear c30b1); (try clear c37); (try clear c37b0); (try clear hcz45_0); (try clear hcz45_1); (try clear hfz45_0); (try clear hfz45_1)
          obtain ⟨kq, x7_43, HA, HJ43, HO_7, HO_8, HO_536001, BK535, HB⟩ := hcut
          cases kq with
          | zero => exact absurd HA.out (by simp [paraphrastlaw01_ShapeNames.j3])
          | succ kj43 =>
           have H := HA.out
           clear HA
           simp only [paraphrastlaw01_ShapeNames.j3] at H
           have H' := Aside0.mk H
           clear H
           go_wp2
           go_loopg [12] kj43 (fun kq v12 w' => ∃ (x8_4 : List Int) (x12_4 : Int), v12 = .int .i64 x12_4 ∧ Aside0 (paraphrastlaw01_ShapeNames.l2 kq l2 x7_43 x8_4 x12_4 a0_0 l0_1 = some r) ∧ Aside0 (kq ≤ kj43) ∧ Aside0 (Kd.R (Kd.int .i64) 3 w' w.heap.size (fun k_ => (w.heap.size ≤ k_) ∧ some k_ ≠ (v546 : Value).ownBlock) v543 x7_43) ∧ Aside0 (Kd.R (Kd.int .i64) 3 w' w.heap.size (fun k_ => (w.heap.size ≤ k_) ∧ some k_ ≠ (v543 : Value).ownBlock) v546 x8_4) ∧ Aside0 (Kd.V k52 52 w' w.heap.size (fun k_ => (P0_1_ k_ ∨ w.heap.size ≤ k_) ∧ some k_ ≠ (v543 : Value).ownBlock ∧ some k_ ≠ (v546 : Value).ownBlock ∧ k_ ≠ gb535) (.slice A0_1 l0_1.length c0_1) l0_1) ∧ Aside0 (w'.heap[gb535]? = some (.cells #[.int .i64 a0_0, (.slice A0_1 l0_1.length c0_1)] 24 (0, 0))) ∧ Aside0 (Below w.heap.size w w'))
           case atStart => exact ⟨(y545), (0), eS, H', ⟨Nat.le_refl _⟩, ⟨by (with_reducible repeat (first | apply Kd.R_alloc | apply Kd.R_drewN | apply Kd.R_drew)); exact HO_7.out⟩, ⟨by (with_reducible repeat (first | apply Kd.R_alloc | apply Kd.R_drewN | apply Kd.R_drew)); exact HO_8.out⟩, ⟨by (with_reducible repeat (first | apply Kd.V_alloc | apply Kd.V_drewN | apply Kd.V_drew)); exact HO_536001.out⟩, ⟨bk BK535⟩, ⟨bel⟩⟩
           case round => as_aux_lemma =>
            clear H'
            (try clear c1); (try clear c2); (try clear c26); (try clear c29); (try clear c29b0); (try clear c29b1); (try clear c30); (try clear c30b0); (try clear c30b1); (try clear c37); (try clear c37b0); (try clear hcz45_0); (try clear hcz45_1); (try clear hfz45_0); (try clear hfz45_1)
            obtain ⟨x8_4, x12_4, rfl, HA, HK4, HO_7, HO_8, HO_536001, BK535, HB⟩ := hrel
            cases gk with
            | zero => exact absurd HA.out (by simp [paraphrastlaw01_ShapeNames.l2])
            | succ k4 =>
             have H := HA.out
             clear HA
             simp only [paraphrastlaw01_ShapeNames.l2] at H
             by_cases c63 : x12_4 < a0_0
             ·rw [if_pos c63] at H
              have c63b0 : decide (x12_4 < a0_0) = true := decide_eq_true c63
              clear c63
              by_cases c64 : 0 ≤ x12_4
              ·rw [if_pos c64] at H
               have c64b0 : decide (0 ≤ x12_4) = true := decide_eq_true c64
               clear c64
               by_cases c65 : x12_4 < (x7_43.length : Int)
               ·rw [if_pos c65] at H
                have c65b0 : decide (x12_4 < (x7_43.length : Int)) = true := decide_eq_true c65
                clear c65
                by_cases c66 : 0 ≤ (rd x7_43 x12_4)
                ·rw [if_pos c66] at H
                 have c66b0 : decide (0 ≤ (rd x7_43 x12_4)) = true := decide_eq_true c66
                 clear c66
                 by_cases c67 : (rd x7_43 x12_4) < (x8_4.length : Int)
                 ·rw [if_pos c67] at H
                  have c67b0 : decide ((rd x7_43 x12_4) < (x8_4.length : Int)) = true := decide_eq_true c67
                  clear c67
                  obtain ⟨y555, hy555⟩ : ∃ y_ : List Int, y_ = (x8_4.set ((rd x7_43 x12_4) : Int).toNat x12_4) := ⟨_, rfl⟩
                  replace H : (paraphrastlaw01_ShapeNames.l2 k4 l2 x7_43 y555 (wrap64 (x12_4 + 1)) a0_0 l0_1) = some r := by first | (rw [hy555]; with_reducible exact H) | (have H2_ := (Option.bind_some _ _).symm.trans H; rw [hy555]; with_reducible exact H2_) | (have H2_ := (Option.bind_some _ _).symm.trans H; with_reducible exact H2_) | with_reducible exact H | (rw [hy555]; exact H) | exact H
                  have Ny555 := Aside0.mk hy555
                  clear hy555
                  have H' := Aside0.mk H
                  clear H
                  obtain ⟨hcz69_0, hcz69_1, hfz69_0, hfz69_1⟩ := bq2 BK535
                  obtain ⟨Ao70, co70, eo70⟩ := Kd.R_slice HO_7.out
                  subst eo70
                  have p554 : 0 ≤ (x12_4 : Int) := dtr
                  have q554 : x12_4 < (x7_43.length : Int) := dtr
                  obtain ⟨ad554, e554, hx554_0⟩ := Kd.at_int (Kd.R_reads' HO_7.out).2.2 x12_4 p554 q554
                  cases e554
                  replace p554 := eq_true p554
                  replace q554 := eq_true q554
                  have p68 : 0 ≤ ((rd x7_43 x12_4) : Int) := dtr
                  have q68 : ((rd x7_43 x12_4) : Int) < ((x8_4.length : Int) : Int) := dtr
                  obtain ⟨go68, co68, eo68, gb68, gl68, cl68, HG68⟩ := Kd.R_form HO_8.out (by omega)
                  (first | cases eo68 | (injection eo68 with ea_ en_ ec_; (first | subst ea_ | (injection ea_ with ea_; subst ea_)); subst ec_; clear en_))
                  have GB68 := Aside0.mk gb68
                  have GG68 := Aside0.mk HG68
                  clear gb68 gl68 HG68
                  obtain ⟨hx68_0, hf68_0⟩ := Kd.R_celln 0 HO_8.out ((rd x7_43 x12_4) : Int) p68 q68
                  replace p68 := eq_true p68
                  replace q68 := eq_true q68
                  have HP71 := Kd.R_putg HO_8.out ((rd x7_43 x12_4) : Int) x12_4
                  go_wp2_with (first | ((with_reducible refine gate_store (t := 3) (p := 101) rfl ?_); refine store_event (t := 3) (p := 101) (v := ?vo_w72) (w1 := (wr.setCell ⟨go68, ((rd x7_43 x12_4) : Int).toNat, none⟩ (.int .i64 x12_4))) ?hg ?ho ?hn ?hr ?_; (case ho => rfl); (case hg => rfl); (case hn => rfl); (case hr => first | (go_simp; done) | (go_simp; rfl)); intro w72 hw; have hg : wr.grownBy w72 (some go68) := (by rw [hw]; exact HP71.2); have hp_ : Kd.R (Kd.int .i64) 3 w72 w.heap.size (fun k_ => (w.heap.size ≤ k_) ∧ some k_ ≠ (.slice (some ad554) x7_43.length co70 : Value).ownBlock) (.slice (some ⟨go68, 0, none⟩) x8_4.length co68) y555 := (by rw [hw, Ny555.out]; exact HP71.1); clear HP71; replace HO_7 := Aside0.mk (Kd.R_after (v := (.slice (some ⟨go68, 0, none⟩) x8_4.length co68)) (v1 := (.slice (some ⟨go68, 0, none⟩) x8_4.length co68)) (ok := (fun k_ => (w.heap.size ≤ k_))) (tw HO_7.out) hg (.inl rfl)); replace HO_536001 := Aside0.mk (Kd.V_afterv (v := (.slice (some ⟨go68, 0, none⟩) x8_4.length co68)) (v1 := (.slice (some ⟨go68, 0, none⟩) x8_4.length co68)) (ok := (fun k_ => (P0_1_ k_ ∨ w.heap.size ≤ k_) ∧ some k_ ≠ (.slice (some ad554) x7_43.length co70 : Value).ownBlock ∧ k_ ≠ gb535)) (by (with_reducible repeat (first | apply Kd.V_alloc | apply Kd.V_drewN | apply Kd.V_drew)); exact Kd.V_mono HO_536001.out (fun _ hk => ⟨⟨hk.1, ⟨hk.2.1, hk.2.2.2⟩⟩, hk.2.2.1⟩)) hg (.inl rfl)); replace BK535 := Aside0.mk (blk_grown (g := gb535) (o := .cells #[.int .i64 a0_0, .slice A0_1 l0_1.length c0_1] 24 (0, 0)) (bk BK535) hg (Kd.R_ne HO_8.out BK535.out (by decide))); replace HO_8 := Aside0.mk (hp_); replace HB := Aside0.mk ((by rw [hw]; exact below_set (HB.out) GB68.out : Below w.heap.size w w72)); clear hg hw hp_))
                  go_roundg k4
                  case measure => have := HJ3.out; have := HK2.out; have := HJ43.out; have := HK4.out; omega
                  case rel => exact ⟨(y555), (wrap64 (x12_4 + 1)), eS, H', ⟨by have := HJ3.out; have := HK2.out; have := HJ43.out; have := HK4.out; omega⟩, ⟨by (with_reducible repeat (first | apply Kd.R_alloc | apply Kd.R_drewN | apply Kd.R_drew)); exact HO_7.out⟩, ⟨by (with_reducible repeat (first | apply Kd.R_alloc | apply Kd.R_drewN | apply Kd.R_drew)); exact HO_8.out⟩, ⟨by (with_reducible repeat (first | apply Kd.V_alloc | apply Kd.V_drewN | apply Kd.V_drew)); exact Kd.V_mono HO_536001.out (fun _ hk => ⟨hk.1.1, ⟨hk.1.2.1, ⟨hk.2, hk.1.2.2⟩⟩⟩)⟩, ⟨bk BK535⟩, ⟨bel⟩⟩
                 ·rw [if_neg c67] at H
                  exact absurd H (by simp)
                ·rw [if_neg c66] at H
                 exact absurd H (by simp)
               ·rw [if_neg c65] at H
                exact absurd H (by simp)
              ·rw [if_neg c64] at H
               exact absurd H (by simp)
             ·rw [if_neg c63] at H
              have c63b0 : decide (x12_4 < a0_0) = false := decide_eq_false c63
              clear c63
              replace H := Option.bind_eq_some_iff.mp H
              obtain ⟨⟨t556, t557, t560⟩, A730, H⟩ := H
              replace H : ((shape_Permute.f k4 t556 t557 x8_4).bind fun bt562 => (if t560 = 0 then (if bt562.2.2 = 0 then ((paraphrastref01_Same.f k4 bt562.1 bt562.2.1 a0_0 l0_1).bind fun t568 => (paraphrastlaw01_ShapeNames.j5 k4 l2 x7_43 (!t568) a0_0 l0_1 t556 t557)) else (paraphrastlaw01_ShapeNames.j5 k4 l2 x7_43 true a0_0 l0_1 t556 t557)) else (paraphrastlaw01_ShapeNames.j5 k4 l2 x7_43 true a0_0 l0_1 t556 t557))) = some r := H
              have A73 := Aside0.mk A730
              clear A730
              replace H := Option.bind_eq_some_iff.mp H
              obtain ⟨⟨t562, t563, t566⟩, A740, H⟩ := H
              replace H : (if t560 = 0 then (if t566 = 0 then ((paraphrastref01_Same.f k4 t562 t563 a0_0 l0_1).bind fun t568 => (paraphrastlaw01_ShapeNames.j5 k4 l2 x7_43 (!t568) a0_0 l0_1 t556 t557)) else (paraphrastlaw01_ShapeNames.j5 k4 l2 x7_43 true a0_0 l0_1 t556 t557)) else (paraphrastlaw01_ShapeNames.j5 k4 l2 x7_43 true a0_0 l0_1 t556 t557)) = some r := H
              have A74 := Aside0.mk A740
              clear A740
              have HC75 := Aside0.mk H
              clear H
              obtain ⟨hcz76_0, hcz76_1, hfz76_0, hfz76_1⟩ := bq2 BK535
              obtain ⟨Ao77, co77, eo77⟩ := Kd.R_slice HO_7.out
              subst eo77
              go_upto_region 19 with (first | ((with_reducible refine gate_callee (f := 32) rfl ?_); refine gL (some 105) Tryz.func32 #[.agg #[.int .i64 a0_0, .slice A0_1 l0_1.length c0_1], .slice Ao77 x7_43.length co77] ?_; (with_reducible refine (shape_Permute.calls k4 a0_0 _ _ l0_1 _ _ x7_43 t556 t557 t560 _ ?side1 ?side2 ?side3 ?side4 A73.out).mono ?_); (case side1 => exact cS (Kd.V_reads' HO_536001.out).2.2); (case side2 => exact (Kd.V_reads' HO_536001.out).2.1); (case side3 => exact cS (Kd.R_reads' HO_7.out).2.2); (case side4 => exact (Kd.R_reads' HO_7.out).2.1); rintro e w78 ⟨v558, rfl, ho0, hb⟩; refine ⟨_, rfl, ?_⟩; have HO559 := Aside0.mk (Kd.N_lower (Kd.N_mono (ok' := fun k_ => (P0_1_ k_ ∨ w.heap.size ≤ k_) ∧ some k_ ≠ (.slice Ao77 x7_43.length co77 : Value).ownBlock ∧ some k_ ≠ (v546 : Value).ownBlock ∧ k_ ≠ gb535) (Kd.R_N (Kd.R_bound ho0)) (fun k_ hk_ => ⟨(.inr (Nat.le_trans (below_size bel) hk_.2.1)), (Kd.fresh' (Kd.R_lt (tw HO_7.out)) k_ hk_.2.1), (Kd.fresh' (Kd.R_lt (tw HO_8.out)) k_ hk_.2.1), (Kd.freshB (g := gb535) (o := .cells #[.int .i64 a0_0, .slice A0_1 l0_1.length c0_1] 24 (0, 0)) (bk BK535) k_ hk_.2.1)⟩)) (below_size bel)); replace HO_7 := rD HO_7 hb; replace HO_8 := rD HO_8 hb; replace HO_536001 := vE HO_536001 (by first | exact Kd.N_base ho0 | exact Kd.R_base ho0) hb; replace BK535 := blB BK535 hb; replace HB := Aside0.mk (below_step bel hb); (try clear hb); (try clear hb2); (try clear hk); (try clear hi); (try clear ho0)) | ((with_reducible refine gate_dst (N := 13) rfl ?_); (try (refine gate_guard (by rfl) ?_; dsimp only)); refine box_event ?hg (N := 13) ?hd (cs := #[.int .i64 0, .slice none 0 0]) (t := 24) ?hr ?_; (case hd => rfl); (case hg => rfl); (case hr => first | (go_simp; done) | (go_simp; rfl)); intro gb561 hg w79 hbox hb; have BK561 := Aside0.mk (hbox); have GW561 := geB w hg; have GE561 := geB w hg; have NB535_561 := neL BK535 hg; have NB561_535 := neG BK535 hg; replace HO_7 := rD HO_7 hb; replace HO_8 := rD HO_8 hb; replace HO_536001 := vB HO_536001 hg hb; replace HO559 := nB HO559 hg hb; replace BK535 := blB BK535 hb; replace HB := Aside0.mk (below_step bel hb); clear hb hbox hg; have hnb80 := NB561_535.out; have hnc80 := NB535_561.out; obtain ⟨hcz81_0, hcz81_1, hfz81_0, hfz81_1⟩ := bq2 BK561; obtain ⟨Ao82, co82, eo82⟩ := Kd.N_slice HO559.out; subst eo82; obtain ⟨Ao83, co83, eo83⟩ := Kd.R_slice HO_8.out; subst eo83) | ((with_reducible refine gate_callee (f := 32) rfl ?_); refine gL (some 111) Tryz.func32 #[.agg #[.int .i64 t556, .slice Ao82 t557.length co82], .slice Ao83 x8_4.length co83] ?_; (with_reducible refine (shape_Permute.calls k4 t556 _ _ t557 _ _ x8_4 t562 t563 t566 _ ?side1 ?side2 ?side3 ?side4 A74.out).mono ?_); (case side1 => refine (Kd.N_reads' (e := 52) (base := w.heap.size) (ok := fun k_ => (((P0_1_ k_ ∨ w.heap.size ≤ k_) ∧ (some k_ ≠ (.slice Ao77 x7_43.length co77 : Value).ownBlock ∧ (some k_ ≠ (.slice Ao83 x8_4.length co83 : Value).ownBlock ∧ k_ ≠ gb535))) ∧ k_ ≠ gb561)) (n := t557.length) (c := co82) ?_).2.2; exact (by (with_reducible repeat (first | apply Kd.N_alloc | apply Kd.N_drewN | apply Kd.N_drew)); exact (Kd.N_mono (Kd.N_far (p := ⟨gb561, 1, none⟩) (Kd.N_far (p := ⟨gb561, 0, none⟩) (Kd.N_mono HO559.out (fun k_ hk => (⟨hk, hk.2⟩ : _ ∧ k_ ≠ gb561))) (fun _ hk => hk.2) (.int .i64 t556)) (fun _ hk => hk.2) (.slice Ao82 t557.length co82)) (fun _ h_ => h_.1)))); (case side2 => exact (Kd.N_reads' HO559.out).2.1); (case side3 => refine (Kd.R_reads' (e := 3) (base := w.heap.size) (ok := fun k_ => ((w.heap.size ≤ k_) ∧ some k_ ≠ (.slice Ao77 x7_43.length co77 : Value).ownBlock)) (n := x8_4.length) (c := co83) ?_).2.2; exact (by (with_reducible repeat (first | apply Kd.R_alloc | apply Kd.R_drewN | apply Kd.R_drew)); exact (Kd.R_mono (Kd.R_far (p := ⟨gb561, 1, none⟩) (Kd.R_far (p := ⟨gb561, 0, none⟩) (Kd.R_types HO_8.out BK561.out (by decide)) (fun _ hk => hk.2) (.int .i64 t556)) (fun _ hk => hk.2) (.slice Ao82 t557.length co82)) (fun _ h_ => h_.1)))); (case side4 => exact (Kd.R_reads' HO_8.out).2.1); rintro e w84 ⟨v564, rfl, ho0, hb⟩; refine ⟨_, rfl, ?_⟩; have HO565 := Aside0.mk (Kd.N_lower (Kd.N_mono (ok' := fun k_ => (P0_1_ k_ ∨ w.heap.size ≤ k_) ∧ some k_ ≠ (.slice Ao77 x7_43.length co77 : Value).ownBlock ∧ some k_ ≠ (.slice Ao83 x8_4.length co83 : Value).ownBlock ∧ some k_ ≠ (.slice Ao82 t557.length co82 : Value).ownBlock ∧ k_ ≠ gb535 ∧ k_ ≠ gb561) (Kd.R_N (Kd.R_bound ho0)) (fun k_ hk_ => ⟨(.inr (Nat.le_trans (below_size bel) hk_.2.1)), (Kd.fresh' (Kd.R_lt (by (with_reducible repeat (first | apply Kd.R_alloc | apply Kd.R_drewN | apply Kd.R_drew)); exact (Kd.R_mono (Kd.R_far (p := ⟨gb561, 1, none⟩) (Kd.R_far (p := ⟨gb561, 0, none⟩) (Kd.R_types HO_7.out BK561.out (by decide)) (fun _ hk => hk.2) (.int .i64 t556)) (fun _ hk => hk.2) (.slice Ao82 t557.length co82)) (fun _ h_ => h_.1)))) k_ hk_.2.1), (Kd.fresh' (Kd.R_lt (by (with_reducible repeat (first | apply Kd.R_alloc | apply Kd.R_drewN | apply Kd.R_drew)); exact (Kd.R_mono (Kd.R_far (p := ⟨gb561, 1, none⟩) (Kd.R_far (p := ⟨gb561, 0, none⟩) (Kd.R_types HO_8.out BK561.out (by decide)) (fun _ hk => hk.2) (.int .i64 t556)) (fun _ hk => hk.2) (.slice Ao82 t557.length co82)) (fun _ h_ => h_.1)))) k_ hk_.2.1), (Kd.fresh' (Kd.N_lt (by (with_reducible repeat (first | apply Kd.N_alloc | apply Kd.N_drewN | apply Kd.N_drew)); exact (Kd.N_mono (Kd.N_far (p := ⟨gb561, 1, none⟩) (Kd.N_far (p := ⟨gb561, 0, none⟩) (Kd.N_mono HO559.out (fun k_ hk => (⟨hk, hk.2⟩ : _ ∧ k_ ≠ gb561))) (fun _ hk => hk.2) (.int .i64 t556)) (fun _ hk => hk.2) (.slice Ao82 t557.length co82)) (fun _ h_ => h_.1)))) k_ hk_.2.1), (Kd.freshB (g := gb535) (o := .cells #[.int .i64 a0_0, .slice A0_1 l0_1.length c0_1] 24 (0, 0)) (by (with_reducible repeat (first | refine blk_drewN ?_ _ | refine blk_drew ?_ | refine blk_alloc ?_ _)); refine blk_far ?_ NB535_561.out _; (with_reducible repeat (first | refine blk_drewN ?_ _ | refine blk_drew ?_ | refine blk_alloc ?_ _)); refine blk_far ?_ NB535_561.out _; (with_reducible repeat (first | refine blk_drewN ?_ _ | refine blk_drew ?_ | refine blk_alloc ?_ _)); exact BK535.out) k_ hk_.2.1), (Kd.freshB (g := gb561) (o := .cells #[.int .i64 t556, .slice Ao82 t557.length co82] 24 (0, 0)) (by (with_reducible repeat (first | refine blk_drewN ?_ _ | refine blk_drew ?_ | refine blk_alloc ?_ _)); refine blk_put (cs := #[.int .i64 t556, .slice none 0 0]) ?_ 1 _ rfl; (with_reducible repeat (first | refine blk_drewN ?_ _ | refine blk_drew ?_ | refine blk_alloc ?_ _)); refine blk_put (cs := #[.int .i64 0, .slice none 0 0]) ?_ 0 _ rfl; (with_reducible repeat (first | refine blk_drewN ?_ _ | refine blk_drew ?_ | refine blk_alloc ?_ _)); exact BK561.out) k_ hk_.2.1)⟩)) (below_size bel)); replace HO_7 := Aside0.mk (Kd.R_below (by (with_reducible repeat (first | apply Kd.R_alloc | apply Kd.R_drewN | apply Kd.R_drew)); exact (Kd.R_mono (Kd.R_far (p := ⟨gb561, 1, none⟩) (Kd.R_far (p := ⟨gb561, 0, none⟩) (Kd.R_types HO_7.out BK561.out (by decide)) (fun _ hk => hk.2) (.int .i64 t556)) (fun _ hk => hk.2) (.slice Ao82 t557.length co82)) (fun _ h_ => h_.1))) hb); replace HO_8 := Aside0.mk (Kd.R_below (by (with_reducible repeat (first | apply Kd.R_alloc | apply Kd.R_drewN | apply Kd.R_drew)); exact (Kd.R_mono (Kd.R_far (p := ⟨gb561, 1, none⟩) (Kd.R_far (p := ⟨gb561, 0, none⟩) (Kd.R_types HO_8.out BK561.out (by decide)) (fun _ hk => hk.2) (.int .i64 t556)) (fun _ hk => hk.2) (.slice Ao82 t557.length co82)) (fun _ h_ => h_.1))) hb); replace HO_536001 := Aside0.mk (Kd.V_elder' (by (with_reducible repeat (first | apply Kd.V_alloc | apply Kd.V_drewN | apply Kd.V_drew)); exact (Kd.V_mono (Kd.V_far (p := ⟨gb561, 1, none⟩) (Kd.V_far (p := ⟨gb561, 0, none⟩) (Kd.V_mono HO_536001.out (fun k_ hk => (⟨hk, hk.2⟩ : _ ∧ k_ ≠ gb561))) (fun _ hk => hk.2) (.int .i64 t556)) (fun _ hk => hk.2) (.slice Ao82 t557.length co82)) (fun _ h_ => h_.1))) (by first | exact Kd.N_base ho0 | exact Kd.R_base ho0) hb); replace HO559 := Aside0.mk (Kd.N_elder' (by (with_reducible repeat (first | apply Kd.N_alloc | apply Kd.N_drewN | apply Kd.N_drew)); exact (Kd.N_mono (Kd.N_far (p := ⟨gb561, 1, none⟩) (Kd.N_far (p := ⟨gb561, 0, none⟩) (Kd.N_mono HO559.out (fun k_ hk => (⟨hk, hk.2⟩ : _ ∧ k_ ≠ gb561))) (fun _ hk => hk.2) (.int .i64 t556)) (fun _ hk => hk.2) (.slice Ao82 t557.length co82)) (fun _ h_ => h_.1))) (by first | exact Kd.N_base ho0 | exact Kd.R_base ho0) hb); replace BK535 := Aside0.mk (blk_below (g := gb535) (o := .cells #[.int .i64 a0_0, .slice A0_1 l0_1.length c0_1] 24 (0, 0)) (by (with_reducible repeat (first | refine blk_drewN ?_ _ | refine blk_drew ?_ | refine blk_alloc ?_ _)); refine blk_far ?_ NB535_561.out _; (with_reducible repeat (first | refine blk_drewN ?_ _ | refine blk_drew ?_ | refine blk_alloc ?_ _)); refine blk_far ?_ NB535_561.out _; (with_reducible repeat (first | refine blk_drewN ?_ _ | refine blk_drew ?_ | refine blk_alloc ?_ _)); exact BK535.out) hb); replace BK561 := Aside0.mk (blk_below (g := gb561) (o := .cells #[.int .i64 t556, .slice Ao82 t557.length co82] 24 (0, 0)) (by (with_reducible repeat (first | refine blk_drewN ?_ _ | refine blk_drew ?_ | refine blk_alloc ?_ _)); refine blk_put (cs := #[.int .i64 t556, .slice none 0 0]) ?_ 1 _ rfl; (with_reducible repeat (first | refine blk_drewN ?_ _ | refine blk_drew ?_ | refine blk_alloc ?_ _)); refine blk_put (cs := #[.int .i64 0, .slice none 0 0]) ?_ 0 _ rfl; (with_reducible repeat (first | refine blk_drewN ?_ _ | refine blk_drew ?_ | refine blk_alloc ?_ _)); exact BK561.out) hb); replace HB := Aside0.mk (below_step bel hb); (try clear hb); (try clear hb2); (try clear hk); (try clear hi); (try clear ho0)) | ((with_reducible refine gate_dst (N := 15) rfl ?_); (try (refine gate_guard (by rfl) ?_; dsimp only)); refine box_event ?hg (N := 15) ?hd (cs := #[.int .i64 0, .slice none 0 0]) (t := 24) ?hr ?_; (case hd => rfl); (case hg => rfl); (case hr => first | (go_simp; done) | (go_simp; rfl)); intro gb567 hg w85 hbox hb; have BK567 := Aside0.mk (hbox); have GW567 := geB w hg; have GE567 := geB w hg; have NB535_567 := neL BK535 hg; have NB567_535 := neG BK535 hg; have NB561_567 := neL BK561 hg; have NB567_561 := neG BK561 hg; replace HO_7 := rD HO_7 hb; replace HO_8 := rD HO_8 hb; replace HO_536001 := vB HO_536001 hg hb; replace HO559 := nB HO559 hg hb; replace HO565 := nB HO565 hg hb; replace BK535 := blB BK535 hb; replace BK561 := blB BK561 hb; replace HB := Aside0.mk (below_step bel hb); clear hb hbox hg; have hnb86 := NB567_535.out; have hnc86 := NB535_567.out; have hnb87 := NB567_561.out; have hnc87 := NB561_567.out; obtain ⟨hcz88_0, hcz88_1, hfz88_0, hfz88_1⟩ := bq2 BK567; obtain ⟨Ao89, co89, eo89⟩ := Kd.N_slice HO565.out; subst eo89))
              (try simp only [Act.put, List.setIfInBounds_toArray, List.set_cons_zero, List.set_cons_succ])
              go_cut [125] (fun v125 wc => ∃ (kq : Nat) (x125_74 : Bool), v125 = .bool x125_74 ∧ Aside0 (paraphrastlaw01_ShapeNames.j5 kq l2 x7_43 x125_74 a0_0 l0_1 t556 t557 = some r) ∧ Aside0 (kq ≤ k4) ∧ Aside0 (Kd.R (Kd.int .i64) 3 wc w.heap.size (fun k_ => (w.heap.size ≤ k_)) (.slice Ao77 x7_43.length co77) x7_43) ∧ Aside0 (Kd.V k52 52 wc w.heap.size (fun k_ => (P0_1_ k_ ∨ w.heap.size ≤ k_) ∧ some k_ ≠ ((.slice Ao77 x7_43.length co77) : Value).ownBlock ∧ some k_ ≠ ((.slice Ao82 t557.length co82) : Value).ownBlock ∧ some k_ ≠ ((.slice Ao89 t563.length co89) : Value).ownBlock ∧ k_ ≠ gb535 ∧ k_ ≠ gb561 ∧ k_ ≠ gb567) (.slice A0_1 l0_1.length c0_1) l0_1) ∧ Aside0 (Kd.N k52 52 wc w.heap.size (fun k_ => (P0_1_ k_ ∨ w.heap.size ≤ k_) ∧ some k_ ≠ ((.slice Ao77 x7_43.length co77) : Value).ownBlock ∧ some k_ ≠ ((.slice Ao89 t563.length co89) : Value).ownBlock ∧ k_ ≠ gb535 ∧ k_ ≠ gb561 ∧ k_ ≠ gb567) (.slice Ao82 t557.length co82) t557) ∧ Aside0 (Kd.N k52 52 wc w.heap.size (fun k_ => (P0_1_ k_ ∨ w.heap.size ≤ k_) ∧ some k_ ≠ ((.slice Ao77 x7_43.length co77) : Value).ownBlock ∧ some k_ ≠ ((.slice Ao82 t557.length co82) : Value).ownBlock ∧ k_ ≠ gb535 ∧ k_ ≠ gb561 ∧ k_ ≠ gb567) (.slice Ao89 t563.length co89) t563) ∧ Aside0 (wc.heap[gb535]? = some (.cells #[.int .i64 a0_0, (.slice A0_1 l0_1.length c0_1)] 24 (0, 0))) ∧ Aside0 (wc.heap[gb561]? = some (.cells #[.int .i64 t556, (.slice Ao82 t557.length co82)] 24 (0, 0))) ∧ Aside0 (wc.heap[gb567]? = some (.cells #[.int .i64 t562, (.slice Ao89 t563.length co89)] 24 (0, 0))) ∧ Aside0 (Below w.heap.size w wc))
              case first => as_aux_lemma =>
               have H := HC75.out
               clear HC75
               by_cases c90 : t560 = 0
               ·rw [if_pos c90] at H
                have c90b0 : (t560 == 0) = true := beq_iff_eq.mpr c90
                have c90b1 : (t560 != 0) = false := bne_eq_false_iff_eq.mpr c90
                clear c90
                (first | rw [c90b0] | (simp only [i64_w, i32_w]; rw [c90b0]) | skip)
                by_cases c91 : t566 = 0
                ·rw [if_pos c91] at H
                 have c91b0 : (t566 == 0) = true := beq_iff_eq.mpr c91
                 have c91b1 : (t566 != 0) = false := bne_eq_false_iff_eq.mpr c91
                 clear c91
                 replace H := Option.bind_eq_some_iff.mp H
                 obtain ⟨t568, A920, H⟩ := H
                 replace H : (paraphrastlaw01_ShapeNames.j5 k4 l2 x7_43 (!t568) a0_0 l0_1 t556 t557) = some r := H
                 have A92 := Aside0.mk A920
                 clear A920
                 have H' := Aside0.mk H
                 clear H
                 have hnb93 := NB567_535.out
                 have hnc93 := NB535_567.out
                 have hnb94 := NB567_561.out
                 have hnc94 := NB561_567.out
                 obtain ⟨hcz95_0, hcz95_1, hfz95_0, hfz95_1⟩ := bq2 BK567
                 have hnb96 := NB535_561.out
                 have hnc96 := NB561_535.out
                 obtain ⟨hcz97_0, hcz97_1, hfz97_0, hfz97_1⟩ := bq2 BK535
                 go_wp2_with (first | (go_at_call 34; (with_reducible refine (paraphrastref01_Same.calls k4 t562 _ _ t563 a0_0 _ _ l0_1 t568 _ ?side1 ?side2 ?side3 ?side4 A92.out).mono ?_); (case side1 => refine (Kd.N_reads' (e := 52) (base := w.heap.size) (ok := fun k_ => (((P0_1_ k_ ∨ w.heap.size ≤ k_) ∧ (some k_ ≠ (.slice Ao77 x7_43.length co77 : Value).ownBlock ∧ (some k_ ≠ (.slice Ao83 x8_4.length co83 : Value).ownBlock ∧ (some k_ ≠ (.slice Ao82 t557.length co82 : Value).ownBlock ∧ (k_ ≠ gb535 ∧ k_ ≠ gb561))))) ∧ k_ ≠ gb567)) (n := t563.length) (c := co89) ?_).2.2; exact (by (with_reducible repeat (first | apply Kd.N_alloc | apply Kd.N_drewN | apply Kd.N_drew)); exact (Kd.N_mono (Kd.N_far (p := ⟨gb567, 1, none⟩) (Kd.N_far (p := ⟨gb567, 0, none⟩) (Kd.N_mono HO565.out (fun k_ hk => (⟨hk, hk.2⟩ : _ ∧ k_ ≠ gb567))) (fun _ hk => hk.2) (.int .i64 t562)) (fun _ hk => hk.2) (.slice Ao89 t563.length co89)) (fun _ h_ => h_.1)))); (case side2 => exact (Kd.N_reads' HO565.out).2.1); (case side3 => refine (Kd.V_reads' (e := 52) (base := w.heap.size) (ok := fun k_ => ((((((P0_1_ k_ ∨ w.heap.size ≤ k_) ∧ (some k_ ≠ (.slice Ao77 x7_43.length co77 : Value).ownBlock ∧ (some k_ ≠ (.slice Ao83 x8_4.length co83 : Value).ownBlock ∧ k_ ≠ gb535))) ∧ some k_ ≠ (.slice Ao82 t557.length co82 : Value).ownBlock) ∧ k_ ≠ gb561) ∧ some k_ ≠ (.slice Ao89 t563.length co89 : Value).ownBlock) ∧ k_ ≠ gb567)) (n := l0_1.length) (c := c0_1) ?_).2.2; exact (by (with_reducible repeat (first | apply Kd.V_alloc | apply Kd.V_drewN | apply Kd.V_drew)); exact (Kd.V_mono (Kd.V_far (p := ⟨gb567, 1, none⟩) (Kd.V_far (p := ⟨gb567, 0, none⟩) (Kd.V_mono HO_536001.out (fun k_ hk => (⟨hk, hk.2⟩ : _ ∧ k_ ≠ gb567))) (fun _ hk => hk.2) (.int .i64 t562)) (fun _ hk => hk.2) (.slice Ao89 t563.length co89)) (fun _ h_ => h_.1)))); (case side4 => exact (Kd.V_reads' HO_536001.out).2.1); rintro e w98 ⟨rfl, hb⟩; replace HO_7 := Aside0.mk (Kd.R_below (by (with_reducible repeat (first | apply Kd.R_alloc | apply Kd.R_drewN | apply Kd.R_drew)); exact (Kd.R_mono (Kd.R_far (p := ⟨gb567, 1, none⟩) (Kd.R_far (p := ⟨gb567, 0, none⟩) (Kd.R_types HO_7.out BK567.out (by decide)) (fun _ hk => hk.2) (.int .i64 t562)) (fun _ hk => hk.2) (.slice Ao89 t563.length co89)) (fun _ h_ => h_.1))) hb); replace HO_8 := Aside0.mk (Kd.R_below (by (with_reducible repeat (first | apply Kd.R_alloc | apply Kd.R_drewN | apply Kd.R_drew)); exact (Kd.R_mono (Kd.R_far (p := ⟨gb567, 1, none⟩) (Kd.R_far (p := ⟨gb567, 0, none⟩) (Kd.R_types HO_8.out BK567.out (by decide)) (fun _ hk => hk.2) (.int .i64 t562)) (fun _ hk => hk.2) (.slice Ao89 t563.length co89)) (fun _ h_ => h_.1))) hb); replace HO_536001 := Aside0.mk (Kd.V_below (by (with_reducible repeat (first | apply Kd.V_alloc | apply Kd.V_drewN | apply Kd.V_drew)); exact (Kd.V_mono (Kd.V_far (p := ⟨gb567, 1, none⟩) (Kd.V_far (p := ⟨gb567, 0, none⟩) (Kd.V_mono HO_536001.out (fun k_ hk => (⟨hk, hk.2⟩ : _ ∧ k_ ≠ gb567))) (fun _ hk => hk.2) (.int .i64 t562)) (fun _ hk => hk.2) (.slice Ao89 t563.length co89)) (fun _ h_ => h_.1))) hb); replace HO559 := Aside0.mk (Kd.N_below (by (with_reducible repeat (first | apply Kd.N_alloc | apply Kd.N_drewN | apply Kd.N_drew)); exact (Kd.N_mono (Kd.N_far (p := ⟨gb567, 1, none⟩) (Kd.N_far (p := ⟨gb567, 0, none⟩) (Kd.N_mono HO559.out (fun k_ hk => (⟨hk, hk.2⟩ : _ ∧ k_ ≠ gb567))) (fun _ hk => hk.2) (.int .i64 t562)) (fun _ hk => hk.2) (.slice Ao89 t563.length co89)) (fun _ h_ => h_.1))) hb); replace HO565 := Aside0.mk (Kd.N_below (by (with_reducible repeat (first | apply Kd.N_alloc | apply Kd.N_drewN | apply Kd.N_drew)); exact (Kd.N_mono (Kd.N_far (p := ⟨gb567, 1, none⟩) (Kd.N_far (p := ⟨gb567, 0, none⟩) (Kd.N_mono HO565.out (fun k_ hk => (⟨hk, hk.2⟩ : _ ∧ k_ ≠ gb567))) (fun _ hk => hk.2) (.int .i64 t562)) (fun _ hk => hk.2) (.slice Ao89 t563.length co89)) (fun _ h_ => h_.1))) hb); replace BK535 := Aside0.mk (blk_below (g := gb535) (o := .cells #[.int .i64 a0_0, .slice A0_1 l0_1.length c0_1] 24 (0, 0)) (by (with_reducible repeat (first | refine blk_drewN ?_ _ | refine blk_drew ?_ | refine blk_alloc ?_ _)); refine blk_far ?_ NB535_567.out _; (with_reducible repeat (first | refine blk_drewN ?_ _ | refine blk_drew ?_ | refine blk_alloc ?_ _)); refine blk_far ?_ NB535_567.out _; (with_reducible repeat (first | refine blk_drewN ?_ _ | refine blk_drew ?_ | refine blk_alloc ?_ _)); exact BK535.out) hb); replace BK561 := Aside0.mk (blk_below (g := gb561) (o := .cells #[.int .i64 t556, .slice Ao82 t557.length co82] 24 (0, 0)) (by (with_reducible repeat (first | refine blk_drewN ?_ _ | refine blk_drew ?_ | refine blk_alloc ?_ _)); refine blk_far ?_ NB561_567.out _; (with_reducible repeat (first | refine blk_drewN ?_ _ | refine blk_drew ?_ | refine blk_alloc ?_ _)); refine blk_far ?_ NB561_567.out _; (with_reducible repeat (first | refine blk_drewN ?_ _ | refine blk_drew ?_ | refine blk_alloc ?_ _)); exact BK561.out) hb); replace BK567 := Aside0.mk (blk_below (g := gb567) (o := .cells #[.int .i64 t562, .slice Ao89 t563.length co89] 24 (0, 0)) (by (with_reducible repeat (first | refine blk_drewN ?_ _ | refine blk_drew ?_ | refine blk_alloc ?_ _)); refine blk_put (cs := #[.int .i64 t562, .slice none 0 0]) ?_ 1 _ rfl; (with_reducible repeat (first | refine blk_drewN ?_ _ | refine blk_drew ?_ | refine blk_alloc ?_ _)); refine blk_put (cs := #[.int .i64 0, .slice none 0 0]) ?_ 0 _ rfl; (with_reducible repeat (first | refine blk_drewN ?_ _ | refine blk_drew ?_ | refine blk_alloc ?_ _)); exact BK567.out) hb); replace HB := Aside0.mk (below_step bel hb); (try clear hb); (try clear hb2); (try clear hk); (try clear hi)))
                 go_meet
                 case rel => exact ⟨_, (!t568), eS, H', ⟨by have := HJ3.out; have := HK2.out; have := HJ43.out; have := HK4.out; first | omega | exact Nat.le_refl _⟩, ⟨by (with_reducible repeat (first | apply Kd.R_alloc | apply Kd.R_drewN | apply Kd.R_drew)); exact Kd.R_mono HO_7.out (fun _ hk => hk.1)⟩, ⟨by (with_reducible repeat (first | apply Kd.V_alloc | apply Kd.V_drewN | apply Kd.V_drew)); exact Kd.V_mono HO_536001.out (fun _ hk => ⟨hk.1.1.1.1.1, ⟨hk.1.1.1.1.2.1, ⟨hk.1.1.1.2, ⟨hk.1.2, ⟨hk.1.1.1.1.2.2.2, ⟨hk.1.1.2, hk.2⟩⟩⟩⟩⟩⟩)⟩, ⟨by (with_reducible repeat (first | apply Kd.N_alloc | apply Kd.N_drewN | apply Kd.N_drew)); exact Kd.N_mono HO559.out (fun _ hk => ⟨hk.1.1.1.1, ⟨hk.1.1.1.2.1, ⟨hk.1.2, ⟨hk.1.1.1.2.2.2, ⟨hk.1.1.2, hk.2⟩⟩⟩⟩⟩)⟩, ⟨by (with_reducible repeat (first | apply Kd.N_alloc | apply Kd.N_drewN | apply Kd.N_drew)); exact Kd.N_mono HO565.out (fun _ hk => ⟨hk.1.1, ⟨hk.1.2.1, ⟨hk.1.2.2.2.1, ⟨hk.1.2.2.2.2.1, ⟨hk.1.2.2.2.2.2, hk.2⟩⟩⟩⟩⟩)⟩, ⟨bk BK535⟩, ⟨bk BK561⟩, ⟨bk BK567⟩, ⟨bel⟩⟩
                ·rw [if_neg c91] at H
                 have c91b0 : (t566 == 0) = false := beq_eq_false_iff_ne.mpr c91
                 have c91b1 : (t566 != 0) = true := bne_iff_ne.mpr c91
                 have H' := Aside0.mk H
                 clear H
                 go_wp2
                 go_meet
                 case rel => exact ⟨_, (true), eS, H', ⟨by have := HJ3.out; have := HK2.out; have := HJ43.out; have := HK4.out; first | omega | exact Nat.le_refl _⟩, ⟨by (with_reducible repeat (first | apply Kd.R_alloc | apply Kd.R_drewN | apply Kd.R_drew)); exact Kd.R_mono (Kd.R_far (p := ⟨gb567, 1, none⟩) (Kd.R_far (p := ⟨gb567, 0, none⟩) (Kd.R_types HO_7.out BK567.out (by decide)) (fun _ hk => hk.2) (.int .i64 t562)) (fun _ hk => hk.2) (.slice Ao89 t563.length co89)) (fun _ hk => hk.1.1)⟩, ⟨by (with_reducible repeat (first | apply Kd.V_alloc | apply Kd.V_drewN | apply Kd.V_drew)); exact Kd.V_mono (Kd.V_far (p := ⟨gb567, 1, none⟩) (Kd.V_far (p := ⟨gb567, 0, none⟩) (Kd.V_mono HO_536001.out (fun k_ hk => (⟨hk, hk.2⟩ : _ ∧ k_ ≠ gb567))) (fun _ hk => hk.2) (.int .i64 t562)) (fun _ hk => hk.2) (.slice Ao89 t563.length co89)) (fun _ hk => ⟨hk.1.1.1.1.1.1, ⟨hk.1.1.1.1.1.2.1, ⟨hk.1.1.1.1.2, ⟨hk.1.1.2, ⟨hk.1.1.1.1.1.2.2.2, ⟨hk.1.1.1.2, hk.1.2⟩⟩⟩⟩⟩⟩)⟩, ⟨by (with_reducible repeat (first | apply Kd.N_alloc | apply Kd.N_drewN | apply Kd.N_drew)); exact Kd.N_mono (Kd.N_far (p := ⟨gb567, 1, none⟩) (Kd.N_far (p := ⟨gb567, 0, none⟩) (Kd.N_mono HO559.out (fun k_ hk => (⟨hk, hk.2⟩ : _ ∧ k_ ≠ gb567))) (fun _ hk => hk.2) (.int .i64 t562)) (fun _ hk => hk.2) (.slice Ao89 t563.length co89)) (fun _ hk => ⟨hk.1.1.1.1.1, ⟨hk.1.1.1.1.2.1, ⟨hk.1.1.2, ⟨hk.1.1.1.1.2.2.2, ⟨hk.1.1.1.2, hk.1.2⟩⟩⟩⟩⟩)⟩, ⟨by (with_reducible repeat (first | apply Kd.N_alloc | apply Kd.N_drewN | apply Kd.N_drew)); exact Kd.N_mono (Kd.N_far (p := ⟨gb567, 1, none⟩) (Kd.N_far (p := ⟨gb567, 0, none⟩) (Kd.N_mono HO565.out (fun k_ hk => (⟨hk, hk.2⟩ : _ ∧ k_ ≠ gb567))) (fun _ hk => hk.2) (.int .i64 t562)) (fun _ hk => hk.2) (.slice Ao89 t563.length co89)) (fun _ hk => ⟨hk.1.1.1, ⟨hk.1.1.2.1, ⟨hk.1.1.2.2.2.1, ⟨hk.1.1.2.2.2.2.1, ⟨hk.1.1.2.2.2.2.2, hk.1.2⟩⟩⟩⟩⟩)⟩, ⟨by (with_reducible repeat (first | refine blk_drewN ?_ _ | refine blk_drew ?_ | refine blk_alloc ?_ _)); refine blk_far ?_ NB535_567.out _; (with_reducible repeat (first | refine blk_drewN ?_ _ | refine blk_drew ?_ | refine blk_alloc ?_ _)); refine blk_far ?_ NB535_567.out _; (with_reducible repeat (first | refine blk_drewN ?_ _ | refine blk_drew ?_ | refine blk_alloc ?_ _)); exact BK535.out⟩, ⟨by (with_reducible repeat (first | refine blk_drewN ?_ _ | refine blk_drew ?_ | refine blk_alloc ?_ _)); refine blk_far ?_ NB561_567.out _; (with_reducible repeat (first | refine blk_drewN ?_ _ | refine blk_drew ?_ | refine blk_alloc ?_ _)); refine blk_far ?_ NB561_567.out _; (with_reducible repeat (first | refine blk_drewN ?_ _ | refine blk_drew ?_ | refine blk_alloc ?_ _)); exact BK561.out⟩, ⟨by (with_reducible repeat (first | refine blk_drewN ?_ _ | refine blk_drew ?_ | refine blk_alloc ?_ _)); refine blk_put (cs := #[.int .i64 t562, .slice none 0 0]) ?_ 1 _ rfl; (with_reducible repeat (first | refine blk_drewN ?_ _ | refine blk_drew ?_ | refine blk_alloc ?_ _)); refine blk_put (cs := #[.int .i64 0, .slice none 0 0]) ?_ 0 _ rfl; (with_reducible repeat (first | refine blk_drewN ?_ _ | refine blk_drew ?_ | refine blk_alloc ?_ _)); exact BK567.out⟩, ⟨bel⟩⟩
               ·rw [if_neg c90] at H
                have c90b0 : (t560 == 0) = false := beq_eq_false_iff_ne.mpr c90
                have c90b1 : (t560 != 0) = true := bne_iff_ne.mpr c90
                (first | rw [c90b0] | (simp only [i64_w, i32_w]; rw [c90b0]) | skip)
                have H' := Aside0.mk H
                clear H
                go_wp2
                go_meet
                case rel => exact ⟨_, (true), eS, H', ⟨by have := HJ3.out; have := HK2.out; have := HJ43.out; have := HK4.out; first | omega | exact Nat.le_refl _⟩, ⟨by (with_reducible repeat (first | apply Kd.R_alloc | apply Kd.R_drewN | apply Kd.R_drew)); exact Kd.R_mono (Kd.R_far (p := ⟨gb567, 1, none⟩) (Kd.R_far (p := ⟨gb567, 0, none⟩) (Kd.R_types HO_7.out BK567.out (by decide)) (fun _ hk => hk.2) (.int .i64 t562)) (fun _ hk => hk.2) (.slice Ao89 t563.length co89)) (fun _ hk => hk.1.1)⟩, ⟨by (with_reducible repeat (first | apply Kd.V_alloc | apply Kd.V_drewN | apply Kd.V_drew)); exact Kd.V_mono (Kd.V_far (p := ⟨gb567, 1, none⟩) (Kd.V_far (p := ⟨gb567, 0, none⟩) (Kd.V_mono HO_536001.out (fun k_ hk => (⟨hk, hk.2⟩ : _ ∧ k_ ≠ gb567))) (fun _ hk => hk.2) (.int .i64 t562)) (fun _ hk => hk.2) (.slice Ao89 t563.length co89)) (fun _ hk => ⟨hk.1.1.1.1.1.1, ⟨hk.1.1.1.1.1.2.1, ⟨hk.1.1.1.1.2, ⟨hk.1.1.2, ⟨hk.1.1.1.1.1.2.2.2, ⟨hk.1.1.1.2, hk.1.2⟩⟩⟩⟩⟩⟩)⟩, ⟨by (with_reducible repeat (first | apply Kd.N_alloc | apply Kd.N_drewN | apply Kd.N_drew)); exact Kd.N_mono (Kd.N_far (p := ⟨gb567, 1, none⟩) (Kd.N_far (p := ⟨gb567, 0, none⟩) (Kd.N_mono HO559.out (fun k_ hk => (⟨hk, hk.2⟩ : _ ∧ k_ ≠ gb567))) (fun _ hk => hk.2) (.int .i64 t562)) (fun _ hk => hk.2) (.slice Ao89 t563.length co89)) (fun _ hk => ⟨hk.1.1.1.1.1, ⟨hk.1.1.1.1.2.1, ⟨hk.1.1.2, ⟨hk.1.1.1.1.2.2.2, ⟨hk.1.1.1.2, hk.1.2⟩⟩⟩⟩⟩)⟩, ⟨by (with_reducible repeat (first | apply Kd.N_alloc | apply Kd.N_drewN | apply Kd.N_drew)); exact Kd.N_mono (Kd.N_far (p := ⟨gb567, 1, none⟩) (Kd.N_far (p := ⟨gb567, 0, none⟩) (Kd.N_mono HO565.out (fun k_ hk => (⟨hk, hk.2⟩ : _ ∧ k_ ≠ gb567))) (fun _ hk => hk.2) (.int .i64 t562)) (fun _ hk => hk.2) (.slice Ao89 t563.length co89)) (fun _ hk => ⟨hk.1.1.1, ⟨hk.1.1.2.1, ⟨hk.1.1.2.2.2.1, ⟨hk.1.1.2.2.2.2.1, ⟨hk.1.1.2.2.2.2.2, hk.1.2⟩⟩⟩⟩⟩)⟩, ⟨by (with_reducible repeat (first | refine blk_drewN ?_ _ | refine blk_drew ?_ | refine blk_alloc ?_ _)); refine blk_far ?_ NB535_567.out _; (with_reducible repeat (first | refine blk_drewN ?_ _ | refine blk_drew ?_ | refine blk_alloc ?_ _)); refine blk_far ?_ NB535_567.out _; (with_reducible repeat (first | refine blk_drewN ?_ _ | refine blk_drew ?_ | refine blk_alloc ?_ _)); exact BK535.out⟩, ⟨by (with_reducible repeat (first | refine blk_drewN ?_ _ | refine blk_drew ?_ | refine blk_alloc ?_ _)); refine blk_far ?_ NB561_567.out _; (with_reducible repeat (first | refine blk_drewN ?_ _ | refine blk_drew ?_ | refine blk_alloc ?_ _)); refine blk_far ?_ NB561_567.out _; (with_reducible repeat (first | refine blk_drewN ?_ _ | refine blk_drew ?_ | refine blk_alloc ?_ _)); exact BK561.out⟩, ⟨by (with_reducible repeat (first | refine blk_drewN ?_ _ | refine blk_drew ?_ | refine blk_alloc ?_ _)); refine blk_put (cs := #[.int .i64 t562, .slice none 0 0]) ?_ 1 _ rfl; (with_reducible repeat (first | refine blk_drewN ?_ _ | refine blk_drew ?_ | refine blk_alloc ?_ _)); refine blk_put (cs := #[.int .i64 0, .slice none 0 0]) ?_ 0 _ rfl; (with_reducible repeat (first | refine blk_drewN ?_ _ | refine blk_drew ?_ | refine blk_alloc ?_ _)); exact BK567.out⟩, ⟨bel⟩⟩
              case rest => as_aux_lemma =>
               clear HC75
               (try clear c1); (try clear c2); (try clear c26); (try clear c29); (try clear c29b0); (try clear c29b1); (try clear c30); (try clear c30b0); (try clear c30b1); (try clear c37); (try clear c37b0); (try clear c63); (try clear c63b0); (try clear hcz45_0); (try clear hcz45_1); (try clear hcz76_0); (try clear hcz76_1); (try clear hcz81_0); (try clear hcz81_1); (try clear hcz88_0); (try clear hcz88_1); (try clear hfz45_0); (try clear hfz45_1); (try clear hfz76_0); (try clear hfz76_1); (try clear hfz81_0); (try clear hfz81_1); (try clear hfz88_0); (try clear hfz88_1)
               obtain ⟨kq, x125_74, rfl, HA, HJ74, HO_7, HO_536001, HO_562001, HO_568001, BK535, BK561, BK567, HB⟩ := hcut
               cases kq with
               | zero => exact absurd HA.out (by simp [paraphrastlaw01_ShapeNames.j5])
               | succ kj74 =>
                have H := HA.out
                clear HA
                simp only [paraphrastlaw01_ShapeNames.j5] at H
                by_cases c99 : x125_74 = true
                ·subst c99
                 have H1 : (some false) = some r := by rw [if_pos rfl] at H; exact H
                 clear H
                 have H := H1
                 clear H1
                 obtain rfl := Option.some.inj H
                 go_wp2
                 go_ret
                 exact ⟨eN, bel⟩
                ·replace c99 := Bool.eq_false_iff.mpr c99
                 subst c99
                 have H1 : (paraphrastlaw01_ShapeNames.l3 kj74 l2 x7_43 0 a0_0 l0_1 t556 t557) = some r := by rw [if_neg (show ¬ (false = true) by decide)] at H; exact H
                 clear H
                 have H := H1
                 clear H1
                 have H' := Aside0.mk H
                 clear H
                 go_wp2
                 go_loopg [17] kj74 (fun kq v17 w' => ∃ (x17_6 : Int), v17 = .int .i64 x17_6 ∧ Aside0 (paraphrastlaw01_ShapeNames.l3 kq l2 x7_43 x17_6 a0_0 l0_1 t556 t557 = some r) ∧ Aside0 (kq ≤ kj74) ∧ Aside0 (Kd.R (Kd.int .i64) 3 w' w.heap.size (fun k_ => (w.heap.size ≤ k_)) (.slice Ao77 x7_43.length co77) x7_43) ∧ Aside0 (Kd.V k52 52 w' w.heap.size (fun k_ => (P0_1_ k_ ∨ w.heap.size ≤ k_) ∧ some k_ ≠ ((.slice Ao77 x7_43.length co77) : Value).ownBlock ∧ some k_ ≠ ((.slice Ao82 t557.length co82) : Value).ownBlock ∧ some k_ ≠ ((.slice Ao89 t563.length co89) : Value).ownBlock ∧ k_ ≠ gb535 ∧ k_ ≠ gb561 ∧ k_ ≠ gb567) (.slice A0_1 l0_1.length c0_1) l0_1) ∧ Aside0 (Kd.N k52 52 w' w.heap.size (fun k_ => (P0_1_ k_ ∨ w.heap.size ≤ k_) ∧ some k_ ≠ ((.slice Ao77 x7_43.length co77) : Value).ownBlock ∧ some k_ ≠ ((.slice Ao89 t563.length co89) : Value).ownBlock ∧ k_ ≠ gb535 ∧ k_ ≠ gb561 ∧ k_ ≠ gb567) (.slice Ao82 t557.length co82) t557) ∧ Aside0 (Kd.N k52 52 w' w.heap.size (fun k_ => (P0_1_ k_ ∨ w.heap.size ≤ k_) ∧ some k_ ≠ ((.slice Ao77 x7_43.length co77) : Value).ownBlock ∧ some k_ ≠ ((.slice Ao82 t557.length co82) : Value).ownBlock ∧ k_ ≠ gb535 ∧ k_ ≠ gb561 ∧ k_ ≠ gb567) (.slice Ao89 t563.length co89) t563) ∧ Aside0 (w'.heap[gb535]? = some (.cells #[.int .i64 a0_0, (.slice A0_1 l0_1.length c0_1)] 24 (0, 0))) ∧ Aside0 (w'.heap[gb561]? = some (.cells #[.int .i64 t556, (.slice Ao82 t557.length co82)] 24 (0, 0))) ∧ Aside0 (w'.heap[gb567]? = some (.cells #[.int .i64 t562, (.slice Ao89 t563.length co89)] 24 (0, 0))) ∧ Aside0 (Below w.heap.size w w'))
                 case atStart => exact ⟨(0), eS, H', ⟨Nat.le_refl _⟩, ⟨by (with_reducible repeat (first | apply Kd.R_alloc | apply Kd.R_drewN | apply Kd.R_drew)); exact HO_7.out⟩, ⟨by (with_reducible repeat (first | apply Kd.V_alloc | apply Kd.V_drewN | apply Kd.V_drew)); exact HO_536001.out⟩, ⟨by (with_reducible repeat (first | apply Kd.N_alloc | apply Kd.N_drewN | apply Kd.N_drew)); exact HO_562001.out⟩, ⟨by (with_reducible repeat (first | apply Kd.N_alloc | apply Kd.N_drewN | apply Kd.N_drew)); exact HO_568001.out⟩, ⟨bk BK535⟩, ⟨bk BK561⟩, ⟨bk BK567⟩, ⟨bel⟩⟩
                 case round => as_aux_lemma =>
                  clear H'
                  (try clear c1); (try clear c2); (try clear c26); (try clear c29); (try clear c29b0); (try clear c29b1); (try clear c30); (try clear c30b0); (try clear c30b1); (try clear c37); (try clear c37b0); (try clear c63); (try clear c63b0); (try clear c99); (try clear hcz45_0); (try clear hcz45_1); (try clear hcz76_0); (try clear hcz76_1); (try clear hcz81_0); (try clear hcz81_1); (try clear hcz88_0); (try clear hcz88_1); (try clear hfz45_0); (try clear hfz45_1); (try clear hfz76_0); (try clear hfz76_1); (try clear hfz81_0); (try clear hfz81_1); (try clear hfz88_0); (try clear hfz88_1)
                  obtain ⟨x17_6, rfl, HA, HK6, HO_7, HO_536001, HO_562001, HO_568001, BK535, BK561, BK567, HB⟩ := hrel
                  cases gk with
                  | zero => exact absurd HA.out (by simp [paraphrastlaw01_ShapeNames.l3])
                  | succ k6 =>
                   have H := HA.out
                   clear HA
                   simp only [paraphrastlaw01_ShapeNames.l3] at H
                   by_cases c100 : x17_6 < (l0_1.length : Int)
                   ·rw [if_pos c100] at H
                    have c100b0 : decide (x17_6 < (l0_1.length : Int)) = true := decide_eq_true c100
                    clear c100
                    by_cases c101 : 0 ≤ x17_6
                    ·rw [if_pos c101] at H
                     have c101b0 : decide (0 ≤ x17_6) = true := decide_eq_true c101
                     clear c101
                     by_cases c102 : (l2.length : Int) < ((rd_T52 l0_1 x17_6).f1)
                     ·rw [if_pos c102] at H
                      have c102b0 : decide ((l2.length : Int) < ((rd_T52 l0_1 x17_6).f1)) = true := decide_eq_true c102
                      clear c102
                      have H' := Aside0.mk H
                      clear H
                      have hnb103 := NB535_561.out
                      have hnc103 := NB561_535.out
                      have hnb104 := NB535_567.out
                      have hnc104 := NB567_535.out
                      obtain ⟨hcz105_0, hcz105_1, hfz105_0, hfz105_1⟩ := bq2 BK535
                      have p570 : 0 ≤ (x17_6 : Int) := dtr
                      have q570 : x17_6 < (l0_1.length : Int) := dtr
                      obtain ⟨ad570, A570_2, c570_2, e570, hx570_0, hx570_1, hx570_2, hl570_2, hi570_2⟩ := at_T52 (Kd.V_reads' HO_536001.out).2.2 x17_6 p570 q570
                      cases e570
                      obtain ⟨ce570, hce570, hMe570, hcc570⟩ := Kd.V_get HO_536001.out z52 x17_6 p570 (by first | exact q570 | exact dtr | (have e_ := (Kd.V_reads' HO_536001.out).1; omega))
                      obtain ⟨ua570_2, uc570_2, rfl, ul570_2, ge570_2⟩ := k52_openF hMe570
                      have hv570_2 := hcc570 2 _ rfl
                      rw [add_field _ _ 2 (by omega)] at hv570_2
                      replace hv570_2 := Option.some.inj (hv570_2.symm.trans hx570_2)
                      injection hv570_2 with hva_ hvn_ hvc_
                      rw [hva_] at ge570_2
                      rw [hvc_] at ul570_2
                      have HL570_2 := Aside0.mk (show Kd.V (Kd.slice 3 (Kd.int .i64)) 46 _ w.heap.size _ _ ((rd_T52 l0_1 x17_6).f2) from Kd.V_mk ul570_2 ge570_2)
                      clear hva_ hvn_ hvc_ ge570_2 ul570_2
                      clear hcc570 hce570
                      have HR570_2 := Aside0.mk hi570_2
                      have HC570_2 := Aside0.mk hl570_2
                      clear hi570_2 hl570_2
                      replace p570 := eq_true p570
                      replace q570 := eq_true q570
                      go_wp2
                      go_roundg k6
                      case measure => have := HJ3.out; have := HK2.out; have := HJ43.out; have := HK4.out; have := HJ74.out; have := HK6.out; omega
                      case rel => exact ⟨(wrap64 (x17_6 + 1)), eS, H', ⟨by have := HJ3.out; have := HK2.out; have := HJ43.out; have := HK4.out; have := HJ74.out; have := HK6.out; omega⟩, ⟨by (with_reducible repeat (first | apply Kd.R_alloc | apply Kd.R_drewN | apply Kd.R_drew)); exact HO_7.out⟩, ⟨by (with_reducible repeat (first | apply Kd.V_alloc | apply Kd.V_drewN | apply Kd.V_drew)); exact HO_536001.out⟩, ⟨by (with_reducible repeat (first | apply Kd.N_alloc | apply Kd.N_drewN | apply Kd.N_drew)); exact HO_562001.out⟩, ⟨by (with_reducible repeat (first | apply Kd.N_alloc | apply Kd.N_drewN | apply Kd.N_drew)); exact HO_568001.out⟩, ⟨bk BK535⟩, ⟨bk BK561⟩, ⟨bk BK567⟩, ⟨bel⟩⟩
                     ·rw [if_neg c102] at H
                      have c102b0 : decide ((l2.length : Int) < ((rd_T52 l0_1 x17_6).f1)) = false := decide_eq_false c102
                      clear c102
                      have H' := Aside0.mk H
                      clear H
                      have hnb106 := NB535_561.out
                      have hnc106 := NB561_535.out
                      have hnb107 := NB535_567.out
                      have hnc107 := NB567_535.out
                      obtain ⟨hcz108_0, hcz108_1, hfz108_0, hfz108_1⟩ := bq2 BK535
                      have p570 : 0 ≤ (x17_6 : Int) := dtr
                      have q570 : x17_6 < (l0_1.length : Int) := dtr
                      obtain ⟨ad570, A570_2, c570_2, e570, hx570_0, hx570_1, hx570_2, hl570_2, hi570_2⟩ := at_T52 (Kd.V_reads' HO_536001.out).2.2 x17_6 p570 q570
                      cases e570
                      obtain ⟨ce570, hce570, hMe570, hcc570⟩ := Kd.V_get HO_536001.out z52 x17_6 p570 (by first | exact q570 | exact dtr | (have e_ := (Kd.V_reads' HO_536001.out).1; omega))
                      obtain ⟨ua570_2, uc570_2, rfl, ul570_2, ge570_2⟩ := k52_openF hMe570
                      have hv570_2 := hcc570 2 _ rfl
                      rw [add_field _ _ 2 (by omega)] at hv570_2
                      replace hv570_2 := Option.some.inj (hv570_2.symm.trans hx570_2)
                      injection hv570_2 with hva_ hvn_ hvc_
                      rw [hva_] at ge570_2
                      rw [hvc_] at ul570_2
                      have HL570_2 := Aside0.mk (show Kd.V (Kd.slice 3 (Kd.int .i64)) 46 _ w.heap.size _ _ ((rd_T52 l0_1 x17_6).f2) from Kd.V_mk ul570_2 ge570_2)
                      clear hva_ hvn_ hvc_ ge570_2 ul570_2
                      clear hcc570 hce570
                      have HR570_2 := Aside0.mk hi570_2
                      have HC570_2 := Aside0.mk hl570_2
                      clear hi570_2 hl570_2
                      replace p570 := eq_true p570
                      replace q570 := eq_true q570
                      go_wp2
                      go_loopg [18, 19] k6 (fun kq v18 v19 w' => ∃ (x18_7 : List Int) (x19_7 : Int), v19 = .int .i64 x19_7 ∧ Aside0 (paraphrastlaw01_ShapeNames.l4 kq l2 x7_43 x17_6 x18_7 x19_7 a0_0 l0_1 t556 t557 = some r) ∧ Aside0 (kq ≤ k6) ∧ Aside0 (Kd.R (Kd.int .i64) 3 w' w.heap.size (fun k_ => (w.heap.size ≤ k_) ∧ some k_ ≠ (v18 : Value).ownBlock) (.slice Ao77 x7_43.length co77) x7_43) ∧ Aside0 (Kd.R (Kd.int .i64) 3 w' w.heap.size (fun k_ => (w.heap.size ≤ k_) ∧ some k_ ≠ ((.slice Ao77 x7_43.length co77) : Value).ownBlock) v18 x18_7) ∧ Aside0 (Kd.V k52 52 w' w.heap.size (fun k_ => (P0_1_ k_ ∨ w.heap.size ≤ k_) ∧ some k_ ≠ ((.slice Ao77 x7_43.length co77) : Value).ownBlock ∧ some k_ ≠ (v18 : Value).ownBlock ∧ some k_ ≠ ((.slice Ao82 t557.length co82) : Value).ownBlock ∧ some k_ ≠ ((.slice Ao89 t563.length co89) : Value).ownBlock ∧ k_ ≠ gb535 ∧ k_ ≠ gb561 ∧ k_ ≠ gb567) (.slice (some ad570) l0_1.length c0_1) l0_1) ∧ Aside0 (Kd.N k52 52 w' w.heap.size (fun k_ => (P0_1_ k_ ∨ w.heap.size ≤ k_) ∧ some k_ ≠ ((.slice Ao77 x7_43.length co77) : Value).ownBlock ∧ some k_ ≠ (v18 : Value).ownBlock ∧ some k_ ≠ ((.slice Ao89 t563.length co89) : Value).ownBlock ∧ k_ ≠ gb535 ∧ k_ ≠ gb561 ∧ k_ ≠ gb567) (.slice Ao82 t557.length co82) t557) ∧ Aside0 (Kd.N k52 52 w' w.heap.size (fun k_ => (P0_1_ k_ ∨ w.heap.size ≤ k_) ∧ some k_ ≠ ((.slice Ao77 x7_43.length co77) : Value).ownBlock ∧ some k_ ≠ (v18 : Value).ownBlock ∧ some k_ ≠ ((.slice Ao82 t557.length co82) : Value).ownBlock ∧ k_ ≠ gb535 ∧ k_ ≠ gb561 ∧ k_ ≠ gb567) (.slice Ao89 t563.length co89) t563) ∧ Aside0 (w'.heap[gb535]? = some (.cells #[.int .i64 a0_0, (.slice (some ad570) l0_1.length c0_1)] 24 (0, 0))) ∧ Aside0 (w'.heap[gb561]? = some (.cells #[.int .i64 t556, (.slice Ao82 t557.length co82)] 24 (0, 0))) ∧ Aside0 (w'.heap[gb567]? = some (.cells #[.int .i64 t562, (.slice Ao89 t563.length co89)] 24 (0, 0))) ∧ Aside0 (Below w.heap.size w w'))
                      case atStart => exact ⟨(([] : List Int)), (0), eS, H', ⟨Nat.le_refl _⟩, ⟨by (with_reducible repeat (first | apply Kd.R_alloc | apply Kd.R_drewN | apply Kd.R_drew)); exact Kd.R_mono HO_7.out (fun _ hk => ⟨hk, (by simp [Value.ownBlock])⟩)⟩, ⟨by first | exact Kd.R_nil _ _ _ _ _ | exact Kd.N_nil _ _ _ _ _ | exact Kd.V_nil _ _ _ _ _ | exact Kd.Q_nil _ _ _ _ _ | exact Kd.S_nil _ _ _ _ _⟩, ⟨by (with_reducible repeat (first | apply Kd.V_alloc | apply Kd.V_drewN | apply Kd.V_drew)); exact Kd.V_mono HO_536001.out (fun _ hk => ⟨hk.1, ⟨hk.2.1, ⟨(by simp [Value.ownBlock]), ⟨hk.2.2.1, ⟨hk.2.2.2.1, ⟨hk.2.2.2.2.1, ⟨hk.2.2.2.2.2.1, hk.2.2.2.2.2.2⟩⟩⟩⟩⟩⟩⟩)⟩, ⟨by (with_reducible repeat (first | apply Kd.N_alloc | apply Kd.N_drewN | apply Kd.N_drew)); exact Kd.N_mono HO_562001.out (fun _ hk => ⟨hk.1, ⟨hk.2.1, ⟨(by simp [Value.ownBlock]), ⟨hk.2.2.1, ⟨hk.2.2.2.1, ⟨hk.2.2.2.2.1, hk.2.2.2.2.2⟩⟩⟩⟩⟩⟩)⟩, ⟨by (with_reducible repeat (first | apply Kd.N_alloc | apply Kd.N_drewN | apply Kd.N_drew)); exact Kd.N_mono HO_568001.out (fun _ hk => ⟨hk.1, ⟨hk.2.1, ⟨(by simp [Value.ownBlock]), ⟨hk.2.2.1, ⟨hk.2.2.2.1, ⟨hk.2.2.2.2.1, hk.2.2.2.2.2⟩⟩⟩⟩⟩⟩)⟩, ⟨bk BK535⟩, ⟨bk BK561⟩, ⟨bk BK567⟩, ⟨bel⟩⟩
                      case round => as_aux_lemma =>
                       clear H'
                       (try clear c1); (try clear c2); (try clear c26); (try clear c29); (try clear c29b0); (try clear c29b1); (try clear c30); (try clear c30b0); (try clear c30b1); (try clear c37); (try clear c37b0); (try clear c63); (try clear c63b0); (try clear c99); (try clear c100); (try clear c100b0); (try clear c101); (try clear c101b0); (try clear c102); (try clear c102b0); (try clear hcz108_0); (try clear hcz108_1); (try clear hcz45_0); (try clear hcz45_1); (try clear hcz76_0); (try clear hcz76_1); (try clear hcz81_0); (try clear hcz81_1); (try clear hcz88_0); (try clear hcz88_1); (try clear hfz108_0); (try clear hfz108_1); (try clear hfz45_0); (try clear hfz45_1); (try clear hfz76_0); (try clear hfz76_1); (try clear hfz81_0); (try clear hfz81_1); (try clear hfz88_0); (try clear hfz88_1); (try clear hx570_0); (try clear hx570_1); (try clear hx570_2); (try clear p570); (try clear q570)
                       obtain ⟨x18_7, x19_7, rfl, HA, HK7, HO_7, HO_18, HO_536001, HO_562001, HO_568001, BK535, BK561, BK567, HB⟩ := hrel
                       cases gk with
                       | zero => exact absurd HA.out (by simp [paraphrastlaw01_ShapeNames.l4])
                       | succ k7 =>
                        have H := HA.out
                        clear HA
                        simp only [paraphrastlaw01_ShapeNames.l4] at H
                        by_cases c109 : 0 ≤ x17_6
                        ·rw [if_pos c109] at H
                         have c109b0 : decide (0 ≤ x17_6) = true := decide_eq_true c109
                         clear c109
                         by_cases c110 : x17_6 < (l0_1.length : Int)
                         ·rw [if_pos c110] at H
                          have c110b0 : decide (x17_6 < (l0_1.length : Int)) = true := decide_eq_true c110
                          clear c110
                          by_cases c111 : x19_7 < ((rd_T52 l0_1 x17_6).f1)
                          ·rw [if_pos c111] at H
                           have c111b0 : decide (x19_7 < ((rd_T52 l0_1 x17_6).f1)) = true := decide_eq_true c111
                           clear c111
                           by_cases c112 : 0 ≤ x19_7
                           ·rw [if_pos c112] at H
                            have c112b0 : decide (0 ≤ x19_7) = true := decide_eq_true c112
                            clear c112
                            by_cases c113 : x19_7 < (l2.length : Int)
                            ·rw [if_pos c113] at H
                             have c113b0 : decide (x19_7 < (l2.length : Int)) = true := decide_eq_true c113
                             clear c113
                             by_cases c114 : a0_0 = 0
                             ·rw [if_pos c114] at H
                              exact absurd H (by simp)
                             ·rw [if_neg c114] at H
                              have c114b0 : (a0_0 == 0) = false := beq_eq_false_iff_ne.mpr c114
                              have c114b1 : (a0_0 != 0) = true := bne_iff_ne.mpr c114
                              by_cases c115 : x18_7.length < 17592186044416
                              ·rw [if_pos c115] at H
                               have LMc115 := Aside0.mk c115
                               clear c115
                               obtain ⟨y573, hy573⟩ : ∃ y_ : List Int, y_ = (x18_7 ++ [Int.tmod (wrap64 ((Int.tmod (rd l2 x19_7) a0_0) + a0_0)) a0_0]) := ⟨_, rfl⟩
                               replace H : (paraphrastlaw01_ShapeNames.l4 k7 l2 x7_43 x17_6 y573 (wrap64 (x19_7 + 1)) a0_0 l0_1 t556 t557) = some r := by first | (rw [hy573]; with_reducible exact H) | (have H2_ := (Option.bind_some _ _).symm.trans H; rw [hy573]; with_reducible exact H2_) | (have H2_ := (Option.bind_some _ _).symm.trans H; with_reducible exact H2_) | with_reducible exact H | (rw [hy573]; exact H) | exact H
                               have Ny573 := Aside0.mk hy573
                               clear hy573
                               have H' := Aside0.mk H
                               clear H
                               have hnb116 := NB535_561.out
                               have hnc116 := NB561_535.out
                               have hnb117 := NB535_567.out
                               have hnc117 := NB567_535.out
                               obtain ⟨hcz118_0, hcz118_1, hfz118_0, hfz118_1⟩ := bq2 BK535
                               have p571 : 0 ≤ (x17_6 : Int) := dtr
                               have q571 : x17_6 < (l0_1.length : Int) := dtr
                               obtain ⟨ad571, A571_2, c571_2, e571, hx571_0, hx571_1, hx571_2, hl571_2, hi571_2⟩ := at_T52 (Kd.V_reads' HO_536001.out).2.2 x17_6 p571 q571
                               obtain rfl : ad570 = ad571 := (by injection e571)
                               obtain ⟨ce571, hce571, hMe571, hcc571⟩ := Kd.V_get HO_536001.out z52 x17_6 p571 (by first | exact q571 | exact dtr | (have e_ := (Kd.V_reads' HO_536001.out).1; omega))
                               obtain ⟨ua571_2, uc571_2, rfl, ul571_2, ge571_2⟩ := k52_openF hMe571
                               have hv571_2 := hcc571 2 _ rfl
                               rw [add_field _ _ 2 (by omega)] at hv571_2
                               replace hv571_2 := Option.some.inj (hv571_2.symm.trans hx571_2)
                               injection hv571_2 with hva_ hvn_ hvc_
                               rw [hva_] at ge571_2
                               rw [hvc_] at ul571_2
                               have HL571_2 := Aside0.mk (show Kd.V (Kd.slice 3 (Kd.int .i64)) 46 _ w.heap.size _ _ ((rd_T52 l0_1 x17_6).f2) from Kd.V_mk ul571_2 ge571_2)
                               clear hva_ hvn_ hvc_ ge571_2 ul571_2
                               clear hcc571 hce571
                               have HR571_2 := Aside0.mk hi571_2
                               have HC571_2 := Aside0.mk hl571_2
                               clear hi571_2 hl571_2
                               replace p571 := eq_true p571
                               replace q571 := eq_true q571
                               try go_wp2
                               replace HO_7 := Aside0.mk (Kd.R_drew HO_7.out)
                               replace HO_18 := Aside0.mk (Kd.R_drew HO_18.out)
                               replace HO_536001 := Aside0.mk (Kd.V_drew HO_536001.out)
                               replace HO_562001 := Aside0.mk (Kd.N_drew HO_562001.out)
                               replace HO_568001 := Aside0.mk (Kd.N_drew HO_568001.out)
                               replace HL571_2 := Aside0.mk (Kd.V_drew HL571_2.out)
                               replace BK535 := Aside0.mk (blk_drew BK535.out)
                               replace BK561 := Aside0.mk (blk_drew BK561.out)
                               replace BK567 := Aside0.mk (blk_drew BK567.out)
                               replace HR571_2 := Aside0.mk (Kd.C_drew HR571_2.out)
                               replace HB := Aside0.mk (below_drew1 HB.out)
                               have p572 : 0 ≤ (x19_7 : Int) := dtr
                               have q572 : x19_7 < (l2.length : Int) := dtr
                               obtain ⟨ad572, e572, hx572_0⟩ := Kd.at_int HR2.out x19_7 p572 q572
                               have hw572_0 := hx572_0
                               cases e572
                               replace hx572_0 := oc hx572_0
                               replace p572 := eq_true p572
                               replace q572 := eq_true q572
                               refine start_ (n := 17) (S := fun w' => w'.cell? ⟨gb535, 0, none⟩ = some (.int .i64 a0_0) ∧ w'.cell? ⟨gb535, 1, none⟩ = some (.slice (some ad570) l0_1.length c0_1) ∧ w'.cell? (ad572.add (x19_7).toNat) = some (.int .i64 (rd l2 x19_7))) (ds := []) #[false, false, false, false, false, false, false, false, false, false, false, false, false, false, false, false, false] (by kernel_rfl) rfl rfl ⟨(blk_cell BK535.out 0).trans rfl, (blk_cell BK535.out 1).trans rfl, (oc hw572_0)⟩ (fun hHeld => ?_); refine with_tabW paraphrastlaw01_ShapeNames.tab29 paraphrastlaw01_ShapeNames.bits29 (fun HT_ HW_ => ?_)
                               generalize wr.drew = w119 at HO_7 HO_18 HO_536001 HO_562001 HO_568001 HL571_2 BK535 BK561 BK567 HR571_2 HB hx572_0 hHeld ⊢
                               refine sPu 0 (some 152) ?_
                               refine sPu 1 (some 153) ?_
                               refine sPu 2 (some 154) ?_
                               refine sPu 3 (some 155) ?_
                               refine sPu 5 (some 157) ?_
                               refine sPu 8 (some 160) ?_
                               refine sPu 11 (some 163) ?_
                               refine sTk 4 (some 156) ?_
                               refine sTk 6 (some 158) ?_
                               refine sPu 7 (some 159) ?_
                               refine sTk 9 (some 161) ?_
                               refine sPu 10 (some 162) ?_
                               refine sTk 12 (some 164) ?_
                               refine sPu 13 (some 165) ?_
                               refine sOn 14 (some 166) (fun K hK => ?_)
                               refine value_ (w1 := ?_) (v := ?_) (by rfl) rfl ?_ ?_
                               rotate_left 2
                               ·go_simp
                                constructor
                                ·rfl
                                ·rfl
                               refine hK.out _ _ ⟨(blk_cell (blk_alloc BK535.out _) 0).trans rfl, (blk_cell (blk_alloc BK535.out _) 1).trans rfl, (World.cell?_alloc_lt _ _ _ (World.block_lt_of_cell? _ _ ((oc hw572_0)))).trans ((oc hw572_0))⟩ (fun hHeld => ?_)
                               clear hK K
                               refine norm_ (a' := ?_) ?_ ?_
                               rotate_left
                               ·show Act.put _ (some 166) _ = _
                                simp only [Act.put, List.setIfInBounds_toArray, List.set_cons_zero, List.set_cons_succ, i64_w, i32_w]
                                rfl
                               refine sOn 15 (some 167) (fun K hK => ?_)
                               refine Kd.R_append_step (Kd.int .i64) (w0 := w) w.heap.size (by rfl) (.tmp 152) (.tmp 166) 46 3 (.int .i64 0) 8 rfl Tryz.underlying46 info3 rfl (by decide) (by omega) u18 x18_7 (Int.tmod (wrap64 ((Int.tmod (rd l2 x19_7) a0_0) + a0_0)) a0_0) [.int .i64 (Int.tmod (wrap64 ((Int.tmod (rd l2 x19_7) a0_0) + a0_0)) a0_0)] (fun k_ => (w.heap.size ≤ k_) ∧ some k_ ≠ (.slice Ao77 x7_43.length co77 : Value).ownBlock) (fun _ => False) rfl rfl ?aP (fun _ hk => hk.elim) ?aF ?aO ?aB ?aS ?aL ?_
                               (case aP => exact rfl)
                               (case aB => exact bel)
                               (case aF => exact (fun k_ hk => ⟨(Nat.le_trans (below_size bel) hk), Kd.fresh' (Kd.R_lt (tw HO_7.out)) k_ hk⟩))
                               (case aO => exact (tw HO_18.out))
                               (case aS => exact (below_size bel))
                               (case aL => have := LMc115.out; omega)
                               intro v574 w120 ho hb hg hat
                               rw [← Ny573.out] at ho
                               have HO575 := Aside0.mk (ho)
                               replace HO_7 := Aside0.mk (Kd.R_after (ok := (fun k_ => (w.heap.size ≤ k_))) (tw HO_7.out) hg hat)
                               replace HO_536001 := Aside0.mk (Kd.V_afterv (ok := (fun k_ => (P0_1_ k_ ∨ w.heap.size ≤ k_) ∧ some k_ ≠ (.slice Ao77 x7_43.length co77 : Value).ownBlock ∧ some k_ ≠ (.slice Ao82 t557.length co82 : Value).ownBlock ∧ some k_ ≠ (.slice Ao89 t563.length co89 : Value).ownBlock ∧ k_ ≠ gb535 ∧ k_ ≠ gb561 ∧ k_ ≠ gb567)) (by (with_reducible repeat (first | apply Kd.V_alloc | apply Kd.V_drewN | apply Kd.V_drew)); exact Kd.V_mono HO_536001.out (fun _ hk => ⟨⟨hk.1, ⟨hk.2.1, ⟨hk.2.2.2.1, ⟨hk.2.2.2.2.1, ⟨hk.2.2.2.2.2.1, ⟨hk.2.2.2.2.2.2.1, hk.2.2.2.2.2.2.2⟩⟩⟩⟩⟩⟩, hk.2.2.1⟩)) hg hat)
                               replace HO_562001 := Aside0.mk (Kd.N_afterv (ok := (fun k_ => (P0_1_ k_ ∨ w.heap.size ≤ k_) ∧ some k_ ≠ (.slice Ao77 x7_43.length co77 : Value).ownBlock ∧ some k_ ≠ (.slice Ao89 t563.length co89 : Value).ownBlock ∧ k_ ≠ gb535 ∧ k_ ≠ gb561 ∧ k_ ≠ gb567)) (by (with_reducible repeat (first | apply Kd.N_alloc | apply Kd.N_drewN | apply Kd.N_drew)); exact Kd.N_mono HO_562001.out (fun _ hk => ⟨⟨hk.1, ⟨hk.2.1, ⟨hk.2.2.2.1, ⟨hk.2.2.2.2.1, ⟨hk.2.2.2.2.2.1, hk.2.2.2.2.2.2⟩⟩⟩⟩⟩, hk.2.2.1⟩)) hg hat)
                               replace HO_568001 := Aside0.mk (Kd.N_afterv (ok := (fun k_ => (P0_1_ k_ ∨ w.heap.size ≤ k_) ∧ some k_ ≠ (.slice Ao77 x7_43.length co77 : Value).ownBlock ∧ some k_ ≠ (.slice Ao82 t557.length co82 : Value).ownBlock ∧ k_ ≠ gb535 ∧ k_ ≠ gb561 ∧ k_ ≠ gb567)) (by (with_reducible repeat (first | apply Kd.N_alloc | apply Kd.N_drewN | apply Kd.N_drew)); exact Kd.N_mono HO_568001.out (fun _ hk => ⟨⟨hk.1, ⟨hk.2.1, ⟨hk.2.2.2.1, ⟨hk.2.2.2.2.1, ⟨hk.2.2.2.2.2.1, hk.2.2.2.2.2.2⟩⟩⟩⟩⟩, hk.2.2.1⟩)) hg hat)
                               replace BK535 := Aside0.mk (blk_grown (g := gb535) (o := .cells #[.int .i64 a0_0, .slice (some ad570) l0_1.length c0_1] 24 (0, 0)) (bk BK535) hg (Kd.R_ne HO_18.out BK535.out (by decide)))
                               replace BK561 := Aside0.mk (blk_grown (g := gb561) (o := .cells #[.int .i64 t556, .slice Ao82 t557.length co82] 24 (0, 0)) (bk BK561) hg (Kd.R_ne HO_18.out BK561.out (by decide)))
                               replace BK567 := Aside0.mk (blk_grown (g := gb567) (o := .cells #[.int .i64 t562, .slice Ao89 t563.length co89] 24 (0, 0)) (bk BK567) hg (Kd.R_ne HO_18.out BK567.out (by decide)))
                               replace HL571_2 := Aside0.mk (Kd.V_afterv (ok := (fun k_ => (P0_1_ k_ ∨ w.heap.size ≤ k_) ∧ some k_ ≠ (.slice Ao77 x7_43.length co77 : Value).ownBlock ∧ some k_ ≠ (.slice Ao82 t557.length co82 : Value).ownBlock ∧ some k_ ≠ (.slice Ao89 t563.length co89 : Value).ownBlock ∧ k_ ≠ gb535 ∧ k_ ≠ gb561 ∧ k_ ≠ gb567)) (by (with_reducible repeat (first | apply Kd.V_alloc | apply Kd.V_drewN | apply Kd.V_drew)); exact Kd.V_mono HL571_2.out (fun _ hk => ⟨⟨hk.1, ⟨hk.2.1, ⟨hk.2.2.2.1, ⟨hk.2.2.2.2.1, ⟨hk.2.2.2.2.2.1, ⟨hk.2.2.2.2.2.2.1, hk.2.2.2.2.2.2.2⟩⟩⟩⟩⟩⟩, hk.2.2.1⟩)) hg hat)
                               replace HB := Aside0.mk (hb)
                               clear HO_18
                               clear ho hb hg hat
                               refine hK.out _ _ ⟨(blk_cell BK535.out 0).trans rfl, (blk_cell BK535.out 1).trans rfl, (oc hw572_0)⟩ (fun hHeld => ?_)
                               clear hK K
                               refine norm_ (a' := ?_) ?_ ?_
                               rotate_left
                               ·show Act.put _ (some 167) _ = _
                                simp only [Act.put, List.setIfInBounds_toArray, List.set_cons_zero, List.set_cons_succ, i64_w, i32_w]
                                rfl
                               refine sPu 16 (some 18) ?_
                               refine done_ (done_of HT_.out (by kernel_rfl)) ?_
                               try go_wp2
                               go_roundg k7
                               case measure => have := HJ3.out; have := HK2.out; have := HJ43.out; have := HK4.out; have := HJ74.out; have := HK6.out; have := HK7.out; omega
                               case rel => exact ⟨(y573), (wrap64 (x19_7 + 1)), eS, H', ⟨by have := HJ3.out; have := HK2.out; have := HJ43.out; have := HK4.out; have := HJ74.out; have := HK6.out; have := HK7.out; omega⟩, ⟨by (with_reducible repeat (first | apply Kd.R_alloc | apply Kd.R_drewN | apply Kd.R_drew)); exact HO_7.out⟩, ⟨by (with_reducible repeat (first | apply Kd.R_alloc | apply Kd.R_drewN | apply Kd.R_drew)); exact HO575.out⟩, ⟨by (with_reducible repeat (first | apply Kd.V_alloc | apply Kd.V_drewN | apply Kd.V_drew)); exact Kd.V_mono HO_536001.out (fun _ hk => ⟨hk.1.1, ⟨hk.1.2.1, ⟨hk.2, ⟨hk.1.2.2.1, ⟨hk.1.2.2.2.1, ⟨hk.1.2.2.2.2.1, ⟨hk.1.2.2.2.2.2.1, hk.1.2.2.2.2.2.2⟩⟩⟩⟩⟩⟩⟩)⟩, ⟨by (with_reducible repeat (first | apply Kd.N_alloc | apply Kd.N_drewN | apply Kd.N_drew)); exact Kd.N_mono HO_562001.out (fun _ hk => ⟨hk.1.1, ⟨hk.1.2.1, ⟨hk.2, ⟨hk.1.2.2.1, ⟨hk.1.2.2.2.1, ⟨hk.1.2.2.2.2.1, hk.1.2.2.2.2.2⟩⟩⟩⟩⟩⟩)⟩, ⟨by (with_reducible repeat (first | apply Kd.N_alloc | apply Kd.N_drewN | apply Kd.N_drew)); exact Kd.N_mono HO_568001.out (fun _ hk => ⟨hk.1.1, ⟨hk.1.2.1, ⟨hk.2, ⟨hk.1.2.2.1, ⟨hk.1.2.2.2.1, ⟨hk.1.2.2.2.2.1, hk.1.2.2.2.2.2⟩⟩⟩⟩⟩⟩)⟩, ⟨bk BK535⟩, ⟨bk BK561⟩, ⟨bk BK567⟩, ⟨bel⟩⟩
                              ·rw [if_neg c115] at H
                               exact absurd H (by simp)
                            ·rw [if_neg c113] at H
                             exact absurd H (by simp)
                           ·rw [if_neg c112] at H
                            exact absurd H (by simp)
                          ·rw [if_neg c111] at H
                           have c111b0 : decide (x19_7 < ((rd_T52 l0_1 x17_6).f1)) = false := decide_eq_false c111
                           clear c111
                           replace H := Option.bind_eq_some_iff.mp H
                           obtain ⟨⟨t577, t578⟩, A1210, H⟩ := H
                           replace H : ((paraphrastref01_Renamed.f k7 x18_7 x7_43).bind fun t580 => ((shape_Has.f k7 t556 t557 ((rd_T52 l0_1 x17_6).f0) t580).bind fun bt583 => (if t578 = 0 then (if bt583.2 = 0 then (if (t577 != bt583.1) = true then (some false) else (paraphrastlaw01_ShapeNames.l3 k7 l2 x7_43 (wrap64 (x17_6 + 1)) a0_0 l0_1 t556 t557)) else (some false)) else (some false)))) = some r := H
                           have A121 := Aside0.mk A1210
                           clear A1210
                           replace H := Option.bind_eq_some_iff.mp H
                           obtain ⟨t580, A1220, H⟩ := H
                           replace H : ((shape_Has.f k7 t556 t557 ((rd_T52 l0_1 x17_6).f0) t580).bind fun bt583 => (if t578 = 0 then (if bt583.2 = 0 then (if (t577 != bt583.1) = true then (some false) else (paraphrastlaw01_ShapeNames.l3 k7 l2 x7_43 (wrap64 (x17_6 + 1)) a0_0 l0_1 t556 t557)) else (some false)) else (some false))) = some r := H
                           have A122 := Aside0.mk A1220
                           clear A1220
                           replace H := Option.bind_eq_some_iff.mp H
                           obtain ⟨⟨t583, t584⟩, A1230, H⟩ := H
                           replace H : (if t578 = 0 then (if t584 = 0 then (if (t577 != t583) = true then (some false) else (paraphrastlaw01_ShapeNames.l3 k7 l2 x7_43 (wrap64 (x17_6 + 1)) a0_0 l0_1 t556 t557)) else (some false)) else (some false)) = some r := H
                           have A123 := Aside0.mk A1230
                           clear A1230
                           by_cases c124 : t578 = 0
                           ·rw [if_pos c124] at H
                            have c124b0 : (t578 == 0) = true := beq_iff_eq.mpr c124
                            have c124b1 : (t578 != 0) = false := bne_eq_false_iff_eq.mpr c124
                            clear c124
                            by_cases c125 : t584 = 0
                            ·rw [if_pos c125] at H
                             have c125b0 : (t584 == 0) = true := beq_iff_eq.mpr c125
                             have c125b1 : (t584 != 0) = false := bne_eq_false_iff_eq.mpr c125
                             clear c125
                             by_cases c126 : (t577 != t583) = true
                             ·rw [if_pos c126] at H
                              have c126b0 : (t577 != t583) = true := c126
                              (try (have c126b1 : decide (t577 = t583) = false := by simpa using c126))
                              (try (have c126b2 : (t577 == t583) = false := by simpa using c126))
                              (try (have c126b3 : ¬ (t577 = t583) := by simpa using c126))
                              clear c126
                              obtain rfl := Option.some.inj H
                              have hnb127 := NB535_561.out
                              have hnc127 := NB561_535.out
                              have hnb128 := NB535_567.out
                              have hnc128 := NB567_535.out
                              obtain ⟨hcz129_0, hcz129_1, hfz129_0, hfz129_1⟩ := bq2 BK535
                              have p571 : 0 ≤ (x17_6 : Int) := dtr
                              have q571 : x17_6 < (l0_1.length : Int) := dtr
                              obtain ⟨ad571, A571_2, c571_2, e571, hx571_0, hx571_1, hx571_2, hl571_2, hi571_2⟩ := at_T52 (Kd.V_reads' HO_536001.out).2.2 x17_6 p571 q571
                              obtain rfl : ad570 = ad571 := (by injection e571)
                              obtain ⟨ce571, hce571, hMe571, hcc571⟩ := Kd.V_get HO_536001.out z52 x17_6 p571 (by first | exact q571 | exact dtr | (have e_ := (Kd.V_reads' HO_536001.out).1; omega))
                              obtain ⟨ua571_2, uc571_2, rfl, ul571_2, ge571_2⟩ := k52_openF hMe571
                              have hv571_2 := hcc571 2 _ rfl
                              rw [add_field _ _ 2 (by omega)] at hv571_2
                              replace hv571_2 := Option.some.inj (hv571_2.symm.trans hx571_2)
                              injection hv571_2 with hva_ hvn_ hvc_
                              rw [hva_] at ge571_2
                              rw [hvc_] at ul571_2
                              have HL571_2 := Aside0.mk (show Kd.V (Kd.slice 3 (Kd.int .i64)) 46 _ w.heap.size _ _ ((rd_T52 l0_1 x17_6).f2) from Kd.V_mk ul571_2 ge571_2)
                              clear hva_ hvn_ hvc_ ge571_2 ul571_2
                              clear hcc571 hce571
                              have HR571_2 := Aside0.mk hi571_2
                              have HC571_2 := Aside0.mk hl571_2
                              clear hi571_2 hl571_2
                              replace p571 := eq_true p571
                              replace q571 := eq_true q571
                              try go_wp2
                              replace HO_7 := Aside0.mk (Kd.R_drew HO_7.out)
                              replace HO_18 := Aside0.mk (Kd.R_drew HO_18.out)
                              replace HO_536001 := Aside0.mk (Kd.V_drew HO_536001.out)
                              replace HO_562001 := Aside0.mk (Kd.N_drew HO_562001.out)
                              replace HO_568001 := Aside0.mk (Kd.N_drew HO_568001.out)
                              replace HL571_2 := Aside0.mk (Kd.V_drew HL571_2.out)
                              replace BK535 := Aside0.mk (blk_drew BK535.out)
                              replace BK561 := Aside0.mk (blk_drew BK561.out)
                              replace BK567 := Aside0.mk (blk_drew BK567.out)
                              replace HR571_2 := Aside0.mk (Kd.C_drew HR571_2.out)
                              replace HB := Aside0.mk (below_drew1 HB.out)
                              have p576 : 0 ≤ (x17_6 : Int) := dtr
                              have q576 : x17_6 < (l0_1.length : Int) := dtr
                              obtain ⟨ad576, A576_2, c576_2, e576, hx576_0, hx576_1, hx576_2, hl576_2, hi576_2⟩ := at_T52 (Kd.V_reads' HO_536001.out).2.2 x17_6 p576 q576
                              obtain rfl : ad570 = ad576 := (by injection e576)
                              obtain ⟨ce576, hce576, hMe576, hcc576⟩ := Kd.V_get HO_536001.out z52 x17_6 p576 (by first | exact q576 | exact dtr | (have e_ := (Kd.V_reads' HO_536001.out).1; omega))
                              obtain ⟨ua576_2, uc576_2, rfl, ul576_2, ge576_2⟩ := k52_openF hMe576
                              have hv576_2 := hcc576 2 _ rfl
                              rw [add_field _ _ 2 (by omega)] at hv576_2
                              replace hv576_2 := Option.some.inj (hv576_2.symm.trans hx576_2)
                              injection hv576_2 with hva_ hvn_ hvc_
                              rw [hva_] at ge576_2
                              rw [hvc_] at ul576_2
                              have HL576_2 := Aside0.mk (show Kd.V (Kd.slice 3 (Kd.int .i64)) 46 _ w.heap.size _ _ ((rd_T52 l0_1 x17_6).f2) from Kd.V_mk ul576_2 ge576_2)
                              clear hva_ hvn_ hvc_ ge576_2 ul576_2
                              clear hcc576 hce576
                              have HR576_2 := Aside0.mk hi576_2
                              have HC576_2 := Aside0.mk hl576_2
                              clear hi576_2 hl576_2
                              replace p576 := eq_true p576
                              replace q576 := eq_true q576
                              obtain ⟨Ao131, co131, eo131⟩ := Kd.R_slice HO_18.out
                              (first | subst eo131 | (injection eo131 with f1_ f2_ f3_; have f4_ := f1_.symm; have f5_ := f3_.symm; clear f1_ f2_ f3_; subst f4_; subst f5_))
                              refine start_ (n := 14) (S := fun w' => w'.cell? ⟨gb535, 0, none⟩ = some (.int .i64 a0_0) ∧ w'.cell? ⟨gb535, 1, none⟩ = some (.slice (some ad570) l0_1.length c0_1) ∧ w'.cell? (ad570.add ((x17_6).toNat * 3)) = some (.string ((rd_T52 l0_1 x17_6).f0)) ∧ w'.cell? ⟨(ad570.add ((x17_6).toNat * 3)).block, (ad570.add ((x17_6).toNat * 3)).off + 1, none⟩ = some (.int .i64 ((rd_T52 l0_1 x17_6).f1)) ∧ w'.cell? ⟨(ad570.add ((x17_6).toNat * 3)).block, (ad570.add ((x17_6).toNat * 3)).off + 2, none⟩ = some (.slice A576_2 ((rd_T52 l0_1 x17_6).f2).length c576_2)) (ds := []) #[false, false, false, false, false, false, false, false, false, false, false, false, false, false] (by kernel_rfl) rfl rfl ⟨(blk_cell BK535.out 0).trans rfl, (blk_cell BK535.out 1).trans rfl, hx576_0, hx576_1, hx576_2⟩ (fun hHeld => ?_); refine with_tabW paraphrastlaw01_ShapeNames.tab30 paraphrastlaw01_ShapeNames.bits30 (fun HT_ HW_ => ?_)
                              generalize wr.drew = w130 at HO_7 HO_18 HO_536001 HO_562001 HO_568001 HL571_2 BK535 BK561 BK567 HR571_2 HB HL576_2 HR576_2 hx576_0 hx576_1 hx576_2 hHeld ⊢
                              refine sPu 1 (some 170) ?_
                              refine sPu 3 (some 172) ?_
                              refine sPu 7 (some 176) ?_
                              refine sTk 0 (some 169) ?_
                              refine sTk 2 (some 171) ?_
                              refine sPu 4 (some 173) ?_
                              refine sPu 5 (some 174) ?_
                              refine sTk 6 (some 175) ?_
                              refine sOn 8 (some 177) (fun K hK => ?_)
                              refine goes_ Tryz.func25 (by kernel_rfl) rfl #[.agg #[.int .i64 a0_0, .slice (some ad570) l0_1.length c0_1], .string ((rd_T52 l0_1 x17_6).f0), .slice Ao131 x18_7.length co131] (by rfl) rfl rfl (by (try simp only [List.map_toArray, List.map_cons, List.map_nil]); first | done | rfl | (simp only [List.length_drop, List.length_take]; rfl)) ?_
                              with_reducible refine (shape_Has.calls k7 a0_0 _ _ l0_1 ((rd_T52 l0_1 x17_6).f0) _ _ x18_7 t577 t578 _ ?side1 ?side2 ?side3 ?side4 A121.out).mono ?_
                              (case side1 => exact cS (Kd.V_reads' HO_536001.out).2.2)
                              (case side2 => exact (Kd.V_reads' HO_536001.out).2.1)
                              (case side3 => exact cS (Kd.R_reads' HO_18.out).2.2)
                              (case side4 => exact (Kd.R_reads' HO_18.out).2.1)
                              rintro e w132 ⟨rfl, hb⟩
                              have HS2_ := (hb.cell (World.block_lt_of_cell? _ _ (hHeld.2.2.1))).trans (hHeld.2.2.1)
                              have HS3_ := (hb.cell (World.block_lt_of_cell? _ _ (hHeld.2.2.2.1))).trans (hHeld.2.2.2.1)
                              have HS4_ := (hb.cell (World.block_lt_of_cell? _ _ (hHeld.2.2.2.2))).trans (hHeld.2.2.2.2)
                              refine ⟨_, rfl, ?_⟩
                              replace HO_7 := rD HO_7 hb
                              replace HO_18 := rD HO_18 hb
                              replace HO_536001 := vD HO_536001 hb
                              replace HO_562001 := nD HO_562001 hb
                              replace HO_568001 := nD HO_568001 hb
                              replace HL571_2 := vD HL571_2 hb
                              replace HL576_2 := vD HL576_2 hb
                              replace BK535 := blB BK535 hb
                              replace BK561 := blB BK561 hb
                              replace BK567 := blB BK567 hb
                              replace HR571_2 := Aside0.mk (Kd.C_below (by repeat (first | (with_reducible exact HR571_2.out) | (with_reducible refine Kd.C_alloc ?_ _) | (with_reducible refine Kd.C_drewN ?_ _) | (with_reducible refine Kd.C_drew ?_) | exact HR571_2.out)) hb)
                              replace HR576_2 := Aside0.mk (Kd.C_below (by repeat (first | (with_reducible exact HR576_2.out) | (with_reducible refine Kd.C_alloc ?_ _) | (with_reducible refine Kd.C_drewN ?_ _) | (with_reducible refine Kd.C_drew ?_) | exact HR576_2.out)) hb)
                              replace HB := Aside0.mk (below_step bel hb)
                              (try clear hb)
                              (try clear hb2)
                              (try clear hk)
                              (try clear hi)
                              refine hK.out _ _ ⟨(blk_cell BK535.out 0).trans rfl, (blk_cell BK535.out 1).trans rfl, HS2_, HS3_, HS4_⟩ (fun hHeld => ?_)
                              clear hK K
                              refine norm_ (a' := ?_) ?_ ?_
                              rotate_left
                              ·show Act.put _ (some 177) _ = _
                               simp only [Act.put, List.setIfInBounds_toArray, List.set_cons_zero, List.set_cons_succ, i64_w, i32_w]
                               rfl
                              refine sPu 9 (some 168) ?_
                              refine sPu 10 (some 178) ?_
                              refine sPu 11 (some 179) ?_
                              refine sPu 12 (some 20) ?_
                              refine sPu 13 (some 21) ?_
                              refine done_ (done_of HT_.out (by kernel_rfl)) ?_
                              try go_wp2
                              replace HO_7 := Aside0.mk (Kd.R_drew HO_7.out)
                              replace HO_18 := Aside0.mk (Kd.R_drew HO_18.out)
                              replace HO_536001 := Aside0.mk (Kd.V_drew HO_536001.out)
                              replace HO_562001 := Aside0.mk (Kd.N_drew HO_562001.out)
                              replace HO_568001 := Aside0.mk (Kd.N_drew HO_568001.out)
                              replace HL571_2 := Aside0.mk (Kd.V_drew HL571_2.out)
                              replace HL576_2 := Aside0.mk (Kd.V_drew HL576_2.out)
                              replace BK535 := Aside0.mk (blk_drew BK535.out)
                              replace BK561 := Aside0.mk (blk_drew BK561.out)
                              replace BK567 := Aside0.mk (blk_drew BK567.out)
                              replace HR571_2 := Aside0.mk (Kd.C_drew HR571_2.out)
                              replace HR576_2 := Aside0.mk (Kd.C_drew HR576_2.out)
                              replace HB := Aside0.mk (below_drew1 HB.out)
                              have p579 : 0 ≤ (x17_6 : Int) := dtr
                              have q579 : x17_6 < (l0_1.length : Int) := dtr
                              obtain ⟨ad579, A579_2, c579_2, e579, hx579_0, hx579_1, hx579_2, hl579_2, hi579_2⟩ := at_T52 (Kd.V_reads' HO_536001.out).2.2 x17_6 p579 q579
                              obtain rfl : ad570 = ad579 := (by injection e579)
                              obtain ⟨ce579, hce579, hMe579, hcc579⟩ := Kd.V_get HO_536001.out z52 x17_6 p579 (by first | exact q579 | exact dtr | (have e_ := (Kd.V_reads' HO_536001.out).1; omega))
                              obtain ⟨ua579_2, uc579_2, rfl, ul579_2, ge579_2⟩ := k52_openF hMe579
                              have hv579_2 := hcc579 2 _ rfl
                              rw [add_field _ _ 2 (by omega)] at hv579_2
                              replace hv579_2 := Option.some.inj (hv579_2.symm.trans hx579_2)
                              injection hv579_2 with hva_ hvn_ hvc_
                              rw [hva_] at ge579_2
                              rw [hvc_] at ul579_2
                              have HL579_2 := Aside0.mk (show Kd.V (Kd.slice 3 (Kd.int .i64)) 46 _ w.heap.size _ _ ((rd_T52 l0_1 x17_6).f2) from Kd.V_mk ul579_2 ge579_2)
                              clear hva_ hvn_ hvc_ ge579_2 ul579_2
                              clear hcc579 hce579
                              have HR579_2 := Aside0.mk hi579_2
                              have HC579_2 := Aside0.mk hl579_2
                              clear hi579_2 hl579_2
                              replace p579 := eq_true p579
                              replace q579 := eq_true q579
                              refine start_ (n := 16) (S := fun w' => w'.cell? ⟨gb561, 0, none⟩ = some (.int .i64 t556) ∧ w'.cell? ⟨gb561, 1, none⟩ = some (.slice Ao82 t557.length co82) ∧ w'.cell? ⟨gb535, 0, none⟩ = some (.int .i64 a0_0) ∧ w'.cell? ⟨gb535, 1, none⟩ = some (.slice (some ad570) l0_1.length c0_1) ∧ w'.cell? (ad570.add ((x17_6).toNat * 3)) = some (.string ((rd_T52 l0_1 x17_6).f0)) ∧ w'.cell? ⟨(ad570.add ((x17_6).toNat * 3)).block, (ad570.add ((x17_6).toNat * 3)).off + 1, none⟩ = some (.int .i64 ((rd_T52 l0_1 x17_6).f1)) ∧ w'.cell? ⟨(ad570.add ((x17_6).toNat * 3)).block, (ad570.add ((x17_6).toNat * 3)).off + 2, none⟩ = some (.slice A579_2 ((rd_T52 l0_1 x17_6).f2).length c579_2)) (ds := []) #[false, false, false, false, false, false, false, false, false, false, false, false, false, false, false, false] (by kernel_rfl) rfl rfl ⟨(blk_cell BK561.out 0).trans rfl, (blk_cell BK561.out 1).trans rfl, (blk_cell BK535.out 0).trans rfl, (blk_cell BK535.out 1).trans rfl, hx579_0, hx579_1, hx579_2⟩ (fun hHeld => ?_); refine with_tabW paraphrastlaw01_ShapeNames.tab31 paraphrastlaw01_ShapeNames.bits31 (fun HT_ HW_ => ?_)
                              generalize w132.drew = w133 at HO_7 HO_18 HO_536001 HO_562001 HO_568001 HL571_2 HL576_2 BK535 BK561 BK567 HR571_2 HR576_2 HB HL579_2 HR579_2 hx579_0 hx579_1 hx579_2 hHeld ⊢
                              refine sPu 1 (some 182) ?_
                              refine sPu 3 (some 184) ?_
                              refine sPu 7 (some 188) ?_
                              refine sPu 8 (some 189) ?_
                              refine sTk 0 (some 181) ?_
                              refine sTk 2 (some 183) ?_
                              refine sPu 4 (some 185) ?_
                              refine sPu 5 (some 186) ?_
                              refine sTk 6 (some 187) ?_
                              refine sOn 9 (some 190) (fun K hK => ?_)
                              refine goes_ Tryz.func35 (by kernel_rfl) rfl #[.slice Ao131 x18_7.length co131, .slice Ao77 x7_43.length co77] (by rfl) rfl rfl (by (try simp only [List.map_toArray, List.map_cons, List.map_nil]); first | done | rfl | (simp only [List.length_drop, List.length_take]; rfl)) ?_
                              with_reducible refine (paraphrastref01_Renamed.calls k7 _ _ x18_7 _ _ x7_43 t580 _ ?side1 ?side2 ?side3 ?side4 A122.out).mono ?_
                              (case side1 => exact cS (Kd.R_reads' HO_18.out).2.2)
                              (case side2 => exact (Kd.R_reads' HO_18.out).2.1)
                              (case side3 => exact cS (Kd.R_reads' HO_7.out).2.2)
                              (case side4 => exact (Kd.R_reads' HO_7.out).2.1)
                              rintro e w134 ⟨v581, rfl, ho0, hb⟩
                              have HS4_ := (hb.cell (World.block_lt_of_cell? _ _ (hHeld.2.2.2.2.1))).trans (hHeld.2.2.2.2.1)
                              have HS5_ := (hb.cell (World.block_lt_of_cell? _ _ (hHeld.2.2.2.2.2.1))).trans (hHeld.2.2.2.2.2.1)
                              have HS6_ := (hb.cell (World.block_lt_of_cell? _ _ (hHeld.2.2.2.2.2.2))).trans (hHeld.2.2.2.2.2.2)
                              refine ⟨_, rfl, ?_⟩
                              have HO582 := Aside0.mk (Kd.R_lower (Kd.R_new' (Kd.R_new' (Kd.R_newM (M := fun k_ => (w.heap.size ≤ k_)) ho0 (below_size bel) (fun k_ h_ => h_)) (Kd.R_lt (tw HO_7.out))) (Kd.R_lt (tw HO_18.out))) (below_size bel))
                              replace HO_7 := rE HO_7 (Kd.R_base ho0) hb
                              replace HO_18 := rE HO_18 (Kd.R_base ho0) hb
                              replace HO_536001 := vE HO_536001 (Kd.R_base ho0) hb
                              replace HO_562001 := Aside0.mk (Kd.N_elder' (tw HO_562001.out) (Kd.R_base ho0) hb)
                              replace HO_568001 := Aside0.mk (Kd.N_elder' (tw HO_568001.out) (Kd.R_base ho0) hb)
                              replace HL571_2 := vE HL571_2 (Kd.R_base ho0) hb
                              replace HL576_2 := vE HL576_2 (Kd.R_base ho0) hb
                              replace HL579_2 := vE HL579_2 (Kd.R_base ho0) hb
                              replace BK535 := blB BK535 hb
                              replace BK561 := blB BK561 hb
                              replace BK567 := blB BK567 hb
                              replace HR571_2 := Aside0.mk (Kd.C_below (by repeat (first | (with_reducible exact HR571_2.out) | (with_reducible refine Kd.C_alloc ?_ _) | (with_reducible refine Kd.C_drewN ?_ _) | (with_reducible refine Kd.C_drew ?_) | exact HR571_2.out)) hb)
                              replace HR576_2 := Aside0.mk (Kd.C_below (by repeat (first | (with_reducible exact HR576_2.out) | (with_reducible refine Kd.C_alloc ?_ _) | (with_reducible refine Kd.C_drewN ?_ _) | (with_reducible refine Kd.C_drew ?_) | exact HR576_2.out)) hb)
                              replace HR579_2 := Aside0.mk (Kd.C_below (by repeat (first | (with_reducible exact HR579_2.out) | (with_reducible refine Kd.C_alloc ?_ _) | (with_reducible refine Kd.C_drewN ?_ _) | (with_reducible refine Kd.C_drew ?_) | exact HR579_2.out)) hb)
                              replace HB := Aside0.mk (below_step bel hb)
                              (try clear hb)
                              (try clear hb2)
                              (try clear hk)
                              (try clear hi)
                              (try clear ho0)
                              obtain ⟨Ao135, co135, eo135⟩ := Kd.R_slice HO582.out
                              (first | subst eo135 | (injection eo135 with f1_ f2_ f3_; have f4_ := f1_.symm; have f5_ := f3_.symm; clear f1_ f2_ f3_; subst f4_; subst f5_))
                              refine hK.out _ _ ⟨(blk_cell BK561.out 0).trans rfl, (blk_cell BK561.out 1).trans rfl, (blk_cell BK535.out 0).trans rfl, (blk_cell BK535.out 1).trans rfl, HS4_, HS5_, HS6_⟩ (fun hHeld => ?_)
                              clear hK K
                              refine norm_ (a' := ?_) ?_ ?_
                              rotate_left
                              ·show Act.put _ (some 190) _ = _
                               simp only [Act.put, List.setIfInBounds_toArray, List.set_cons_zero, List.set_cons_succ, i64_w, i32_w]
                               rfl
                              refine sOn 10 (some 191) (fun K hK => ?_)
                              refine goes_ Tryz.func25 (by kernel_rfl) rfl #[.agg #[.int .i64 t556, .slice Ao82 t557.length co82], .string ((rd_T52 l0_1 x17_6).f0), .slice Ao135 t580.length co135] (by rfl) rfl rfl (by (try simp only [List.map_toArray, List.map_cons, List.map_nil]); first | done | rfl | (simp only [List.length_drop, List.length_take]; rfl)) ?_
                              with_reducible refine (shape_Has.calls k7 t556 _ _ t557 ((rd_T52 l0_1 x17_6).f0) _ _ t580 t583 t584 _ ?side1 ?side2 ?side3 ?side4 A123.out).mono ?_
                              (case side1 => exact cS (Kd.N_reads' HO_562001.out).2.2)
                              (case side2 => exact (Kd.N_reads' HO_562001.out).2.1)
                              (case side3 => exact cS (Kd.R_reads' HO582.out).2.2)
                              (case side4 => exact (Kd.R_reads' HO582.out).2.1)
                              rintro e w136 ⟨rfl, hb⟩
                              have HS4_ := (hb.cell (World.block_lt_of_cell? _ _ (hHeld.2.2.2.2.1))).trans (hHeld.2.2.2.2.1)
                              have HS5_ := (hb.cell (World.block_lt_of_cell? _ _ (hHeld.2.2.2.2.2.1))).trans (hHeld.2.2.2.2.2.1)
                              have HS6_ := (hb.cell (World.block_lt_of_cell? _ _ (hHeld.2.2.2.2.2.2))).trans (hHeld.2.2.2.2.2.2)
                              refine ⟨_, rfl, ?_⟩
                              replace HO_7 := rD HO_7 hb
                              replace HO_18 := rD HO_18 hb
                              replace HO_536001 := vD HO_536001 hb
                              replace HO_562001 := nD HO_562001 hb
                              replace HO_568001 := nD HO_568001 hb
                              replace HL571_2 := vD HL571_2 hb
                              replace HL576_2 := vD HL576_2 hb
                              replace HL579_2 := vD HL579_2 hb
                              replace HO582 := rD HO582 hb
                              replace BK535 := blB BK535 hb
                              replace BK561 := blB BK561 hb
                              replace BK567 := blB BK567 hb
                              replace HR571_2 := Aside0.mk (Kd.C_below (by repeat (first | (with_reducible exact HR571_2.out) | (with_reducible refine Kd.C_alloc ?_ _) | (with_reducible refine Kd.C_drewN ?_ _) | (with_reducible refine Kd.C_drew ?_) | exact HR571_2.out)) hb)
                              replace HR576_2 := Aside0.mk (Kd.C_below (by repeat (first | (with_reducible exact HR576_2.out) | (with_reducible refine Kd.C_alloc ?_ _) | (with_reducible refine Kd.C_drewN ?_ _) | (with_reducible refine Kd.C_drew ?_) | exact HR576_2.out)) hb)
                              replace HR579_2 := Aside0.mk (Kd.C_below (by repeat (first | (with_reducible exact HR579_2.out) | (with_reducible refine Kd.C_alloc ?_ _) | (with_reducible refine Kd.C_drewN ?_ _) | (with_reducible refine Kd.C_drew ?_) | exact HR579_2.out)) hb)
                              replace HB := Aside0.mk (below_step bel hb)
                              (try clear hb)
                              (try clear hb2)
                              (try clear hk)
                              (try clear hi)
                              refine hK.out _ _ ⟨(blk_cell BK561.out 0).trans rfl, (blk_cell BK561.out 1).trans rfl, (blk_cell BK535.out 0).trans rfl, (blk_cell BK535.out 1).trans rfl, HS4_, HS5_, HS6_⟩ (fun hHeld => ?_)
                              clear hK K
                              refine norm_ (a' := ?_) ?_ ?_
                              rotate_left
                              ·show Act.put _ (some 191) _ = _
                               simp only [Act.put, List.setIfInBounds_toArray, List.set_cons_zero, List.set_cons_succ, i64_w, i32_w]
                               rfl
                              refine sPu 11 (some 180) ?_
                              refine sPu 12 (some 192) ?_
                              refine sPu 13 (some 193) ?_
                              refine sPu 14 (some 22) ?_
                              refine sPu 15 (some 23) ?_
                              refine done_ (done_of HT_.out (by kernel_rfl)) ?_
                              try go_wp2
                              go_ret
                              exact ⟨eN, bel⟩
                             ·rw [if_neg c126] at H
                              have c126b0 : (t577 != t583) = false := by simpa using c126
                              (try (have c126b1 : decide (t577 = t583) = true := by simpa using c126))
                              (try (have c126b2 : (t577 == t583) = true := by simpa using c126))
                              clear c126
                              have H' := Aside0.mk H
                              clear H
                              have hnb137 := NB535_561.out
                              have hnc137 := NB561_535.out
                              have hnb138 := NB535_567.out
                              have hnc138 := NB567_535.out
                              obtain ⟨hcz139_0, hcz139_1, hfz139_0, hfz139_1⟩ := bq2 BK535
                              have p571 : 0 ≤ (x17_6 : Int) := dtr
                              have q571 : x17_6 < (l0_1.length : Int) := dtr
                              obtain ⟨ad571, A571_2, c571_2, e571, hx571_0, hx571_1, hx571_2, hl571_2, hi571_2⟩ := at_T52 (Kd.V_reads' HO_536001.out).2.2 x17_6 p571 q571
                              obtain rfl : ad570 = ad571 := (by injection e571)
                              obtain ⟨ce571, hce571, hMe571, hcc571⟩ := Kd.V_get HO_536001.out z52 x17_6 p571 (by first | exact q571 | exact dtr | (have e_ := (Kd.V_reads' HO_536001.out).1; omega))
                              obtain ⟨ua571_2, uc571_2, rfl, ul571_2, ge571_2⟩ := k52_openF hMe571
                              have hv571_2 := hcc571 2 _ rfl
                              rw [add_field _ _ 2 (by omega)] at hv571_2
                              replace hv571_2 := Option.some.inj (hv571_2.symm.trans hx571_2)
                              injection hv571_2 with hva_ hvn_ hvc_
                              rw [hva_] at ge571_2
                              rw [hvc_] at ul571_2
                              have HL571_2 := Aside0.mk (show Kd.V (Kd.slice 3 (Kd.int .i64)) 46 _ w.heap.size _ _ ((rd_T52 l0_1 x17_6).f2) from Kd.V_mk ul571_2 ge571_2)
                              clear hva_ hvn_ hvc_ ge571_2 ul571_2
                              clear hcc571 hce571
                              have HR571_2 := Aside0.mk hi571_2
                              have HC571_2 := Aside0.mk hl571_2
                              clear hi571_2 hl571_2
                              replace p571 := eq_true p571
                              replace q571 := eq_true q571
                              try go_wp2
                              replace HO_7 := Aside0.mk (Kd.R_drew HO_7.out)
                              replace HO_18 := Aside0.mk (Kd.R_drew HO_18.out)
                              replace HO_536001 := Aside0.mk (Kd.V_drew HO_536001.out)
                              replace HO_562001 := Aside0.mk (Kd.N_drew HO_562001.out)
                              replace HO_568001 := Aside0.mk (Kd.N_drew HO_568001.out)
                              replace HL571_2 := Aside0.mk (Kd.V_drew HL571_2.out)
                              replace BK535 := Aside0.mk (blk_drew BK535.out)
                              replace BK561 := Aside0.mk (blk_drew BK561.out)
                              replace BK567 := Aside0.mk (blk_drew BK567.out)
                              replace HR571_2 := Aside0.mk (Kd.C_drew HR571_2.out)
                              replace HB := Aside0.mk (below_drew1 HB.out)
                              have p576 : 0 ≤ (x17_6 : Int) := dtr
                              have q576 : x17_6 < (l0_1.length : Int) := dtr
                              obtain ⟨ad576, A576_2, c576_2, e576, hx576_0, hx576_1, hx576_2, hl576_2, hi576_2⟩ := at_T52 (Kd.V_reads' HO_536001.out).2.2 x17_6 p576 q576
                              obtain rfl : ad570 = ad576 := (by injection e576)
                              obtain ⟨ce576, hce576, hMe576, hcc576⟩ := Kd.V_get HO_536001.out z52 x17_6 p576 (by first | exact q576 | exact dtr | (have e_ := (Kd.V_reads' HO_536001.out).1; omega))
                              obtain ⟨ua576_2, uc576_2, rfl, ul576_2, ge576_2⟩ := k52_openF hMe576
                              have hv576_2 := hcc576 2 _ rfl
                              rw [add_field _ _ 2 (by omega)] at hv576_2
                              replace hv576_2 := Option.some.inj (hv576_2.symm.trans hx576_2)
                              injection hv576_2 with hva_ hvn_ hvc_
                              rw [hva_] at ge576_2
                              rw [hvc_] at ul576_2
                              have HL576_2 := Aside0.mk (show Kd.V (Kd.slice 3 (Kd.int .i64)) 46 _ w.heap.size _ _ ((rd_T52 l0_1 x17_6).f2) from Kd.V_mk ul576_2 ge576_2)
                              clear hva_ hvn_ hvc_ ge576_2 ul576_2
                              clear hcc576 hce576
                              have HR576_2 := Aside0.mk hi576_2
                              have HC576_2 := Aside0.mk hl576_2
                              clear hi576_2 hl576_2
                              replace p576 := eq_true p576
                              replace q576 := eq_true q576
                              obtain ⟨Ao141, co141, eo141⟩ := Kd.R_slice HO_18.out
                              (first | subst eo141 | (injection eo141 with f1_ f2_ f3_; have f4_ := f1_.symm; have f5_ := f3_.symm; clear f1_ f2_ f3_; subst f4_; subst f5_))
                              refine start_ (n := 14) (S := fun w' => w'.cell? ⟨gb535, 0, none⟩ = some (.int .i64 a0_0) ∧ w'.cell? ⟨gb535, 1, none⟩ = some (.slice (some ad570) l0_1.length c0_1) ∧ w'.cell? (ad570.add ((x17_6).toNat * 3)) = some (.string ((rd_T52 l0_1 x17_6).f0)) ∧ w'.cell? ⟨(ad570.add ((x17_6).toNat * 3)).block, (ad570.add ((x17_6).toNat * 3)).off + 1, none⟩ = some (.int .i64 ((rd_T52 l0_1 x17_6).f1)) ∧ w'.cell? ⟨(ad570.add ((x17_6).toNat * 3)).block, (ad570.add ((x17_6).toNat * 3)).off + 2, none⟩ = some (.slice A576_2 ((rd_T52 l0_1 x17_6).f2).length c576_2)) (ds := []) #[false, false, false, false, false, false, false, false, false, false, false, false, false, false] (by kernel_rfl) rfl rfl ⟨(blk_cell BK535.out 0).trans rfl, (blk_cell BK535.out 1).trans rfl, hx576_0, hx576_1, hx576_2⟩ (fun hHeld => ?_); refine with_tabW paraphrastlaw01_ShapeNames.tab30 paraphrastlaw01_ShapeNames.bits30 (fun HT_ HW_ => ?_)
                              generalize wr.drew = w140 at HO_7 HO_18 HO_536001 HO_562001 HO_568001 HL571_2 BK535 BK561 BK567 HR571_2 HB HL576_2 HR576_2 hx576_0 hx576_1 hx576_2 hHeld ⊢
                              refine sPu 1 (some 170) ?_
                              refine sPu 3 (some 172) ?_
                              refine sPu 7 (some 176) ?_
                              refine sTk 0 (some 169) ?_
                              refine sTk 2 (some 171) ?_
                              refine sPu 4 (some 173) ?_
                              refine sPu 5 (some 174) ?_
                              refine sTk 6 (some 175) ?_
                              refine sOn 8 (some 177) (fun K hK => ?_)
                              refine goes_ Tryz.func25 (by kernel_rfl) rfl #[.agg #[.int .i64 a0_0, .slice (some ad570) l0_1.length c0_1], .string ((rd_T52 l0_1 x17_6).f0), .slice Ao141 x18_7.length co141] (by rfl) rfl rfl (by (try simp only [List.map_toArray, List.map_cons, List.map_nil]); first | done | rfl | (simp only [List.length_drop, List.length_take]; rfl)) ?_
                              with_reducible refine (shape_Has.calls k7 a0_0 _ _ l0_1 ((rd_T52 l0_1 x17_6).f0) _ _ x18_7 t577 t578 _ ?side1 ?side2 ?side3 ?side4 A121.out).mono ?_
                              (case side1 => exact cS (Kd.V_reads' HO_536001.out).2.2)
                              (case side2 => exact (Kd.V_reads' HO_536001.out).2.1)
                              (case side3 => exact cS (Kd.R_reads' HO_18.out).2.2)
                              (case side4 => exact (Kd.R_reads' HO_18.out).2.1)
                              rintro e w142 ⟨rfl, hb⟩
                              have HS2_ := (hb.cell (World.block_lt_of_cell? _ _ (hHeld.2.2.1))).trans (hHeld.2.2.1)
                              have HS3_ := (hb.cell (World.block_lt_of_cell? _ _ (hHeld.2.2.2.1))).trans (hHeld.2.2.2.1)
                              have HS4_ := (hb.cell (World.block_lt_of_cell? _ _ (hHeld.2.2.2.2))).trans (hHeld.2.2.2.2)
                              refine ⟨_, rfl, ?_⟩
                              replace HO_7 := rD HO_7 hb
                              replace HO_18 := rD HO_18 hb
                              replace HO_536001 := vD HO_536001 hb
                              replace HO_562001 := nD HO_562001 hb
                              replace HO_568001 := nD HO_568001 hb
                              replace HL571_2 := vD HL571_2 hb
                              replace HL576_2 := vD HL576_2 hb
                              replace BK535 := blB BK535 hb
                              replace BK561 := blB BK561 hb
                              replace BK567 := blB BK567 hb
                              replace HR571_2 := Aside0.mk (Kd.C_below (by repeat (first | (with_reducible exact HR571_2.out) | (with_reducible refine Kd.C_alloc ?_ _) | (with_reducible refine Kd.C_drewN ?_ _) | (with_reducible refine Kd.C_drew ?_) | exact HR571_2.out)) hb)
                              replace HR576_2 := Aside0.mk (Kd.C_below (by repeat (first | (with_reducible exact HR576_2.out) | (with_reducible refine Kd.C_alloc ?_ _) | (with_reducible refine Kd.C_drewN ?_ _) | (with_reducible refine Kd.C_drew ?_) | exact HR576_2.out)) hb)
                              replace HB := Aside0.mk (below_step bel hb)
                              (try clear hb)
                              (try clear hb2)
                              (try clear hk)
                              (try clear hi)
                              refine hK.out _ _ ⟨(blk_cell BK535.out 0).trans rfl, (blk_cell BK535.out 1).trans rfl, HS2_, HS3_, HS4_⟩ (fun hHeld => ?_)
                              clear hK K
                              refine norm_ (a' := ?_) ?_ ?_
                              rotate_left
                              ·show Act.put _ (some 177) _ = _
                               simp only [Act.put, List.setIfInBounds_toArray, List.set_cons_zero, List.set_cons_succ, i64_w, i32_w]
                               rfl
                              refine sPu 9 (some 168) ?_
                              refine sPu 10 (some 178) ?_
                              refine sPu 11 (some 179) ?_
                              refine sPu 12 (some 20) ?_
                              refine sPu 13 (some 21) ?_
                              refine done_ (done_of HT_.out (by kernel_rfl)) ?_
                              try go_wp2
                              replace HO_7 := Aside0.mk (Kd.R_drew HO_7.out)
                              replace HO_18 := Aside0.mk (Kd.R_drew HO_18.out)
                              replace HO_536001 := Aside0.mk (Kd.V_drew HO_536001.out)
                              replace HO_562001 := Aside0.mk (Kd.N_drew HO_562001.out)
                              replace HO_568001 := Aside0.mk (Kd.N_drew HO_568001.out)
                              replace HL571_2 := Aside0.mk (Kd.V_drew HL571_2.out)
                              replace HL576_2 := Aside0.mk (Kd.V_drew HL576_2.out)
                              replace BK535 := Aside0.mk (blk_drew BK535.out)
                              replace BK561 := Aside0.mk (blk_drew BK561.out)
                              replace BK567 := Aside0.mk (blk_drew BK567.out)
                              replace HR571_2 := Aside0.mk (Kd.C_drew HR571_2.out)
                              replace HR576_2 := Aside0.mk (Kd.C_drew HR576_2.out)
                              replace HB := Aside0.mk (below_drew1 HB.out)
                              have p579 : 0 ≤ (x17_6 : Int) := dtr
                              have q579 : x17_6 < (l0_1.length : Int) := dtr
                              obtain ⟨ad579, A579_2, c579_2, e579, hx579_0, hx579_1, hx579_2, hl579_2, hi579_2⟩ := at_T52 (Kd.V_reads' HO_536001.out).2.2 x17_6 p579 q579
                              obtain rfl : ad570 = ad579 := (by injection e579)
                              obtain ⟨ce579, hce579, hMe579, hcc579⟩ := Kd.V_get HO_536001.out z52 x17_6 p579 (by first | exact q579 | exact dtr | (have e_ := (Kd.V_reads' HO_536001.out).1; omega))
                              obtain ⟨ua579_2, uc579_2, rfl, ul579_2, ge579_2⟩ := k52_openF hMe579
                              have hv579_2 := hcc579 2 _ rfl
                              rw [add_field _ _ 2 (by omega)] at hv579_2
                              replace hv579_2 := Option.some.inj (hv579_2.symm.trans hx579_2)
                              injection hv579_2 with hva_ hvn_ hvc_
                              rw [hva_] at ge579_2
                              rw [hvc_] at ul579_2
                              have HL579_2 := Aside0.mk (show Kd.V (Kd.slice 3 (Kd.int .i64)) 46 _ w.heap.size _ _ ((rd_T52 l0_1 x17_6).f2) from Kd.V_mk ul579_2 ge579_2)
                              clear hva_ hvn_ hvc_ ge579_2 ul579_2
                              clear hcc579 hce579
                              have HR579_2 := Aside0.mk hi579_2
                              have HC579_2 := Aside0.mk hl579_2
                              clear hi579_2 hl579_2
                              replace p579 := eq_true p579
                              replace q579 := eq_true q579
                              refine start_ (n := 16) (S := fun w' => w'.cell? ⟨gb561, 0, none⟩ = some (.int .i64 t556) ∧ w'.cell? ⟨gb561, 1, none⟩ = some (.slice Ao82 t557.length co82) ∧ w'.cell? ⟨gb535, 0, none⟩ = some (.int .i64 a0_0) ∧ w'.cell? ⟨gb535, 1, none⟩ = some (.slice (some ad570) l0_1.length c0_1) ∧ w'.cell? (ad570.add ((x17_6).toNat * 3)) = some (.string ((rd_T52 l0_1 x17_6).f0)) ∧ w'.cell? ⟨(ad570.add ((x17_6).toNat * 3)).block, (ad570.add ((x17_6).toNat * 3)).off + 1, none⟩ = some (.int .i64 ((rd_T52 l0_1 x17_6).f1)) ∧ w'.cell? ⟨(ad570.add ((x17_6).toNat * 3)).block, (ad570.add ((x17_6).toNat * 3)).off + 2, none⟩ = some (.slice A579_2 ((rd_T52 l0_1 x17_6).f2).length c579_2)) (ds := []) #[false, false, false, false, false, false, false, false, false, false, false, false, false, false, false, false] (by kernel_rfl) rfl rfl ⟨(blk_cell BK561.out 0).trans rfl, (blk_cell BK561.out 1).trans rfl, (blk_cell BK535.out 0).trans rfl, (blk_cell BK535.out 1).trans rfl, hx579_0, hx579_1, hx579_2⟩ (fun hHeld => ?_); refine with_tabW paraphrastlaw01_ShapeNames.tab31 paraphrastlaw01_ShapeNames.bits31 (fun HT_ HW_ => ?_)
                              generalize w142.drew = w143 at HO_7 HO_18 HO_536001 HO_562001 HO_568001 HL571_2 HL576_2 BK535 BK561 BK567 HR571_2 HR576_2 HB HL579_2 HR579_2 hx579_0 hx579_1 hx579_2 hHeld ⊢
                              refine sPu 1 (some 182) ?_
                              refine sPu 3 (some 184) ?_
                              refine sPu 7 (some 188) ?_
                              refine sPu 8 (some 189) ?_
                              refine sTk 0 (some 181) ?_
                              refine sTk 2 (some 183) ?_
                              refine sPu 4 (some 185) ?_
                              refine sPu 5 (some 186) ?_
                              refine sTk 6 (some 187) ?_
                              refine sOn 9 (some 190) (fun K hK => ?_)
                              refine goes_ Tryz.func35 (by kernel_rfl) rfl #[.slice Ao141 x18_7.length co141, .slice Ao77 x7_43.length co77] (by rfl) rfl rfl (by (try simp only [List.map_toArray, List.map_cons, List.map_nil]); first | done | rfl | (simp only [List.length_drop, List.length_take]; rfl)) ?_
                              with_reducible refine (paraphrastref01_Renamed.calls k7 _ _ x18_7 _ _ x7_43 t580 _ ?side1 ?side2 ?side3 ?side4 A122.out).mono ?_
                              (case side1 => exact cS (Kd.R_reads' HO_18.out).2.2)
                              (case side2 => exact (Kd.R_reads' HO_18.out).2.1)
                              (case side3 => exact cS (Kd.R_reads' HO_7.out).2.2)
                              (case side4 => exact (Kd.R_reads' HO_7.out).2.1)
                              rintro e w144 ⟨v581, rfl, ho0, hb⟩
                              have HS4_ := (hb.cell (World.block_lt_of_cell? _ _ (hHeld.2.2.2.2.1))).trans (hHeld.2.2.2.2.1)
                              have HS5_ := (hb.cell (World.block_lt_of_cell? _ _ (hHeld.2.2.2.2.2.1))).trans (hHeld.2.2.2.2.2.1)
                              have HS6_ := (hb.cell (World.block_lt_of_cell? _ _ (hHeld.2.2.2.2.2.2))).trans (hHeld.2.2.2.2.2.2)
                              refine ⟨_, rfl, ?_⟩
                              have HO582 := Aside0.mk (Kd.R_lower (Kd.R_new' (Kd.R_new' (Kd.R_newM (M := fun k_ => (w.heap.size ≤ k_)) ho0 (below_size bel) (fun k_ h_ => h_)) (Kd.R_lt (tw HO_7.out))) (Kd.R_lt (tw HO_18.out))) (below_size bel))
                              replace HO_7 := rE HO_7 (Kd.R_base ho0) hb
                              replace HO_18 := rE HO_18 (Kd.R_base ho0) hb
                              replace HO_536001 := vE HO_536001 (Kd.R_base ho0) hb
                              replace HO_562001 := Aside0.mk (Kd.N_elder' (tw HO_562001.out) (Kd.R_base ho0) hb)
                              replace HO_568001 := Aside0.mk (Kd.N_elder' (tw HO_568001.out) (Kd.R_base ho0) hb)
                              replace HL571_2 := vE HL571_2 (Kd.R_base ho0) hb
                              replace HL576_2 := vE HL576_2 (Kd.R_base ho0) hb
                              replace HL579_2 := vE HL579_2 (Kd.R_base ho0) hb
                              replace BK535 := blB BK535 hb
                              replace BK561 := blB BK561 hb
                              replace BK567 := blB BK567 hb
                              replace HR571_2 := Aside0.mk (Kd.C_below (by repeat (first | (with_reducible exact HR571_2.out) | (with_reducible refine Kd.C_alloc ?_ _) | (with_reducible refine Kd.C_drewN ?_ _) | (with_reducible refine Kd.C_drew ?_) | exact HR571_2.out)) hb)
                              replace HR576_2 := Aside0.mk (Kd.C_below (by repeat (first | (with_reducible exact HR576_2.out) | (with_reducible refine Kd.C_alloc ?_ _) | (with_reducible refine Kd.C_drewN ?_ _) | (with_reducible refine Kd.C_drew ?_) | exact HR576_2.out)) hb)
                              replace HR579_2 := Aside0.mk (Kd.C_below (by repeat (first | (with_reducible exact HR579_2.out) | (with_reducible refine Kd.C_alloc ?_ _) | (with_reducible refine Kd.C_drewN ?_ _) | (with_reducible refine Kd.C_drew ?_) | exact HR579_2.out)) hb)
                              replace HB := Aside0.mk (below_step bel hb)
                              (try clear hb)
                              (try clear hb2)
                              (try clear hk)
                              (try clear hi)
                              (try clear ho0)
                              obtain ⟨Ao145, co145, eo145⟩ := Kd.R_slice HO582.out
                              (first | subst eo145 | (injection eo145 with f1_ f2_ f3_; have f4_ := f1_.symm; have f5_ := f3_.symm; clear f1_ f2_ f3_; subst f4_; subst f5_))
                              refine hK.out _ _ ⟨(blk_cell BK561.out 0).trans rfl, (blk_cell BK561.out 1).trans rfl, (blk_cell BK535.out 0).trans rfl, (blk_cell BK535.out 1).trans rfl, HS4_, HS5_, HS6_⟩ (fun hHeld => ?_)
                              clear hK K
                              refine norm_ (a' := ?_) ?_ ?_
                              rotate_left
                              ·show Act.put _ (some 190) _ = _
                               simp only [Act.put, List.setIfInBounds_toArray, List.set_cons_zero, List.set_cons_succ, i64_w, i32_w]
                               rfl
                              refine sOn 10 (some 191) (fun K hK => ?_)
                              refine goes_ Tryz.func25 (by kernel_rfl) rfl #[.agg #[.int .i64 t556, .slice Ao82 t557.length co82], .string ((rd_T52 l0_1 x17_6).f0), .slice Ao145 t580.length co145] (by rfl) rfl rfl (by (try simp only [List.map_toArray, List.map_cons, List.map_nil]); first | done | rfl | (simp only [List.length_drop, List.length_take]; rfl)) ?_
                              with_reducible refine (shape_Has.calls k7 t556 _ _ t557 ((rd_T52 l0_1 x17_6).f0) _ _ t580 t583 t584 _ ?side1 ?side2 ?side3 ?side4 A123.out).mono ?_
                              (case side1 => exact cS (Kd.N_reads' HO_562001.out).2.2)
                              (case side2 => exact (Kd.N_reads' HO_562001.out).2.1)
                              (case side3 => exact cS (Kd.R_reads' HO582.out).2.2)
                              (case side4 => exact (Kd.R_reads' HO582.out).2.1)
                              rintro e w146 ⟨rfl, hb⟩
                              have HS4_ := (hb.cell (World.block_lt_of_cell? _ _ (hHeld.2.2.2.2.1))).trans (hHeld.2.2.2.2.1)
                              have HS5_ := (hb.cell (World.block_lt_of_cell? _ _ (hHeld.2.2.2.2.2.1))).trans (hHeld.2.2.2.2.2.1)
                              have HS6_ := (hb.cell (World.block_lt_of_cell? _ _ (hHeld.2.2.2.2.2.2))).trans (hHeld.2.2.2.2.2.2)
                              refine ⟨_, rfl, ?_⟩
                              replace HO_7 := rD HO_7 hb
                              replace HO_18 := rD HO_18 hb
                              replace HO_536001 := vD HO_536001 hb
                              replace HO_562001 := nD HO_562001 hb
                              replace HO_568001 := nD HO_568001 hb
                              replace HL571_2 := vD HL571_2 hb
                              replace HL576_2 := vD HL576_2 hb
                              replace HL579_2 := vD HL579_2 hb
                              replace HO582 := rD HO582 hb
                              replace BK535 := blB BK535 hb
                              replace BK561 := blB BK561 hb
                              replace BK567 := blB BK567 hb
                              replace HR571_2 := Aside0.mk (Kd.C_below (by repeat (first | (with_reducible exact HR571_2.out) | (with_reducible refine Kd.C_alloc ?_ _) | (with_reducible refine Kd.C_drewN ?_ _) | (with_reducible refine Kd.C_drew ?_) | exact HR571_2.out)) hb)
                              replace HR576_2 := Aside0.mk (Kd.C_below (by repeat (first | (with_reducible exact HR576_2.out) | (with_reducible refine Kd.C_alloc ?_ _) | (with_reducible refine Kd.C_drewN ?_ _) | (with_reducible refine Kd.C_drew ?_) | exact HR576_2.out)) hb)
                              replace HR579_2 := Aside0.mk (Kd.C_below (by repeat (first | (with_reducible exact HR579_2.out) | (with_reducible refine Kd.C_alloc ?_ _) | (with_reducible refine Kd.C_drewN ?_ _) | (with_reducible refine Kd.C_drew ?_) | exact HR579_2.out)) hb)
                              replace HB := Aside0.mk (below_step bel hb)
                              (try clear hb)
                              (try clear hb2)
                              (try clear hk)
                              (try clear hi)
                              refine hK.out _ _ ⟨(blk_cell BK561.out 0).trans rfl, (blk_cell BK561.out 1).trans rfl, (blk_cell BK535.out 0).trans rfl, (blk_cell BK535.out 1).trans rfl, HS4_, HS5_, HS6_⟩ (fun hHeld => ?_)
                              clear hK K
                              refine norm_ (a' := ?_) ?_ ?_
                              rotate_left
                              ·show Act.put _ (some 191) _ = _
                               simp only [Act.put, List.setIfInBounds_toArray, List.set_cons_zero, List.set_cons_succ, i64_w, i32_w]
                               rfl
                              refine sPu 11 (some 180) ?_
                              refine sPu 12 (some 192) ?_
                              refine sPu 13 (some 193) ?_
                              refine sPu 14 (some 22) ?_
                              refine sPu 15 (some 23) ?_
                              refine done_ (done_of HT_.out (by kernel_rfl)) ?_
                              try go_wp2
                              go_roundg k7
                              case measure => have := HJ3.out; have := HK2.out; have := HJ43.out; have := HK4.out; have := HJ74.out; have := HK6.out; have := HK7.out; omega
                              case rel => exact ⟨(wrap64 (x17_6 + 1)), eS, H', ⟨by have := HJ3.out; have := HK2.out; have := HJ43.out; have := HK4.out; have := HJ74.out; have := HK6.out; have := HK7.out; omega⟩, ⟨by (with_reducible repeat (first | apply Kd.R_alloc | apply Kd.R_drewN | apply Kd.R_drew)); exact Kd.R_mono HO_7.out (fun _ hk => hk.1.1)⟩, ⟨by (with_reducible repeat (first | apply Kd.V_alloc | apply Kd.V_drewN | apply Kd.V_drew)); exact Kd.V_mono HO_536001.out (fun _ hk => ⟨hk.1.1, ⟨hk.1.2.1, ⟨hk.1.2.2.2.1, ⟨hk.1.2.2.2.2.1, ⟨hk.1.2.2.2.2.2.1, ⟨hk.1.2.2.2.2.2.2.1, hk.1.2.2.2.2.2.2.2⟩⟩⟩⟩⟩⟩)⟩, ⟨by (with_reducible repeat (first | apply Kd.N_alloc | apply Kd.N_drewN | apply Kd.N_drew)); exact Kd.N_mono HO_562001.out (fun _ hk => ⟨hk.1.1, ⟨hk.1.2.1, ⟨hk.1.2.2.2.1, ⟨hk.1.2.2.2.2.1, ⟨hk.1.2.2.2.2.2.1, hk.1.2.2.2.2.2.2⟩⟩⟩⟩⟩)⟩, ⟨by (with_reducible repeat (first | apply Kd.N_alloc | apply Kd.N_drewN | apply Kd.N_drew)); exact Kd.N_mono HO_568001.out (fun _ hk => ⟨hk.1.1, ⟨hk.1.2.1, ⟨hk.1.2.2.2.1, ⟨hk.1.2.2.2.2.1, ⟨hk.1.2.2.2.2.2.1, hk.1.2.2.2.2.2.2⟩⟩⟩⟩⟩)⟩, ⟨bk BK535⟩, ⟨bk BK561⟩, ⟨bk BK567⟩, ⟨bel⟩⟩
                            ·rw [if_neg c125] at H
                             have c125b0 : (t584 == 0) = false := beq_eq_false_iff_ne.mpr c125
                             have c125b1 : (t584 != 0) = true := bne_iff_ne.mpr c125
                             obtain rfl := Option.some.inj H
                             have hnb147 := NB535_561.out
                             have hnc147 := NB561_535.out
                             have hnb148 := NB535_567.out
                             have hnc148 := NB567_535.out
                             obtain ⟨hcz149_0, hcz149_1, hfz149_0, hfz149_1⟩ := bq2 BK535
                             have p571 : 0 ≤ (x17_6 : Int) := dtr
                             have q571 : x17_6 < (l0_1.length : Int) := dtr
                             obtain ⟨ad571, A571_2, c571_2, e571, hx571_0, hx571_1, hx571_2, hl571_2, hi571_2⟩ := at_T52 (Kd.V_reads' HO_536001.out).2.2 x17_6 p571 q571
                             obtain rfl : ad570 = ad571 := (by injection e571)
                             obtain ⟨ce571, hce571, hMe571, hcc571⟩ := Kd.V_get HO_536001.out z52 x17_6 p571 (by first | exact q571 | exact dtr | (have e_ := (Kd.V_reads' HO_536001.out).1; omega))
                             obtain ⟨ua571_2, uc571_2, rfl, ul571_2, ge571_2⟩ := k52_openF hMe571
                             have hv571_2 := hcc571 2 _ rfl
                             rw [add_field _ _ 2 (by omega)] at hv571_2
                             replace hv571_2 := Option.some.inj (hv571_2.symm.trans hx571_2)
                             injection hv571_2 with hva_ hvn_ hvc_
                             rw [hva_] at ge571_2
                             rw [hvc_] at ul571_2
                             have HL571_2 := Aside0.mk (show Kd.V (Kd.slice 3 (Kd.int .i64)) 46 _ w.heap.size _ _ ((rd_T52 l0_1 x17_6).f2) from Kd.V_mk ul571_2 ge571_2)
                             clear hva_ hvn_ hvc_ ge571_2 ul571_2
                             clear hcc571 hce571
                             have HR571_2 := Aside0.mk hi571_2
                             have HC571_2 := Aside0.mk hl571_2
                             clear hi571_2 hl571_2
                             replace p571 := eq_true p571
                             replace q571 := eq_true q571
                             try go_wp2
                             replace HO_7 := Aside0.mk (Kd.R_drew HO_7.out)
                             replace HO_18 := Aside0.mk (Kd.R_drew HO_18.out)
                             replace HO_536001 := Aside0.mk (Kd.V_drew HO_536001.out)
                             replace HO_562001 := Aside0.mk (Kd.N_drew HO_562001.out)
                             replace HO_568001 := Aside0.mk (Kd.N_drew HO_568001.out)
                             replace HL571_2 := Aside0.mk (Kd.V_drew HL571_2.out)
                             replace BK535 := Aside0.mk (blk_drew BK535.out)
                             replace BK561 := Aside0.mk (blk_drew BK561.out)
                             replace BK567 := Aside0.mk (blk_drew BK567.out)
                             replace HR571_2 := Aside0.mk (Kd.C_drew HR571_2.out)
                             replace HB := Aside0.mk (below_drew1 HB.out)
                             have p576 : 0 ≤ (x17_6 : Int) := dtr
                             have q576 : x17_6 < (l0_1.length : Int) := dtr
                             obtain ⟨ad576, A576_2, c576_2, e576, hx576_0, hx576_1, hx576_2, hl576_2, hi576_2⟩ := at_T52 (Kd.V_reads' HO_536001.out).2.2 x17_6 p576 q576
                             obtain rfl : ad570 = ad576 := (by injection e576)
                             obtain ⟨ce576, hce576, hMe576, hcc576⟩ := Kd.V_get HO_536001.out z52 x17_6 p576 (by first | exact q576 | exact dtr | (have e_ := (Kd.V_reads' HO_536001.out).1; omega))
                             obtain ⟨ua576_2, uc576_2, rfl, ul576_2, ge576_2⟩ := k52_openF hMe576
                             have hv576_2 := hcc576 2 _ rfl
                             rw [add_field _ _ 2 (by omega)] at hv576_2
                             replace hv576_2 := Option.some.inj (hv576_2.symm.trans hx576_2)
                             injection hv576_2 with hva_ hvn_ hvc_
                             rw [hva_] at ge576_2
                             rw [hvc_] at ul576_2
                             have HL576_2 := Aside0.mk (show Kd.V (Kd.slice 3 (Kd.int .i64)) 46 _ w.heap.size _ _ ((rd_T52 l0_1 x17_6).f2) from Kd.V_mk ul576_2 ge576_2)
                             clear hva_ hvn_ hvc_ ge576_2 ul576_2
                             clear hcc576 hce576
                             have HR576_2 := Aside0.mk hi576_2
                             have HC576_2 := Aside0.mk hl576_2
                             clear hi576_2 hl576_2
                             replace p576 := eq_true p576
                             replace q576 := eq_true q576
                             obtain ⟨Ao151, co151, eo151⟩ := Kd.R_slice HO_18.out
                             (first | subst eo151 | (injection eo151 with f1_ f2_ f3_; have f4_ := f1_.symm; have f5_ := f3_.symm; clear f1_ f2_ f3_; subst f4_; subst f5_))
                             refine start_ (n := 14) (S := fun w' => w'.cell? ⟨gb535, 0, none⟩ = some (.int .i64 a0_0) ∧ w'.cell? ⟨gb535, 1, none⟩ = some (.slice (some ad570) l0_1.length c0_1) ∧ w'.cell? (ad570.add ((x17_6).toNat * 3)) = some (.string ((rd_T52 l0_1 x17_6).f0)) ∧ w'.cell? ⟨(ad570.add ((x17_6).toNat * 3)).block, (ad570.add ((x17_6).toNat * 3)).off + 1, none⟩ = some (.int .i64 ((rd_T52 l0_1 x17_6).f1)) ∧ w'.cell? ⟨(ad570.add ((x17_6).toNat * 3)).block, (ad570.add ((x17_6).toNat * 3)).off + 2, none⟩ = some (.slice A576_2 ((rd_T52 l0_1 x17_6).f2).length c576_2)) (ds := []) #[false, false, false, false, false, false, false, false, false, false, false, false, false, false] (by kernel_rfl) rfl rfl ⟨(blk_cell BK535.out 0).trans rfl, (blk_cell BK535.out 1).trans rfl, hx576_0, hx576_1, hx576_2⟩ (fun hHeld => ?_); refine with_tabW paraphrastlaw01_ShapeNames.tab30 paraphrastlaw01_ShapeNames.bits30 (fun HT_ HW_ => ?_)
                             generalize wr.drew = w150 at HO_7 HO_18 HO_536001 HO_562001 HO_568001 HL571_2 BK535 BK561 BK567 HR571_2 HB HL576_2 HR576_2 hx576_0 hx576_1 hx576_2 hHeld ⊢
                             refine sPu 1 (some 170) ?_
                             refine sPu 3 (some 172) ?_
                             refine sPu 7 (some 176) ?_
                             refine sTk 0 (some 169) ?_
                             refine sTk 2 (some 171) ?_
                             refine sPu 4 (some 173) ?_
                             refine sPu 5 (some 174) ?_
                             refine sTk 6 (some 175) ?_
                             refine sOn 8 (some 177) (fun K hK => ?_)
                             refine goes_ Tryz.func25 (by kernel_rfl) rfl #[.agg #[.int .i64 a0_0, .slice (some ad570) l0_1.length c0_1], .string ((rd_T52 l0_1 x17_6).f0), .slice Ao151 x18_7.length co151] (by rfl) rfl rfl (by (try simp only [List.map_toArray, List.map_cons, List.map_nil]); first | done | rfl | (simp only [List.length_drop, List.length_take]; rfl)) ?_
                             with_reducible refine (shape_Has.calls k7 a0_0 _ _ l0_1 ((rd_T52 l0_1 x17_6).f0) _ _ x18_7 t577 t578 _ ?side1 ?side2 ?side3 ?side4 A121.out).mono ?_
                             (case side1 => exact cS (Kd.V_reads' HO_536001.out).2.2)
                             (case side2 => exact (Kd.V_reads' HO_536001.out).2.1)
                             (case side3 => exact cS (Kd.R_reads' HO_18.out).2.2)
                             (case side4 => exact (Kd.R_reads' HO_18.out).2.1)
                             rintro e w152 ⟨rfl, hb⟩
                             have HS2_ := (hb.cell (World.block_lt_of_cell? _ _ (hHeld.2.2.1))).trans (hHeld.2.2.1)
                             have HS3_ := (hb.cell (World.block_lt_of_cell? _ _ (hHeld.2.2.2.1))).trans (hHeld.2.2.2.1)
                             have HS4_ := (hb.cell (World.block_lt_of_cell? _ _ (hHeld.2.2.2.2))).trans (hHeld.2.2.2.2)
                             refine ⟨_, rfl, ?_⟩
                             replace HO_7 := rD HO_7 hb
                             replace HO_18 := rD HO_18 hb
                             replace HO_536001 := vD HO_536001 hb
                             replace HO_562001 := nD HO_562001 hb
                             replace HO_568001 := nD HO_568001 hb
                             replace HL571_2 := vD HL571_2 hb
                             replace HL576_2 := vD HL576_2 hb
                             replace BK535 := blB BK535 hb
                             replace BK561 := blB BK561 hb
                             replace BK567 := blB BK567 hb
                             replace HR571_2 := Aside0.mk (Kd.C_below (by repeat (first | (with_reducible exact HR571_2.out) | (with_reducible refine Kd.C_alloc ?_ _) | (with_reducible refine Kd.C_drewN ?_ _) | (with_reducible refine Kd.C_drew ?_) | exact HR571_2.out)) hb)
                             replace HR576_2 := Aside0.mk (Kd.C_below (by repeat (first | (with_reducible exact HR576_2.out) | (with_reducible refine Kd.C_alloc ?_ _) | (with_reducible refine Kd.C_drewN ?_ _) | (with_reducible refine Kd.C_drew ?_) | exact HR576_2.out)) hb)
                             replace HB := Aside0.mk (below_step bel hb)
                             (try clear hb)
                             (try clear hb2)
                             (try clear hk)
                             (try clear hi)
                             refine hK.out _ _ ⟨(blk_cell BK535.out 0).trans rfl, (blk_cell BK535.out 1).trans rfl, HS2_, HS3_, HS4_⟩ (fun hHeld => ?_)
                             clear hK K
                             refine norm_ (a' := ?_) ?_ ?_
                             rotate_left
                             ·show Act.put _ (some 177) _ = _
                              simp only [Act.put, List.setIfInBounds_toArray, List.set_cons_zero, List.set_cons_succ, i64_w, i32_w]
                              rfl
                             refine sPu 9 (some 168) ?_
                             refine sPu 10 (some 178) ?_
                             refine sPu 11 (some 179) ?_
                             refine sPu 12 (some 20) ?_
                             refine sPu 13 (some 21) ?_
                             refine done_ (done_of HT_.out (by kernel_rfl)) ?_
                             try go_wp2
                             replace HO_7 := Aside0.mk (Kd.R_drew HO_7.out)
                             replace HO_18 := Aside0.mk (Kd.R_drew HO_18.out)
                             replace HO_536001 := Aside0.mk (Kd.V_drew HO_536001.out)
                             replace HO_562001 := Aside0.mk (Kd.N_drew HO_562001.out)
                             replace HO_568001 := Aside0.mk (Kd.N_drew HO_568001.out)
                             replace HL571_2 := Aside0.mk (Kd.V_drew HL571_2.out)
                             replace HL576_2 := Aside0.mk (Kd.V_drew HL576_2.out)
                             replace BK535 := Aside0.mk (blk_drew BK535.out)
                             replace BK561 := Aside0.mk (blk_drew BK561.out)
                             replace BK567 := Aside0.mk (blk_drew BK567.out)
                             replace HR571_2 := Aside0.mk (Kd.C_drew HR571_2.out)
                             replace HR576_2 := Aside0.mk (Kd.C_drew HR576_2.out)
                             replace HB := Aside0.mk (below_drew1 HB.out)
                             have p579 : 0 ≤ (x17_6 : Int) := dtr
                             have q579 : x17_6 < (l0_1.length : Int) := dtr
                             obtain ⟨ad579, A579_2, c579_2, e579, hx579_0, hx579_1, hx579_2, hl579_2, hi579_2⟩ := at_T52 (Kd.V_reads' HO_536001.out).2.2 x17_6 p579 q579
                             obtain rfl : ad570 = ad579 := (by injection e579)
                             obtain ⟨ce579, hce579, hMe579, hcc579⟩ := Kd.V_get HO_536001.out z52 x17_6 p579 (by first | exact q579 | exact dtr | (have e_ := (Kd.V_reads' HO_536001.out).1; omega))
                             obtain ⟨ua579_2, uc579_2, rfl, ul579_2, ge579_2⟩ := k52_openF hMe579
                             have hv579_2 := hcc579 2 _ rfl
                             rw [add_field _ _ 2 (by omega)] at hv579_2
                             replace hv579_2 := Option.some.inj (hv579_2.symm.trans hx579_2)
                             injection hv579_2 with hva_ hvn_ hvc_
                             rw [hva_] at ge579_2
                             rw [hvc_] at ul579_2
                             have HL579_2 := Aside0.mk (show Kd.V (Kd.slice 3 (Kd.int .i64)) 46 _ w.heap.size _ _ ((rd_T52 l0_1 x17_6).f2) from Kd.V_mk ul579_2 ge579_2)
                             clear hva_ hvn_ hvc_ ge579_2 ul579_2
                             clear hcc579 hce579
                             have HR579_2 := Aside0.mk hi579_2
                             have HC579_2 := Aside0.mk hl579_2
                             clear hi579_2 hl579_2
                             replace p579 := eq_true p579
                             replace q579 := eq_true q579
                             refine start_ (n := 16) (S := fun w' => w'.cell? ⟨gb561, 0, none⟩ = some (.int .i64 t556) ∧ w'.cell? ⟨gb561, 1, none⟩ = some (.slice Ao82 t557.length co82) ∧ w'.cell? ⟨gb535, 0, none⟩ = some (.int .i64 a0_0) ∧ w'.cell? ⟨gb535, 1, none⟩ = some (.slice (some ad570) l0_1.length c0_1) ∧ w'.cell? (ad570.add ((x17_6).toNat * 3)) = some (.string ((rd_T52 l0_1 x17_6).f0)) ∧ w'.cell? ⟨(ad570.add ((x17_6).toNat * 3)).block, (ad570.add ((x17_6).toNat * 3)).off + 1, none⟩ = some (.int .i64 ((rd_T52 l0_1 x17_6).f1)) ∧ w'.cell? ⟨(ad570.add ((x17_6).toNat * 3)).block, (ad570.add ((x17_6).toNat * 3)).off + 2, none⟩ = some (.slice A579_2 ((rd_T52 l0_1 x17_6).f2).length c579_2)) (ds := []) #[false, false, false, false, false, false, false, false, false, false, false, false, false, false, false, false] (by kernel_rfl) rfl rfl ⟨(blk_cell BK561.out 0).trans rfl, (blk_cell BK561.out 1).trans rfl, (blk_cell BK535.out 0).trans rfl, (blk_cell BK535.out 1).trans rfl, hx579_0, hx579_1, hx579_2⟩ (fun hHeld => ?_); refine with_tabW paraphrastlaw01_ShapeNames.tab31 paraphrastlaw01_ShapeNames.bits31 (fun HT_ HW_ => ?_)
                             generalize w152.drew = w153 at HO_7 HO_18 HO_536001 HO_562001 HO_568001 HL571_2 HL576_2 BK535 BK561 BK567 HR571_2 HR576_2 HB HL579_2 HR579_2 hx579_0 hx579_1 hx579_2 hHeld ⊢
                             refine sPu 1 (some 182) ?_
                             refine sPu 3 (some 184) ?_
                             refine sPu 7 (some 188) ?_
                             refine sPu 8 (some 189) ?_
                             refine sTk 0 (some 181) ?_
                             refine sTk 2 (some 183) ?_
                             refine sPu 4 (some 185) ?_
                             refine sPu 5 (some 186) ?_
                             refine sTk 6 (some 187) ?_
                             refine sOn 9 (some 190) (fun K hK => ?_)
                             refine goes_ Tryz.func35 (by kernel_rfl) rfl #[.slice Ao151 x18_7.length co151, .slice Ao77 x7_43.length co77] (by rfl) rfl rfl (by (try simp only [List.map_toArray, List.map_cons, List.map_nil]); first | done | rfl | (simp only [List.length_drop, List.length_take]; rfl)) ?_
                             with_reducible refine (paraphrastref01_Renamed.calls k7 _ _ x18_7 _ _ x7_43 t580 _ ?side1 ?side2 ?side3 ?side4 A122.out).mono ?_
                             (case side1 => exact cS (Kd.R_reads' HO_18.out).2.2)
                             (case side2 => exact (Kd.R_reads' HO_18.out).2.1)
                             (case side3 => exact cS (Kd.R_reads' HO_7.out).2.2)
                             (case side4 => exact (Kd.R_reads' HO_7.out).2.1)
                             rintro e w154 ⟨v581, rfl, ho0, hb⟩
                             have HS4_ := (hb.cell (World.block_lt_of_cell? _ _ (hHeld.2.2.2.2.1))).trans (hHeld.2.2.2.2.1)
                             have HS5_ := (hb.cell (World.block_lt_of_cell? _ _ (hHeld.2.2.2.2.2.1))).trans (hHeld.2.2.2.2.2.1)
                             have HS6_ := (hb.cell (World.block_lt_of_cell? _ _ (hHeld.2.2.2.2.2.2))).trans (hHeld.2.2.2.2.2.2)
                             refine ⟨_, rfl, ?_⟩
                             have HO582 := Aside0.mk (Kd.R_lower (Kd.R_new' (Kd.R_new' (Kd.R_newM (M := fun k_ => (w.heap.size ≤ k_)) ho0 (below_size bel) (fun k_ h_ => h_)) (Kd.R_lt (tw HO_7.out))) (Kd.R_lt (tw HO_18.out))) (below_size bel))
                             replace HO_7 := rE HO_7 (Kd.R_base ho0) hb
                             replace HO_18 := rE HO_18 (Kd.R_base ho0) hb
                             replace HO_536001 := vE HO_536001 (Kd.R_base ho0) hb
                             replace HO_562001 := Aside0.mk (Kd.N_elder' (tw HO_562001.out) (Kd.R_base ho0) hb)
                             replace HO_568001 := Aside0.mk (Kd.N_elder' (tw HO_568001.out) (Kd.R_base ho0) hb)
                             replace HL571_2 := vE HL571_2 (Kd.R_base ho0) hb
                             replace HL576_2 := vE HL576_2 (Kd.R_base ho0) hb
                             replace HL579_2 := vE HL579_2 (Kd.R_base ho0) hb
                             replace BK535 := blB BK535 hb
                             replace BK561 := blB BK561 hb
                             replace BK567 := blB BK567 hb
                             replace HR571_2 := Aside0.mk (Kd.C_below (by repeat (first | (with_reducible exact HR571_2.out) | (with_reducible refine Kd.C_alloc ?_ _) | (with_reducible refine Kd.C_drewN ?_ _) | (with_reducible refine Kd.C_drew ?_) | exact HR571_2.out)) hb)
                             replace HR576_2 := Aside0.mk (Kd.C_below (by repeat (first | (with_reducible exact HR576_2.out) | (with_reducible refine Kd.C_alloc ?_ _) | (with_reducible refine Kd.C_drewN ?_ _) | (with_reducible refine Kd.C_drew ?_) | exact HR576_2.out)) hb)
                             replace HR579_2 := Aside0.mk (Kd.C_below (by repeat (first | (with_reducible exact HR579_2.out) | (with_reducible refine Kd.C_alloc ?_ _) | (with_reducible refine Kd.C_drewN ?_ _) | (with_reducible refine Kd.C_drew ?_) | exact HR579_2.out)) hb)
                             replace HB := Aside0.mk (below_step bel hb)
                             (try clear hb)
                             (try clear hb2)
                             (try clear hk)
                             (try clear hi)
                             (try clear ho0)
                             obtain ⟨Ao155, co155, eo155⟩ := Kd.R_slice HO582.out
                             (first | subst eo155 | (injection eo155 with f1_ f2_ f3_; have f4_ := f1_.symm; have f5_ := f3_.symm; clear f1_ f2_ f3_; subst f4_; subst f5_))
                             refine hK.out _ _ ⟨(blk_cell BK561.out 0).trans rfl, (blk_cell BK561.out 1).trans rfl, (blk_cell BK535.out 0).trans rfl, (blk_cell BK535.out 1).trans rfl, HS4_, HS5_, HS6_⟩ (fun hHeld => ?_)
                             clear hK K
                             refine norm_ (a' := ?_) ?_ ?_
                             rotate_left
                             ·show Act.put _ (some 190) _ = _
                              simp only [Act.put, List.setIfInBounds_toArray, List.set_cons_zero, List.set_cons_succ, i64_w, i32_w]
                              rfl
                             refine sOn 10 (some 191) (fun K hK => ?_)
                             refine goes_ Tryz.func25 (by kernel_rfl) rfl #[.agg #[.int .i64 t556, .slice Ao82 t557.length co82], .string ((rd_T52 l0_1 x17_6).f0), .slice Ao155 t580.length co155] (by rfl) rfl rfl (by (try simp only [List.map_toArray, List.map_cons, List.map_nil]); first | done | rfl | (simp only [List.length_drop, List.length_take]; rfl)) ?_
                             with_reducible refine (shape_Has.calls k7 t556 _ _ t557 ((rd_T52 l0_1 x17_6).f0) _ _ t580 t583 t584 _ ?side1 ?side2 ?side3 ?side4 A123.out).mono ?_
                             (case side1 => exact cS (Kd.N_reads' HO_562001.out).2.2)
                             (case side2 => exact (Kd.N_reads' HO_562001.out).2.1)
                             (case side3 => exact cS (Kd.R_reads' HO582.out).2.2)
                             (case side4 => exact (Kd.R_reads' HO582.out).2.1)
                             rintro e w156 ⟨rfl, hb⟩
                             have HS4_ := (hb.cell (World.block_lt_of_cell? _ _ (hHeld.2.2.2.2.1))).trans (hHeld.2.2.2.2.1)
                             have HS5_ := (hb.cell (World.block_lt_of_cell? _ _ (hHeld.2.2.2.2.2.1))).trans (hHeld.2.2.2.2.2.1)
                             have HS6_ := (hb.cell (World.block_lt_of_cell? _ _ (hHeld.2.2.2.2.2.2))).trans (hHeld.2.2.2.2.2.2)
                             refine ⟨_, rfl, ?_⟩
                             replace HO_7 := rD HO_7 hb
                             replace HO_18 := rD HO_18 hb
                             replace HO_536001 := vD HO_536001 hb
                             replace HO_562001 := nD HO_562001 hb
                             replace HO_568001 := nD HO_568001 hb
                             replace HL571_2 := vD HL571_2 hb
                             replace HL576_2 := vD HL576_2 hb
                             replace HL579_2 := vD HL579_2 hb
                             replace HO582 := rD HO582 hb
                             replace BK535 := blB BK535 hb
                             replace BK561 := blB BK561 hb
                             replace BK567 := blB BK567 hb
                             replace HR571_2 := Aside0.mk (Kd.C_below (by repeat (first | (with_reducible exact HR571_2.out) | (with_reducible refine Kd.C_alloc ?_ _) | (with_reducible refine Kd.C_drewN ?_ _) | (with_reducible refine Kd.C_drew ?_) | exact HR571_2.out)) hb)
                             replace HR576_2 := Aside0.mk (Kd.C_below (by repeat (first | (with_reducible exact HR576_2.out) | (with_reducible refine Kd.C_alloc ?_ _) | (with_reducible refine Kd.C_drewN ?_ _) | (with_reducible refine Kd.C_drew ?_) | exact HR576_2.out)) hb)
                             replace HR579_2 := Aside0.mk (Kd.C_below (by repeat (first | (with_reducible exact HR579_2.out) | (with_reducible refine Kd.C_alloc ?_ _) | (with_reducible refine Kd.C_drewN ?_ _) | (with_reducible refine Kd.C_drew ?_) | exact HR579_2.out)) hb)
                             replace HB := Aside0.mk (below_step bel hb)
                             (try clear hb)
                             (try clear hb2)
                             (try clear hk)
                             (try clear hi)
                             refine hK.out _ _ ⟨(blk_cell BK561.out 0).trans rfl, (blk_cell BK561.out 1).trans rfl, (blk_cell BK535.out 0).trans rfl, (blk_cell BK535.out 1).trans rfl, HS4_, HS5_, HS6_⟩ (fun hHeld => ?_)
                             clear hK K
                             refine norm_ (a' := ?_) ?_ ?_
                             rotate_left
                             ·show Act.put _ (some 191) _ = _
                              simp only [Act.put, List.setIfInBounds_toArray, List.set_cons_zero, List.set_cons_succ, i64_w, i32_w]
                              rfl
                             refine sPu 11 (some 180) ?_
                             refine sPu 12 (some 192) ?_
                             refine sPu 13 (some 193) ?_
                             refine sPu 14 (some 22) ?_
                             refine sPu 15 (some 23) ?_
                             refine done_ (done_of HT_.out (by kernel_rfl)) ?_
                             try go_wp2
                             go_ret
                             exact ⟨eN, bel⟩
                           ·rw [if_neg c124] at H
                            have c124b0 : (t578 == 0) = false := beq_eq_false_iff_ne.mpr c124
                            have c124b1 : (t578 != 0) = true := bne_iff_ne.mpr c124
                            obtain rfl := Option.some.inj H
                            have hnb157 := NB535_561.out
                            have hnc157 := NB561_535.out
                            have hnb158 := NB535_567.out
                            have hnc158 := NB567_535.out
                            obtain ⟨hcz159_0, hcz159_1, hfz159_0, hfz159_1⟩ := bq2 BK535
                            have p571 : 0 ≤ (x17_6 : Int) := dtr
                            have q571 : x17_6 < (l0_1.length : Int) := dtr
                            obtain ⟨ad571, A571_2, c571_2, e571, hx571_0, hx571_1, hx571_2, hl571_2, hi571_2⟩ := at_T52 (Kd.V_reads' HO_536001.out).2.2 x17_6 p571 q571
                            obtain rfl : ad570 = ad571 := (by injection e571)
                            obtain ⟨ce571, hce571, hMe571, hcc571⟩ := Kd.V_get HO_536001.out z52 x17_6 p571 (by first | exact q571 | exact dtr | (have e_ := (Kd.V_reads' HO_536001.out).1; omega))
                            obtain ⟨ua571_2, uc571_2, rfl, ul571_2, ge571_2⟩ := k52_openF hMe571
                            have hv571_2 := hcc571 2 _ rfl
                            rw [add_field _ _ 2 (by omega)] at hv571_2
                            replace hv571_2 := Option.some.inj (hv571_2.symm.trans hx571_2)
                            injection hv571_2 with hva_ hvn_ hvc_
                            rw [hva_] at ge571_2
                            rw [hvc_] at ul571_2
                            have HL571_2 := Aside0.mk (show Kd.V (Kd.slice 3 (Kd.int .i64)) 46 _ w.heap.size _ _ ((rd_T52 l0_1 x17_6).f2) from Kd.V_mk ul571_2 ge571_2)
                            clear hva_ hvn_ hvc_ ge571_2 ul571_2
                            clear hcc571 hce571
                            have HR571_2 := Aside0.mk hi571_2
                            have HC571_2 := Aside0.mk hl571_2
                            clear hi571_2 hl571_2
                            replace p571 := eq_true p571
                            replace q571 := eq_true q571
                            try go_wp2
                            replace HO_7 := Aside0.mk (Kd.R_drew HO_7.out)
                            replace HO_18 := Aside0.mk (Kd.R_drew HO_18.out)
                            replace HO_536001 := Aside0.mk (Kd.V_drew HO_536001.out)
                            replace HO_562001 := Aside0.mk (Kd.N_drew HO_562001.out)
                            replace HO_568001 := Aside0.mk (Kd.N_drew HO_568001.out)
                            replace HL571_2 := Aside0.mk (Kd.V_drew HL571_2.out)
                            replace BK535 := Aside0.mk (blk_drew BK535.out)
                            replace BK561 := Aside0.mk (blk_drew BK561.out)
                            replace BK567 := Aside0.mk (blk_drew BK567.out)
                            replace HR571_2 := Aside0.mk (Kd.C_drew HR571_2.out)
                            replace HB := Aside0.mk (below_drew1 HB.out)
                            have p576 : 0 ≤ (x17_6 : Int) := dtr
                            have q576 : x17_6 < (l0_1.length : Int) := dtr
                            obtain ⟨ad576, A576_2, c576_2, e576, hx576_0, hx576_1, hx576_2, hl576_2, hi576_2⟩ := at_T52 (Kd.V_reads' HO_536001.out).2.2 x17_6 p576 q576
                            obtain rfl : ad570 = ad576 := (by injection e576)
                            obtain ⟨ce576, hce576, hMe576, hcc576⟩ := Kd.V_get HO_536001.out z52 x17_6 p576 (by first | exact q576 | exact dtr | (have e_ := (Kd.V_reads' HO_536001.out).1; omega))
                            obtain ⟨ua576_2, uc576_2, rfl, ul576_2, ge576_2⟩ := k52_openF hMe576
                            have hv576_2 := hcc576 2 _ rfl
                            rw [add_field _ _ 2 (by omega)] at hv576_2
                            replace hv576_2 := Option.some.inj (hv576_2.symm.trans hx576_2)
                            injection hv576_2 with hva_ hvn_ hvc_
                            rw [hva_] at ge576_2
                            rw [hvc_] at ul576_2
                            have HL576_2 := Aside0.mk (show Kd.V (Kd.slice 3 (Kd.int .i64)) 46 _ w.heap.size _ _ ((rd_T52 l0_1 x17_6).f2) from Kd.V_mk ul576_2 ge576_2)
                            clear hva_ hvn_ hvc_ ge576_2 ul576_2
                            clear hcc576 hce576
                            have HR576_2 := Aside0.mk hi576_2
                            have HC576_2 := Aside0.mk hl576_2
                            clear hi576_2 hl576_2
                            replace p576 := eq_true p576
                            replace q576 := eq_true q576
                            obtain ⟨Ao161, co161, eo161⟩ := Kd.R_slice HO_18.out
                            (first | subst eo161 | (injection eo161 with f1_ f2_ f3_; have f4_ := f1_.symm; have f5_ := f3_.symm; clear f1_ f2_ f3_; subst f4_; subst f5_))
                            refine start_ (n := 14) (S := fun w' => w'.cell? ⟨gb535, 0, none⟩ = some (.int .i64 a0_0) ∧ w'.cell? ⟨gb535, 1, none⟩ = some (.slice (some ad570) l0_1.length c0_1) ∧ w'.cell? (ad570.add ((x17_6).toNat * 3)) = some (.string ((rd_T52 l0_1 x17_6).f0)) ∧ w'.cell? ⟨(ad570.add ((x17_6).toNat * 3)).block, (ad570.add ((x17_6).toNat * 3)).off + 1, none⟩ = some (.int .i64 ((rd_T52 l0_1 x17_6).f1)) ∧ w'.cell? ⟨(ad570.add ((x17_6).toNat * 3)).block, (ad570.add ((x17_6).toNat * 3)).off + 2, none⟩ = some (.slice A576_2 ((rd_T52 l0_1 x17_6).f2).length c576_2)) (ds := []) #[false, false, false, false, false, false, false, false, false, false, false, false, false, false] (by kernel_rfl) rfl rfl ⟨(blk_cell BK535.out 0).trans rfl, (blk_cell BK535.out 1).trans rfl, hx576_0, hx576_1, hx576_2⟩ (fun hHeld => ?_); refine with_tabW paraphrastlaw01_ShapeNames.tab30 paraphrastlaw01_ShapeNames.bits30 (fun HT_ HW_ => ?_)
                            generalize wr.drew = w160 at HO_7 HO_18 HO_536001 HO_562001 HO_568001 HL571_2 BK535 BK561 BK567 HR571_2 HB HL576_2 HR576_2 hx576_0 hx576_1 hx576_2 hHeld ⊢
                            refine sPu 1 (some 170) ?_
                            refine sPu 3 (some 172) ?_
                            refine sPu 7 (some 176) ?_
                            refine sTk 0 (some 169) ?_
                            refine sTk 2 (some 171) ?_
                            refine sPu 4 (some 173) ?_
                            refine sPu 5 (some 174) ?_
                            refine sTk 6 (some 175) ?_
                            refine sOn 8 (some 177) (fun K hK => ?_)
                            refine goes_ Tryz.func25 (by kernel_rfl) rfl #[.agg #[.int .i64 a0_0, .slice (some ad570) l0_1.length c0_1], .string ((rd_T52 l0_1 x17_6).f0), .slice Ao161 x18_7.length co161] (by rfl) rfl rfl (by (try simp only [List.map_toArray, List.map_cons, List.map_nil]); first | done | rfl | (simp only [List.length_drop, List.length_take]; rfl)) ?_
                            with_reducible refine (shape_Has.calls k7 a0_0 _ _ l0_1 ((rd_T52 l0_1 x17_6).f0) _ _ x18_7 t577 t578 _ ?side1 ?side2 ?side3 ?side4 A121.out).mono ?_
                            (case side1 => exact cS (Kd.V_reads' HO_536001.out).2.2)
                            (case side2 => exact (Kd.V_reads' HO_536001.out).2.1)
                            (case side3 => exact cS (Kd.R_reads' HO_18.out).2.2)
                            (case side4 => exact (Kd.R_reads' HO_18.out).2.1)
                            rintro e w162 ⟨rfl, hb⟩
                            have HS2_ := (hb.cell (World.block_lt_of_cell? _ _ (hHeld.2.2.1))).trans (hHeld.2.2.1)
                            have HS3_ := (hb.cell (World.block_lt_of_cell? _ _ (hHeld.2.2.2.1))).trans (hHeld.2.2.2.1)
                            have HS4_ := (hb.cell (World.block_lt_of_cell? _ _ (hHeld.2.2.2.2))).trans (hHeld.2.2.2.2)
                            refine ⟨_, rfl, ?_⟩
                            replace HO_7 := rD HO_7 hb
                            replace HO_18 := rD HO_18 hb
                            replace HO_536001 := vD HO_536001 hb
                            replace HO_562001 := nD HO_562001 hb
                            replace HO_568001 := nD HO_568001 hb
                            replace HL571_2 := vD HL571_2 hb
                            replace HL576_2 := vD HL576_2 hb
                            replace BK535 := blB BK535 hb
                            replace BK561 := blB BK561 hb
                            replace BK567 := blB BK567 hb
                            replace HR571_2 := Aside0.mk (Kd.C_below (by repeat (first | (with_reducible exact HR571_2.out) | (with_reducible refine Kd.C_alloc ?_ _) | (with_reducible refine Kd.C_drewN ?_ _) | (with_reducible refine Kd.C_drew ?_) | exact HR571_2.out)) hb)
                            replace HR576_2 := Aside0.mk (Kd.C_below (by repeat (first | (with_reducible exact HR576_2.out) | (with_reducible refine Kd.C_alloc ?_ _) | (with_reducible refine Kd.C_drewN ?_ _) | (with_reducible refine Kd.C_drew ?_) | exact HR576_2.out)) hb)
                            replace HB := Aside0.mk (below_step bel hb)
                            (try clear hb)
                            (try clear hb2)
                            (try clear hk)
                            (try clear hi)
                            refine hK.out _ _ ⟨(blk_cell BK535.out 0).trans rfl, (blk_cell BK535.out 1).trans rfl, HS2_, HS3_, HS4_⟩ (fun hHeld => ?_)
                            clear hK K
                            refine norm_ (a' := ?_) ?_ ?_
                            rotate_left
                            ·show Act.put _ (some 177) _ = _
                             simp only [Act.put, List.setIfInBounds_toArray, List.set_cons_zero, List.set_cons_succ, i64_w, i32_w]
                             rfl
                            refine sPu 9 (some 168) ?_
                            refine sPu 10 (some 178) ?_
                            refine sPu 11 (some 179) ?_
                            refine sPu 12 (some 20) ?_
                            refine sPu 13 (some 21) ?_
                            refine done_ (done_of HT_.out (by kernel_rfl)) ?_
                            try go_wp2
                            replace HO_7 := Aside0.mk (Kd.R_drew HO_7.out)
                            replace HO_18 := Aside0.mk (Kd.R_drew HO_18.out)
                            replace HO_536001 := Aside0.mk (Kd.V_drew HO_536001.out)
                            replace HO_562001 := Aside0.mk (Kd.N_drew HO_562001.out)
                            replace HO_568001 := Aside0.mk (Kd.N_drew HO_568001.out)
                            replace HL571_2 := Aside0.mk (Kd.V_drew HL571_2.out)
                            replace HL576_2 := Aside0.mk (Kd.V_drew HL576_2.out)
                            replace BK535 := Aside0.mk (blk_drew BK535.out)
                            replace BK561 := Aside0.mk (blk_drew BK561.out)
                            replace BK567 := Aside0.mk (blk_drew BK567.out)
                            replace HR571_2 := Aside0.mk (Kd.C_drew HR571_2.out)
                            replace HR576_2 := Aside0.mk (Kd.C_drew HR576_2.out)
                            replace HB := Aside0.mk (below_drew1 HB.out)
                            have p579 : 0 ≤ (x17_6 : Int) := dtr
                            have q579 : x17_6 < (l0_1.length : Int) := dtr
                            obtain ⟨ad579, A579_2, c579_2, e579, hx579_0, hx579_1, hx579_2, hl579_2, hi579_2⟩ := at_T52 (Kd.V_reads' HO_536001.out).2.2 x17_6 p579 q579
                            obtain rfl : ad570 = ad579 := (by injection e579)
                            obtain ⟨ce579, hce579, hMe579, hcc579⟩ := Kd.V_get HO_536001.out z52 x17_6 p579 (by first | exact q579 | exact dtr | (have e_ := (Kd.V_reads' HO_536001.out).1; omega))
                            obtain ⟨ua579_2, uc579_2, rfl, ul579_2, ge579_2⟩ := k52_openF hMe579
                            have hv579_2 := hcc579 2 _ rfl
                            rw [add_field _ _ 2 (by omega)] at hv579_2
                            replace hv579_2 := Option.some.inj (hv579_2.symm.trans hx579_2)
                            injection hv579_2 with hva_ hvn_ hvc_
                            rw [hva_] at ge579_2
                            rw [hvc_] at ul579_2
                            have HL579_2 := Aside0.mk (show Kd.V (Kd.slice 3 (Kd.int .i64)) 46 _ w.heap.size _ _ ((rd_T52 l0_1 x17_6).f2) from Kd.V_mk ul579_2 ge579_2)
                            clear hva_ hvn_ hvc_ ge579_2 ul579_2
                            clear hcc579 hce579
                            have HR579_2 := Aside0.mk hi579_2
                            have HC579_2 := Aside0.mk hl579_2
                            clear hi579_2 hl579_2
                            replace p579 := eq_true p579
                            replace q579 := eq_true q579
                            refine start_ (n := 16) (S := fun w' => w'.cell? ⟨gb561, 0, none⟩ = some (.int .i64 t556) ∧ w'.cell? ⟨gb561, 1, none⟩ = some (.slice Ao82 t557.length co82) ∧ w'.cell? ⟨gb535, 0, none⟩ = some (.int .i64 a0_0) ∧ w'.cell? ⟨gb535, 1, none⟩ = some (.slice (some ad570) l0_1.length c0_1) ∧ w'.cell? (ad570.add ((x17_6).toNat * 3)) = some (.string ((rd_T52 l0_1 x17_6).f0)) ∧ w'.cell? ⟨(ad570.add ((x17_6).toNat * 3)).block, (ad570.add ((x17_6).toNat * 3)).off + 1, none⟩ = some (.int .i64 ((rd_T52 l0_1 x17_6).f1)) ∧ w'.cell? ⟨(ad570.add ((x17_6).toNat * 3)).block, (ad570.add ((x17_6).toNat * 3)).off + 2, none⟩ = some (.slice A579_2 ((rd_T52 l0_1 x17_6).f2).length c579_2)) (ds := []) #[false, false, false, false, false, false, false, false, false, false, false, false, false, false, false, false] (by kernel_rfl) rfl rfl ⟨(blk_cell BK561.out 0).trans rfl, (blk_cell BK561.out 1).trans rfl, (blk_cell BK535.out 0).trans rfl, (blk_cell BK535.out 1).trans rfl, hx579_0, hx579_1, hx579_2⟩ (fun hHeld => ?_); refine with_tabW paraphrastlaw01_ShapeNames.tab31 paraphrastlaw01_ShapeNames.bits31 (fun HT_ HW_ => ?_)
                            generalize w162.drew = w163 at HO_7 HO_18 HO_536001 HO_562001 HO_568001 HL571_2 HL576_2 BK535 BK561 BK567 HR571_2 HR576_2 HB HL579_2 HR579_2 hx579_0 hx579_1 hx579_2 hHeld ⊢
                            refine sPu 1 (some 182) ?_
                            refine sPu 3 (some 184) ?_
                            refine sPu 7 (some 188) ?_
                            refine sPu 8 (some 189) ?_
                            refine sTk 0 (some 181) ?_
                            refine sTk 2 (some 183) ?_
                            refine sPu 4 (some 185) ?_
                            refine sPu 5 (some 186) ?_
                            refine sTk 6 (some 187) ?_
                            refine sOn 9 (some 190) (fun K hK => ?_)
                            refine goes_ Tryz.func35 (by kernel_rfl) rfl #[.slice Ao161 x18_7.length co161, .slice Ao77 x7_43.length co77] (by rfl) rfl rfl (by (try simp only [List.map_toArray, List.map_cons, List.map_nil]); first | done | rfl | (simp only [List.length_drop, List.length_take]; rfl)) ?_
                            with_reducible refine (paraphrastref01_Renamed.calls k7 _ _ x18_7 _ _ x7_43 t580 _ ?side1 ?side2 ?side3 ?side4 A122.out).mono ?_
                            (case side1 => exact cS (Kd.R_reads' HO_18.out).2.2)
                            (case side2 => exact (Kd.R_reads' HO_18.out).2.1)
                            (case side3 => exact cS (Kd.R_reads' HO_7.out).2.2)
                            (case side4 => exact (Kd.R_reads' HO_7.out).2.1)
                            rintro e w164 ⟨v581, rfl, ho0, hb⟩
                            have HS4_ := (hb.cell (World.block_lt_of_cell? _ _ (hHeld.2.2.2.2.1))).trans (hHeld.2.2.2.2.1)
                            have HS5_ := (hb.cell (World.block_lt_of_cell? _ _ (hHeld.2.2.2.2.2.1))).trans (hHeld.2.2.2.2.2.1)
                            have HS6_ := (hb.cell (World.block_lt_of_cell? _ _ (hHeld.2.2.2.2.2.2))).trans (hHeld.2.2.2.2.2.2)
                            refine ⟨_, rfl, ?_⟩
                            have HO582 := Aside0.mk (Kd.R_lower (Kd.R_new' (Kd.R_new' (Kd.R_newM (M := fun k_ => (w.heap.size ≤ k_)) ho0 (below_size bel) (fun k_ h_ => h_)) (Kd.R_lt (tw HO_7.out))) (Kd.R_lt (tw HO_18.out))) (below_size bel))
                            replace HO_7 := rE HO_7 (Kd.R_base ho0) hb
                            replace HO_18 := rE HO_18 (Kd.R_base ho0) hb
                            replace HO_536001 := vE HO_536001 (Kd.R_base ho0) hb
                            replace HO_562001 := Aside0.mk (Kd.N_elder' (tw HO_562001.out) (Kd.R_base ho0) hb)
                            replace HO_568001 := Aside0.mk (Kd.N_elder' (tw HO_568001.out) (Kd.R_base ho0) hb)
                            replace HL571_2 := vE HL571_2 (Kd.R_base ho0) hb
                            replace HL576_2 := vE HL576_2 (Kd.R_base ho0) hb
                            replace HL579_2 := vE HL579_2 (Kd.R_base ho0) hb
                            replace BK535 := blB BK535 hb
                            replace BK561 := blB BK561 hb
                            replace BK567 := blB BK567 hb
                            replace HR571_2 := Aside0.mk (Kd.C_below (by repeat (first | (with_reducible exact HR571_2.out) | (with_reducible refine Kd.C_alloc ?_ _) | (with_reducible refine Kd.C_drewN ?_ _) | (with_reducible refine Kd.C_drew ?_) | exact HR571_2.out)) hb)
                            replace HR576_2 := Aside0.mk (Kd.C_below (by repeat (first | (with_reducible exact HR576_2.out) | (with_reducible refine Kd.C_alloc ?_ _) | (with_reducible refine Kd.C_drewN ?_ _) | (with_reducible refine Kd.C_drew ?_) | exact HR576_2.out)) hb)
                            replace HR579_2 := Aside0.mk (Kd.C_below (by repeat (first | (with_reducible exact HR579_2.out) | (with_reducible refine Kd.C_alloc ?_ _) | (with_reducible refine Kd.C_drewN ?_ _) | (with_reducible refine Kd.C_drew ?_) | exact HR579_2.out)) hb)
                            replace HB := Aside0.mk (below_step bel hb)
                            (try clear hb)
                            (try clear hb2)
                            (try clear hk)
                            (try clear hi)
                            (try clear ho0)
                            obtain ⟨Ao165, co165, eo165⟩ := Kd.R_slice HO582.out
                            (first | subst eo165 | (injection eo165 with f1_ f2_ f3_; have f4_ := f1_.symm; have f5_ := f3_.symm; clear f1_ f2_ f3_; subst f4_; subst f5_))
                            refine hK.out _ _ ⟨(blk_cell BK561.out 0).trans rfl, (blk_cell BK561.out 1).trans rfl, (blk_cell BK535.out 0).trans rfl, (blk_cell BK535.out 1).trans rfl, HS4_, HS5_, HS6_⟩ (fun hHeld => ?_)
                            clear hK K
                            refine norm_ (a' := ?_) ?_ ?_
                            rotate_left
                            ·show Act.put _ (some 190) _ = _
                             simp only [Act.put, List.setIfInBounds_toArray, List.set_cons_zero, List.set_cons_succ, i64_w, i32_w]
                             rfl
                            refine sOn 10 (some 191) (fun K hK => ?_)
                            refine goes_ Tryz.func25 (by kernel_rfl) rfl #[.agg #[.int .i64 t556, .slice Ao82 t557.length co82], .string ((rd_T52 l0_1 x17_6).f0), .slice Ao165 t580.length co165] (by rfl) rfl rfl (by (try simp only [List.map_toArray, List.map_cons, List.map_nil]); first | done | rfl | (simp only [List.length_drop, List.length_take]; rfl)) ?_
                            with_reducible refine (shape_Has.calls k7 t556 _ _ t557 ((rd_T52 l0_1 x17_6).f0) _ _ t580 t583 t584 _ ?side1 ?side2 ?side3 ?side4 A123.out).mono ?_
                            (case side1 => exact cS (Kd.N_reads' HO_562001.out).2.2)
                            (case side2 => exact (Kd.N_reads' HO_562001.out).2.1)
                            (case side3 => exact cS (Kd.R_reads' HO582.out).2.2)
                            (case side4 => exact (Kd.R_reads' HO582.out).2.1)
                            rintro e w166 ⟨rfl, hb⟩
                            have HS4_ := (hb.cell (World.block_lt_of_cell? _ _ (hHeld.2.2.2.2.1))).trans (hHeld.2.2.2.2.1)
                            have HS5_ := (hb.cell (World.block_lt_of_cell? _ _ (hHeld.2.2.2.2.2.1))).trans (hHeld.2.2.2.2.2.1)
                            have HS6_ := (hb.cell (World.block_lt_of_cell? _ _ (hHeld.2.2.2.2.2.2))).trans (hHeld.2.2.2.2.2.2)
                            refine ⟨_, rfl, ?_⟩
                            replace HO_7 := rD HO_7 hb
                            replace HO_18 := rD HO_18 hb
                            replace HO_536001 := vD HO_536001 hb
                            replace HO_562001 := nD HO_562001 hb
                            replace HO_568001 := nD HO_568001 hb
                            replace HL571_2 := vD HL571_2 hb
                            replace HL576_2 := vD HL576_2 hb
                            replace HL579_2 := vD HL579_2 hb
                            replace HO582 := rD HO582 hb
                            replace BK535 := blB BK535 hb
                            replace BK561 := blB BK561 hb
                            replace BK567 := blB BK567 hb
                            replace HR571_2 := Aside0.mk (Kd.C_below (by repeat (first | (with_reducible exact HR571_2.out) | (with_reducible refine Kd.C_alloc ?_ _) | (with_reducible refine Kd.C_drewN ?_ _) | (with_reducible refine Kd.C_drew ?_) | exact HR571_2.out)) hb)
                            replace HR576_2 := Aside0.mk (Kd.C_below (by repeat (first | (with_reducible exact HR576_2.out) | (with_reducible refine Kd.C_alloc ?_ _) | (with_reducible refine Kd.C_drewN ?_ _) | (with_reducible refine Kd.C_drew ?_) | exact HR576_2.out)) hb)
                            replace HR579_2 := Aside0.mk (Kd.C_below (by repeat (first | (with_reducible exact HR579_2.out) | (with_reducible refine Kd.C_alloc ?_ _) | (with_reducible refine Kd.C_drewN ?_ _) | (with_reducible refine Kd.C_drew ?_) | exact HR579_2.out)) hb)
                            replace HB := Aside0.mk (below_step bel hb)
                            (try clear hb)
                            (try clear hb2)
                            (try clear hk)
                            (try clear hi)
                            refine hK.out _ _ ⟨(blk_cell BK561.out 0).trans rfl, (blk_cell BK561.out 1).trans rfl, (blk_cell BK535.out 0).trans rfl, (blk_cell BK535.out 1).trans rfl, HS4_, HS5_, HS6_⟩ (fun hHeld => ?_)
                            clear hK K
                            refine norm_ (a' := ?_) ?_ ?_
                            rotate_left
                            ·show Act.put _ (some 191) _ = _
                             simp only [Act.put, List.setIfInBounds_toArray, List.set_cons_zero, List.set_cons_succ, i64_w, i32_w]
                             rfl
                            refine sPu 11 (some 180) ?_
                            refine sPu 12 (some 192) ?_
                            refine sPu 13 (some 193) ?_
                            refine sPu 14 (some 22) ?_
                            refine sPu 15 (some 23) ?_
                            refine done_ (done_of HT_.out (by kernel_rfl)) ?_
                            try go_wp2
                            go_ret
                            exact ⟨eN, bel⟩
                         ·rw [if_neg c110] at H
                          exact absurd H (by simp)
                        ·rw [if_neg c109] at H
                         exact absurd H (by simp)
                    ·rw [if_neg c101] at H
                     exact absurd H (by simp)
                   ·rw [if_neg c100] at H
                    have c100b0 : decide (x17_6 < (l0_1.length : Int)) = false := decide_eq_false c100
                    clear c100
                    replace H := Option.bind_eq_some_iff.mp H
                    obtain ⟨t569, A1670, H⟩ := H
                    replace H : (some t569) = some r := H
                    have A167 := Aside0.mk A1670
                    clear A1670
                    obtain rfl := Option.some.inj H
                    have hnb168 := NB535_561.out
                    have hnc168 := NB561_535.out
                    have hnb169 := NB535_567.out
                    have hnc169 := NB567_535.out
                    obtain ⟨hcz170_0, hcz170_1, hfz170_0, hfz170_1⟩ := bq2 BK535
                    go_wp2_with (first | ((with_reducible refine gate_callee (f := 10) rfl ?_); refine gL (some 205) Tryz.func10 #[] ?_; (with_reducible refine (paraphrastlaw01_alive.calls k6  t569 _ ?side1 A167.out).mono ?_); (case side1 => first | exact HG.out | exact Glob.below HG.out bel); rintro e w171 ⟨rfl, hb⟩; refine ⟨_, rfl, ?_⟩; replace HO_7 := rD HO_7 hb; replace HO_536001 := vD HO_536001 hb; replace HO_562001 := nD HO_562001 hb; replace HO_568001 := nD HO_568001 hb; replace BK535 := blB BK535 hb; replace BK561 := blB BK561 hb; replace BK567 := blB BK567 hb; replace HB := Aside0.mk (below_step bel hb); (try clear hb); (try clear hb2); (try clear hk); (try clear hi)))
                    go_ret
                    exact ⟨eN, bel⟩
     ·rw [if_neg c30] at H
      exact absurd H (by simp)
    ·rw [if_neg c29] at H
     exact absurd H (by simp)
end Go.Proofs.YtfmpaofbnjlniaaGreatDoor.F
/- ShapeNames: permuted structures are valid; the inverse permutation restores them. -/
namespace Go.Proofs.YtfmpaofbnjlniaaGreatDoor.F
open Go.RowKit Go.Maps Go.Proofs.YtfmpaofbnjlniaaGreatDoorW.PrintWords Go.Proofs.YtfmpaofbnjlniaaGreatDoorW.PrintLast Go.Proofs.YtfmpaofbnjlniaaGreatDoorW.PrintMore
set_option linter.unusedVariables false
theorem rd_inI {sy : List Int} {x : Int} (h0 : 0 ≤ x) (h1 : x < (sy.length : Int)) : rd sy x ∈ sy := by
  obtain ⟨p, rfl⟩ : ∃ p : Nat, x = (p : Int) := ⟨x.toNat, by omega⟩
  have hp : p < sy.length := by omega
  rw [rd_nat sy p hp]
  exact List.getElem_mem hp
section
variable (n : Int) (l : List S52) (hv : validB n l = true) (sy : List Int) (hn : (sy.length : Int) = n) (hin : ∀ x ∈ sy, 0 ≤ x ∧ x < n)
include hv hn hin
theorem renR_facts (i : Nat) (hi : i < l.length) : Sorted (renR sy l[i]).f2 ∧ (∀ t ∈ (renR sy l[i]).f2, tupV n l[i].f1 t = true) ∧ ∀ t, t ∈ (renR sy l[i]).f2 ↔ ∃ u ∈ l[i].f2, renT sy u = t := by
  obtain ⟨_, g1, g2, g3⟩ := (valid_facts n l hv).2.2.2 _ (List.getElem_mem hi)
  have hal : ∀ a ∈ l[i].f2.map (renT sy), a.length = l[i].f1.toNat := fun a ha => by
    obtain ⟨t, ht, rfl⟩ := List.mem_map.1 ha
    have := (g2 t ht).1
    unfold renT
    rw [List.length_map]
    omega
  obtain ⟨_, s1, s2⟩ := sorted_eq l[i].f1.toNat (by omega) _ hal (by rw [List.length_map]; omega)
  have s3 : ∀ t, t ∈ (renR sy l[i]).f2 ↔ ∃ u ∈ l[i].f2, renT sy u = t := fun t => (s2 t).trans List.mem_map
  refine ⟨s1, fun t ht => ?_, s3⟩
  obtain ⟨u, hu, rfl⟩ := (s3 t).1 ht
  refine tup_of n _ _ (by have := (g2 u hu).1; unfold renT; rw [List.length_map]; exact this) ?_
  rw [List.any_eq_false]
  intro y hy
  unfold renT at hy
  obtain ⟨x, hx, rfl⟩ := List.mem_map.1 hy
  have hxr := (g2 u hu).2 x hx
  have := hin _ (rd_inI (sy := sy) hxr.1 (by omega))
  unfold outB
  simp only [Bool.or_eq_true, decide_eq_true_eq]
  omega
theorem valid_map : validB n (l.map (renR sy)) = true := by
  obtain ⟨p1, p2⟩ := valid_parts n l hv
  have h := hv
  unfold validB at h ⊢
  simp only [Bool.and_eq_true] at h ⊢
  refine ⟨by rw [List.length_map]; exact h.1, ?_⟩
  refine rels_mk n _ (fun j hj => ?_) (fun j hj => ?_) (l.map (renR sy)).length 0 (by omega)
  · rw [List.length_map] at hj
    rw [List.getElem_map]
    obtain ⟨r1, r2, _⟩ := renR_facts n l hv sy hn hin j hj
    have := p1 j hj
    unfold relV at this ⊢
    simp only [Bool.and_eq_true] at this ⊢
    exact ⟨this.1, tupsV_mk n l[j].f1 _ r1 r2 _ 0 (by omega)⟩
  · rw [List.length_map] at hj
    have := p2 j hj
    rw [List.getElem_map, ← List.map_take, List.any_map]
    exact this
theorem renR_back (bk : List Int) (hbn : (bk.length : Int) = n) (hbi : ∀ x ∈ bk, 0 ≤ x ∧ x < n) (hinv : ∀ x, 0 ≤ x → x < n → rd bk (rd sy x) = x) : (l.map (renR sy)).map (renR bk) = l := by
  have hv2 := valid_map n l hv sy hn hin
  apply List.ext_getElem (by rw [List.length_map, List.length_map])
  intro i h1 h2
  rw [List.getElem_map]
  have hi2 : i < (l.map (renR sy)).length := by rw [List.length_map]; exact h2
  obtain ⟨a1, a2, a3⟩ := renR_facts n (l.map (renR sy)) hv2 bk hbn hbi i hi2
  obtain ⟨b1, b2, b3⟩ := renR_facts n l hv sy hn hin i h2
  obtain ⟨_, g1, g2, g3⟩ := (valid_facts n l hv).2.2.2 _ (List.getElem_mem h2)
  have hS := (rel_sorted n _ ((valid_parts n l hv).1 i h2)).1
  rw [List.getElem_map] at a1 a2 a3 ⊢
  have hrr : ∀ u ∈ l[i].f2, renT bk (renT sy u) = u := fun u hu => by
    unfold renT
    rw [List.map_map]
    refine (List.map_congr_left (fun x hx => ?_)).trans (List.map_id _)
    exact hinv x ((g2 u hu).2 x hx).1 ((g2 u hu).2 x hx).2
  have e : (renR bk (renR sy l[i])).f2 = l[i].f2 := by
    refine sorted_ext l[i].f1.toNat _ _ a1 hS (fun a ha => ?_) (fun a ha => ?_) (fun a => ?_)
    · have := a2 a ha
      unfold tupV at this
      simp only [Bool.and_eq_true, decide_eq_true_eq] at this
      have h3 : (a.length : Int) = l[i].f1 := this.1
      omega
    · have := (g2 a ha).1; omega
    · rw [a3 a]
      constructor
      · rintro ⟨t, ht, rfl⟩
        obtain ⟨u, hu, rfl⟩ := (b3 t).1 ht
        rw [hrr u hu]
        exact hu
      · intro ha
        exact ⟨renT sy a, (b3 _).2 ⟨a, ha, rfl⟩, hrr a ha⟩
  show (⟨l[i].f0, l[i].f1, (renR bk (renR sy l[i])).f2⟩ : S52) = l[i]
  rw [e]
end
/-! ### permutations of 0 .. N - 1 -/
structure PermL (N : Nat) (p : List Int) : Prop where
  len : p.length = N
  rng : ∀ x ∈ p, 0 ≤ x ∧ x < (N : Int)
  nd : p.Nodup
theorem PermL.of_perm {N : Nat} {p q : List Int} (h : PermL N q) (hp : p.Perm q) : PermL N p :=
  ⟨hp.length_eq.trans h.len, fun x hx => h.rng x (hp.mem_iff.1 hx), hp.nodup_iff.2 h.nd⟩
theorem PermL.swap {N : Nat} {p : List Int} (h : PermL N p) (i j : Nat) (hi : i < p.length) (hj : j < p.length) : PermL N ((p.set i p[j]).set j p[i]) := h.of_perm (List.set_set_perm hi hj)
theorem permL_id (N : Nat) : PermL N ((List.range N).map (fun j : Nat => (j : Int))) where
  len := by rw [List.length_map, List.length_range]
  rng := fun x hx => by
    obtain ⟨j, hj, rfl⟩ := List.mem_map.1 hx
    have := List.mem_range.1 hj
    omega
  nd := by
    unfold List.Nodup
    rw [List.pairwise_map]
    exact List.Pairwise.imp (fun h e => h (by omega)) List.nodup_range
theorem PermL.onto {N : Nat} {p : List Int} (h : PermL N p) (y : Int) (h0 : 0 ≤ y) (h1 : y < (N : Int)) : ∃ (j : Nat) (hj : j < p.length), p[j] = y := by
  by_cases hm : y ∈ p
  · obtain ⟨j, hj, e⟩ := List.mem_iff_getElem.1 hm
    exact ⟨j, hj, e⟩
  · have hnd : (y :: p).Nodup := List.nodup_cons.2 ⟨hm, h.nd⟩
    have hsub : (y :: p) ⊆ (List.range N).map (fun j : Nat => (j : Int)) := fun x hx => by
      have hr : 0 ≤ x ∧ x < (N : Int) := by
        rcases List.mem_cons.1 hx with rfl | hx
        · exact ⟨h0, h1⟩
        · exact h.rng x hx
      exact List.mem_map.2 ⟨x.toNat, List.mem_range.2 (by omega), by omega⟩
    have := hnd.length_le_of_subset hsub
    rw [List.length_cons, List.length_map, List.length_range, h.len] at this
    omega
/-- The inverse of a permutation is one. -/
theorem PermL.inv {N : Nat} {p b : List Int} (h : PermL N p) (hb : b.length = N) (hi : ∀ (j : Nat) (hj : j < p.length), rd b p[j] = (j : Int)) : PermL N b ∧ ∀ x, 0 ≤ x → x < (N : Int) → rd b (rd p x) = x := by
  have hat : ∀ (y : Nat) (hy : y < b.length), ∃ (j : Nat) (hj : j < p.length), p[j] = (y : Int) ∧ b[y] = (j : Int) := fun y hy => by
    obtain ⟨j, hj, e⟩ := h.onto (y : Int) (by omega) (by omega)
    refine ⟨j, hj, e, ?_⟩
    have := hi j hj
    rw [e, rd_nat b y hy] at this
    exact this
  refine ⟨⟨hb, fun x hx => ?_, ?_⟩, fun x h0 h1 => ?_⟩
  · obtain ⟨y, hy, rfl⟩ := List.mem_iff_getElem.1 hx
    obtain ⟨j, hj, _, e⟩ := hat y hy
    have := h.len
    omega
  · unfold List.Nodup
    rw [List.pairwise_iff_getElem]
    intro y z hy hz hyz e
    obtain ⟨j, hj, e1, e2⟩ := hat y hy
    obtain ⟨k, hk, e3, e4⟩ := hat z hz
    have hjk : j = k := by omega
    subst hjk
    omega
  · obtain ⟨q, rfl⟩ : ∃ q : Nat, x = (q : Int) := ⟨x.toNat, by omega⟩
    have hq : q < p.length := by have := h.len; omega
    rw [rd_nat p q hq]
    exact hi q hq
/-! ### the loops -/
def preL (N i : Nat) : List Int := (List.range i).map (fun j : Nat => (j : Int)) ++ List.replicate (N - i) 0
theorem preL_len {N i : Nat} (h : i ≤ N) : (preL N i).length = N := by unfold preL; rw [List.length_append, List.length_map, List.length_range, List.length_replicate]; omega
theorem preL_set {N i : Nat} (h : i < N) : (preL N i).set i (i : Int) = preL N (i + 1) := by
  unfold preL
  obtain ⟨e, he⟩ : ∃ e, N - i = e + 1 := ⟨N - i - 1, by omega⟩
  rw [List.set_append_right _ _ (by rw [List.length_map, List.length_range]; exact Nat.le_refl _), List.length_map, List.length_range, Nat.sub_self, he, List.replicate_succ, List.set_cons_zero, show N - (i + 1) = e by omega, List.range_succ, List.map_append, List.append_assoc]
  rfl
theorem preL_all (N : Nat) : preL N N = (List.range N).map (fun j : Nat => (j : Int)) := by unfold preL; rw [Nat.sub_self, List.replicate_zero, List.append_nil]
section
variable (sd t : List Int) (N : Nat) (hN : N ≤ 64) (l : List S52)
include hN
theorem names_l0 (b8 : List Int) (m : Nat) : ∀ (d i : Nat), i + d = N → paraphrastlaw01_ShapeNames.l0 (m + d + 1) sd t (preL N i) b8 (i : Int) (N : Int) l = paraphrastlaw01_ShapeNames.l1 m sd t (preL N N) b8 0 (N : Int) l
  | 0, i, h => by
    obtain rfl : i = N := by omega
    conv => lhs; unfold paraphrastlaw01_ShapeNames.l0
    rw [if_neg (by omega)]
  | d + 1, i, h => by
    conv => lhs; unfold paraphrastlaw01_ShapeNames.l0
    rw [if_pos (by omega), if_pos (by omega), if_pos (by rw [preL_len (by omega)]; omega), Int.toNat_natCast, preL_set (by omega), w64 (by omega) (by omega), show (i : Int) + 1 = ((i + 1 : Nat) : Int) by omega]
    exact names_l0 b8 m d (i + 1) (by omega)
theorem names_l1 (hs : ∀ x ∈ sd, 0 ≤ x ∧ x ≤ 255) (b8 : List Int) : ∀ (d j : Nat) (p : List Int), j + d = min sd.length N → PermL N p → ∃ p', PermL N p' ∧ ∀ m, paraphrastlaw01_ShapeNames.l1 (m + d + 1) sd t p b8 (j : Int) (N : Int) l = paraphrastlaw01_ShapeNames.j3 m t p' b8 (N : Int) l
  | 0, j, p, h, hp => by
    refine ⟨p, hp, fun m => ?_⟩
    conv => lhs; unfold paraphrastlaw01_ShapeNames.l1
    by_cases h1 : (j : Int) < (sd.length : Int)
    · rw [if_pos h1, if_neg (by omega)]
    · rw [if_neg h1]
  | d + 1, j, p, h, hp => by
    have hj : j < sd.length := by omega
    have hjN : j < N := by omega
    have hb := hs _ (List.getElem_mem hj)
    have hpl := hp.len
    obtain ⟨q, hq, hqN⟩ : ∃ q : Nat, Int.tmod (wrap64 sd[j]) (N : Int) = (q : Int) ∧ q < N := by
      rw [w64 (by omega) (by omega), Int.tmod_eq_emod_of_nonneg hb.1]
      have h1 := Int.emod_nonneg sd[j] (show (N : Int) ≠ 0 by omega)
      have h2 := Int.emod_lt_of_pos sd[j] (show (0 : Int) < (N : Int) by omega)
      exact ⟨(sd[j] % (N : Int)).toNat, by omega, by omega⟩
    obtain ⟨p', hp', hm⟩ := names_l1 hs b8 d (j + 1) _ (by omega) (hp.swap j q (by omega) (by omega))
    refine ⟨p', hp', fun m => ?_⟩
    conv => lhs; unfold paraphrastlaw01_ShapeNames.l1
    rw [if_pos (by omega), if_pos (by omega), if_pos (by omega), if_neg (by omega), rd_nat sd j hj, hq, if_pos (by omega), if_pos (by omega), if_pos (by omega), Int.toNat_natCast, Int.toNat_natCast, rd_nat p q (by omega), rd_nat p j (by omega), w64 (by omega) (by omega), show (j : Int) + 1 = ((j + 1 : Nat) : Int) by omega]
    exact hm m
theorem names_l2 (p : List Int) (hp : PermL N p) : ∀ (d i : Nat) (b : List Int), i + d = N → b.length = N → (∀ (j : Nat) (hj : j < p.length), j < i → rd b p[j] = (j : Int)) → ∃ b', b'.length = N ∧ (∀ (j : Nat) (hj : j < p.length), rd b' p[j] = (j : Int)) ∧ ∀ m, paraphrastlaw01_ShapeNames.l2 (m + d + 1) t p b (i : Int) (N : Int) l = paraphrastlaw01_ShapeNames.l2 (m + 1) t p b' (N : Int) (N : Int) l
  | 0, i, b, h, hb, hi => by
    obtain rfl : i = N := by omega
    exact ⟨b, hb, fun j hj => hi j hj (by have := hp.len; omega), fun m => rfl⟩
  | d + 1, i, b, h, hb, hi => by
    have hpl := hp.len
    have hip : i < p.length := by omega
    obtain ⟨r0, r1⟩ := hp.rng _ (List.getElem_mem hip)
    obtain ⟨v, hv⟩ : ∃ v : Nat, p[i] = (v : Int) := ⟨p[i].toNat, by omega⟩
    have hvb : v < b.length := by omega
    obtain ⟨b', hb', hi', hm⟩ := names_l2 p hp d (i + 1) (b.set v (i : Int)) (by omega) (by rw [List.length_set]; exact hb) (fun j hj hji => by
      obtain ⟨s0, s1⟩ := hp.rng _ (List.getElem_mem hj)
      obtain ⟨u, hu⟩ : ∃ u : Nat, p[j] = (u : Int) := ⟨p[j].toNat, by omega⟩
      rw [hu, rd_nat _ u (by rw [List.length_set]; omega), List.getElem_set]
      by_cases e : j = i
      · subst e
        rw [if_pos (by omega)]
      · have hne : p[j] ≠ p[i] := fun e2 => e ((List.getElem_inj hp.nd).1 e2)
        rw [if_neg (by omega)]
        have := hi j hj (by omega)
        rw [hu, rd_nat b u (by omega)] at this
        exact this)
    refine ⟨b', hb', hi', fun m => ?_⟩
    conv => lhs; unfold paraphrastlaw01_ShapeNames.l2
    rw [if_pos (by omega), if_pos (by omega), if_pos (by omega), rd_nat p i hip, hv, if_pos (by omega), if_pos (by omega), Int.toNat_natCast, w64 (by omega) (by omega), show (i : Int) + 1 = ((i + 1 : Nat) : Int) by omega]
    exact hm m
end
/-! ### the law -/
theorem copyOk_valid (n : Int) (l : List S52) (hv : validB n l = true) : copyOk l := by
  obtain ⟨v1, v2, v3, v4⟩ := valid_facts n l hv
  refine ⟨by omega, fun r hr => ?_⟩
  obtain ⟨_, g1, g2, g3⟩ := v4 r hr
  exact ⟨by omega, fun t ht => by have := (g2 t ht).1; omega⟩
theorem permute_perm (N : Nat) (hN : N ≤ 64) (l : List S52) (hv : validB (N : Int) l = true) (p : List Int) (hp : PermL N p) (k : Nat) (hk : 5000 ≤ k) : shape_Permute.f k (N : Int) l p = some ((N : Int), l.map (renR p), 0) := by
  have hlen := hp.len
  have hc := (count_nodupI p).2 hp.nd
  have hy : permYes (N : Int) p = true := by
    unfold permYes
    have ha : p.any (outB (N : Int)) = false := by
      rw [List.any_eq_false]
      intro x hx
      have := hp.rng x hx
      unfold outB
      simp only [Bool.or_eq_true, decide_eq_true_eq]
      omega
    rw [ha, decide_eq_true (by omega), decide_eq_true (by omega)]
    rfl
  unfold shape_Permute.f
  rw [valid_eq _ l 4096 (by omega) (max_valid _ l hv) k (by omega), hv, Option.bind_some, if_pos rfl, if_pos ⟨copyOk_valid _ l hv, by omega, fun x hx => by have := hp.rng x hx; omega⟩, hy, if_pos rfl, if_pos (permFit_of _ l hv p (by omega) hp.nd)]
def zN (N y : Int) : Int := Int.tmod (wrap64 (Int.tmod y N + N)) N
theorem zN_in (N : Int) (h0 : 0 < N) (h1 : N ≤ 64) (y : Int) : 0 ≤ zN N y ∧ zN N y < N := by
  unfold zN
  have h2 := Int.lt_tmod_of_pos y h0
  have h3 := Int.tmod_lt_of_pos y h0
  rw [w64 (by omega) (by omega), Int.tmod_eq_emod_of_nonneg (by omega)]
  exact ⟨Int.emod_nonneg _ (by omega), Int.emod_lt_of_pos _ h0⟩
section
variable (N : Nat) (hN0 : 1 ≤ N) (hN : N ≤ 64) (l : List S52) (hv : validB (N : Int) l = true) (p : List Int) (hp : PermL N p) (t : List Int) (ht : t.length ≤ 12)
include hN0 hN hv hp ht
theorem names_l4 (i : Nat) (hi : i < l.length) (a : Nat) (ha : l[i].f1 = (a : Int)) (hat : a ≤ t.length) (m : Nat) : ∀ (d j : Nat), j + d = a →
    paraphrastlaw01_ShapeNames.l4 (m + d + 1) t p (i : Int) ((t.take j).map (zN (N : Int))) (j : Int) (N : Int) l (N : Int) (l.map (renR p)) = paraphrastlaw01_ShapeNames.l4 (m + 1) t p (i : Int) ((t.take a).map (zN (N : Int))) (a : Int) (N : Int) l (N : Int) (l.map (renR p))
  | 0, j, h => by
    obtain rfl : j = a := by omega
    rfl
  | d + 1, j, h => by
    have hj : j < t.length := by omega
    have hpl := hp.len
    have h8 := (valid_facts _ l hv).2.2.1
    conv => lhs; unfold paraphrastlaw01_ShapeNames.l4
    rw [if_pos (by omega), if_pos (by omega), rdT_nat l i hi, if_pos (by omega), if_pos (by omega), if_pos (by omega), if_neg (by omega), if_pos (by rw [List.length_map, List.length_take]; omega), rd_nat t j hj,
      show (t.take j).map (zN (N : Int)) ++ [Int.tmod (wrap64 (Int.tmod t[j] (N : Int) + (N : Int))) (N : Int)] = (t.take (j + 1)).map (zN (N : Int)) by rw [take_snoc' (List.getElem?_eq_getElem hj), List.map_append]; rfl, w64 (by omega) (by omega), show (j : Int) + 1 = ((j + 1 : Nat) : Int) by omega]
    exact names_l4 i hi a ha hat m d (j + 1) (by omega)
theorem names_l3 (K : Nat) (hA : ∀ k, K ≤ k → paraphrastlaw01_alive.f k = some true) : ∀ (d i k : Nat), i + d = l.length → K + 8000 + 20 * d ≤ k → paraphrastlaw01_ShapeNames.l3 k t p (i : Int) (N : Int) l (N : Int) (l.map (renR p)) = some true
  | 0, i, k, h, hk => by
    obtain ⟨k, rfl⟩ : ∃ k', k = k' + 1 := ⟨k - 1, by omega⟩
    conv => lhs; unfold paraphrastlaw01_ShapeNames.l3
    rw [if_neg (by omega), hA k (by omega)]
    rfl
  | d + 1, i, k, h, hk => by
    have hi : i < l.length := by omega
    have h8 := (valid_facts _ l hv).2.2.1
    obtain ⟨_, g1, g2, g3⟩ := (valid_facts _ l hv).2.2.2 _ (List.getElem_mem hi)
    obtain ⟨a, ha⟩ : ∃ a : Nat, l[i].f1 = (a : Int) := ⟨l[i].f1.toNat, by omega⟩
    obtain ⟨k, rfl⟩ : ∃ k', k = k' + 1 := ⟨k - 1, by omega⟩
    conv => lhs; unfold paraphrastlaw01_ShapeNames.l3
    rw [if_pos (by omega), if_pos (by omega), rdT_nat l i hi]
    by_cases hc : (t.length : Int) < l[i].f1
    · rw [if_pos hc, w64 (by omega) (by omega), show (i : Int) + 1 = ((i + 1 : Nat) : Int) by omega]
      exact names_l3 K hA d (i + 1) k (by omega) (by omega)
    · rw [if_neg hc]
      obtain ⟨m, rfl⟩ : ∃ m, k = m + a + 1 := ⟨k - a - 1, by omega⟩
      have h4 := names_l4 N hN0 hN l hv p hp t ht i hi a ha (by omega) m a 0 (by omega)
      rw [List.take_zero, List.map_nil] at h4
      rw [show (0 : Int) = ((0 : Nat) : Int) from rfl, h4]
      have hxl : ((t.take a).map (zN (N : Int))).length = a := by rw [List.length_map, List.length_take]; omega
      have hxi : ∀ x ∈ (t.take a).map (zN (N : Int)), 0 ≤ x ∧ x < (N : Int) := fun x hx => by
        obtain ⟨y, _, rfl⟩ := List.mem_map.1 hx
        exact zN_in _ (by omega) (by omega) y
      generalize (t.take a).map (zN (N : Int)) = xs at hxl hxi ⊢
      have hlen := hp.len
      have hxp : ∀ x ∈ xs, 0 ≤ x ∧ x < (p.length : Int) := fun x hx => by have := hxi x hx; omega
      have hv2 := valid_map (N : Int) l hv p (by omega) hp.rng
      have hi2 : i < (l.map (renR p)).length := by rw [List.length_map]; exact hi
      obtain ⟨_, b1, _, hm1, hb1, _⟩ := has_at (N : Int) l hv i hi xs (by omega)
      obtain ⟨_, b2, _, hm2, hb2, _⟩ := has_at (N : Int) (l.map (renR p)) hv2 i hi2 (renT p xs) (by rw [List.getElem_map]; show ((renT p xs).length : Int) = l[i].f1; unfold renT; rw [List.length_map]; omega)
      rw [List.getElem_map] at hb2 hm2
      have hb2' : ∀ k, 7000 ≤ k → shape_Has.f k (N : Int) (l.map (renR p)) l[i].f0 (renT p xs) = some (b2, 0) := hb2
      have hbb : b1 = b2 := by
        have h3 := (renR_facts (N : Int) l hv p (by omega) hp.rng i hi).2.2 (renT p xs)
        have : b1 = true ↔ b2 = true := by
          rw [hm1, hm2, h3]
          constructor
          · intro hx; exact ⟨xs, hx, rfl⟩
          · rintro ⟨u, hu, e⟩
            have hul := (g2 u hu).1
            have := renT_inj p hp.nd u xs (by omega) (fun x hx => by have := (g2 u hu).2 x hx; omega) hxp e
            exact this ▸ hu
        cases b1 <;> cases b2 <;> simp_all
      conv => lhs; unfold paraphrastlaw01_ShapeNames.l4
      rw [if_pos (by omega), if_pos (by omega), rdT_nat l i hi, if_neg (by omega), hb1 m (by omega), Option.bind_some, renamed_eq p xs (by omega) hxp m (by omega), Option.bind_some, hb2' m (by omega), Option.bind_some, if_pos rfl, if_pos rfl, hbb]
      rw [if_neg (by simp), w64 (by omega) (by omega), show (i : Int) + 1 = ((i + 1 : Nat) : Int) by omega]
      exact names_l3 K hA d (i + 1) m (by omega) (by omega)
end
theorem names_law (n : Int) (l : List S52) (sd t : List Int) (T : Nat) (hT : T ≤ 9223372036854775807) (hall : ∀ r ∈ l, r.f2.length ≤ T) (hs : ∀ x ∈ sd, 0 ≤ x ∧ x ≤ 255) : ∃ k, paraphrastlaw01_ShapeNames.f k n l sd t = some true := by
  obtain ⟨K, hA⟩ := alive_true
  obtain ⟨kf, bf, hf⟩ := few_ex n l (fun r hr => Nat.le_trans (hall r hr) hT)
  have hf' : ∀ k, kf ≤ k → paraphrastlaw01_Few.f k [⟨n, l⟩] = some bf := fun k hk => at_rounds (paraphrastlaw01_Few.mono _) hk hf
  have jt : ∀ k, K ≤ k → paraphrastlaw01_ShapeNames.j0 (k + 1) sd t true n l = some true := fun k hk => by
    conv => lhs; unfold paraphrastlaw01_ShapeNames.j0
    dsimp only
    rw [if_pos rfl, hA k hk]; rfl
  refine ⟨kf + K + T + 200000 + 1, ?_⟩
  unfold paraphrastlaw01_ShapeNames.f
  rw [hf' _ (by omega), Option.bind_some]
  cases bf with
  | false => rw [if_neg (by simp)]; exact jt _ (by omega)
  | true =>
    rw [if_pos rfl, valid_eq n l T hT hall _ (by omega), Option.bind_some]
    cases hv : validB n l with
    | false => rw [if_neg (by simp)]; exact jt _ (by omega)
    | true =>
      rw [if_pos rfl]
      by_cases ht : t.length ≤ 12
      · rw [decide_eq_false (by omega)]
        obtain ⟨v1, v2, v3, v4⟩ := valid_facts n l hv
        obtain ⟨N, rfl⟩ : ∃ N : Nat, n = (N : Int) := ⟨n.toNat, by omega⟩
        have hN : N ≤ 64 := by omega
        have hq : min sd.length N ≤ 64 := by omega
        obtain ⟨p, hp, h1⟩ := names_l1 sd t N hN l hs (preL N 0) (min sd.length N) 0 (preL N N) (by omega) (by rw [preL_all]; exact permL_id N)
        obtain ⟨b, hb, hbi, h2⟩ := names_l2 t N hN l p hp N 0 (preL N 0) (by omega) (preL_len (by omega)) (fun j hj h => by omega)
        obtain ⟨hpb, hinv⟩ := hp.inv hb hbi
        have hlen := hp.len
        have hv2 := valid_map (N : Int) l hv p (by omega) hp.rng
        have hback := renR_back (N : Int) l hv p (by omega) hp.rng b (by omega) hpb.rng hinv
        obtain ⟨m, hm⟩ : ∃ m, kf + K + T + 200000 = (((m + 1 + N + 1) + 1) + min sd.length N + 1) + N + 1 := ⟨kf + K + T + 200000 - (N + min sd.length N + N + 5), by omega⟩
        have hmK : K + 110000 ≤ m := by omega
        conv => lhs; unfold paraphrastlaw01_ShapeNames.j0
        dsimp only
        rw [if_neg (by simp), if_pos (by omega), if_pos (by omega), Int.toNat_natCast, show List.replicate N (0 : Int) = preL N 0 from rfl, hm]
        have h0 := names_l0 sd t N hN l (preL N 0) ((m + 1 + N + 1) + 1 + min sd.length N + 1) N 0 (by omega)
        rw [show ((0 : Nat) : Int) = 0 from rfl] at h0 h1 h2
        rw [h0, h1 (m + 1 + N + 1 + 1)]
        conv => lhs; unfold paraphrastlaw01_ShapeNames.j3
        dsimp only
        rw [h2 (m + 1)]
        conv => lhs; unfold paraphrastlaw01_ShapeNames.l2
        rw [if_neg (by omega), permute_perm N hN l hv p hp (m + 1) (by omega), Option.bind_some, permute_perm N hN _ hv2 b hpb (m + 1) (by omega), Option.bind_some, if_pos rfl, if_pos rfl, hback,
          same_refl (N : Int) l (by omega) (fun r hr => by
            obtain ⟨_, g1, g2, g3⟩ := v4 r hr
            exact ⟨by omega, fun u hu => by have := (g2 u hu).1; omega⟩) (m + 1) (by omega), Option.bind_some]
        conv => lhs; unfold paraphrastlaw01_ShapeNames.j5
        dsimp only
        rw [if_neg (by simp)]
        have := names_l3 N (by omega) hN l hv p hp t ht K hA l.length 0 m (by omega) (by omega)
        rw [show ((0 : Nat) : Int) = 0 from rfl] at this
        exact this
      · rw [decide_eq_true (by omega)]
        exact jt _ (by omega)
end Go.Proofs.YtfmpaofbnjlniaaGreatDoor.F
/- ShapeNames: the row and its card. -/
namespace Go.Proofs.YtfmpaofbnjlniaaGreatDoor.F
open Go.RowKit Go.WideShapes Go.ChangeShapes Go.ChangeAt Go.Proofs.YtfmpaofbnjlniaaGreatDoorW.PrintWords Go.Proofs.YtfmpaofbnjlniaaGreatDoorW.PrintLast Go.Proofs.YtfmpaofbnjlniaaGreatDoorW.PrintMore
open Go.ChangeMaps (open_string shut_string)
set_option linter.unusedVariables false
set_option linter.unusedSimpArgs false
set_option maxHeartbeats 1000000 in
set_option maxRecDepth 100000 in
theorem shapeNames_lifted (os : Os) (started : os.Started) (H : Type) (enc : TypeId × Value → H) :
    ReturnsInHanded {} Tryz.checked os 7 .any (fun w args => (Rows.shapeNamesSpec.pre enc Tryz.prog Tryz.f7 Rows.shapeNamesRow.domain false w args ∧ laidMetH Tryz.prog laidL w) ∧ sizedMet enc Tryz.prog Tryz.f7 (OpenSpec.ofChange Rows.shapeNamesSpec) false w args)
      (Rows.shapeNamesSpec.post enc Tryz.prog Tryz.f7 false true false false) := by
  refine returns_and_shaped (C := Tryz.checked) (X := fun w _ => laidMetH Tryz.prog laidL w) (fun _ _ _ hh h => h.of_heap hh) own started (by kernel_rfl) Tryz.func7
    (ChangeSpec.witness_shaped (enc := enc) (C := Tryz.checked) (os := os) (X := fun w _ => laidMetH Tryz.prog laidL w) false (World.laidAll Tryz.prog os laidL) #[.agg #[.int .i64 0, .slice none 0 0], .slice none 0 0, .slice none 0 0] 8 (World.laidAll_os _ _ _)
      (World.shaped_of_ZipB (by kernel_rfl) (by kernel_rfl)) (by kernel_rfl) (by kernel_rfl) (by kernel_rfl)
      (by rw [MakeChecks.laidMetH_plain _ _ _ (by kernel_rfl)]; exact laidMet_laidAll _ (by kernel_rfl) (by kernel_rfl))) ?_
  intro W base args ds gs before hval0 hW hsh hL
  have hval : ∀ (j : Nat) t v, Tryz.f7.params[j]? = some t → args[j]? = some v → Value.okWide Tryz.prog W .any base t v := hval0
  have hW' := hW
  obtain ⟨p, q, hA0, hV, rfl, hfz, hnd⟩ := hW
  have hA : DataW.TrodAll enc Tryz.prog W 0 (fun _ => true) true Tryz.f7.params.toList args.toList ds p := hA0
  rw [Tryz.params7] at hA hval
  obtain ⟨v0, vs0, d0, ds0, p0, q0, hargs, rfl, rfl, h0, r0⟩ := trodAll_cons hA
  obtain ⟨v1, vs1, d1, ds1, p1, q1, rfl, rfl, rfl, h1, r1⟩ := trodAll_cons r0
  obtain ⟨v2, vs2, d2, ds2, p2, q2, rfl, rfl, rfl, h2, r2⟩ := trodAll_cons r1
  obtain ⟨rfl, rfl, rfl⟩ := trodAll_nil r2
  obtain rfl : args = #[v0, v1, v2] := by cases args; simp_all
  obtain ⟨rfl, rfl⟩ := trodVars_none hV
  have k0 := h0
  have lt0 : ∀ x ∈ p0, x.block < W.heap.size := by obtain ⟨m, hm⟩ := k0; exact DataW.trod_lt m _ _ _ hm
  obtain ⟨cs0, rfl, _⟩ := okWide_struct Tryz.underlying24 (hval 0 24 v0 rfl rfl)
  obtain ⟨m0, e0⟩ := h0
  obtain ⟨⟨x0, l0⟩, hK0⟩ := opens_structure enc _ _ _ e0
  obtain ⟨A0, c0, ec0, hlc0, hC0⟩ := k24_open hK0
  obtain rfl : cs0 = #[.int .i64 x0, .slice A0 l0.length c0] := Array.ext' (by simpa [Value.cells] using ec0)
  have k1 := h1
  have lt1 : ∀ x ∈ p1, x.block < W.heap.size := by obtain ⟨m, hm⟩ := k1; exact DataW.trod_lt m _ _ _ hm
  obtain ⟨a1, len1, cap1, rfl⟩ := okWide_slice Tryz.underlying63 (hval 1 63 v1 rfl rfl)
  obtain ⟨m1, e1⟩ := h1
  obtain ⟨l1, A1, c1, ec1, hlc1, hC1, hR1⟩ := opens_bytesR enc _ _ _ e1
  obtain ⟨rfl, rfl, rfl⟩ : a1 = A1 ∧ len1 = l1.length ∧ cap1 = c1 := by simpa [Value.cells] using ec1
  have k2 := h2
  have lt2 : ∀ x ∈ p2, x.block < W.heap.size := by obtain ⟨m, hm⟩ := k2; exact DataW.trod_lt m _ _ _ hm
  obtain ⟨a2, len2, cap2, rfl⟩ := okWide_slice Tryz.underlying46 (hval 2 46 v2 rfl rfl)
  obtain ⟨m2, e2⟩ := h2
  obtain ⟨l2, A2, c2, ec2, hlc2, hC2⟩ := opens_ints enc _ _ _ e2
  obtain ⟨rfl, rfl, rfl⟩ : a2 = A2 ∧ len2 = l2.length ∧ cap2 = c2 := by simpa [Value.cells] using ec2
  obtain ⟨k, hk⟩ := names_law x0 l0 l1 l2 9223372036854775807 (Nat.le_refl _) (rels_max hC0) hR1
  refine (paraphrastlaw01_ShapeNames.calls k x0 (fun k => k < W.heap.size) A0 c0 l0 a1 cap1 l1 a2 cap2 l2 true W (glob_of_laid hsh hL) (Kd.V_mk hlc0 (Kd.C_F k52_heap hC0)) hC1 hlc1 hC2 hlc2 hk).mono fun e W' he => ?_
  obtain ⟨he, bel⟩ := he
  subst he
  exact ⟨_, rfl, _, _, _, [], _, [], hW', trodAll_mk1 (shut_bool Tryz.underlying4 _), (trodAll_cons_mk (Below.trod laidOut (by kernel_rfl) (of_decide_eq_true (by kernel_rfl)) k0 bel lt0) (trodAll_cons_mk (Below.trod laidOut (by kernel_rfl) (of_decide_eq_true (by kernel_rfl)) k1 bel lt1) (trodAll_cons_mk (Below.trod laidOut (by kernel_rfl) (of_decide_eq_true (by kernel_rfl)) k2 bel lt2) trodAll_mk0))), rfl, bel.frame _, fun h => by cases h⟩
theorem shapeNames_holds : Rows.ShapeNamesSaid :=
  OpenClaim.holds_of_wide 7 Tryz.f7 rfl rfl rfl rfl rfl rfl rfl ⟨rfl, rfl, rfl, rfl, rfl⟩ rfl rfl rfl rfl rfl (by kernel_rfl) Tryz.func7 (by kernel_rfl)
    (of_decide_eq_true (by kernel_rfl)) (by unfold Func.isWrapper; first | (rw [if_pos (by decide +kernel)]; kernel_rfl) | (rw [if_neg (by decide +kernel)]; exact ⟨rfl, rfl⟩))
    (fun os started H enc _ => shapeNames_lifted os started H enc)
end Go.Proofs.YtfmpaofbnjlniaaGreatDoor.F
namespace Go.Proofs.YtfmpaofbnjlniaaGreatDoor
open F
theorem shapeNames_card : Rows.ShapeNamesCardSaid :=
  Claim7.holds_tied_plain_at .later [] [.data, .data, .data, .data, .sentinel, .sentinel, .pinned] true (true, "0b2e56867fdebc6e4a4706954466a18a4e5a5153ee6e2b3ed723d8acf71f299f") true shapeNames_holds (fun _ h => by cases h) (by kernel_rfl) (fun _ h => by cases h) shapeNames_row_tie rfl ⟨rfl, rfl⟩ (by kernel_rfl) rfl
    (fun f fn hf hfn => by
      obtain rfl : f = 7 := Option.some.inj ((show Tryz.prog.funcNamed "paraphrast/paraphrastlaw01.ShapeNames" = some 7 by kernel_rfl).symm.trans hf) |>.symm
      obtain rfl : fn = Tryz.f7 := (Option.some.inj (Tryz.func7.symm.trans hfn)).symm
      exact ⟨by kernel_rfl, fun j t ht => by
        rw [Tryz.params7] at ht
        have hm : t ∈ [24, 63, 46] := by simpa using Array.mem_of_getElem? ht
        have hall : ([24, 63, 46].all fun u => !Tryz.prog.wantsStandIn u) = true := by kernel_rfl
        exact (show Tryz.prog.wantsStandIn t = false by simpa using List.all_eq_true.1 hall t hm)⟩)
    (by kernel_rfl)
#print axioms shapeNames_card
end Go.Proofs.YtfmpaofbnjlniaaGreatDoor
