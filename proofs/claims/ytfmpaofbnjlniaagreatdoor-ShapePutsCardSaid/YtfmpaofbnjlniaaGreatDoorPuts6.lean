/- ShapePuts: Has and Put answer as the reference says, for every structure, name and tuple. -/
import Derived.Test.YtfmpaofbnjlniaaGreatDoorPuts5
import Derived.Test.YtfmpaofbnjlniaaGreatDoorCards
import Derived.Test.YtfmpaofbnjlniaaGreatDoorTie
import Derived.SevenTiedAt
namespace Go.Proofs.YtfmpaofbnjlniaaGreatDoor.F
open Go.RowKit Go.Proofs.YtfmpaofbnjlniaaGreatDoorW.PrintWords Go.Proofs.YtfmpaofbnjlniaaGreatDoorW.PrintLast Go.Proofs.YtfmpaofbnjlniaaGreatDoorW.PrintMore
attribute [local go_sem] max2_int min2_int max_two min_two max_three min_three max_four min_four
set_option linter.unusedVariables false
set_option linter.unusedSimpArgs false
/-! ### paraphrastlaw01_ShapePuts: function 5 -/
mutual
noncomputable def paraphrastlaw01_ShapePuts.j0 : Nat → ByteArray → List Int → Bool → Bool → Int → List (S52) → Option (Bool)
 | 0, _, _, _, _, _, _ => none
 | k + 1, x5, x6, x7, x34, x426000, x426001 => if x34 = true then ((paraphrastlaw01_alive.f k).bind fun t431 => (some t431)) else ((paraphrastref01_Find.f k x426000 x426001 x5).bind fun t432 => ((paraphrastref01_Valid.f k x426000 x426001).bind fun t433 => (if t433 = true then (if t432 < 0 then (paraphrastlaw01_ShapePuts.j1 k x5 x6 x7 4 t432 x426000 x426001) else (if 0 ≤ t432 then (if t432 < (x426001.length : Int) then (if ((rd_T52 x426001 t432).f1) = (x6.length : Int) then (paraphrastlaw01_ShapePuts.j1 k x5 x6 x7 0 t432 x426000 x426001) else (paraphrastlaw01_ShapePuts.j1 k x5 x6 x7 4 t432 x426000 x426001)) else (none)) else (none))) else (paraphrastlaw01_ShapePuts.j1 k x5 x6 x7 1 t432 x426000 x426001))))
noncomputable def paraphrastlaw01_ShapePuts.j1 : Nat → ByteArray → List Int → Bool → Int → Int → Int → List (S52) → Option (Bool)
 | 0, _, _, _, _, _, _, _ => none
 | k + 1, x5, x6, x7, x8, x9, x426000, x426001 => (shape_Has.f k x426000 x426001 x5 x6).bind fun bt435 => (if bt435.2 = x8 then (if x8 = 0 then (if 0 ≤ x9 then (if x9 < (x426001.length : Int) then ((paraphrastref01_Among.f k ((rd_T52 x426001 x9).f2) x6).bind fun t438 => (paraphrastlaw01_ShapePuts.j2 k x5 x6 x7 x8 (bt435.1 != t438) x426000 x426001)) else (none)) else (none)) else (paraphrastlaw01_ShapePuts.j2 k x5 x6 x7 x8 (bt435.1 != false) x426000 x426001)) else (paraphrastlaw01_ShapePuts.j2 k x5 x6 x7 x8 true x426000 x426001))
noncomputable def paraphrastlaw01_ShapePuts.j2 : Nat → ByteArray → List Int → Bool → Int → Bool → Int → List (S52) → Option (Bool)
 | 0, _, _, _, _, _, _, _ => none
 | k + 1, x5, x6, x7, x8, x82, x426000, x426001 => if x82 = true then (some false) else (if x8 = 0 then ((paraphrastref01_In.f k x426000 x6).bind fun t439 => (paraphrastlaw01_ShapePuts.j3 k x5 x6 x7 x8 (!t439) x426000 x426001)) else (paraphrastlaw01_ShapePuts.j3 k x5 x6 x7 x8 false x426000 x426001))
noncomputable def paraphrastlaw01_ShapePuts.j3 : Nat → ByteArray → List Int → Bool → Int → Bool → Int → List (S52) → Option (Bool)
 | 0, _, _, _, _, _, _, _ => none
 | k + 1, x5, x6, x7, x8, x91, x426000, x426001 => if x91 = true then (paraphrastlaw01_ShapePuts.j4 k x5 x6 x7 2 x426000 x426001) else (paraphrastlaw01_ShapePuts.j4 k x5 x6 x7 x8 x426000 x426001)
noncomputable def paraphrastlaw01_ShapePuts.j4 : Nat → ByteArray → List Int → Bool → Int → Int → List (S52) → Option (Bool)
 | 0, _, _, _, _, _, _ => none
 | k + 1, x5, x6, x7, x8, x426000, x426001 => (shape_Put.f k x426000 x426001 x5 x6 x7).bind fun bt440 => (if x8 = 0 then ((paraphrastref01_Put.f k x426000 x426001 x5 x6 x7).bind fun bt447 => ((paraphrastlaw01_is.f k bt440.1 bt440.2.1 bt440.2.2 bt447.1 bt447.2 x8).bind fun t451 => (if t451 = true then ((paraphrastlaw01_alive.f k).bind fun t452 => (some t452)) else (some false)))) else ((paraphrastlaw01_is.f k bt440.1 bt440.2.1 bt440.2.2 0 ([] : List (S52)) x8).bind fun t453 => (if t453 = true then ((paraphrastlaw01_alive.f k).bind fun t454 => (some t454)) else (some false))))
end
noncomputable def paraphrastlaw01_ShapePuts.f (k : Nat) (a0_0 : Int) (l0_1 : List (S52)) (a1_0 : ByteArray) (l1_1 : List Int) (a1_2 : Bool) : Option (Bool) := (paraphrastlaw01_Few.f k (([(⟨a0_0, l0_1⟩ : S24)] : List (S24)))).bind fun t430 => (if t430 = true then (if (a1_0.size : Int) > 1000 then (paraphrastlaw01_ShapePuts.j0 k a1_0 l1_1 a1_2 true a0_0 l0_1) else (paraphrastlaw01_ShapePuts.j0 k a1_0 l1_1 a1_2 (decide ((l1_1.length : Int) > 1000)) a0_0 l0_1)) else (paraphrastlaw01_ShapePuts.j0 k a1_0 l1_1 a1_2 true a0_0 l0_1))
set_option maxHeartbeats 8000000 in
set_option maxRecDepth 100000 in
theorem paraphrastlaw01_ShapePuts.calls (k : Nat) (a0_0 : Int) (P0_1_ : Nat → Prop) (A0_1 : Option Addr) (c0_1 : Nat) (l0_1 : List (S52)) (a1_0 : ByteArray) (P1_1_ : Nat → Prop) (A1_1 : Option Addr) (c1_1 : Nat) (l1_1 : List Int) (a1_2 : Bool) (r : Bool) (w : World) (hG : Glob w) (hs0_1 : Kd.V k52 52 w w.heap.size (fun k_ => P0_1_ k_) (.slice A0_1 l0_1.length c0_1) l0_1) (hs1_1 : Kd.V (Kd.int .i64) 3 w w.heap.size (fun k_ => P1_1_ k_) (.slice A1_1 l1_1.length c1_1) l1_1) (h : paraphrastlaw01_ShapePuts.f k a0_0 l0_1 a1_0 l1_1 a1_2 = some r) :
  Calls Tryz.prog 5 #[.agg #[.int .i64 a0_0, .slice A0_1 l0_1.length c0_1], .agg #[.string a1_0, .slice A1_1 l1_1.length c1_1, .bool a1_2]] w fun e w' => e = .returned (.bool r) ∧ Below w.heap.size w w' := by
 have hu24 := Tryz.underlying24
 have hu48 := Tryz.underlying48
 have HO0_1 := Aside0.mk (show Kd.V k52 52 w w.heap.size (fun k_ => ((P0_1_ k_ ∨ P1_1_ k_) ∨ w.heap.size ≤ k_)) (.slice A0_1 l0_1.length c0_1) l0_1 from Kd.V_mono hs0_1 (fun k_ hk => .inl (.inl hk)))
 have HO1_1 := Aside0.mk (show Kd.V (Kd.int .i64) 3 w w.heap.size (fun k_ => ((P0_1_ k_ ∨ P1_1_ k_) ∨ w.heap.size ≤ k_)) (.slice A1_1 l1_1.length c1_1) l1_1 from Kd.V_mono hs1_1 (fun k_ hk => .inl (.inr hk)))
 have HG := Aside0.mk hG
 clear hG
 have HB := Aside0.mk (Below.refl w.heap.size w)
 have H : ((paraphrastlaw01_Few.f k (([(⟨a0_0, l0_1⟩ : S24)] : List (S24)))).bind fun t430 => (if t430 = true then (if (a1_0.size : Int) > 1000 then (paraphrastlaw01_ShapePuts.j0 k a1_0 l1_1 a1_2 true a0_0 l0_1) else (paraphrastlaw01_ShapePuts.j0 k a1_0 l1_1 a1_2 (decide ((l1_1.length : Int) > 1000)) a0_0 l0_1)) else (paraphrastlaw01_ShapePuts.j0 k a1_0 l1_1 a1_2 true a0_0 l0_1))) = some r := h
 clear h
 have HC3 := Aside0.mk H
 clear H
 go_enter Tryz.func5, Tryz.ntmps5
 go_upto_region 2 with (first | ((with_reducible refine gate_dst (N := 2) rfl ?_); (try (refine gate_guard (by rfl) ?_; dsimp only)); refine box_event ?hg (N := 2) ?hd (cs := #[.int .i64 a0_0, .slice A0_1 l0_1.length c0_1]) (t := 24) ?hr ?_; (case hd => rfl); (case hg => rfl); (case hr => first | (go_simp; done) | (go_simp; rfl)); intro gb425 hg w4 hbox hb; have BK425 := Aside0.mk (hbox); have GW425 := geB w hg; have GE425 := geB w hg; replace HO0_1 := vB HO0_1 hg hb; replace HO1_1 := vB HO1_1 hg hb; replace HB := Aside0.mk (below_step bel hb); clear hb hbox hg) | ((with_reducible refine gate_dst (N := 3) rfl ?_); (try (refine gate_guard (by rfl) ?_; dsimp only)); refine box_event ?hg (N := 3) ?hd (cs := #[.string a1_0, .slice A1_1 l1_1.length c1_1, .bool a1_2]) (t := 48) ?hr ?_; (case hd => rfl); (case hg => rfl); (case hr => first | (go_simp; done) | (go_simp; rfl)); intro gb426 hg w5 hbox hb; have BK426 := Aside0.mk (hbox); have GW426 := geB w hg; have GE426 := geB w hg; have NB425_426 := neL BK425 hg; have NB426_425 := neG BK425 hg; replace HO0_1 := vB HO0_1 hg hb; replace HO1_1 := vB HO1_1 hg hb; replace BK425 := blB BK425 hb; replace HB := Aside0.mk (below_step bel hb); clear hb hbox hg; have hnb6 := NB426_425.out; have hnc6 := NB425_426.out; obtain ⟨hcz7_0, hcz7_1, hcz7_2, hfz7_0, hfz7_1, hfz7_2⟩ := bq3 BK426))
 repeat (go_quiet (fail); go_upto_region 2 with (fail))
 (try simp only [Act.put, List.setIfInBounds_toArray, List.set_cons_zero, List.set_cons_succ])
 go_cut [34] (fun v34 wc => ∃ (kq : Nat) (x34_2 : Bool), v34 = .bool x34_2 ∧ Aside0 (paraphrastlaw01_ShapePuts.j0 kq a1_0 l1_1 a1_2 x34_2 a0_0 l0_1 = some r) ∧ Aside0 (kq ≤ k) ∧ Aside0 (Kd.V (Kd.int .i64) 3 wc w.heap.size (fun k_ => ((P0_1_ k_ ∨ P1_1_ k_) ∨ w.heap.size ≤ k_) ∧ k_ ≠ gb425 ∧ k_ ≠ gb426) (.slice A1_1 l1_1.length c1_1) l1_1) ∧ Aside0 (Kd.V k52 52 wc w.heap.size (fun k_ => ((P0_1_ k_ ∨ P1_1_ k_) ∨ w.heap.size ≤ k_) ∧ k_ ≠ gb425 ∧ k_ ≠ gb426) (.slice A0_1 l0_1.length c0_1) l0_1) ∧ Aside0 (Kd.V (Kd.int .i64) 3 wc w.heap.size (fun k_ => ((P0_1_ k_ ∨ P1_1_ k_) ∨ w.heap.size ≤ k_) ∧ k_ ≠ gb425 ∧ k_ ≠ gb426) (.slice A1_1 l1_1.length c1_1) l1_1) ∧ Aside0 (wc.heap[gb425]? = some (.cells #[.int .i64 a0_0, (.slice A0_1 l0_1.length c0_1)] 24 (0, 0))) ∧ Aside0 (wc.heap[gb426]? = some (.cells #[.string a1_0, (.slice A1_1 l1_1.length c1_1), .bool a1_2] 48 (0, 0))) ∧ Aside0 (Below w.heap.size w wc))
 case first =>
  have H := HC3.out
  clear HC3
  obtain ⟨y427, hy427⟩ : ∃ y_ : List (S24), y_ = (([(⟨a0_0, l0_1⟩ : S24)] : List (S24))) := ⟨_, rfl⟩
  replace H : ((paraphrastlaw01_Few.f k y427).bind fun t430 => (if t430 = true then (if (a1_0.size : Int) > 1000 then (paraphrastlaw01_ShapePuts.j0 k a1_0 l1_1 a1_2 true a0_0 l0_1) else (paraphrastlaw01_ShapePuts.j0 k a1_0 l1_1 a1_2 (decide ((l1_1.length : Int) > 1000)) a0_0 l0_1)) else (paraphrastlaw01_ShapePuts.j0 k a1_0 l1_1 a1_2 true a0_0 l0_1))) = some r := by first | (rw [hy427]; with_reducible exact H) | (have H2_ := (Option.bind_some _ _).symm.trans H; rw [hy427]; with_reducible exact H2_) | (have H2_ := (Option.bind_some _ _).symm.trans H; with_reducible exact H2_) | with_reducible exact H | (rw [hy427]; exact H) | exact H
  have Ny427 := Aside0.mk hy427
  clear hy427
  replace H := Option.bind_eq_some_iff.mp H
  obtain ⟨t430, A80, H⟩ := H
  replace H : (if t430 = true then (if (a1_0.size : Int) > 1000 then (paraphrastlaw01_ShapePuts.j0 k a1_0 l1_1 a1_2 true a0_0 l0_1) else (paraphrastlaw01_ShapePuts.j0 k a1_0 l1_1 a1_2 (decide ((l1_1.length : Int) > 1000)) a0_0 l0_1)) else (paraphrastlaw01_ShapePuts.j0 k a1_0 l1_1 a1_2 true a0_0 l0_1)) = some r := H
  have A8 := Aside0.mk A80
  clear A80
  by_cases c9 : t430 = true
  ·subst c9
   have H1 : (if (a1_0.size : Int) > 1000 then (paraphrastlaw01_ShapePuts.j0 k a1_0 l1_1 a1_2 true a0_0 l0_1) else (paraphrastlaw01_ShapePuts.j0 k a1_0 l1_1 a1_2 (decide ((l1_1.length : Int) > 1000)) a0_0 l0_1)) = some r := by rw [if_pos rfl] at H; exact H
   clear H
   have H := H1
   clear H1
   by_cases c10 : (a1_0.size : Int) > 1000
   ·rw [if_pos c10] at H
    have c10b0 : decide (1000 < (a1_0.size : Int)) = true := decide_eq_true c10
    have c10b1 : decide (1000 < a1_0.size) = true := decide_eq_true (by omega)
    clear c10
    (first | rw [c10b0] | (simp only [i64_w, i32_w]; rw [c10b0]) | skip)
    have H' := Aside0.mk H
    clear H
    have hnb11 := NB425_426.out
    have hnc11 := NB426_425.out
    obtain ⟨hcz12_0, hcz12_1, hfz12_0, hfz12_1⟩ := bq2 BK425
    go_wp2_with (first | ((with_reducible refine gate_dst (N := 22) rfl ?_); (try (refine gate_guard (by rfl) ?_; dsimp only)); refine Kd.N_lit k24 _ 24 ?hg (N' := 22) ?hd (xs := ([(⟨a0_0, l0_1⟩ : S24)] : List (S24))) (inner := [.int .i64 a0_0, .slice A0_1 l0_1.length c0_1]) (ok := (fun k_ => ((P0_1_ k_ ∨ P1_1_ k_) ∨ w.heap.size ≤ k_) ∧ k_ ≠ gb425 ∧ k_ ≠ gb426)) (okp := (fun k_ => ((P0_1_ k_ ∨ P1_1_ k_) ∨ w.heap.size ≤ k_) ∧ k_ ≠ gb425 ∧ k_ ≠ gb426)) ?hr ?hp (fun _ hk => hk) ((show ∀ k_, w5.heap.size ≤ k_ → (fun k_ => ((P0_1_ k_ ∨ P1_1_ k_) ∨ w.heap.size ≤ k_) ∧ k_ ≠ gb425 ∧ k_ ≠ gb426) k_ from fun k_ hk => ⟨(.inr (Nat.le_trans (below_size bel) hk)), Kd.freshB (g := gb425) (o := .cells #[.int .i64 a0_0, .slice A0_1 l0_1.length c0_1] 24 (0, 0)) (bk BK425) k_ hk, Kd.freshB (g := gb426) (o := .cells #[.string a1_0, .slice A1_1 l1_1.length c1_1, .bool a1_2] 48 (0, 0)) (bk BK426) k_ hk⟩) _ (Nat.le_refl _)) (Below.refl _ _) (Nat.le_refl _) (by simp) ?_; (case hd => rfl); (case hg => rfl); (case hr => first | (go_simp; done) | (go_simp; rfl)); (case hp => exact (Reps.c2 (show Kd.FK k24 _ _ (⟨a0_0, l0_1⟩ : S24) [.int .i64 a0_0, .slice A0_1 l0_1.length c0_1] from (k24_mkF _ _ (⟨a0_0, l0_1⟩ : S24) (Kd.V_reads' (Kd.V_mono (ok' := (fun k_ => ((P0_1_ k_ ∨ P1_1_ k_) ∨ w.heap.size ≤ k_) ∧ k_ ≠ gb425 ∧ k_ ≠ gb426)) (HO0_1.out) (fun k_ hk => ⟨hk.1.1, ⟨hk.1.2, hk.2⟩⟩))).2.1 (Kd.V_F (Kd.V_mono (ok' := (fun k_ => ((P0_1_ k_ ∨ P1_1_ k_) ∨ w.heap.size ≤ k_) ∧ k_ ≠ gb425 ∧ k_ ≠ gb426)) (Kd.V_drewN HO0_1.out _) (fun k_ hk => ⟨hk.1.1, ⟨hk.1.2, hk.2⟩⟩))))) (Reps.none _ _))); intro v428 w13 ho14 hb hg_ hnew_; clear hg_ hnew_; (first | rw [← Ny427.out] at ho14 | (simp only [Int.reduceToNat] at ho14; rw [← Ny427.out] at ho14)); have HO429 := Aside0.mk (Kd.N_lower ho14 (below_size bel)); replace HO0_1 := Aside0.mk (Kd.V_elder' (tw HO0_1.out) (Kd.N_base ho14) hb); replace HO1_1 := Aside0.mk (Kd.V_elder' (tw HO1_1.out) (Kd.N_base ho14) hb); replace BK425 := blB BK425 hb; replace BK426 := blB BK426 hb; replace HB := Aside0.mk (below_step bel hb); clear hb ho14; obtain ⟨Ao15, co15, eo15⟩ := Kd.N_slice HO429.out; subst eo15) | (go_at_call 9; (with_reducible refine (paraphrastlaw01_Few.calls k _ _ y427 true _ ?side1 ?side2 A8.out).mono ?_); (case side1 => exact cS (Kd.N_reads' HO429.out).2.2); (case side2 => exact (Kd.N_reads' HO429.out).2.1); rintro e w' ⟨rfl, ⟨nd, rfl⟩⟩; (try first | exact ⟨rfl, _, World.drewN_drewN _ _ _⟩ | exact ⟨rfl, _, Eq.trans (World.drewN_drewN _ _ _) (congrArg (World.drewN _) (Nat.add_assoc _ _ _))⟩)))
    go_meet
    case rel => exact ⟨_, (true), eS, H', ⟨kle⟩, ⟨by (with_reducible repeat (first | apply Kd.V_alloc | apply Kd.V_drewN | apply Kd.V_drew)); exact Kd.V_mono HO1_1.out (fun _ hk => ⟨hk.1.1.1, ⟨hk.1.1.2, hk.1.2⟩⟩)⟩, ⟨by (with_reducible repeat (first | apply Kd.V_alloc | apply Kd.V_drewN | apply Kd.V_drew)); exact Kd.V_mono HO0_1.out (fun _ hk => ⟨hk.1.1.1, ⟨hk.1.1.2, hk.1.2⟩⟩)⟩, ⟨by (with_reducible repeat (first | apply Kd.V_alloc | apply Kd.V_drewN | apply Kd.V_drew)); exact Kd.V_mono HO1_1.out (fun _ hk => ⟨hk.1.1.1, ⟨hk.1.1.2, hk.1.2⟩⟩)⟩, ⟨bk BK425⟩, ⟨bk BK426⟩, ⟨bel⟩⟩
   ·rw [if_neg c10] at H
    have c10b0 : decide (1000 < (a1_0.size : Int)) = false := decide_eq_false c10
    have c10b1 : decide (1000 < a1_0.size) = false := decide_eq_false (by omega)
    clear c10
    (first | rw [c10b0] | (simp only [i64_w, i32_w]; rw [c10b0]) | skip)
    have H' := Aside0.mk H
    clear H
    have hnb16 := NB425_426.out
    have hnc16 := NB426_425.out
    obtain ⟨hcz17_0, hcz17_1, hfz17_0, hfz17_1⟩ := bq2 BK425
    go_wp2_with (first | ((with_reducible refine gate_dst (N := 22) rfl ?_); (try (refine gate_guard (by rfl) ?_; dsimp only)); refine Kd.N_lit k24 _ 24 ?hg (N' := 22) ?hd (xs := ([(⟨a0_0, l0_1⟩ : S24)] : List (S24))) (inner := [.int .i64 a0_0, .slice A0_1 l0_1.length c0_1]) (ok := (fun k_ => ((P0_1_ k_ ∨ P1_1_ k_) ∨ w.heap.size ≤ k_) ∧ k_ ≠ gb425 ∧ k_ ≠ gb426)) (okp := (fun k_ => ((P0_1_ k_ ∨ P1_1_ k_) ∨ w.heap.size ≤ k_) ∧ k_ ≠ gb425 ∧ k_ ≠ gb426)) ?hr ?hp (fun _ hk => hk) ((show ∀ k_, w5.heap.size ≤ k_ → (fun k_ => ((P0_1_ k_ ∨ P1_1_ k_) ∨ w.heap.size ≤ k_) ∧ k_ ≠ gb425 ∧ k_ ≠ gb426) k_ from fun k_ hk => ⟨(.inr (Nat.le_trans (below_size bel) hk)), Kd.freshB (g := gb425) (o := .cells #[.int .i64 a0_0, .slice A0_1 l0_1.length c0_1] 24 (0, 0)) (bk BK425) k_ hk, Kd.freshB (g := gb426) (o := .cells #[.string a1_0, .slice A1_1 l1_1.length c1_1, .bool a1_2] 48 (0, 0)) (bk BK426) k_ hk⟩) _ (Nat.le_refl _)) (Below.refl _ _) (Nat.le_refl _) (by simp) ?_; (case hd => rfl); (case hg => rfl); (case hr => first | (go_simp; done) | (go_simp; rfl)); (case hp => exact (Reps.c2 (show Kd.FK k24 _ _ (⟨a0_0, l0_1⟩ : S24) [.int .i64 a0_0, .slice A0_1 l0_1.length c0_1] from (k24_mkF _ _ (⟨a0_0, l0_1⟩ : S24) (Kd.V_reads' (Kd.V_mono (ok' := (fun k_ => ((P0_1_ k_ ∨ P1_1_ k_) ∨ w.heap.size ≤ k_) ∧ k_ ≠ gb425 ∧ k_ ≠ gb426)) (HO0_1.out) (fun k_ hk => ⟨hk.1.1, ⟨hk.1.2, hk.2⟩⟩))).2.1 (Kd.V_F (Kd.V_mono (ok' := (fun k_ => ((P0_1_ k_ ∨ P1_1_ k_) ∨ w.heap.size ≤ k_) ∧ k_ ≠ gb425 ∧ k_ ≠ gb426)) (Kd.V_drewN HO0_1.out _) (fun k_ hk => ⟨hk.1.1, ⟨hk.1.2, hk.2⟩⟩))))) (Reps.none _ _))); intro v428 w18 ho19 hb hg_ hnew_; clear hg_ hnew_; (first | rw [← Ny427.out] at ho19 | (simp only [Int.reduceToNat] at ho19; rw [← Ny427.out] at ho19)); have HO429 := Aside0.mk (Kd.N_lower ho19 (below_size bel)); replace HO0_1 := Aside0.mk (Kd.V_elder' (tw HO0_1.out) (Kd.N_base ho19) hb); replace HO1_1 := Aside0.mk (Kd.V_elder' (tw HO1_1.out) (Kd.N_base ho19) hb); replace BK425 := blB BK425 hb; replace BK426 := blB BK426 hb; replace HB := Aside0.mk (below_step bel hb); clear hb ho19; obtain ⟨Ao20, co20, eo20⟩ := Kd.N_slice HO429.out; subst eo20) | (go_at_call 9; (with_reducible refine (paraphrastlaw01_Few.calls k _ _ y427 true _ ?side1 ?side2 A8.out).mono ?_); (case side1 => exact cS (Kd.N_reads' HO429.out).2.2); (case side2 => exact (Kd.N_reads' HO429.out).2.1); rintro e w' ⟨rfl, ⟨nd, rfl⟩⟩; (try first | exact ⟨rfl, _, World.drewN_drewN _ _ _⟩ | exact ⟨rfl, _, Eq.trans (World.drewN_drewN _ _ _) (congrArg (World.drewN _) (Nat.add_assoc _ _ _))⟩)))
    go_meet
    case rel => exact ⟨_, (decide ((l1_1.length : Int) > 1000)), eS, H', ⟨kle⟩, ⟨by (with_reducible repeat (first | apply Kd.V_alloc | apply Kd.V_drewN | apply Kd.V_drew)); exact Kd.V_mono HO1_1.out (fun _ hk => ⟨hk.1.1.1, ⟨hk.1.1.2, hk.1.2⟩⟩)⟩, ⟨by (with_reducible repeat (first | apply Kd.V_alloc | apply Kd.V_drewN | apply Kd.V_drew)); exact Kd.V_mono HO0_1.out (fun _ hk => ⟨hk.1.1.1, ⟨hk.1.1.2, hk.1.2⟩⟩)⟩, ⟨by (with_reducible repeat (first | apply Kd.V_alloc | apply Kd.V_drewN | apply Kd.V_drew)); exact Kd.V_mono HO1_1.out (fun _ hk => ⟨hk.1.1.1, ⟨hk.1.1.2, hk.1.2⟩⟩)⟩, ⟨bk BK425⟩, ⟨bk BK426⟩, ⟨bel⟩⟩
  ·replace c9 := Bool.eq_false_iff.mpr c9
   subst c9
   have H1 : (paraphrastlaw01_ShapePuts.j0 k a1_0 l1_1 a1_2 true a0_0 l0_1) = some r := by rw [if_neg (show ¬ (false = true) by decide)] at H; exact H
   clear H
   have H := H1
   clear H1
   have H' := Aside0.mk H
   clear H
   have hnb21 := NB425_426.out
   have hnc21 := NB426_425.out
   obtain ⟨hcz22_0, hcz22_1, hfz22_0, hfz22_1⟩ := bq2 BK425
   go_wp2_with (first | ((with_reducible refine gate_dst (N := 22) rfl ?_); (try (refine gate_guard (by rfl) ?_; dsimp only)); refine Kd.N_lit k24 _ 24 ?hg (N' := 22) ?hd (xs := ([(⟨a0_0, l0_1⟩ : S24)] : List (S24))) (inner := [.int .i64 a0_0, .slice A0_1 l0_1.length c0_1]) (ok := (fun k_ => ((P0_1_ k_ ∨ P1_1_ k_) ∨ w.heap.size ≤ k_) ∧ k_ ≠ gb425 ∧ k_ ≠ gb426)) (okp := (fun k_ => ((P0_1_ k_ ∨ P1_1_ k_) ∨ w.heap.size ≤ k_) ∧ k_ ≠ gb425 ∧ k_ ≠ gb426)) ?hr ?hp (fun _ hk => hk) ((show ∀ k_, w5.heap.size ≤ k_ → (fun k_ => ((P0_1_ k_ ∨ P1_1_ k_) ∨ w.heap.size ≤ k_) ∧ k_ ≠ gb425 ∧ k_ ≠ gb426) k_ from fun k_ hk => ⟨(.inr (Nat.le_trans (below_size bel) hk)), Kd.freshB (g := gb425) (o := .cells #[.int .i64 a0_0, .slice A0_1 l0_1.length c0_1] 24 (0, 0)) (bk BK425) k_ hk, Kd.freshB (g := gb426) (o := .cells #[.string a1_0, .slice A1_1 l1_1.length c1_1, .bool a1_2] 48 (0, 0)) (bk BK426) k_ hk⟩) _ (Nat.le_refl _)) (Below.refl _ _) (Nat.le_refl _) (by simp) ?_; (case hd => rfl); (case hg => rfl); (case hr => first | (go_simp; done) | (go_simp; rfl)); (case hp => exact (Reps.c2 (show Kd.FK k24 _ _ (⟨a0_0, l0_1⟩ : S24) [.int .i64 a0_0, .slice A0_1 l0_1.length c0_1] from (k24_mkF _ _ (⟨a0_0, l0_1⟩ : S24) (Kd.V_reads' (Kd.V_mono (ok' := (fun k_ => ((P0_1_ k_ ∨ P1_1_ k_) ∨ w.heap.size ≤ k_) ∧ k_ ≠ gb425 ∧ k_ ≠ gb426)) (HO0_1.out) (fun k_ hk => ⟨hk.1.1, ⟨hk.1.2, hk.2⟩⟩))).2.1 (Kd.V_F (Kd.V_mono (ok' := (fun k_ => ((P0_1_ k_ ∨ P1_1_ k_) ∨ w.heap.size ≤ k_) ∧ k_ ≠ gb425 ∧ k_ ≠ gb426)) (Kd.V_drewN HO0_1.out _) (fun k_ hk => ⟨hk.1.1, ⟨hk.1.2, hk.2⟩⟩))))) (Reps.none _ _))); intro v428 w23 ho24 hb hg_ hnew_; clear hg_ hnew_; (first | rw [← Ny427.out] at ho24 | (simp only [Int.reduceToNat] at ho24; rw [← Ny427.out] at ho24)); have HO429 := Aside0.mk (Kd.N_lower ho24 (below_size bel)); replace HO0_1 := Aside0.mk (Kd.V_elder' (tw HO0_1.out) (Kd.N_base ho24) hb); replace HO1_1 := Aside0.mk (Kd.V_elder' (tw HO1_1.out) (Kd.N_base ho24) hb); replace BK425 := blB BK425 hb; replace BK426 := blB BK426 hb; replace HB := Aside0.mk (below_step bel hb); clear hb ho24; obtain ⟨Ao25, co25, eo25⟩ := Kd.N_slice HO429.out; subst eo25) | (go_at_call 9; (with_reducible refine (paraphrastlaw01_Few.calls k _ _ y427 false _ ?side1 ?side2 A8.out).mono ?_); (case side1 => exact cS (Kd.N_reads' HO429.out).2.2); (case side2 => exact (Kd.N_reads' HO429.out).2.1); rintro e w' ⟨rfl, ⟨nd, rfl⟩⟩; (try first | exact ⟨rfl, _, World.drewN_drewN _ _ _⟩ | exact ⟨rfl, _, Eq.trans (World.drewN_drewN _ _ _) (congrArg (World.drewN _) (Nat.add_assoc _ _ _))⟩)))
   go_meet
   case rel => exact ⟨_, (true), eS, H', ⟨kle⟩, ⟨by (with_reducible repeat (first | apply Kd.V_alloc | apply Kd.V_drewN | apply Kd.V_drew)); exact Kd.V_mono HO1_1.out (fun _ hk => ⟨hk.1.1.1, ⟨hk.1.1.2, hk.1.2⟩⟩)⟩, ⟨by (with_reducible repeat (first | apply Kd.V_alloc | apply Kd.V_drewN | apply Kd.V_drew)); exact Kd.V_mono HO0_1.out (fun _ hk => ⟨hk.1.1.1, ⟨hk.1.1.2, hk.1.2⟩⟩)⟩, ⟨by (with_reducible repeat (first | apply Kd.V_alloc | apply Kd.V_drewN | apply Kd.V_drew)); exact Kd.V_mono HO1_1.out (fun _ hk => ⟨hk.1.1.1, ⟨hk.1.1.2, hk.1.2⟩⟩)⟩, ⟨bk BK425⟩, ⟨bk BK426⟩, ⟨bel⟩⟩
 case rest =>
  clear HC3
  (try clear hcz7_0); (try clear hcz7_1); (try clear hcz7_2); (try clear hfz7_0); (try clear hfz7_1); (try clear hfz7_2)
  obtain ⟨kq, x34_2, rfl, HA, HJ2, HO_6, HO_426001, HO_427001, BK425, BK426, HB⟩ := hcut
  cases kq with
  | zero => exact absurd HA.out (by simp [paraphrastlaw01_ShapePuts.j0])
  | succ kj2 =>
   have H := HA.out
   clear HA
   simp only [paraphrastlaw01_ShapePuts.j0] at H
   by_cases c26 : x34_2 = true
   ·subst c26
    have H1 : ((paraphrastlaw01_alive.f kj2).bind fun t431 => (some t431)) = some r := by rw [if_pos rfl] at H; exact H
    clear H
    have H := H1
    clear H1
    replace H := Option.bind_eq_some_iff.mp H
    obtain ⟨t431, A270, H⟩ := H
    replace H : (some t431) = some r := H
    have A27 := Aside0.mk A270
    clear A270
    obtain rfl := Option.some.inj H
    go_wp2_with (first | (go_at_call 10; (with_reducible refine (paraphrastlaw01_alive.calls kj2  t431 _ ?side1 A27.out).mono ?_); (case side1 => first | exact HG.out | exact Glob.below HG.out bel); rintro e w28 ⟨rfl, hb⟩; replace HO_6 := vD HO_6 hb; replace HO_426001 := vD HO_426001 hb; replace HO_427001 := vD HO_427001 hb; replace BK425 := blB BK425 hb; replace BK426 := blB BK426 hb; replace HB := Aside0.mk (below_step bel hb); (try clear hb); (try clear hb2); (try clear hk); (try clear hi)))
    go_ret
    exact ⟨eN, bel⟩
   ·replace c26 := Bool.eq_false_iff.mpr c26
    subst c26
    have H1 : ((paraphrastref01_Find.f kj2 a0_0 l0_1 a1_0).bind fun t432 => ((paraphrastref01_Valid.f kj2 a0_0 l0_1).bind fun t433 => (if t433 = true then (if t432 < 0 then (paraphrastlaw01_ShapePuts.j1 kj2 a1_0 l1_1 a1_2 4 t432 a0_0 l0_1) else (if 0 ≤ t432 then (if t432 < (l0_1.length : Int) then (if ((rd_T52 l0_1 t432).f1) = (l1_1.length : Int) then (paraphrastlaw01_ShapePuts.j1 kj2 a1_0 l1_1 a1_2 0 t432 a0_0 l0_1) else (paraphrastlaw01_ShapePuts.j1 kj2 a1_0 l1_1 a1_2 4 t432 a0_0 l0_1)) else (none)) else (none))) else (paraphrastlaw01_ShapePuts.j1 kj2 a1_0 l1_1 a1_2 1 t432 a0_0 l0_1)))) = some r := by rw [if_neg (show ¬ (false = true) by decide)] at H; exact H
    clear H
    have H := H1
    clear H1
    replace H := Option.bind_eq_some_iff.mp H
    obtain ⟨t432, A290, H⟩ := H
    replace H : ((paraphrastref01_Valid.f kj2 a0_0 l0_1).bind fun t433 => (if t433 = true then (if t432 < 0 then (paraphrastlaw01_ShapePuts.j1 kj2 a1_0 l1_1 a1_2 4 t432 a0_0 l0_1) else (if 0 ≤ t432 then (if t432 < (l0_1.length : Int) then (if ((rd_T52 l0_1 t432).f1) = (l1_1.length : Int) then (paraphrastlaw01_ShapePuts.j1 kj2 a1_0 l1_1 a1_2 0 t432 a0_0 l0_1) else (paraphrastlaw01_ShapePuts.j1 kj2 a1_0 l1_1 a1_2 4 t432 a0_0 l0_1)) else (none)) else (none))) else (paraphrastlaw01_ShapePuts.j1 kj2 a1_0 l1_1 a1_2 1 t432 a0_0 l0_1))) = some r := H
    have A29 := Aside0.mk A290
    clear A290
    have HC30 := Aside0.mk H
    clear H
    have hnb31 := NB425_426.out
    have hnc31 := NB426_425.out
    obtain ⟨hcz32_0, hcz32_1, hfz32_0, hfz32_1⟩ := bq2 BK425
    go_upto_block 0 with (first | (go_at_call 24; (with_reducible refine (paraphrastref01_Find.calls kj2 a0_0 _ _ l0_1 a1_0 t432 _ ?side1 ?side2 A29.out).mono ?_); (case side1 => exact cS (Kd.V_reads' HO_426001.out).2.2); (case side2 => exact (Kd.V_reads' HO_426001.out).2.1); rintro e w33 ⟨rfl, hb⟩; replace HO_6 := vD HO_6 hb; replace HO_426001 := vD HO_426001 hb; replace HO_427001 := vD HO_427001 hb; replace BK425 := blB BK425 hb; replace BK426 := blB BK426 hb; replace HB := Aside0.mk (below_step bel hb); (try clear hb); (try clear hb2); (try clear hk); (try clear hi)))
    (try simp only [Act.put, List.setIfInBounds_toArray, List.set_cons_zero, List.set_cons_succ])
    go_cut [8] (fun v8 wc => ∃ (kq : Nat) (x8_29 : Int), v8 = .int .i64 x8_29 ∧ Aside0 (paraphrastlaw01_ShapePuts.j1 kq a1_0 l1_1 a1_2 x8_29 t432 a0_0 l0_1 = some r) ∧ Aside0 (kq ≤ kj2) ∧ Aside0 (Kd.V (Kd.int .i64) 3 wc w.heap.size (fun k_ => ((P0_1_ k_ ∨ P1_1_ k_) ∨ w.heap.size ≤ k_) ∧ k_ ≠ gb425 ∧ k_ ≠ gb426) (.slice A1_1 l1_1.length c1_1) l1_1) ∧ Aside0 (Kd.V k52 52 wc w.heap.size (fun k_ => ((P0_1_ k_ ∨ P1_1_ k_) ∨ w.heap.size ≤ k_) ∧ k_ ≠ gb425 ∧ k_ ≠ gb426) (.slice A0_1 l0_1.length c0_1) l0_1) ∧ Aside0 (Kd.V (Kd.int .i64) 3 wc w.heap.size (fun k_ => ((P0_1_ k_ ∨ P1_1_ k_) ∨ w.heap.size ≤ k_) ∧ k_ ≠ gb425 ∧ k_ ≠ gb426) (.slice A1_1 l1_1.length c1_1) l1_1) ∧ Aside0 (wc.heap[gb425]? = some (.cells #[.int .i64 a0_0, (.slice A0_1 l0_1.length c0_1)] 24 (0, 0))) ∧ Aside0 (wc.heap[gb426]? = some (.cells #[.string a1_0, (.slice A1_1 l1_1.length c1_1), .bool a1_2] 48 (0, 0))) ∧ Aside0 (Below w.heap.size w wc))
    case first =>
     have H := HC30.out
     clear HC30
     replace H := Option.bind_eq_some_iff.mp H
     obtain ⟨t433, A340, H⟩ := H
     replace H : (if t433 = true then (if t432 < 0 then (paraphrastlaw01_ShapePuts.j1 kj2 a1_0 l1_1 a1_2 4 t432 a0_0 l0_1) else (if 0 ≤ t432 then (if t432 < (l0_1.length : Int) then (if ((rd_T52 l0_1 t432).f1) = (l1_1.length : Int) then (paraphrastlaw01_ShapePuts.j1 kj2 a1_0 l1_1 a1_2 0 t432 a0_0 l0_1) else (paraphrastlaw01_ShapePuts.j1 kj2 a1_0 l1_1 a1_2 4 t432 a0_0 l0_1)) else (none)) else (none))) else (paraphrastlaw01_ShapePuts.j1 kj2 a1_0 l1_1 a1_2 1 t432 a0_0 l0_1)) = some r := H
     have A34 := Aside0.mk A340
     clear A340
     by_cases c35 : t433 = true
     ·subst c35
      have H1 : (if t432 < 0 then (paraphrastlaw01_ShapePuts.j1 kj2 a1_0 l1_1 a1_2 4 t432 a0_0 l0_1) else (if 0 ≤ t432 then (if t432 < (l0_1.length : Int) then (if ((rd_T52 l0_1 t432).f1) = (l1_1.length : Int) then (paraphrastlaw01_ShapePuts.j1 kj2 a1_0 l1_1 a1_2 0 t432 a0_0 l0_1) else (paraphrastlaw01_ShapePuts.j1 kj2 a1_0 l1_1 a1_2 4 t432 a0_0 l0_1)) else (none)) else (none))) = some r := by rw [if_pos rfl] at H; exact H
      clear H
      have H := H1
      clear H1
      by_cases c36 : t432 < 0
      ·rw [if_pos c36] at H
       have c36b0 : decide (t432 < 0) = true := decide_eq_true c36
       clear c36
       (first | rw [c36b0] | (simp only [i64_w, i32_w]; rw [c36b0]) | skip)
       have H' := Aside0.mk H
       clear H
       have hnb37 := NB425_426.out
       have hnc37 := NB426_425.out
       obtain ⟨hcz38_0, hcz38_1, hfz38_0, hfz38_1⟩ := bq2 BK425
       go_wp2_with (first | (go_at_call 12; (with_reducible refine (paraphrastref01_Valid.calls kj2 a0_0 _ _ l0_1 true _ ?side1 ?side2 A34.out).mono ?_); (case side1 => exact cS (Kd.V_reads' HO_426001.out).2.2); (case side2 => exact (Kd.V_reads' HO_426001.out).2.1); rintro e w39 ⟨rfl, hb⟩; replace HO_6 := vD HO_6 hb; replace HO_426001 := vD HO_426001 hb; replace HO_427001 := vD HO_427001 hb; replace BK425 := blB BK425 hb; replace BK426 := blB BK426 hb; replace HB := Aside0.mk (below_step bel hb); (try clear hb); (try clear hb2); (try clear hk); (try clear hi)))
       go_meet
       case rel => exact ⟨_, (4), eS, H', ⟨by have := HJ2.out; first | omega | exact Nat.le_refl _⟩, ⟨by (with_reducible repeat (first | apply Kd.V_alloc | apply Kd.V_drewN | apply Kd.V_drew)); exact HO_6.out⟩, ⟨by (with_reducible repeat (first | apply Kd.V_alloc | apply Kd.V_drewN | apply Kd.V_drew)); exact HO_426001.out⟩, ⟨by (with_reducible repeat (first | apply Kd.V_alloc | apply Kd.V_drewN | apply Kd.V_drew)); exact HO_427001.out⟩, ⟨bk BK425⟩, ⟨bk BK426⟩, ⟨bel⟩⟩
      ·rw [if_neg c36] at H
       have c36b0 : decide (t432 < 0) = false := decide_eq_false c36
       clear c36
       (first | rw [c36b0] | (simp only [i64_w, i32_w]; rw [c36b0]) | skip)
       by_cases c40 : 0 ≤ t432
       ·rw [if_pos c40] at H
        have c40b0 : decide (0 ≤ t432) = true := decide_eq_true c40
        clear c40
        by_cases c41 : t432 < (l0_1.length : Int)
        ·rw [if_pos c41] at H
         have c41b0 : decide (t432 < (l0_1.length : Int)) = true := decide_eq_true c41
         clear c41
         by_cases c42 : ((rd_T52 l0_1 t432).f1) = (l1_1.length : Int)
         ·rw [if_pos c42] at H
          have c42b0 : (((rd_T52 l0_1 t432).f1) == (l1_1.length : Int)) = true := beq_iff_eq.mpr c42
          have c42b1 : (((rd_T52 l0_1 t432).f1) != (l1_1.length : Int)) = false := bne_eq_false_iff_eq.mpr c42
          clear c42
          have H' := Aside0.mk H
          clear H
          have hnb43 := NB425_426.out
          have hnc43 := NB426_425.out
          obtain ⟨hcz44_0, hcz44_1, hfz44_0, hfz44_1⟩ := bq2 BK425
          go_wp2_with (first | (go_at_call 12; (with_reducible refine (paraphrastref01_Valid.calls kj2 a0_0 _ _ l0_1 true _ ?side1 ?side2 A34.out).mono ?_); (case side1 => exact cS (Kd.V_reads' HO_426001.out).2.2); (case side2 => exact (Kd.V_reads' HO_426001.out).2.1); rintro e w45 ⟨rfl, hb⟩; replace HO_6 := vD HO_6 hb; replace HO_426001 := vD HO_426001 hb; replace HO_427001 := vD HO_427001 hb; replace BK425 := blB BK425 hb; replace BK426 := blB BK426 hb; replace HB := Aside0.mk (below_step bel hb); (try clear hb); (try clear hb2); (try clear hk); (try clear hi); obtain ⟨hcz46_0, hcz46_1, hfz46_0, hfz46_1⟩ := bq2 BK425; have p434 : 0 ≤ (t432 : Int) := dtr; have q434 : t432 < (l0_1.length : Int) := dtr; obtain ⟨ad434, A434_2, c434_2, e434, hx434_0, hx434_1, hx434_2, hl434_2, hi434_2⟩ := at_T52 (Kd.V_reads' HO_426001.out).2.2 t432 p434 q434; cases e434; obtain ⟨ce434, hce434, hMe434, hcc434⟩ := Kd.V_get HO_426001.out z52 t432 p434 (by first | exact q434 | exact dtr | (have e_ := (Kd.V_reads' HO_426001.out).1; omega)); obtain ⟨ua434_2, uc434_2, rfl, ul434_2, ge434_2⟩ := k52_openF hMe434; have hv434_2 := hcc434 2 _ rfl; rw [add_field _ _ 2 (by omega)] at hv434_2; replace hv434_2 := Option.some.inj (hv434_2.symm.trans hx434_2); injection hv434_2 with hva_ hvn_ hvc_; rw [hva_] at ge434_2; rw [hvc_] at ul434_2; have HL434_2 := Aside0.mk (show Kd.V (Kd.slice 3 (Kd.int .i64)) 46 _ w.heap.size _ _ ((rd_T52 l0_1 t432).f2) from Kd.V_mk ul434_2 ge434_2); clear hva_ hvn_ hvc_ ge434_2 ul434_2; clear hcc434 hce434; have HR434_2 := Aside0.mk hi434_2; have HC434_2 := Aside0.mk hl434_2; clear hi434_2 hl434_2; replace p434 := eq_true p434; replace q434 := eq_true q434))
          go_meet
          case rel => exact ⟨_, (0), eS, H', ⟨by have := HJ2.out; first | omega | exact Nat.le_refl _⟩, ⟨by (with_reducible repeat (first | apply Kd.V_alloc | apply Kd.V_drewN | apply Kd.V_drew)); exact HO_6.out⟩, ⟨by (with_reducible repeat (first | apply Kd.V_alloc | apply Kd.V_drewN | apply Kd.V_drew)); exact HO_426001.out⟩, ⟨by (with_reducible repeat (first | apply Kd.V_alloc | apply Kd.V_drewN | apply Kd.V_drew)); exact HO_427001.out⟩, ⟨bk BK425⟩, ⟨bk BK426⟩, ⟨bel⟩⟩
         ·rw [if_neg c42] at H
          have c42b0 : (((rd_T52 l0_1 t432).f1) == (l1_1.length : Int)) = false := beq_eq_false_iff_ne.mpr c42
          have c42b1 : (((rd_T52 l0_1 t432).f1) != (l1_1.length : Int)) = true := bne_iff_ne.mpr c42
          have H' := Aside0.mk H
          clear H
          have hnb47 := NB425_426.out
          have hnc47 := NB426_425.out
          obtain ⟨hcz48_0, hcz48_1, hfz48_0, hfz48_1⟩ := bq2 BK425
          go_wp2_with (first | (go_at_call 12; (with_reducible refine (paraphrastref01_Valid.calls kj2 a0_0 _ _ l0_1 true _ ?side1 ?side2 A34.out).mono ?_); (case side1 => exact cS (Kd.V_reads' HO_426001.out).2.2); (case side2 => exact (Kd.V_reads' HO_426001.out).2.1); rintro e w49 ⟨rfl, hb⟩; replace HO_6 := vD HO_6 hb; replace HO_426001 := vD HO_426001 hb; replace HO_427001 := vD HO_427001 hb; replace BK425 := blB BK425 hb; replace BK426 := blB BK426 hb; replace HB := Aside0.mk (below_step bel hb); (try clear hb); (try clear hb2); (try clear hk); (try clear hi); obtain ⟨hcz50_0, hcz50_1, hfz50_0, hfz50_1⟩ := bq2 BK425; have p434 : 0 ≤ (t432 : Int) := dtr; have q434 : t432 < (l0_1.length : Int) := dtr; obtain ⟨ad434, A434_2, c434_2, e434, hx434_0, hx434_1, hx434_2, hl434_2, hi434_2⟩ := at_T52 (Kd.V_reads' HO_426001.out).2.2 t432 p434 q434; cases e434; obtain ⟨ce434, hce434, hMe434, hcc434⟩ := Kd.V_get HO_426001.out z52 t432 p434 (by first | exact q434 | exact dtr | (have e_ := (Kd.V_reads' HO_426001.out).1; omega)); obtain ⟨ua434_2, uc434_2, rfl, ul434_2, ge434_2⟩ := k52_openF hMe434; have hv434_2 := hcc434 2 _ rfl; rw [add_field _ _ 2 (by omega)] at hv434_2; replace hv434_2 := Option.some.inj (hv434_2.symm.trans hx434_2); injection hv434_2 with hva_ hvn_ hvc_; rw [hva_] at ge434_2; rw [hvc_] at ul434_2; have HL434_2 := Aside0.mk (show Kd.V (Kd.slice 3 (Kd.int .i64)) 46 _ w.heap.size _ _ ((rd_T52 l0_1 t432).f2) from Kd.V_mk ul434_2 ge434_2); clear hva_ hvn_ hvc_ ge434_2 ul434_2; clear hcc434 hce434; have HR434_2 := Aside0.mk hi434_2; have HC434_2 := Aside0.mk hl434_2; clear hi434_2 hl434_2; replace p434 := eq_true p434; replace q434 := eq_true q434))
          go_meet
          case rel => exact ⟨_, (4), eS, H', ⟨by have := HJ2.out; first | omega | exact Nat.le_refl _⟩, ⟨by (with_reducible repeat (first | apply Kd.V_alloc | apply Kd.V_drewN | apply Kd.V_drew)); exact HO_6.out⟩, ⟨by (with_reducible repeat (first | apply Kd.V_alloc | apply Kd.V_drewN | apply Kd.V_drew)); exact HO_426001.out⟩, ⟨by (with_reducible repeat (first | apply Kd.V_alloc | apply Kd.V_drewN | apply Kd.V_drew)); exact HO_427001.out⟩, ⟨bk BK425⟩, ⟨bk BK426⟩, ⟨bel⟩⟩
        ·rw [if_neg c41] at H
         exact absurd H (by simp)
       ·rw [if_neg c40] at H
        exact absurd H (by simp)
     ·replace c35 := Bool.eq_false_iff.mpr c35
      subst c35
      have H1 : (paraphrastlaw01_ShapePuts.j1 kj2 a1_0 l1_1 a1_2 1 t432 a0_0 l0_1) = some r := by rw [if_neg (show ¬ (false = true) by decide)] at H; exact H
      clear H
      have H := H1
      clear H1
      have H' := Aside0.mk H
      clear H
      have hnb51 := NB425_426.out
      have hnc51 := NB426_425.out
      obtain ⟨hcz52_0, hcz52_1, hfz52_0, hfz52_1⟩ := bq2 BK425
      go_wp2_with (first | (go_at_call 12; (with_reducible refine (paraphrastref01_Valid.calls kj2 a0_0 _ _ l0_1 false _ ?side1 ?side2 A34.out).mono ?_); (case side1 => exact cS (Kd.V_reads' HO_426001.out).2.2); (case side2 => exact (Kd.V_reads' HO_426001.out).2.1); rintro e w53 ⟨rfl, hb⟩; replace HO_6 := vD HO_6 hb; replace HO_426001 := vD HO_426001 hb; replace HO_427001 := vD HO_427001 hb; replace BK425 := blB BK425 hb; replace BK426 := blB BK426 hb; replace HB := Aside0.mk (below_step bel hb); (try clear hb); (try clear hb2); (try clear hk); (try clear hi)))
      go_meet
      case rel => exact ⟨_, (1), eS, H', ⟨by have := HJ2.out; first | omega | exact Nat.le_refl _⟩, ⟨by (with_reducible repeat (first | apply Kd.V_alloc | apply Kd.V_drewN | apply Kd.V_drew)); exact HO_6.out⟩, ⟨by (with_reducible repeat (first | apply Kd.V_alloc | apply Kd.V_drewN | apply Kd.V_drew)); exact HO_426001.out⟩, ⟨by (with_reducible repeat (first | apply Kd.V_alloc | apply Kd.V_drewN | apply Kd.V_drew)); exact HO_427001.out⟩, ⟨bk BK425⟩, ⟨bk BK426⟩, ⟨bel⟩⟩
    case rest =>
     clear HC30
     (try clear c26); (try clear hcz32_0); (try clear hcz32_1); (try clear hcz7_0); (try clear hcz7_1); (try clear hcz7_2); (try clear hfz32_0); (try clear hfz32_1); (try clear hfz7_0); (try clear hfz7_1); (try clear hfz7_2)
     obtain ⟨kq, x8_29, rfl, HA, HJ29, HO_6, HO_426001, HO_427001, BK425, BK426, HB⟩ := hcut
     cases kq with
     | zero => exact absurd HA.out (by simp [paraphrastlaw01_ShapePuts.j1])
     | succ kj29 =>
      have H := HA.out
      clear HA
      simp only [paraphrastlaw01_ShapePuts.j1] at H
      replace H := Option.bind_eq_some_iff.mp H
      obtain ⟨⟨t435, t436⟩, A540, H⟩ := H
      replace H : (if t436 = x8_29 then (if x8_29 = 0 then (if 0 ≤ t432 then (if t432 < (l0_1.length : Int) then ((paraphrastref01_Among.f kj29 ((rd_T52 l0_1 t432).f2) l1_1).bind fun t438 => (paraphrastlaw01_ShapePuts.j2 kj29 a1_0 l1_1 a1_2 x8_29 (t435 != t438) a0_0 l0_1)) else (none)) else (none)) else (paraphrastlaw01_ShapePuts.j2 kj29 a1_0 l1_1 a1_2 x8_29 (t435 != false) a0_0 l0_1)) else (paraphrastlaw01_ShapePuts.j2 kj29 a1_0 l1_1 a1_2 x8_29 true a0_0 l0_1)) = some r := H
      have A54 := Aside0.mk A540
      clear A540
      have HC55 := Aside0.mk H
      clear H
      have hnb56 := NB425_426.out
      have hnc56 := NB426_425.out
      obtain ⟨hcz57_0, hcz57_1, hfz57_0, hfz57_1⟩ := bq2 BK425
      go_upto_region 11 with (first | (go_at_call 25; (with_reducible refine (shape_Has.calls kj29 a0_0 _ _ l0_1 a1_0 _ _ l1_1 t435 t436 _ ?side1 ?side2 ?side3 ?side4 A54.out).mono ?_); (case side1 => exact cS (Kd.V_reads' HO_426001.out).2.2); (case side2 => exact (Kd.V_reads' HO_426001.out).2.1); (case side3 => exact cS (Kd.V_reads' HO_6.out).2.2); (case side4 => exact (Kd.V_reads' HO_6.out).2.1); rintro e w58 ⟨rfl, hb⟩; replace HO_6 := vD HO_6 hb; replace HO_426001 := vD HO_426001 hb; replace HO_427001 := vD HO_427001 hb; replace BK425 := blB BK425 hb; replace BK426 := blB BK426 hb; replace HB := Aside0.mk (below_step bel hb); (try clear hb); (try clear hb2); (try clear hk); (try clear hi)))
      (try simp only [Act.put, List.setIfInBounds_toArray, List.set_cons_zero, List.set_cons_succ])
      go_cut [82] (fun v82 wc => ∃ (kq : Nat) (x82_54 : Bool), v82 = .bool x82_54 ∧ Aside0 (paraphrastlaw01_ShapePuts.j2 kq a1_0 l1_1 a1_2 x8_29 x82_54 a0_0 l0_1 = some r) ∧ Aside0 (kq ≤ kj29) ∧ Aside0 (Kd.V (Kd.int .i64) 3 wc w.heap.size (fun k_ => ((P0_1_ k_ ∨ P1_1_ k_) ∨ w.heap.size ≤ k_) ∧ k_ ≠ gb425 ∧ k_ ≠ gb426) (.slice A1_1 l1_1.length c1_1) l1_1) ∧ Aside0 (Kd.V k52 52 wc w.heap.size (fun k_ => ((P0_1_ k_ ∨ P1_1_ k_) ∨ w.heap.size ≤ k_) ∧ k_ ≠ gb425 ∧ k_ ≠ gb426) (.slice A0_1 l0_1.length c0_1) l0_1) ∧ Aside0 (Kd.V (Kd.int .i64) 3 wc w.heap.size (fun k_ => ((P0_1_ k_ ∨ P1_1_ k_) ∨ w.heap.size ≤ k_) ∧ k_ ≠ gb425 ∧ k_ ≠ gb426) (.slice A1_1 l1_1.length c1_1) l1_1) ∧ Aside0 (wc.heap[gb425]? = some (.cells #[.int .i64 a0_0, (.slice A0_1 l0_1.length c0_1)] 24 (0, 0))) ∧ Aside0 (wc.heap[gb426]? = some (.cells #[.string a1_0, (.slice A1_1 l1_1.length c1_1), .bool a1_2] 48 (0, 0))) ∧ Aside0 (Below w.heap.size w wc))
      case first =>
       have H := HC55.out
       clear HC55
       by_cases c59 : t436 = x8_29
       ·rw [if_pos c59] at H
        have c59b0 : (t436 == x8_29) = true := beq_iff_eq.mpr c59
        have c59b1 : (t436 != x8_29) = false := bne_eq_false_iff_eq.mpr c59
        clear c59
        (first | rw [c59b0] | (simp only [i64_w, i32_w]; rw [c59b0]) | skip)
        by_cases c60 : x8_29 = 0
        ·rw [if_pos c60] at H
         have c60b0 : (x8_29 == 0) = true := beq_iff_eq.mpr c60
         have c60b1 : (x8_29 != 0) = false := bne_eq_false_iff_eq.mpr c60
         clear c60
         by_cases c61 : 0 ≤ t432
         ·rw [if_pos c61] at H
          have c61b0 : decide (0 ≤ t432) = true := decide_eq_true c61
          clear c61
          by_cases c62 : t432 < (l0_1.length : Int)
          ·rw [if_pos c62] at H
           have c62b0 : decide (t432 < (l0_1.length : Int)) = true := decide_eq_true c62
           clear c62
           replace H := Option.bind_eq_some_iff.mp H
           obtain ⟨t438, A630, H⟩ := H
           replace H : (paraphrastlaw01_ShapePuts.j2 kj29 a1_0 l1_1 a1_2 x8_29 (t435 != t438) a0_0 l0_1) = some r := H
           have A63 := Aside0.mk A630
           clear A630
           have H' := Aside0.mk H
           clear H
           have hnb64 := NB425_426.out
           have hnc64 := NB426_425.out
           obtain ⟨hcz65_0, hcz65_1, hfz65_0, hfz65_1⟩ := bq2 BK425
           have p437 : 0 ≤ (t432 : Int) := dtr
           have q437 : t432 < (l0_1.length : Int) := dtr
           obtain ⟨ad437, A437_2, c437_2, e437, hx437_0, hx437_1, hx437_2, hl437_2, hi437_2⟩ := at_T52 (Kd.V_reads' HO_426001.out).2.2 t432 p437 q437
           cases e437
           obtain ⟨ce437, hce437, hMe437, hcc437⟩ := Kd.V_get HO_426001.out z52 t432 p437 (by first | exact q437 | exact dtr | (have e_ := (Kd.V_reads' HO_426001.out).1; omega))
           obtain ⟨ua437_2, uc437_2, rfl, ul437_2, ge437_2⟩ := k52_openF hMe437
           have hv437_2 := hcc437 2 _ rfl
           rw [add_field _ _ 2 (by omega)] at hv437_2
           replace hv437_2 := Option.some.inj (hv437_2.symm.trans hx437_2)
           injection hv437_2 with hva_ hvn_ hvc_
           rw [hva_] at ge437_2
           rw [hvc_] at ul437_2
           have HL437_2 := Aside0.mk (show Kd.V (Kd.slice 3 (Kd.int .i64)) 46 _ w.heap.size _ _ ((rd_T52 l0_1 t432).f2) from Kd.V_mk ul437_2 ge437_2)
           clear hva_ hvn_ hvc_ ge437_2 ul437_2
           clear hcc437 hce437
           have HR437_2 := Aside0.mk hi437_2
           have HC437_2 := Aside0.mk hl437_2
           clear hi437_2 hl437_2
           replace p437 := eq_true p437
           replace q437 := eq_true q437
           go_wp2_with (first | (go_at_call 26; (with_reducible refine (paraphrastref01_Among.calls kj29 _ _ ((rd_T52 l0_1 t432).f2) _ _ l1_1 t438 _ ?side1 ?side2 ?side3 ?side4 A63.out).mono ?_); (case side1 => repeat (first | exact (by repeat (first | (with_reducible exact HR437_2.out) | (with_reducible refine Kd.C_alloc ?_ _) | (with_reducible refine Kd.C_drewN ?_ _) | (with_reducible refine Kd.C_drew ?_) | exact HR437_2.out)) | (with_reducible refine Kd.C_alloc ?_ _) | (with_reducible refine Kd.C_drewN ?_ _) | (with_reducible refine Kd.C_drew ?_))); (case side2 => exact HC437_2.out); (case side3 => exact cS (Kd.V_reads' HO_6.out).2.2); (case side4 => exact (Kd.V_reads' HO_6.out).2.1); rintro e w' ⟨rfl, ⟨nd, rfl⟩⟩; (try first | exact ⟨rfl, _, World.drewN_drewN _ _ _⟩ | exact ⟨rfl, _, Eq.trans (World.drewN_drewN _ _ _) (congrArg (World.drewN _) (Nat.add_assoc _ _ _))⟩)))
           go_meet
           case rel => exact ⟨_, ((t435 != t438)), eS, H', ⟨by have := HJ2.out; have := HJ29.out; first | omega | exact Nat.le_refl _⟩, ⟨by (with_reducible repeat (first | apply Kd.V_alloc | apply Kd.V_drewN | apply Kd.V_drew)); exact HO_6.out⟩, ⟨by (with_reducible repeat (first | apply Kd.V_alloc | apply Kd.V_drewN | apply Kd.V_drew)); exact HO_426001.out⟩, ⟨by (with_reducible repeat (first | apply Kd.V_alloc | apply Kd.V_drewN | apply Kd.V_drew)); exact HO_427001.out⟩, ⟨bk BK425⟩, ⟨bk BK426⟩, ⟨bel⟩⟩
          ·rw [if_neg c62] at H
           exact absurd H (by simp)
         ·rw [if_neg c61] at H
          exact absurd H (by simp)
        ·rw [if_neg c60] at H
         have c60b0 : (x8_29 == 0) = false := beq_eq_false_iff_ne.mpr c60
         have c60b1 : (x8_29 != 0) = true := bne_iff_ne.mpr c60
         have H' := Aside0.mk H
         clear H
         go_wp2
         go_meet
         case rel => exact ⟨_, ((t435 != false)), eS, H', ⟨by have := HJ2.out; have := HJ29.out; first | omega | exact Nat.le_refl _⟩, ⟨by (with_reducible repeat (first | apply Kd.V_alloc | apply Kd.V_drewN | apply Kd.V_drew)); exact HO_6.out⟩, ⟨by (with_reducible repeat (first | apply Kd.V_alloc | apply Kd.V_drewN | apply Kd.V_drew)); exact HO_426001.out⟩, ⟨by (with_reducible repeat (first | apply Kd.V_alloc | apply Kd.V_drewN | apply Kd.V_drew)); exact HO_427001.out⟩, ⟨bk BK425⟩, ⟨bk BK426⟩, ⟨bel⟩⟩
       ·rw [if_neg c59] at H
        have c59b0 : (t436 == x8_29) = false := beq_eq_false_iff_ne.mpr c59
        have c59b1 : (t436 != x8_29) = true := bne_iff_ne.mpr c59
        (first | rw [c59b0] | (simp only [i64_w, i32_w]; rw [c59b0]) | skip)
        have H' := Aside0.mk H
        clear H
        go_wp2
        go_meet
        case rel => exact ⟨_, (true), eS, H', ⟨by have := HJ2.out; have := HJ29.out; first | omega | exact Nat.le_refl _⟩, ⟨by (with_reducible repeat (first | apply Kd.V_alloc | apply Kd.V_drewN | apply Kd.V_drew)); exact HO_6.out⟩, ⟨by (with_reducible repeat (first | apply Kd.V_alloc | apply Kd.V_drewN | apply Kd.V_drew)); exact HO_426001.out⟩, ⟨by (with_reducible repeat (first | apply Kd.V_alloc | apply Kd.V_drewN | apply Kd.V_drew)); exact HO_427001.out⟩, ⟨bk BK425⟩, ⟨bk BK426⟩, ⟨bel⟩⟩
      case rest =>
       clear HC55
       (try clear c26); (try clear hcz32_0); (try clear hcz32_1); (try clear hcz57_0); (try clear hcz57_1); (try clear hcz7_0); (try clear hcz7_1); (try clear hcz7_2); (try clear hfz32_0); (try clear hfz32_1); (try clear hfz57_0); (try clear hfz57_1); (try clear hfz7_0); (try clear hfz7_1); (try clear hfz7_2)
       obtain ⟨kq, x82_54, rfl, HA, HJ54, HO_6, HO_426001, HO_427001, BK425, BK426, HB⟩ := hcut
       cases kq with
       | zero => exact absurd HA.out (by simp [paraphrastlaw01_ShapePuts.j2])
       | succ kj54 =>
        have H := HA.out
        clear HA
        simp only [paraphrastlaw01_ShapePuts.j2] at H
        by_cases c66 : x82_54 = true
        ·subst c66
         have H1 : (some false) = some r := by rw [if_pos rfl] at H; exact H
         clear H
         have H := H1
         clear H1
         obtain rfl := Option.some.inj H
         go_wp2
         go_ret
         exact ⟨eN, bel⟩
        ·replace c66 := Bool.eq_false_iff.mpr c66
         subst c66
         have H1 : (if x8_29 = 0 then ((paraphrastref01_In.f kj54 a0_0 l1_1).bind fun t439 => (paraphrastlaw01_ShapePuts.j3 kj54 a1_0 l1_1 a1_2 x8_29 (!t439) a0_0 l0_1)) else (paraphrastlaw01_ShapePuts.j3 kj54 a1_0 l1_1 a1_2 x8_29 false a0_0 l0_1)) = some r := by rw [if_neg (show ¬ (false = true) by decide)] at H; exact H
         clear H
         have H := H1
         clear H1
         have HC67 := Aside0.mk H
         clear H
         go_upto_region 13 with (fail)
         go_cut [91] (fun v91 wc => ∃ (kq : Nat) (x91_66 : Bool), v91 = .bool x91_66 ∧ Aside0 (paraphrastlaw01_ShapePuts.j3 kq a1_0 l1_1 a1_2 x8_29 x91_66 a0_0 l0_1 = some r) ∧ Aside0 (kq ≤ kj54) ∧ Aside0 (Kd.V (Kd.int .i64) 3 wc w.heap.size (fun k_ => ((P0_1_ k_ ∨ P1_1_ k_) ∨ w.heap.size ≤ k_) ∧ k_ ≠ gb425 ∧ k_ ≠ gb426) (.slice A1_1 l1_1.length c1_1) l1_1) ∧ Aside0 (Kd.V k52 52 wc w.heap.size (fun k_ => ((P0_1_ k_ ∨ P1_1_ k_) ∨ w.heap.size ≤ k_) ∧ k_ ≠ gb425 ∧ k_ ≠ gb426) (.slice A0_1 l0_1.length c0_1) l0_1) ∧ Aside0 (Kd.V (Kd.int .i64) 3 wc w.heap.size (fun k_ => ((P0_1_ k_ ∨ P1_1_ k_) ∨ w.heap.size ≤ k_) ∧ k_ ≠ gb425 ∧ k_ ≠ gb426) (.slice A1_1 l1_1.length c1_1) l1_1) ∧ Aside0 (wc.heap[gb425]? = some (.cells #[.int .i64 a0_0, (.slice A0_1 l0_1.length c0_1)] 24 (0, 0))) ∧ Aside0 (wc.heap[gb426]? = some (.cells #[.string a1_0, (.slice A1_1 l1_1.length c1_1), .bool a1_2] 48 (0, 0))) ∧ Aside0 (Below w.heap.size w wc))
         case first =>
          have H := HC67.out
          clear HC67
          by_cases c68 : x8_29 = 0
          ·rw [if_pos c68] at H
           have c68b0 : (x8_29 == 0) = true := beq_iff_eq.mpr c68
           have c68b1 : (x8_29 != 0) = false := bne_eq_false_iff_eq.mpr c68
           clear c68
           (first | rw [c68b0] | (simp only [i64_w, i32_w]; rw [c68b0]) | skip)
           replace H := Option.bind_eq_some_iff.mp H
           obtain ⟨t439, A690, H⟩ := H
           replace H : (paraphrastlaw01_ShapePuts.j3 kj54 a1_0 l1_1 a1_2 x8_29 (!t439) a0_0 l0_1) = some r := H
           have A69 := Aside0.mk A690
           clear A690
           have H' := Aside0.mk H
           clear H
           have hnb70 := NB425_426.out
           have hnc70 := NB426_425.out
           obtain ⟨hcz71_0, hcz71_1, hfz71_0, hfz71_1⟩ := bq2 BK425
           go_wp2_with (first | (go_at_call 27; (with_reducible refine (paraphrastref01_In.calls kj54 a0_0 _ _ l1_1 t439 _ ?side1 ?side2 A69.out).mono ?_); (case side1 => exact cS (Kd.V_reads' HO_6.out).2.2); (case side2 => exact (Kd.V_reads' HO_6.out).2.1); rintro e w' ⟨rfl, ⟨nd, rfl⟩⟩; (try first | exact ⟨rfl, _, World.drewN_drewN _ _ _⟩ | exact ⟨rfl, _, Eq.trans (World.drewN_drewN _ _ _) (congrArg (World.drewN _) (Nat.add_assoc _ _ _))⟩)))
           go_meet
           case rel => exact ⟨_, (!t439), eS, H', ⟨by have := HJ2.out; have := HJ29.out; have := HJ54.out; first | omega | exact Nat.le_refl _⟩, ⟨by (with_reducible repeat (first | apply Kd.V_alloc | apply Kd.V_drewN | apply Kd.V_drew)); exact HO_6.out⟩, ⟨by (with_reducible repeat (first | apply Kd.V_alloc | apply Kd.V_drewN | apply Kd.V_drew)); exact HO_426001.out⟩, ⟨by (with_reducible repeat (first | apply Kd.V_alloc | apply Kd.V_drewN | apply Kd.V_drew)); exact HO_427001.out⟩, ⟨bk BK425⟩, ⟨bk BK426⟩, ⟨bel⟩⟩
          ·rw [if_neg c68] at H
           have c68b0 : (x8_29 == 0) = false := beq_eq_false_iff_ne.mpr c68
           have c68b1 : (x8_29 != 0) = true := bne_iff_ne.mpr c68
           (first | rw [c68b0] | (simp only [i64_w, i32_w]; rw [c68b0]) | skip)
           have H' := Aside0.mk H
           clear H
           go_wp2
           go_meet
           case rel => exact ⟨_, (false), eS, H', ⟨by have := HJ2.out; have := HJ29.out; have := HJ54.out; first | omega | exact Nat.le_refl _⟩, ⟨by (with_reducible repeat (first | apply Kd.V_alloc | apply Kd.V_drewN | apply Kd.V_drew)); exact HO_6.out⟩, ⟨by (with_reducible repeat (first | apply Kd.V_alloc | apply Kd.V_drewN | apply Kd.V_drew)); exact HO_426001.out⟩, ⟨by (with_reducible repeat (first | apply Kd.V_alloc | apply Kd.V_drewN | apply Kd.V_drew)); exact HO_427001.out⟩, ⟨bk BK425⟩, ⟨bk BK426⟩, ⟨bel⟩⟩
         case rest =>
          clear HC67
          (try clear c26); (try clear c66); (try clear hcz32_0); (try clear hcz32_1); (try clear hcz57_0); (try clear hcz57_1); (try clear hcz7_0); (try clear hcz7_1); (try clear hcz7_2); (try clear hfz32_0); (try clear hfz32_1); (try clear hfz57_0); (try clear hfz57_1); (try clear hfz7_0); (try clear hfz7_1); (try clear hfz7_2)
          obtain ⟨kq, x91_66, rfl, HA, HJ66, HO_6, HO_426001, HO_427001, BK425, BK426, HB⟩ := hcut
          cases kq with
          | zero => exact absurd HA.out (by simp [paraphrastlaw01_ShapePuts.j3])
          | succ kj66 =>
           have H := HA.out
           clear HA
           simp only [paraphrastlaw01_ShapePuts.j3] at H
           have HC72 := Aside0.mk H
           clear H
           go_upto_if 91 with (fail)
           go_cut [8] (fun v8 wc => ∃ (kq : Nat) (x8_71 : Int), v8 = .int .i64 x8_71 ∧ Aside0 (paraphrastlaw01_ShapePuts.j4 kq a1_0 l1_1 a1_2 x8_71 a0_0 l0_1 = some r) ∧ Aside0 (kq ≤ kj66) ∧ Aside0 (Kd.V (Kd.int .i64) 3 wc w.heap.size (fun k_ => ((P0_1_ k_ ∨ P1_1_ k_) ∨ w.heap.size ≤ k_) ∧ k_ ≠ gb425 ∧ k_ ≠ gb426) (.slice A1_1 l1_1.length c1_1) l1_1) ∧ Aside0 (Kd.V k52 52 wc w.heap.size (fun k_ => ((P0_1_ k_ ∨ P1_1_ k_) ∨ w.heap.size ≤ k_) ∧ k_ ≠ gb425 ∧ k_ ≠ gb426) (.slice A0_1 l0_1.length c0_1) l0_1) ∧ Aside0 (Kd.V (Kd.int .i64) 3 wc w.heap.size (fun k_ => ((P0_1_ k_ ∨ P1_1_ k_) ∨ w.heap.size ≤ k_) ∧ k_ ≠ gb425 ∧ k_ ≠ gb426) (.slice A1_1 l1_1.length c1_1) l1_1) ∧ Aside0 (wc.heap[gb425]? = some (.cells #[.int .i64 a0_0, (.slice A0_1 l0_1.length c0_1)] 24 (0, 0))) ∧ Aside0 (wc.heap[gb426]? = some (.cells #[.string a1_0, (.slice A1_1 l1_1.length c1_1), .bool a1_2] 48 (0, 0))) ∧ Aside0 (Below w.heap.size w wc))
           case first =>
            have H := HC72.out
            clear HC72
            by_cases c73 : x91_66 = true
            ·subst c73
             have H1 : (paraphrastlaw01_ShapePuts.j4 kj66 a1_0 l1_1 a1_2 2 a0_0 l0_1) = some r := by rw [if_pos rfl] at H; exact H
             clear H
             have H := H1
             clear H1
             have H' := Aside0.mk H
             clear H
             go_wp2
             go_meet
             case rel => exact ⟨_, (2), eS, H', ⟨by have := HJ2.out; have := HJ29.out; have := HJ54.out; have := HJ66.out; first | omega | exact Nat.le_refl _⟩, ⟨by (with_reducible repeat (first | apply Kd.V_alloc | apply Kd.V_drewN | apply Kd.V_drew)); exact HO_6.out⟩, ⟨by (with_reducible repeat (first | apply Kd.V_alloc | apply Kd.V_drewN | apply Kd.V_drew)); exact HO_426001.out⟩, ⟨by (with_reducible repeat (first | apply Kd.V_alloc | apply Kd.V_drewN | apply Kd.V_drew)); exact HO_427001.out⟩, ⟨bk BK425⟩, ⟨bk BK426⟩, ⟨bel⟩⟩
            ·replace c73 := Bool.eq_false_iff.mpr c73
             subst c73
             have H1 : (paraphrastlaw01_ShapePuts.j4 kj66 a1_0 l1_1 a1_2 x8_29 a0_0 l0_1) = some r := by rw [if_neg (show ¬ (false = true) by decide)] at H; exact H
             clear H
             have H := H1
             clear H1
             have H' := Aside0.mk H
             clear H
             go_wp2
             go_meet
             case rel => exact ⟨_, (x8_29), eS, H', ⟨by have := HJ2.out; have := HJ29.out; have := HJ54.out; have := HJ66.out; first | omega | exact Nat.le_refl _⟩, ⟨by (with_reducible repeat (first | apply Kd.V_alloc | apply Kd.V_drewN | apply Kd.V_drew)); exact HO_6.out⟩, ⟨by (with_reducible repeat (first | apply Kd.V_alloc | apply Kd.V_drewN | apply Kd.V_drew)); exact HO_426001.out⟩, ⟨by (with_reducible repeat (first | apply Kd.V_alloc | apply Kd.V_drewN | apply Kd.V_drew)); exact HO_427001.out⟩, ⟨bk BK425⟩, ⟨bk BK426⟩, ⟨bel⟩⟩
           case rest =>
            clear HC72
            (try clear c26); (try clear c66); (try clear hcz32_0); (try clear hcz32_1); (try clear hcz57_0); (try clear hcz57_1); (try clear hcz7_0); (try clear hcz7_1); (try clear hcz7_2); (try clear hfz32_0); (try clear hfz32_1); (try clear hfz57_0); (try clear hfz57_1); (try clear hfz7_0); (try clear hfz7_1); (try clear hfz7_2)
            obtain ⟨kq, x8_71, rfl, HA, HJ71, HO_6, HO_426001, HO_427001, BK425, BK426, HB⟩ := hcut
            cases kq with
            | zero => exact absurd HA.out (by simp [paraphrastlaw01_ShapePuts.j4])
            | succ kj71 =>
             have H := HA.out
             clear HA
             simp only [paraphrastlaw01_ShapePuts.j4] at H
             replace H := Option.bind_eq_some_iff.mp H
             obtain ⟨⟨t440, t441, t444⟩, A740, H⟩ := H
             replace H : (if x8_71 = 0 then ((paraphrastref01_Put.f kj71 a0_0 l0_1 a1_0 l1_1 a1_2).bind fun bt447 => ((paraphrastlaw01_is.f kj71 t440 t441 t444 bt447.1 bt447.2 x8_71).bind fun t451 => (if t451 = true then ((paraphrastlaw01_alive.f kj71).bind fun t452 => (some t452)) else (some false)))) else ((paraphrastlaw01_is.f kj71 t440 t441 t444 0 ([] : List (S52)) x8_71).bind fun t453 => (if t453 = true then ((paraphrastlaw01_alive.f kj71).bind fun t454 => (some t454)) else (some false)))) = some r := H
             have A74 := Aside0.mk A740
             clear A740
             by_cases c75 : x8_71 = 0
             ·rw [if_pos c75] at H
              have c75b0 : (x8_71 == 0) = true := beq_iff_eq.mpr c75
              have c75b1 : (x8_71 != 0) = false := bne_eq_false_iff_eq.mpr c75
              clear c75
              replace H := Option.bind_eq_some_iff.mp H
              obtain ⟨⟨t447, t448⟩, A760, H⟩ := H
              replace H : ((paraphrastlaw01_is.f kj71 t440 t441 t444 t447 t448 x8_71).bind fun t451 => (if t451 = true then ((paraphrastlaw01_alive.f kj71).bind fun t452 => (some t452)) else (some false))) = some r := H
              have A76 := Aside0.mk A760
              clear A760
              replace H := Option.bind_eq_some_iff.mp H
              obtain ⟨t451, A770, H⟩ := H
              replace H : (if t451 = true then ((paraphrastlaw01_alive.f kj71).bind fun t452 => (some t452)) else (some false)) = some r := H
              have A77 := Aside0.mk A770
              clear A770
              by_cases c78 : t451 = true
              ·subst c78
               have H1 : ((paraphrastlaw01_alive.f kj71).bind fun t452 => (some t452)) = some r := by rw [if_pos rfl] at H; exact H
               clear H
               have H := H1
               clear H1
               replace H := Option.bind_eq_some_iff.mp H
               obtain ⟨t452, A790, H⟩ := H
               replace H : (some t452) = some r := H
               have A79 := Aside0.mk A790
               clear A790
               obtain rfl := Option.some.inj H
               have hnb80 := NB425_426.out
               have hnc80 := NB426_425.out
               obtain ⟨hcz81_0, hcz81_1, hfz81_0, hfz81_1⟩ := bq2 BK425
               go_wp2_with (first | (go_at_call 28; (with_reducible refine (shape_Put.calls kj71 a0_0 _ _ l0_1 a1_0 _ _ l1_1 a1_2 t440 t441 t444 _ ?side1 ?side2 ?side3 ?side4 A74.out).mono ?_); (case side1 => exact cS (Kd.V_reads' HO_426001.out).2.2); (case side2 => exact (Kd.V_reads' HO_426001.out).2.1); (case side3 => exact cS (Kd.V_reads' HO_6.out).2.2); (case side4 => exact (Kd.V_reads' HO_6.out).2.1); rintro e w82 ⟨v442, rfl, ho0, hb⟩; have HO443 := Aside0.mk (Kd.N_lower (Kd.N_mono (ok' := fun k_ => ((P0_1_ k_ ∨ P1_1_ k_) ∨ w.heap.size ≤ k_) ∧ k_ ≠ gb425 ∧ k_ ≠ gb426) (Kd.R_N (Kd.R_bound ho0)) (fun k_ hk_ => ⟨(.inr (Nat.le_trans (below_size bel) hk_.2.1)), (Kd.freshB (g := gb425) (o := .cells #[.int .i64 a0_0, .slice A0_1 l0_1.length c0_1] 24 (0, 0)) (bk BK425) k_ hk_.2.1), (Kd.freshB (g := gb426) (o := .cells #[.string a1_0, .slice A1_1 l1_1.length c1_1, .bool a1_2] 48 (0, 0)) (bk BK426) k_ hk_.2.1)⟩)) (below_size bel)); replace HO_6 := vE HO_6 (by first | exact Kd.N_base ho0 | exact Kd.R_base ho0) hb; replace HO_426001 := vE HO_426001 (by first | exact Kd.N_base ho0 | exact Kd.R_base ho0) hb; replace HO_427001 := vE HO_427001 (by first | exact Kd.N_base ho0 | exact Kd.R_base ho0) hb; replace BK425 := blB BK425 hb; replace BK426 := blB BK426 hb; replace HB := Aside0.mk (below_step bel hb); (try clear hb); (try clear hb2); (try clear hk); (try clear hi); (try clear ho0)) | ((with_reducible refine gate_dst (N := 12) rfl ?_); (try (refine gate_guard (by rfl) ?_; dsimp only)); refine box_event ?hg (N := 12) ?hd (cs := #[.int .i64 0, .slice none 0 0]) (t := 24) ?hr ?_; (case hd => rfl); (case hg => rfl); (case hr => first | (go_simp; done) | (go_simp; rfl)); intro gb445 hg w83 hbox hb; have BK445 := Aside0.mk (hbox); have GW445 := geB w hg; have GE445 := geB w hg; have NB425_445 := neL BK425 hg; have NB445_425 := neG BK425 hg; have NB426_445 := neL BK426 hg; have NB445_426 := neG BK426 hg; replace HO_6 := vB HO_6 hg hb; replace HO_426001 := vB HO_426001 hg hb; replace HO_427001 := vB HO_427001 hg hb; replace HO443 := nB HO443 hg hb; replace BK425 := blB BK425 hb; replace BK426 := blB BK426 hb; replace HB := Aside0.mk (below_step bel hb); clear hb hbox hg; have hnb84 := NB445_425.out; have hnc84 := NB425_445.out; have hnb85 := NB445_426.out; have hnc85 := NB426_445.out; obtain ⟨hcz86_0, hcz86_1, hfz86_0, hfz86_1⟩ := bq2 BK445; obtain ⟨Ao87, co87, eo87⟩ := Kd.N_slice HO443.out; subst eo87) | ((with_reducible refine gate_dst (N := 14) rfl ?_); (try (refine gate_guard (by rfl) ?_; dsimp only)); refine box_event ?hg (N := 14) ?hd (cs := #[.int .i64 0, .slice none 0 0]) (t := 24) ?hr ?_; (case hd => rfl); (case hg => rfl); (case hr => first | (go_simp; done) | (go_simp; rfl)); intro gb446 hg w88 hbox hb; have BK446 := Aside0.mk (hbox); have GW446 := geB w hg; have GE446 := geB w hg; have NB425_446 := Aside0.mk ((by rw [hg]; exact Nat.ne_of_lt (blk_lt (g := gb425) (o := .cells #[.int .i64 a0_0, .slice A0_1 l0_1.length c0_1] 24 (0, 0)) (by (with_reducible repeat (first | refine blk_drewN ?_ _ | refine blk_drew ?_ | refine blk_alloc ?_ _)); refine blk_far ?_ NB425_445.out _; (with_reducible repeat (first | refine blk_drewN ?_ _ | refine blk_drew ?_ | refine blk_alloc ?_ _)); refine blk_far ?_ NB425_445.out _; (with_reducible repeat (first | refine blk_drewN ?_ _ | refine blk_drew ?_ | refine blk_alloc ?_ _)); exact BK425.out)) : gb425 ≠ gb446)); have NB446_425 := Aside0.mk ((by rw [hg]; exact Nat.ne_of_gt (blk_lt (g := gb425) (o := .cells #[.int .i64 a0_0, .slice A0_1 l0_1.length c0_1] 24 (0, 0)) (by (with_reducible repeat (first | refine blk_drewN ?_ _ | refine blk_drew ?_ | refine blk_alloc ?_ _)); refine blk_far ?_ NB425_445.out _; (with_reducible repeat (first | refine blk_drewN ?_ _ | refine blk_drew ?_ | refine blk_alloc ?_ _)); refine blk_far ?_ NB425_445.out _; (with_reducible repeat (first | refine blk_drewN ?_ _ | refine blk_drew ?_ | refine blk_alloc ?_ _)); exact BK425.out)) : gb446 ≠ gb425)); have NB426_446 := Aside0.mk ((by rw [hg]; exact Nat.ne_of_lt (blk_lt (g := gb426) (o := .cells #[.string a1_0, .slice A1_1 l1_1.length c1_1, .bool a1_2] 48 (0, 0)) (by (with_reducible repeat (first | refine blk_drewN ?_ _ | refine blk_drew ?_ | refine blk_alloc ?_ _)); refine blk_far ?_ NB426_445.out _; (with_reducible repeat (first | refine blk_drewN ?_ _ | refine blk_drew ?_ | refine blk_alloc ?_ _)); refine blk_far ?_ NB426_445.out _; (with_reducible repeat (first | refine blk_drewN ?_ _ | refine blk_drew ?_ | refine blk_alloc ?_ _)); exact BK426.out)) : gb426 ≠ gb446)); have NB446_426 := Aside0.mk ((by rw [hg]; exact Nat.ne_of_gt (blk_lt (g := gb426) (o := .cells #[.string a1_0, .slice A1_1 l1_1.length c1_1, .bool a1_2] 48 (0, 0)) (by (with_reducible repeat (first | refine blk_drewN ?_ _ | refine blk_drew ?_ | refine blk_alloc ?_ _)); refine blk_far ?_ NB426_445.out _; (with_reducible repeat (first | refine blk_drewN ?_ _ | refine blk_drew ?_ | refine blk_alloc ?_ _)); refine blk_far ?_ NB426_445.out _; (with_reducible repeat (first | refine blk_drewN ?_ _ | refine blk_drew ?_ | refine blk_alloc ?_ _)); exact BK426.out)) : gb446 ≠ gb426)); have NB445_446 := Aside0.mk ((by rw [hg]; exact Nat.ne_of_lt (blk_lt (g := gb445) (o := .cells #[.int .i64 t440, .slice Ao87 t441.length co87] 24 (0, 0)) (by (with_reducible repeat (first | refine blk_drewN ?_ _ | refine blk_drew ?_ | refine blk_alloc ?_ _)); refine blk_put (cs := #[.int .i64 t440, .slice none 0 0]) ?_ 1 _ rfl; (with_reducible repeat (first | refine blk_drewN ?_ _ | refine blk_drew ?_ | refine blk_alloc ?_ _)); refine blk_put (cs := #[.int .i64 0, .slice none 0 0]) ?_ 0 _ rfl; (with_reducible repeat (first | refine blk_drewN ?_ _ | refine blk_drew ?_ | refine blk_alloc ?_ _)); exact BK445.out)) : gb445 ≠ gb446)); have NB446_445 := Aside0.mk ((by rw [hg]; exact Nat.ne_of_gt (blk_lt (g := gb445) (o := .cells #[.int .i64 t440, .slice Ao87 t441.length co87] 24 (0, 0)) (by (with_reducible repeat (first | refine blk_drewN ?_ _ | refine blk_drew ?_ | refine blk_alloc ?_ _)); refine blk_put (cs := #[.int .i64 t440, .slice none 0 0]) ?_ 1 _ rfl; (with_reducible repeat (first | refine blk_drewN ?_ _ | refine blk_drew ?_ | refine blk_alloc ?_ _)); refine blk_put (cs := #[.int .i64 0, .slice none 0 0]) ?_ 0 _ rfl; (with_reducible repeat (first | refine blk_drewN ?_ _ | refine blk_drew ?_ | refine blk_alloc ?_ _)); exact BK445.out)) : gb446 ≠ gb445)); replace HO_6 := Aside0.mk (Kd.V_below (Kd.V_elderB (by (with_reducible repeat (first | apply Kd.V_alloc | apply Kd.V_drewN | apply Kd.V_drew)); exact (Kd.V_mono (Kd.V_far (p := ⟨gb445, 1, none⟩) (Kd.V_far (p := ⟨gb445, 0, none⟩) (Kd.V_mono HO_6.out (fun k_ hk => (⟨hk, hk.2⟩ : _ ∧ k_ ≠ gb445))) (fun _ hk => hk.2) (.int .i64 t440)) (fun _ hk => hk.2) (.slice Ao87 t441.length co87)) (fun _ h_ => h_.1))) gb446 (Nat.le_of_eq hg.symm)) hb); replace HO_426001 := Aside0.mk (Kd.V_below (Kd.V_elderB (by (with_reducible repeat (first | apply Kd.V_alloc | apply Kd.V_drewN | apply Kd.V_drew)); exact (Kd.V_mono (Kd.V_far (p := ⟨gb445, 1, none⟩) (Kd.V_far (p := ⟨gb445, 0, none⟩) (Kd.V_mono HO_426001.out (fun k_ hk => (⟨hk, hk.2⟩ : _ ∧ k_ ≠ gb445))) (fun _ hk => hk.2) (.int .i64 t440)) (fun _ hk => hk.2) (.slice Ao87 t441.length co87)) (fun _ h_ => h_.1))) gb446 (Nat.le_of_eq hg.symm)) hb); replace HO_427001 := Aside0.mk (Kd.V_below (Kd.V_elderB (by (with_reducible repeat (first | apply Kd.V_alloc | apply Kd.V_drewN | apply Kd.V_drew)); exact (Kd.V_mono (Kd.V_far (p := ⟨gb445, 1, none⟩) (Kd.V_far (p := ⟨gb445, 0, none⟩) (Kd.V_mono HO_427001.out (fun k_ hk => (⟨hk, hk.2⟩ : _ ∧ k_ ≠ gb445))) (fun _ hk => hk.2) (.int .i64 t440)) (fun _ hk => hk.2) (.slice Ao87 t441.length co87)) (fun _ h_ => h_.1))) gb446 (Nat.le_of_eq hg.symm)) hb); replace HO443 := Aside0.mk (Kd.N_below (Kd.N_elderB (by (with_reducible repeat (first | apply Kd.N_alloc | apply Kd.N_drewN | apply Kd.N_drew)); exact (Kd.N_mono (Kd.N_far (p := ⟨gb445, 1, none⟩) (Kd.N_far (p := ⟨gb445, 0, none⟩) (Kd.N_mono HO443.out (fun k_ hk => (⟨hk, hk.2⟩ : _ ∧ k_ ≠ gb445))) (fun _ hk => hk.2) (.int .i64 t440)) (fun _ hk => hk.2) (.slice Ao87 t441.length co87)) (fun _ h_ => h_.1))) gb446 (Nat.le_of_eq hg.symm)) hb); replace BK425 := Aside0.mk (blk_below (g := gb425) (o := .cells #[.int .i64 a0_0, .slice A0_1 l0_1.length c0_1] 24 (0, 0)) (by (with_reducible repeat (first | refine blk_drewN ?_ _ | refine blk_drew ?_ | refine blk_alloc ?_ _)); refine blk_far ?_ NB425_445.out _; (with_reducible repeat (first | refine blk_drewN ?_ _ | refine blk_drew ?_ | refine blk_alloc ?_ _)); refine blk_far ?_ NB425_445.out _; (with_reducible repeat (first | refine blk_drewN ?_ _ | refine blk_drew ?_ | refine blk_alloc ?_ _)); exact BK425.out) hb); replace BK426 := Aside0.mk (blk_below (g := gb426) (o := .cells #[.string a1_0, .slice A1_1 l1_1.length c1_1, .bool a1_2] 48 (0, 0)) (by (with_reducible repeat (first | refine blk_drewN ?_ _ | refine blk_drew ?_ | refine blk_alloc ?_ _)); refine blk_far ?_ NB426_445.out _; (with_reducible repeat (first | refine blk_drewN ?_ _ | refine blk_drew ?_ | refine blk_alloc ?_ _)); refine blk_far ?_ NB426_445.out _; (with_reducible repeat (first | refine blk_drewN ?_ _ | refine blk_drew ?_ | refine blk_alloc ?_ _)); exact BK426.out) hb); replace BK445 := Aside0.mk (blk_below (g := gb445) (o := .cells #[.int .i64 t440, .slice Ao87 t441.length co87] 24 (0, 0)) (by (with_reducible repeat (first | refine blk_drewN ?_ _ | refine blk_drew ?_ | refine blk_alloc ?_ _)); refine blk_put (cs := #[.int .i64 t440, .slice none 0 0]) ?_ 1 _ rfl; (with_reducible repeat (first | refine blk_drewN ?_ _ | refine blk_drew ?_ | refine blk_alloc ?_ _)); refine blk_put (cs := #[.int .i64 0, .slice none 0 0]) ?_ 0 _ rfl; (with_reducible repeat (first | refine blk_drewN ?_ _ | refine blk_drew ?_ | refine blk_alloc ?_ _)); exact BK445.out) hb); replace HB := Aside0.mk (below_step bel hb); clear hb hbox hg; have hnb89 := NB425_446.out; have hnc89 := NB446_425.out; obtain ⟨hcz90_0, hcz90_1, hfz90_0, hfz90_1⟩ := bq2 BK425) | (go_at_call 29; (with_reducible refine (paraphrastref01_Put.calls kj71 a0_0 (fun k_ => ((((((P0_1_ k_ ∨ P1_1_ k_) ∨ w.heap.size ≤ k_) ∧ (k_ ≠ gb425 ∧ k_ ≠ gb426)) ∧ some k_ ≠ (.slice Ao87 t441.length co87 : Value).ownBlock) ∧ k_ ≠ gb445) ∧ k_ ≠ gb446)) _ _ l0_1 a1_0 (fun k_ => ((((((P0_1_ k_ ∨ P1_1_ k_) ∨ w.heap.size ≤ k_) ∧ (k_ ≠ gb425 ∧ k_ ≠ gb426)) ∧ some k_ ≠ (.slice Ao87 t441.length co87 : Value).ownBlock) ∧ k_ ≠ gb445) ∧ k_ ≠ gb446)) _ _ l1_1 a1_2 t447 t448 _ ?side1 ?side2 A76.out).mono ?_); (case side1 => exact HO_426001.out); (case side2 => exact HO_6.out); rintro e w91 ⟨v449, rfl, ho0, hb⟩; have HO450 := Aside0.mk (Kd.N_lower (Kd.N_mono (ok' := fun k_ => ((P0_1_ k_ ∨ P1_1_ k_) ∨ w.heap.size ≤ k_) ∧ some k_ ≠ (.slice Ao87 t441.length co87 : Value).ownBlock ∧ k_ ≠ gb425 ∧ k_ ≠ gb426 ∧ k_ ≠ gb445 ∧ k_ ≠ gb446) ho0 (fun k_ hk_ => ⟨Or.elim hk_ (fun hs_ => Or.elim hs_ (fun hs_ => hs_.1.1.1.1) (fun hs_ => hs_.1.1.1.1)) (fun hn_ => (.inr (Nat.le_trans (below_size bel) hn_))), Or.elim hk_ (fun hs_ => Or.elim hs_ (fun hs_ => hs_.1.1.2) (fun hs_ => hs_.1.1.2)) (fun hn_ => (Kd.fresh' (Kd.N_lt (tw HO443.out)) k_ hn_)), Or.elim hk_ (fun hs_ => Or.elim hs_ (fun hs_ => hs_.1.1.1.2.1) (fun hs_ => hs_.1.1.1.2.1)) (fun hn_ => (Kd.freshB (g := gb425) (o := .cells #[.int .i64 a0_0, .slice A0_1 l0_1.length c0_1] 24 (0, 0)) (bk BK425) k_ hn_)), Or.elim hk_ (fun hs_ => Or.elim hs_ (fun hs_ => hs_.1.1.1.2.2) (fun hs_ => hs_.1.1.1.2.2)) (fun hn_ => (Kd.freshB (g := gb426) (o := .cells #[.string a1_0, .slice A1_1 l1_1.length c1_1, .bool a1_2] 48 (0, 0)) (bk BK426) k_ hn_)), Or.elim hk_ (fun hs_ => Or.elim hs_ (fun hs_ => hs_.1.2) (fun hs_ => hs_.1.2)) (fun hn_ => (Kd.freshB (g := gb445) (o := .cells #[.int .i64 t440, .slice Ao87 t441.length co87] 24 (0, 0)) (bk BK445) k_ hn_)), Or.elim hk_ (fun hs_ => Or.elim hs_ (fun hs_ => hs_.2) (fun hs_ => hs_.2)) (fun hn_ => (Kd.freshB (g := gb446) (o := .cells #[.int .i64 0, .slice none 0 0] 24 (0, 0)) (bk BK446) k_ hn_))⟩)) (below_size bel)); replace HO_6 := vE HO_6 (by first | exact Kd.N_base ho0 | exact Kd.R_base ho0) hb; replace HO_426001 := vE HO_426001 (by first | exact Kd.N_base ho0 | exact Kd.R_base ho0) hb; replace HO_427001 := vE HO_427001 (by first | exact Kd.N_base ho0 | exact Kd.R_base ho0) hb; replace HO443 := Aside0.mk (Kd.N_elder' (tw HO443.out) (by first | exact Kd.N_base ho0 | exact Kd.R_base ho0) hb); replace BK425 := blB BK425 hb; replace BK426 := blB BK426 hb; replace BK445 := blB BK445 hb; replace BK446 := blB BK446 hb; replace HB := Aside0.mk (below_step bel hb); (try clear hb); (try clear hb2); (try clear hk); (try clear hi); (try clear ho0); have hnb92 := NB446_426.out; have hnc92 := NB426_446.out; have hnb93 := NB446_445.out; have hnc93 := NB445_446.out; obtain ⟨hcz94_0, hcz94_1, hfz94_0, hfz94_1⟩ := bq2 BK446; obtain ⟨Ao95, co95, eo95⟩ := Kd.N_slice HO450.out; subst eo95; obtain ⟨hcz96_0, hcz96_1, hfz96_0, hfz96_1⟩ := bq2 BK445) | (go_at_call 16; (with_reducible refine (paraphrastlaw01_is.calls kj71 t440 _ _ t441 t444 t447 _ _ t448 x8_71 true _ ?side1 ?side2 ?side3 ?side4 A77.out).mono ?_); (case side1 => refine (Kd.N_reads' (e := 52) (base := w.heap.size) (ok := fun k_ => ((((((P0_1_ k_ ∨ P1_1_ k_) ∨ w.heap.size ≤ k_) ∧ (k_ ≠ gb425 ∧ k_ ≠ gb426)) ∧ k_ ≠ gb445) ∧ k_ ≠ gb446) ∧ some k_ ≠ (.slice Ao95 t448.length co95 : Value).ownBlock)) (n := t441.length) (c := co87) ?_).2.2; exact (by (with_reducible repeat (first | apply Kd.N_alloc | apply Kd.N_drewN | apply Kd.N_drew)); exact (Kd.N_mono (Kd.N_far (p := ⟨gb446, 1, none⟩) (Kd.N_far (p := ⟨gb446, 0, none⟩) (Kd.N_mono HO443.out (fun k_ hk => (⟨hk, hk.1.2⟩ : _ ∧ k_ ≠ gb446))) (fun _ hk => hk.2) (.int .i64 t447)) (fun _ hk => hk.2) (.slice Ao95 t448.length co95)) (fun _ h_ => h_.1)))); (case side2 => exact (Kd.N_reads' HO443.out).2.1); (case side3 => refine (Kd.N_reads' (e := 52) (base := w.heap.size) (ok := fun k_ => (((P0_1_ k_ ∨ P1_1_ k_) ∨ w.heap.size ≤ k_) ∧ (some k_ ≠ (.slice Ao87 t441.length co87 : Value).ownBlock ∧ (k_ ≠ gb425 ∧ (k_ ≠ gb426 ∧ (k_ ≠ gb445 ∧ k_ ≠ gb446)))))) (n := t448.length) (c := co95) ?_).2.2; exact (by (with_reducible repeat (first | apply Kd.N_alloc | apply Kd.N_drewN | apply Kd.N_drew)); exact (Kd.N_mono (Kd.N_far (p := ⟨gb446, 1, none⟩) (Kd.N_far (p := ⟨gb446, 0, none⟩) (Kd.N_mono HO450.out (fun k_ hk => (⟨hk, hk.2.2.2.2.2⟩ : _ ∧ k_ ≠ gb446))) (fun _ hk => hk.2) (.int .i64 t447)) (fun _ hk => hk.2) (.slice Ao95 t448.length co95)) (fun _ h_ => h_.1)))); (case side4 => exact (Kd.N_reads' HO450.out).2.1); rintro e w97 ⟨rfl, hb⟩; replace HO_6 := Aside0.mk (Kd.V_below (by (with_reducible repeat (first | apply Kd.V_alloc | apply Kd.V_drewN | apply Kd.V_drew)); exact (Kd.V_mono (Kd.V_far (p := ⟨gb446, 1, none⟩) (Kd.V_far (p := ⟨gb446, 0, none⟩) (Kd.V_mono HO_6.out (fun k_ hk => (⟨hk, hk.1.2⟩ : _ ∧ k_ ≠ gb446))) (fun _ hk => hk.2) (.int .i64 t447)) (fun _ hk => hk.2) (.slice Ao95 t448.length co95)) (fun _ h_ => h_.1))) hb); replace HO_426001 := Aside0.mk (Kd.V_below (by (with_reducible repeat (first | apply Kd.V_alloc | apply Kd.V_drewN | apply Kd.V_drew)); exact (Kd.V_mono (Kd.V_far (p := ⟨gb446, 1, none⟩) (Kd.V_far (p := ⟨gb446, 0, none⟩) (Kd.V_mono HO_426001.out (fun k_ hk => (⟨hk, hk.1.2⟩ : _ ∧ k_ ≠ gb446))) (fun _ hk => hk.2) (.int .i64 t447)) (fun _ hk => hk.2) (.slice Ao95 t448.length co95)) (fun _ h_ => h_.1))) hb); replace HO_427001 := Aside0.mk (Kd.V_below (by (with_reducible repeat (first | apply Kd.V_alloc | apply Kd.V_drewN | apply Kd.V_drew)); exact (Kd.V_mono (Kd.V_far (p := ⟨gb446, 1, none⟩) (Kd.V_far (p := ⟨gb446, 0, none⟩) (Kd.V_mono HO_427001.out (fun k_ hk => (⟨hk, hk.1.2⟩ : _ ∧ k_ ≠ gb446))) (fun _ hk => hk.2) (.int .i64 t447)) (fun _ hk => hk.2) (.slice Ao95 t448.length co95)) (fun _ h_ => h_.1))) hb); replace HO443 := Aside0.mk (Kd.N_below (by (with_reducible repeat (first | apply Kd.N_alloc | apply Kd.N_drewN | apply Kd.N_drew)); exact (Kd.N_mono (Kd.N_far (p := ⟨gb446, 1, none⟩) (Kd.N_far (p := ⟨gb446, 0, none⟩) (Kd.N_mono HO443.out (fun k_ hk => (⟨hk, hk.1.2⟩ : _ ∧ k_ ≠ gb446))) (fun _ hk => hk.2) (.int .i64 t447)) (fun _ hk => hk.2) (.slice Ao95 t448.length co95)) (fun _ h_ => h_.1))) hb); replace HO450 := Aside0.mk (Kd.N_below (by (with_reducible repeat (first | apply Kd.N_alloc | apply Kd.N_drewN | apply Kd.N_drew)); exact (Kd.N_mono (Kd.N_far (p := ⟨gb446, 1, none⟩) (Kd.N_far (p := ⟨gb446, 0, none⟩) (Kd.N_mono HO450.out (fun k_ hk => (⟨hk, hk.2.2.2.2.2⟩ : _ ∧ k_ ≠ gb446))) (fun _ hk => hk.2) (.int .i64 t447)) (fun _ hk => hk.2) (.slice Ao95 t448.length co95)) (fun _ h_ => h_.1))) hb); replace BK425 := Aside0.mk (blk_below (g := gb425) (o := .cells #[.int .i64 a0_0, .slice A0_1 l0_1.length c0_1] 24 (0, 0)) (by (with_reducible repeat (first | refine blk_drewN ?_ _ | refine blk_drew ?_ | refine blk_alloc ?_ _)); refine blk_far ?_ NB425_446.out _; (with_reducible repeat (first | refine blk_drewN ?_ _ | refine blk_drew ?_ | refine blk_alloc ?_ _)); refine blk_far ?_ NB425_446.out _; (with_reducible repeat (first | refine blk_drewN ?_ _ | refine blk_drew ?_ | refine blk_alloc ?_ _)); exact BK425.out) hb); replace BK426 := Aside0.mk (blk_below (g := gb426) (o := .cells #[.string a1_0, .slice A1_1 l1_1.length c1_1, .bool a1_2] 48 (0, 0)) (by (with_reducible repeat (first | refine blk_drewN ?_ _ | refine blk_drew ?_ | refine blk_alloc ?_ _)); refine blk_far ?_ NB426_446.out _; (with_reducible repeat (first | refine blk_drewN ?_ _ | refine blk_drew ?_ | refine blk_alloc ?_ _)); refine blk_far ?_ NB426_446.out _; (with_reducible repeat (first | refine blk_drewN ?_ _ | refine blk_drew ?_ | refine blk_alloc ?_ _)); exact BK426.out) hb); replace BK445 := Aside0.mk (blk_below (g := gb445) (o := .cells #[.int .i64 t440, .slice Ao87 t441.length co87] 24 (0, 0)) (by (with_reducible repeat (first | refine blk_drewN ?_ _ | refine blk_drew ?_ | refine blk_alloc ?_ _)); refine blk_far ?_ NB445_446.out _; (with_reducible repeat (first | refine blk_drewN ?_ _ | refine blk_drew ?_ | refine blk_alloc ?_ _)); refine blk_far ?_ NB445_446.out _; (with_reducible repeat (first | refine blk_drewN ?_ _ | refine blk_drew ?_ | refine blk_alloc ?_ _)); exact BK445.out) hb); replace BK446 := Aside0.mk (blk_below (g := gb446) (o := .cells #[.int .i64 t447, .slice Ao95 t448.length co95] 24 (0, 0)) (by (with_reducible repeat (first | refine blk_drewN ?_ _ | refine blk_drew ?_ | refine blk_alloc ?_ _)); refine blk_put (cs := #[.int .i64 t447, .slice none 0 0]) ?_ 1 _ rfl; (with_reducible repeat (first | refine blk_drewN ?_ _ | refine blk_drew ?_ | refine blk_alloc ?_ _)); refine blk_put (cs := #[.int .i64 0, .slice none 0 0]) ?_ 0 _ rfl; (with_reducible repeat (first | refine blk_drewN ?_ _ | refine blk_drew ?_ | refine blk_alloc ?_ _)); exact BK446.out) hb); replace HB := Aside0.mk (below_step bel hb); (try clear hb); (try clear hb2); (try clear hk); (try clear hi)) | (go_at_call 10; (with_reducible refine (paraphrastlaw01_alive.calls kj71  t452 _ ?side1 A79.out).mono ?_); (case side1 => first | exact HG.out | exact Glob.below HG.out bel); rintro e w98 ⟨rfl, hb⟩; replace HO_6 := vD HO_6 hb; replace HO_426001 := vD HO_426001 hb; replace HO_427001 := vD HO_427001 hb; replace HO443 := nD HO443 hb; replace HO450 := nD HO450 hb; replace BK425 := blB BK425 hb; replace BK426 := blB BK426 hb; replace BK445 := blB BK445 hb; replace BK446 := blB BK446 hb; replace HB := Aside0.mk (below_step bel hb); (try clear hb); (try clear hb2); (try clear hk); (try clear hi)))
               go_ret
               exact ⟨eN, bel⟩
              ·replace c78 := Bool.eq_false_iff.mpr c78
               subst c78
               have H1 : (some false) = some r := by rw [if_neg (show ¬ (false = true) by decide)] at H; exact H
               clear H
               have H := H1
               clear H1
               obtain rfl := Option.some.inj H
               have hnb99 := NB425_426.out
               have hnc99 := NB426_425.out
               obtain ⟨hcz100_0, hcz100_1, hfz100_0, hfz100_1⟩ := bq2 BK425
               go_wp2_with (first | (go_at_call 28; (with_reducible refine (shape_Put.calls kj71 a0_0 _ _ l0_1 a1_0 _ _ l1_1 a1_2 t440 t441 t444 _ ?side1 ?side2 ?side3 ?side4 A74.out).mono ?_); (case side1 => exact cS (Kd.V_reads' HO_426001.out).2.2); (case side2 => exact (Kd.V_reads' HO_426001.out).2.1); (case side3 => exact cS (Kd.V_reads' HO_6.out).2.2); (case side4 => exact (Kd.V_reads' HO_6.out).2.1); rintro e w101 ⟨v442, rfl, ho0, hb⟩; have HO443 := Aside0.mk (Kd.N_lower (Kd.N_mono (ok' := fun k_ => ((P0_1_ k_ ∨ P1_1_ k_) ∨ w.heap.size ≤ k_) ∧ k_ ≠ gb425 ∧ k_ ≠ gb426) (Kd.R_N (Kd.R_bound ho0)) (fun k_ hk_ => ⟨(.inr (Nat.le_trans (below_size bel) hk_.2.1)), (Kd.freshB (g := gb425) (o := .cells #[.int .i64 a0_0, .slice A0_1 l0_1.length c0_1] 24 (0, 0)) (bk BK425) k_ hk_.2.1), (Kd.freshB (g := gb426) (o := .cells #[.string a1_0, .slice A1_1 l1_1.length c1_1, .bool a1_2] 48 (0, 0)) (bk BK426) k_ hk_.2.1)⟩)) (below_size bel)); replace HO_6 := vE HO_6 (by first | exact Kd.N_base ho0 | exact Kd.R_base ho0) hb; replace HO_426001 := vE HO_426001 (by first | exact Kd.N_base ho0 | exact Kd.R_base ho0) hb; replace HO_427001 := vE HO_427001 (by first | exact Kd.N_base ho0 | exact Kd.R_base ho0) hb; replace BK425 := blB BK425 hb; replace BK426 := blB BK426 hb; replace HB := Aside0.mk (below_step bel hb); (try clear hb); (try clear hb2); (try clear hk); (try clear hi); (try clear ho0)) | ((with_reducible refine gate_dst (N := 12) rfl ?_); (try (refine gate_guard (by rfl) ?_; dsimp only)); refine box_event ?hg (N := 12) ?hd (cs := #[.int .i64 0, .slice none 0 0]) (t := 24) ?hr ?_; (case hd => rfl); (case hg => rfl); (case hr => first | (go_simp; done) | (go_simp; rfl)); intro gb445 hg w102 hbox hb; have BK445 := Aside0.mk (hbox); have GW445 := geB w hg; have GE445 := geB w hg; have NB425_445 := neL BK425 hg; have NB445_425 := neG BK425 hg; have NB426_445 := neL BK426 hg; have NB445_426 := neG BK426 hg; replace HO_6 := vB HO_6 hg hb; replace HO_426001 := vB HO_426001 hg hb; replace HO_427001 := vB HO_427001 hg hb; replace HO443 := nB HO443 hg hb; replace BK425 := blB BK425 hb; replace BK426 := blB BK426 hb; replace HB := Aside0.mk (below_step bel hb); clear hb hbox hg; have hnb103 := NB445_425.out; have hnc103 := NB425_445.out; have hnb104 := NB445_426.out; have hnc104 := NB426_445.out; obtain ⟨hcz105_0, hcz105_1, hfz105_0, hfz105_1⟩ := bq2 BK445; obtain ⟨Ao106, co106, eo106⟩ := Kd.N_slice HO443.out; subst eo106) | ((with_reducible refine gate_dst (N := 14) rfl ?_); (try (refine gate_guard (by rfl) ?_; dsimp only)); refine box_event ?hg (N := 14) ?hd (cs := #[.int .i64 0, .slice none 0 0]) (t := 24) ?hr ?_; (case hd => rfl); (case hg => rfl); (case hr => first | (go_simp; done) | (go_simp; rfl)); intro gb446 hg w107 hbox hb; have BK446 := Aside0.mk (hbox); have GW446 := geB w hg; have GE446 := geB w hg; have NB425_446 := Aside0.mk ((by rw [hg]; exact Nat.ne_of_lt (blk_lt (g := gb425) (o := .cells #[.int .i64 a0_0, .slice A0_1 l0_1.length c0_1] 24 (0, 0)) (by (with_reducible repeat (first | refine blk_drewN ?_ _ | refine blk_drew ?_ | refine blk_alloc ?_ _)); refine blk_far ?_ NB425_445.out _; (with_reducible repeat (first | refine blk_drewN ?_ _ | refine blk_drew ?_ | refine blk_alloc ?_ _)); refine blk_far ?_ NB425_445.out _; (with_reducible repeat (first | refine blk_drewN ?_ _ | refine blk_drew ?_ | refine blk_alloc ?_ _)); exact BK425.out)) : gb425 ≠ gb446)); have NB446_425 := Aside0.mk ((by rw [hg]; exact Nat.ne_of_gt (blk_lt (g := gb425) (o := .cells #[.int .i64 a0_0, .slice A0_1 l0_1.length c0_1] 24 (0, 0)) (by (with_reducible repeat (first | refine blk_drewN ?_ _ | refine blk_drew ?_ | refine blk_alloc ?_ _)); refine blk_far ?_ NB425_445.out _; (with_reducible repeat (first | refine blk_drewN ?_ _ | refine blk_drew ?_ | refine blk_alloc ?_ _)); refine blk_far ?_ NB425_445.out _; (with_reducible repeat (first | refine blk_drewN ?_ _ | refine blk_drew ?_ | refine blk_alloc ?_ _)); exact BK425.out)) : gb446 ≠ gb425)); have NB426_446 := Aside0.mk ((by rw [hg]; exact Nat.ne_of_lt (blk_lt (g := gb426) (o := .cells #[.string a1_0, .slice A1_1 l1_1.length c1_1, .bool a1_2] 48 (0, 0)) (by (with_reducible repeat (first | refine blk_drewN ?_ _ | refine blk_drew ?_ | refine blk_alloc ?_ _)); refine blk_far ?_ NB426_445.out _; (with_reducible repeat (first | refine blk_drewN ?_ _ | refine blk_drew ?_ | refine blk_alloc ?_ _)); refine blk_far ?_ NB426_445.out _; (with_reducible repeat (first | refine blk_drewN ?_ _ | refine blk_drew ?_ | refine blk_alloc ?_ _)); exact BK426.out)) : gb426 ≠ gb446)); have NB446_426 := Aside0.mk ((by rw [hg]; exact Nat.ne_of_gt (blk_lt (g := gb426) (o := .cells #[.string a1_0, .slice A1_1 l1_1.length c1_1, .bool a1_2] 48 (0, 0)) (by (with_reducible repeat (first | refine blk_drewN ?_ _ | refine blk_drew ?_ | refine blk_alloc ?_ _)); refine blk_far ?_ NB426_445.out _; (with_reducible repeat (first | refine blk_drewN ?_ _ | refine blk_drew ?_ | refine blk_alloc ?_ _)); refine blk_far ?_ NB426_445.out _; (with_reducible repeat (first | refine blk_drewN ?_ _ | refine blk_drew ?_ | refine blk_alloc ?_ _)); exact BK426.out)) : gb446 ≠ gb426)); have NB445_446 := Aside0.mk ((by rw [hg]; exact Nat.ne_of_lt (blk_lt (g := gb445) (o := .cells #[.int .i64 t440, .slice Ao106 t441.length co106] 24 (0, 0)) (by (with_reducible repeat (first | refine blk_drewN ?_ _ | refine blk_drew ?_ | refine blk_alloc ?_ _)); refine blk_put (cs := #[.int .i64 t440, .slice none 0 0]) ?_ 1 _ rfl; (with_reducible repeat (first | refine blk_drewN ?_ _ | refine blk_drew ?_ | refine blk_alloc ?_ _)); refine blk_put (cs := #[.int .i64 0, .slice none 0 0]) ?_ 0 _ rfl; (with_reducible repeat (first | refine blk_drewN ?_ _ | refine blk_drew ?_ | refine blk_alloc ?_ _)); exact BK445.out)) : gb445 ≠ gb446)); have NB446_445 := Aside0.mk ((by rw [hg]; exact Nat.ne_of_gt (blk_lt (g := gb445) (o := .cells #[.int .i64 t440, .slice Ao106 t441.length co106] 24 (0, 0)) (by (with_reducible repeat (first | refine blk_drewN ?_ _ | refine blk_drew ?_ | refine blk_alloc ?_ _)); refine blk_put (cs := #[.int .i64 t440, .slice none 0 0]) ?_ 1 _ rfl; (with_reducible repeat (first | refine blk_drewN ?_ _ | refine blk_drew ?_ | refine blk_alloc ?_ _)); refine blk_put (cs := #[.int .i64 0, .slice none 0 0]) ?_ 0 _ rfl; (with_reducible repeat (first | refine blk_drewN ?_ _ | refine blk_drew ?_ | refine blk_alloc ?_ _)); exact BK445.out)) : gb446 ≠ gb445)); replace HO_6 := Aside0.mk (Kd.V_below (Kd.V_elderB (by (with_reducible repeat (first | apply Kd.V_alloc | apply Kd.V_drewN | apply Kd.V_drew)); exact (Kd.V_mono (Kd.V_far (p := ⟨gb445, 1, none⟩) (Kd.V_far (p := ⟨gb445, 0, none⟩) (Kd.V_mono HO_6.out (fun k_ hk => (⟨hk, hk.2⟩ : _ ∧ k_ ≠ gb445))) (fun _ hk => hk.2) (.int .i64 t440)) (fun _ hk => hk.2) (.slice Ao106 t441.length co106)) (fun _ h_ => h_.1))) gb446 (Nat.le_of_eq hg.symm)) hb); replace HO_426001 := Aside0.mk (Kd.V_below (Kd.V_elderB (by (with_reducible repeat (first | apply Kd.V_alloc | apply Kd.V_drewN | apply Kd.V_drew)); exact (Kd.V_mono (Kd.V_far (p := ⟨gb445, 1, none⟩) (Kd.V_far (p := ⟨gb445, 0, none⟩) (Kd.V_mono HO_426001.out (fun k_ hk => (⟨hk, hk.2⟩ : _ ∧ k_ ≠ gb445))) (fun _ hk => hk.2) (.int .i64 t440)) (fun _ hk => hk.2) (.slice Ao106 t441.length co106)) (fun _ h_ => h_.1))) gb446 (Nat.le_of_eq hg.symm)) hb); replace HO_427001 := Aside0.mk (Kd.V_below (Kd.V_elderB (by (with_reducible repeat (first | apply Kd.V_alloc | apply Kd.V_drewN | apply Kd.V_drew)); exact (Kd.V_mono (Kd.V_far (p := ⟨gb445, 1, none⟩) (Kd.V_far (p := ⟨gb445, 0, none⟩) (Kd.V_mono HO_427001.out (fun k_ hk => (⟨hk, hk.2⟩ : _ ∧ k_ ≠ gb445))) (fun _ hk => hk.2) (.int .i64 t440)) (fun _ hk => hk.2) (.slice Ao106 t441.length co106)) (fun _ h_ => h_.1))) gb446 (Nat.le_of_eq hg.symm)) hb); replace HO443 := Aside0.mk (Kd.N_below (Kd.N_elderB (by (with_reducible repeat (first | apply Kd.N_alloc | apply Kd.N_drewN | apply Kd.N_drew)); exact (Kd.N_mono (Kd.N_far (p := ⟨gb445, 1, none⟩) (Kd.N_far (p := ⟨gb445, 0, none⟩) (Kd.N_mono HO443.out (fun k_ hk => (⟨hk, hk.2⟩ : _ ∧ k_ ≠ gb445))) (fun _ hk => hk.2) (.int .i64 t440)) (fun _ hk => hk.2) (.slice Ao106 t441.length co106)) (fun _ h_ => h_.1))) gb446 (Nat.le_of_eq hg.symm)) hb); replace BK425 := Aside0.mk (blk_below (g := gb425) (o := .cells #[.int .i64 a0_0, .slice A0_1 l0_1.length c0_1] 24 (0, 0)) (by (with_reducible repeat (first | refine blk_drewN ?_ _ | refine blk_drew ?_ | refine blk_alloc ?_ _)); refine blk_far ?_ NB425_445.out _; (with_reducible repeat (first | refine blk_drewN ?_ _ | refine blk_drew ?_ | refine blk_alloc ?_ _)); refine blk_far ?_ NB425_445.out _; (with_reducible repeat (first | refine blk_drewN ?_ _ | refine blk_drew ?_ | refine blk_alloc ?_ _)); exact BK425.out) hb); replace BK426 := Aside0.mk (blk_below (g := gb426) (o := .cells #[.string a1_0, .slice A1_1 l1_1.length c1_1, .bool a1_2] 48 (0, 0)) (by (with_reducible repeat (first | refine blk_drewN ?_ _ | refine blk_drew ?_ | refine blk_alloc ?_ _)); refine blk_far ?_ NB426_445.out _; (with_reducible repeat (first | refine blk_drewN ?_ _ | refine blk_drew ?_ | refine blk_alloc ?_ _)); refine blk_far ?_ NB426_445.out _; (with_reducible repeat (first | refine blk_drewN ?_ _ | refine blk_drew ?_ | refine blk_alloc ?_ _)); exact BK426.out) hb); replace BK445 := Aside0.mk (blk_below (g := gb445) (o := .cells #[.int .i64 t440, .slice Ao106 t441.length co106] 24 (0, 0)) (by (with_reducible repeat (first | refine blk_drewN ?_ _ | refine blk_drew ?_ | refine blk_alloc ?_ _)); refine blk_put (cs := #[.int .i64 t440, .slice none 0 0]) ?_ 1 _ rfl; (with_reducible repeat (first | refine blk_drewN ?_ _ | refine blk_drew ?_ | refine blk_alloc ?_ _)); refine blk_put (cs := #[.int .i64 0, .slice none 0 0]) ?_ 0 _ rfl; (with_reducible repeat (first | refine blk_drewN ?_ _ | refine blk_drew ?_ | refine blk_alloc ?_ _)); exact BK445.out) hb); replace HB := Aside0.mk (below_step bel hb); clear hb hbox hg; have hnb108 := NB425_446.out; have hnc108 := NB446_425.out; obtain ⟨hcz109_0, hcz109_1, hfz109_0, hfz109_1⟩ := bq2 BK425) | (go_at_call 29; (with_reducible refine (paraphrastref01_Put.calls kj71 a0_0 (fun k_ => ((((((P0_1_ k_ ∨ P1_1_ k_) ∨ w.heap.size ≤ k_) ∧ (k_ ≠ gb425 ∧ k_ ≠ gb426)) ∧ some k_ ≠ (.slice Ao106 t441.length co106 : Value).ownBlock) ∧ k_ ≠ gb445) ∧ k_ ≠ gb446)) _ _ l0_1 a1_0 (fun k_ => ((((((P0_1_ k_ ∨ P1_1_ k_) ∨ w.heap.size ≤ k_) ∧ (k_ ≠ gb425 ∧ k_ ≠ gb426)) ∧ some k_ ≠ (.slice Ao106 t441.length co106 : Value).ownBlock) ∧ k_ ≠ gb445) ∧ k_ ≠ gb446)) _ _ l1_1 a1_2 t447 t448 _ ?side1 ?side2 A76.out).mono ?_); (case side1 => exact HO_426001.out); (case side2 => exact HO_6.out); rintro e w110 ⟨v449, rfl, ho0, hb⟩; have HO450 := Aside0.mk (Kd.N_lower (Kd.N_mono (ok' := fun k_ => ((P0_1_ k_ ∨ P1_1_ k_) ∨ w.heap.size ≤ k_) ∧ some k_ ≠ (.slice Ao106 t441.length co106 : Value).ownBlock ∧ k_ ≠ gb425 ∧ k_ ≠ gb426 ∧ k_ ≠ gb445 ∧ k_ ≠ gb446) ho0 (fun k_ hk_ => ⟨Or.elim hk_ (fun hs_ => Or.elim hs_ (fun hs_ => hs_.1.1.1.1) (fun hs_ => hs_.1.1.1.1)) (fun hn_ => (.inr (Nat.le_trans (below_size bel) hn_))), Or.elim hk_ (fun hs_ => Or.elim hs_ (fun hs_ => hs_.1.1.2) (fun hs_ => hs_.1.1.2)) (fun hn_ => (Kd.fresh' (Kd.N_lt (tw HO443.out)) k_ hn_)), Or.elim hk_ (fun hs_ => Or.elim hs_ (fun hs_ => hs_.1.1.1.2.1) (fun hs_ => hs_.1.1.1.2.1)) (fun hn_ => (Kd.freshB (g := gb425) (o := .cells #[.int .i64 a0_0, .slice A0_1 l0_1.length c0_1] 24 (0, 0)) (bk BK425) k_ hn_)), Or.elim hk_ (fun hs_ => Or.elim hs_ (fun hs_ => hs_.1.1.1.2.2) (fun hs_ => hs_.1.1.1.2.2)) (fun hn_ => (Kd.freshB (g := gb426) (o := .cells #[.string a1_0, .slice A1_1 l1_1.length c1_1, .bool a1_2] 48 (0, 0)) (bk BK426) k_ hn_)), Or.elim hk_ (fun hs_ => Or.elim hs_ (fun hs_ => hs_.1.2) (fun hs_ => hs_.1.2)) (fun hn_ => (Kd.freshB (g := gb445) (o := .cells #[.int .i64 t440, .slice Ao106 t441.length co106] 24 (0, 0)) (bk BK445) k_ hn_)), Or.elim hk_ (fun hs_ => Or.elim hs_ (fun hs_ => hs_.2) (fun hs_ => hs_.2)) (fun hn_ => (Kd.freshB (g := gb446) (o := .cells #[.int .i64 0, .slice none 0 0] 24 (0, 0)) (bk BK446) k_ hn_))⟩)) (below_size bel)); replace HO_6 := vE HO_6 (by first | exact Kd.N_base ho0 | exact Kd.R_base ho0) hb; replace HO_426001 := vE HO_426001 (by first | exact Kd.N_base ho0 | exact Kd.R_base ho0) hb; replace HO_427001 := vE HO_427001 (by first | exact Kd.N_base ho0 | exact Kd.R_base ho0) hb; replace HO443 := Aside0.mk (Kd.N_elder' (tw HO443.out) (by first | exact Kd.N_base ho0 | exact Kd.R_base ho0) hb); replace BK425 := blB BK425 hb; replace BK426 := blB BK426 hb; replace BK445 := blB BK445 hb; replace BK446 := blB BK446 hb; replace HB := Aside0.mk (below_step bel hb); (try clear hb); (try clear hb2); (try clear hk); (try clear hi); (try clear ho0); have hnb111 := NB446_426.out; have hnc111 := NB426_446.out; have hnb112 := NB446_445.out; have hnc112 := NB445_446.out; obtain ⟨hcz113_0, hcz113_1, hfz113_0, hfz113_1⟩ := bq2 BK446; obtain ⟨Ao114, co114, eo114⟩ := Kd.N_slice HO450.out; subst eo114; obtain ⟨hcz115_0, hcz115_1, hfz115_0, hfz115_1⟩ := bq2 BK445) | (go_at_call 16; (with_reducible refine (paraphrastlaw01_is.calls kj71 t440 _ _ t441 t444 t447 _ _ t448 x8_71 false _ ?side1 ?side2 ?side3 ?side4 A77.out).mono ?_); (case side1 => refine (Kd.N_reads' (e := 52) (base := w.heap.size) (ok := fun k_ => ((((((P0_1_ k_ ∨ P1_1_ k_) ∨ w.heap.size ≤ k_) ∧ (k_ ≠ gb425 ∧ k_ ≠ gb426)) ∧ k_ ≠ gb445) ∧ k_ ≠ gb446) ∧ some k_ ≠ (.slice Ao114 t448.length co114 : Value).ownBlock)) (n := t441.length) (c := co106) ?_).2.2; exact (by (with_reducible repeat (first | apply Kd.N_alloc | apply Kd.N_drewN | apply Kd.N_drew)); exact (Kd.N_mono (Kd.N_far (p := ⟨gb446, 1, none⟩) (Kd.N_far (p := ⟨gb446, 0, none⟩) (Kd.N_mono HO443.out (fun k_ hk => (⟨hk, hk.1.2⟩ : _ ∧ k_ ≠ gb446))) (fun _ hk => hk.2) (.int .i64 t447)) (fun _ hk => hk.2) (.slice Ao114 t448.length co114)) (fun _ h_ => h_.1)))); (case side2 => exact (Kd.N_reads' HO443.out).2.1); (case side3 => refine (Kd.N_reads' (e := 52) (base := w.heap.size) (ok := fun k_ => (((P0_1_ k_ ∨ P1_1_ k_) ∨ w.heap.size ≤ k_) ∧ (some k_ ≠ (.slice Ao106 t441.length co106 : Value).ownBlock ∧ (k_ ≠ gb425 ∧ (k_ ≠ gb426 ∧ (k_ ≠ gb445 ∧ k_ ≠ gb446)))))) (n := t448.length) (c := co114) ?_).2.2; exact (by (with_reducible repeat (first | apply Kd.N_alloc | apply Kd.N_drewN | apply Kd.N_drew)); exact (Kd.N_mono (Kd.N_far (p := ⟨gb446, 1, none⟩) (Kd.N_far (p := ⟨gb446, 0, none⟩) (Kd.N_mono HO450.out (fun k_ hk => (⟨hk, hk.2.2.2.2.2⟩ : _ ∧ k_ ≠ gb446))) (fun _ hk => hk.2) (.int .i64 t447)) (fun _ hk => hk.2) (.slice Ao114 t448.length co114)) (fun _ h_ => h_.1)))); (case side4 => exact (Kd.N_reads' HO450.out).2.1); rintro e w116 ⟨rfl, hb⟩; replace HO_6 := Aside0.mk (Kd.V_below (by (with_reducible repeat (first | apply Kd.V_alloc | apply Kd.V_drewN | apply Kd.V_drew)); exact (Kd.V_mono (Kd.V_far (p := ⟨gb446, 1, none⟩) (Kd.V_far (p := ⟨gb446, 0, none⟩) (Kd.V_mono HO_6.out (fun k_ hk => (⟨hk, hk.1.2⟩ : _ ∧ k_ ≠ gb446))) (fun _ hk => hk.2) (.int .i64 t447)) (fun _ hk => hk.2) (.slice Ao114 t448.length co114)) (fun _ h_ => h_.1))) hb); replace HO_426001 := Aside0.mk (Kd.V_below (by (with_reducible repeat (first | apply Kd.V_alloc | apply Kd.V_drewN | apply Kd.V_drew)); exact (Kd.V_mono (Kd.V_far (p := ⟨gb446, 1, none⟩) (Kd.V_far (p := ⟨gb446, 0, none⟩) (Kd.V_mono HO_426001.out (fun k_ hk => (⟨hk, hk.1.2⟩ : _ ∧ k_ ≠ gb446))) (fun _ hk => hk.2) (.int .i64 t447)) (fun _ hk => hk.2) (.slice Ao114 t448.length co114)) (fun _ h_ => h_.1))) hb); replace HO_427001 := Aside0.mk (Kd.V_below (by (with_reducible repeat (first | apply Kd.V_alloc | apply Kd.V_drewN | apply Kd.V_drew)); exact (Kd.V_mono (Kd.V_far (p := ⟨gb446, 1, none⟩) (Kd.V_far (p := ⟨gb446, 0, none⟩) (Kd.V_mono HO_427001.out (fun k_ hk => (⟨hk, hk.1.2⟩ : _ ∧ k_ ≠ gb446))) (fun _ hk => hk.2) (.int .i64 t447)) (fun _ hk => hk.2) (.slice Ao114 t448.length co114)) (fun _ h_ => h_.1))) hb); replace HO443 := Aside0.mk (Kd.N_below (by (with_reducible repeat (first | apply Kd.N_alloc | apply Kd.N_drewN | apply Kd.N_drew)); exact (Kd.N_mono (Kd.N_far (p := ⟨gb446, 1, none⟩) (Kd.N_far (p := ⟨gb446, 0, none⟩) (Kd.N_mono HO443.out (fun k_ hk => (⟨hk, hk.1.2⟩ : _ ∧ k_ ≠ gb446))) (fun _ hk => hk.2) (.int .i64 t447)) (fun _ hk => hk.2) (.slice Ao114 t448.length co114)) (fun _ h_ => h_.1))) hb); replace HO450 := Aside0.mk (Kd.N_below (by (with_reducible repeat (first | apply Kd.N_alloc | apply Kd.N_drewN | apply Kd.N_drew)); exact (Kd.N_mono (Kd.N_far (p := ⟨gb446, 1, none⟩) (Kd.N_far (p := ⟨gb446, 0, none⟩) (Kd.N_mono HO450.out (fun k_ hk => (⟨hk, hk.2.2.2.2.2⟩ : _ ∧ k_ ≠ gb446))) (fun _ hk => hk.2) (.int .i64 t447)) (fun _ hk => hk.2) (.slice Ao114 t448.length co114)) (fun _ h_ => h_.1))) hb); replace BK425 := Aside0.mk (blk_below (g := gb425) (o := .cells #[.int .i64 a0_0, .slice A0_1 l0_1.length c0_1] 24 (0, 0)) (by (with_reducible repeat (first | refine blk_drewN ?_ _ | refine blk_drew ?_ | refine blk_alloc ?_ _)); refine blk_far ?_ NB425_446.out _; (with_reducible repeat (first | refine blk_drewN ?_ _ | refine blk_drew ?_ | refine blk_alloc ?_ _)); refine blk_far ?_ NB425_446.out _; (with_reducible repeat (first | refine blk_drewN ?_ _ | refine blk_drew ?_ | refine blk_alloc ?_ _)); exact BK425.out) hb); replace BK426 := Aside0.mk (blk_below (g := gb426) (o := .cells #[.string a1_0, .slice A1_1 l1_1.length c1_1, .bool a1_2] 48 (0, 0)) (by (with_reducible repeat (first | refine blk_drewN ?_ _ | refine blk_drew ?_ | refine blk_alloc ?_ _)); refine blk_far ?_ NB426_446.out _; (with_reducible repeat (first | refine blk_drewN ?_ _ | refine blk_drew ?_ | refine blk_alloc ?_ _)); refine blk_far ?_ NB426_446.out _; (with_reducible repeat (first | refine blk_drewN ?_ _ | refine blk_drew ?_ | refine blk_alloc ?_ _)); exact BK426.out) hb); replace BK445 := Aside0.mk (blk_below (g := gb445) (o := .cells #[.int .i64 t440, .slice Ao106 t441.length co106] 24 (0, 0)) (by (with_reducible repeat (first | refine blk_drewN ?_ _ | refine blk_drew ?_ | refine blk_alloc ?_ _)); refine blk_far ?_ NB445_446.out _; (with_reducible repeat (first | refine blk_drewN ?_ _ | refine blk_drew ?_ | refine blk_alloc ?_ _)); refine blk_far ?_ NB445_446.out _; (with_reducible repeat (first | refine blk_drewN ?_ _ | refine blk_drew ?_ | refine blk_alloc ?_ _)); exact BK445.out) hb); replace BK446 := Aside0.mk (blk_below (g := gb446) (o := .cells #[.int .i64 t447, .slice Ao114 t448.length co114] 24 (0, 0)) (by (with_reducible repeat (first | refine blk_drewN ?_ _ | refine blk_drew ?_ | refine blk_alloc ?_ _)); refine blk_put (cs := #[.int .i64 t447, .slice none 0 0]) ?_ 1 _ rfl; (with_reducible repeat (first | refine blk_drewN ?_ _ | refine blk_drew ?_ | refine blk_alloc ?_ _)); refine blk_put (cs := #[.int .i64 0, .slice none 0 0]) ?_ 0 _ rfl; (with_reducible repeat (first | refine blk_drewN ?_ _ | refine blk_drew ?_ | refine blk_alloc ?_ _)); exact BK446.out) hb); replace HB := Aside0.mk (below_step bel hb); (try clear hb); (try clear hb2); (try clear hk); (try clear hi)))
               go_ret
               exact ⟨eN, bel⟩
             ·rw [if_neg c75] at H
              have c75b0 : (x8_71 == 0) = false := beq_eq_false_iff_ne.mpr c75
              have c75b1 : (x8_71 != 0) = true := bne_iff_ne.mpr c75
              replace H := Option.bind_eq_some_iff.mp H
              obtain ⟨t453, A1170, H⟩ := H
              replace H : (if t453 = true then ((paraphrastlaw01_alive.f kj71).bind fun t454 => (some t454)) else (some false)) = some r := H
              have A117 := Aside0.mk A1170
              clear A1170
              by_cases c118 : t453 = true
              ·subst c118
               have H1 : ((paraphrastlaw01_alive.f kj71).bind fun t454 => (some t454)) = some r := by rw [if_pos rfl] at H; exact H
               clear H
               have H := H1
               clear H1
               replace H := Option.bind_eq_some_iff.mp H
               obtain ⟨t454, A1190, H⟩ := H
               replace H : (some t454) = some r := H
               have A119 := Aside0.mk A1190
               clear A1190
               obtain rfl := Option.some.inj H
               have hnb120 := NB425_426.out
               have hnc120 := NB426_425.out
               obtain ⟨hcz121_0, hcz121_1, hfz121_0, hfz121_1⟩ := bq2 BK425
               go_wp2_with (first | (go_at_call 28; (with_reducible refine (shape_Put.calls kj71 a0_0 _ _ l0_1 a1_0 _ _ l1_1 a1_2 t440 t441 t444 _ ?side1 ?side2 ?side3 ?side4 A74.out).mono ?_); (case side1 => exact cS (Kd.V_reads' HO_426001.out).2.2); (case side2 => exact (Kd.V_reads' HO_426001.out).2.1); (case side3 => exact cS (Kd.V_reads' HO_6.out).2.2); (case side4 => exact (Kd.V_reads' HO_6.out).2.1); rintro e w122 ⟨v442, rfl, ho0, hb⟩; have HO443 := Aside0.mk (Kd.N_lower (Kd.N_mono (ok' := fun k_ => ((P0_1_ k_ ∨ P1_1_ k_) ∨ w.heap.size ≤ k_) ∧ k_ ≠ gb425 ∧ k_ ≠ gb426) (Kd.R_N (Kd.R_bound ho0)) (fun k_ hk_ => ⟨(.inr (Nat.le_trans (below_size bel) hk_.2.1)), (Kd.freshB (g := gb425) (o := .cells #[.int .i64 a0_0, .slice A0_1 l0_1.length c0_1] 24 (0, 0)) (bk BK425) k_ hk_.2.1), (Kd.freshB (g := gb426) (o := .cells #[.string a1_0, .slice A1_1 l1_1.length c1_1, .bool a1_2] 48 (0, 0)) (bk BK426) k_ hk_.2.1)⟩)) (below_size bel)); replace HO_6 := vE HO_6 (by first | exact Kd.N_base ho0 | exact Kd.R_base ho0) hb; replace HO_426001 := vE HO_426001 (by first | exact Kd.N_base ho0 | exact Kd.R_base ho0) hb; replace HO_427001 := vE HO_427001 (by first | exact Kd.N_base ho0 | exact Kd.R_base ho0) hb; replace BK425 := blB BK425 hb; replace BK426 := blB BK426 hb; replace HB := Aside0.mk (below_step bel hb); (try clear hb); (try clear hb2); (try clear hk); (try clear hi); (try clear ho0)) | ((with_reducible refine gate_dst (N := 12) rfl ?_); (try (refine gate_guard (by rfl) ?_; dsimp only)); refine box_event ?hg (N := 12) ?hd (cs := #[.int .i64 0, .slice none 0 0]) (t := 24) ?hr ?_; (case hd => rfl); (case hg => rfl); (case hr => first | (go_simp; done) | (go_simp; rfl)); intro gb445 hg w123 hbox hb; have BK445 := Aside0.mk (hbox); have GW445 := geB w hg; have GE445 := geB w hg; have NB425_445 := neL BK425 hg; have NB445_425 := neG BK425 hg; have NB426_445 := neL BK426 hg; have NB445_426 := neG BK426 hg; replace HO_6 := vB HO_6 hg hb; replace HO_426001 := vB HO_426001 hg hb; replace HO_427001 := vB HO_427001 hg hb; replace HO443 := nB HO443 hg hb; replace BK425 := blB BK425 hb; replace BK426 := blB BK426 hb; replace HB := Aside0.mk (below_step bel hb); clear hb hbox hg; have hnb124 := NB445_425.out; have hnc124 := NB425_445.out; have hnb125 := NB445_426.out; have hnc125 := NB426_445.out; obtain ⟨hcz126_0, hcz126_1, hfz126_0, hfz126_1⟩ := bq2 BK445; obtain ⟨Ao127, co127, eo127⟩ := Kd.N_slice HO443.out; subst eo127) | ((with_reducible refine gate_dst (N := 14) rfl ?_); (try (refine gate_guard (by rfl) ?_; dsimp only)); refine box_event ?hg (N := 14) ?hd (cs := #[.int .i64 0, .slice none 0 0]) (t := 24) ?hr ?_; (case hd => rfl); (case hg => rfl); (case hr => first | (go_simp; done) | (go_simp; rfl)); intro gb446 hg w128 hbox hb; have BK446 := Aside0.mk (hbox); have GW446 := geB w hg; have GE446 := geB w hg; have NB425_446 := Aside0.mk ((by rw [hg]; exact Nat.ne_of_lt (blk_lt (g := gb425) (o := .cells #[.int .i64 a0_0, .slice A0_1 l0_1.length c0_1] 24 (0, 0)) (by (with_reducible repeat (first | refine blk_drewN ?_ _ | refine blk_drew ?_ | refine blk_alloc ?_ _)); refine blk_far ?_ NB425_445.out _; (with_reducible repeat (first | refine blk_drewN ?_ _ | refine blk_drew ?_ | refine blk_alloc ?_ _)); refine blk_far ?_ NB425_445.out _; (with_reducible repeat (first | refine blk_drewN ?_ _ | refine blk_drew ?_ | refine blk_alloc ?_ _)); exact BK425.out)) : gb425 ≠ gb446)); have NB446_425 := Aside0.mk ((by rw [hg]; exact Nat.ne_of_gt (blk_lt (g := gb425) (o := .cells #[.int .i64 a0_0, .slice A0_1 l0_1.length c0_1] 24 (0, 0)) (by (with_reducible repeat (first | refine blk_drewN ?_ _ | refine blk_drew ?_ | refine blk_alloc ?_ _)); refine blk_far ?_ NB425_445.out _; (with_reducible repeat (first | refine blk_drewN ?_ _ | refine blk_drew ?_ | refine blk_alloc ?_ _)); refine blk_far ?_ NB425_445.out _; (with_reducible repeat (first | refine blk_drewN ?_ _ | refine blk_drew ?_ | refine blk_alloc ?_ _)); exact BK425.out)) : gb446 ≠ gb425)); have NB426_446 := Aside0.mk ((by rw [hg]; exact Nat.ne_of_lt (blk_lt (g := gb426) (o := .cells #[.string a1_0, .slice A1_1 l1_1.length c1_1, .bool a1_2] 48 (0, 0)) (by (with_reducible repeat (first | refine blk_drewN ?_ _ | refine blk_drew ?_ | refine blk_alloc ?_ _)); refine blk_far ?_ NB426_445.out _; (with_reducible repeat (first | refine blk_drewN ?_ _ | refine blk_drew ?_ | refine blk_alloc ?_ _)); refine blk_far ?_ NB426_445.out _; (with_reducible repeat (first | refine blk_drewN ?_ _ | refine blk_drew ?_ | refine blk_alloc ?_ _)); exact BK426.out)) : gb426 ≠ gb446)); have NB446_426 := Aside0.mk ((by rw [hg]; exact Nat.ne_of_gt (blk_lt (g := gb426) (o := .cells #[.string a1_0, .slice A1_1 l1_1.length c1_1, .bool a1_2] 48 (0, 0)) (by (with_reducible repeat (first | refine blk_drewN ?_ _ | refine blk_drew ?_ | refine blk_alloc ?_ _)); refine blk_far ?_ NB426_445.out _; (with_reducible repeat (first | refine blk_drewN ?_ _ | refine blk_drew ?_ | refine blk_alloc ?_ _)); refine blk_far ?_ NB426_445.out _; (with_reducible repeat (first | refine blk_drewN ?_ _ | refine blk_drew ?_ | refine blk_alloc ?_ _)); exact BK426.out)) : gb446 ≠ gb426)); have NB445_446 := Aside0.mk ((by rw [hg]; exact Nat.ne_of_lt (blk_lt (g := gb445) (o := .cells #[.int .i64 t440, .slice Ao127 t441.length co127] 24 (0, 0)) (by (with_reducible repeat (first | refine blk_drewN ?_ _ | refine blk_drew ?_ | refine blk_alloc ?_ _)); refine blk_put (cs := #[.int .i64 t440, .slice none 0 0]) ?_ 1 _ rfl; (with_reducible repeat (first | refine blk_drewN ?_ _ | refine blk_drew ?_ | refine blk_alloc ?_ _)); refine blk_put (cs := #[.int .i64 0, .slice none 0 0]) ?_ 0 _ rfl; (with_reducible repeat (first | refine blk_drewN ?_ _ | refine blk_drew ?_ | refine blk_alloc ?_ _)); exact BK445.out)) : gb445 ≠ gb446)); have NB446_445 := Aside0.mk ((by rw [hg]; exact Nat.ne_of_gt (blk_lt (g := gb445) (o := .cells #[.int .i64 t440, .slice Ao127 t441.length co127] 24 (0, 0)) (by (with_reducible repeat (first | refine blk_drewN ?_ _ | refine blk_drew ?_ | refine blk_alloc ?_ _)); refine blk_put (cs := #[.int .i64 t440, .slice none 0 0]) ?_ 1 _ rfl; (with_reducible repeat (first | refine blk_drewN ?_ _ | refine blk_drew ?_ | refine blk_alloc ?_ _)); refine blk_put (cs := #[.int .i64 0, .slice none 0 0]) ?_ 0 _ rfl; (with_reducible repeat (first | refine blk_drewN ?_ _ | refine blk_drew ?_ | refine blk_alloc ?_ _)); exact BK445.out)) : gb446 ≠ gb445)); replace HO_6 := Aside0.mk (Kd.V_below (Kd.V_elderB (by (with_reducible repeat (first | apply Kd.V_alloc | apply Kd.V_drewN | apply Kd.V_drew)); exact (Kd.V_mono (Kd.V_far (p := ⟨gb445, 1, none⟩) (Kd.V_far (p := ⟨gb445, 0, none⟩) (Kd.V_mono HO_6.out (fun k_ hk => (⟨hk, hk.2⟩ : _ ∧ k_ ≠ gb445))) (fun _ hk => hk.2) (.int .i64 t440)) (fun _ hk => hk.2) (.slice Ao127 t441.length co127)) (fun _ h_ => h_.1))) gb446 (Nat.le_of_eq hg.symm)) hb); replace HO_426001 := Aside0.mk (Kd.V_below (Kd.V_elderB (by (with_reducible repeat (first | apply Kd.V_alloc | apply Kd.V_drewN | apply Kd.V_drew)); exact (Kd.V_mono (Kd.V_far (p := ⟨gb445, 1, none⟩) (Kd.V_far (p := ⟨gb445, 0, none⟩) (Kd.V_mono HO_426001.out (fun k_ hk => (⟨hk, hk.2⟩ : _ ∧ k_ ≠ gb445))) (fun _ hk => hk.2) (.int .i64 t440)) (fun _ hk => hk.2) (.slice Ao127 t441.length co127)) (fun _ h_ => h_.1))) gb446 (Nat.le_of_eq hg.symm)) hb); replace HO_427001 := Aside0.mk (Kd.V_below (Kd.V_elderB (by (with_reducible repeat (first | apply Kd.V_alloc | apply Kd.V_drewN | apply Kd.V_drew)); exact (Kd.V_mono (Kd.V_far (p := ⟨gb445, 1, none⟩) (Kd.V_far (p := ⟨gb445, 0, none⟩) (Kd.V_mono HO_427001.out (fun k_ hk => (⟨hk, hk.2⟩ : _ ∧ k_ ≠ gb445))) (fun _ hk => hk.2) (.int .i64 t440)) (fun _ hk => hk.2) (.slice Ao127 t441.length co127)) (fun _ h_ => h_.1))) gb446 (Nat.le_of_eq hg.symm)) hb); replace HO443 := Aside0.mk (Kd.N_below (Kd.N_elderB (by (with_reducible repeat (first | apply Kd.N_alloc | apply Kd.N_drewN | apply Kd.N_drew)); exact (Kd.N_mono (Kd.N_far (p := ⟨gb445, 1, none⟩) (Kd.N_far (p := ⟨gb445, 0, none⟩) (Kd.N_mono HO443.out (fun k_ hk => (⟨hk, hk.2⟩ : _ ∧ k_ ≠ gb445))) (fun _ hk => hk.2) (.int .i64 t440)) (fun _ hk => hk.2) (.slice Ao127 t441.length co127)) (fun _ h_ => h_.1))) gb446 (Nat.le_of_eq hg.symm)) hb); replace BK425 := Aside0.mk (blk_below (g := gb425) (o := .cells #[.int .i64 a0_0, .slice A0_1 l0_1.length c0_1] 24 (0, 0)) (by (with_reducible repeat (first | refine blk_drewN ?_ _ | refine blk_drew ?_ | refine blk_alloc ?_ _)); refine blk_far ?_ NB425_445.out _; (with_reducible repeat (first | refine blk_drewN ?_ _ | refine blk_drew ?_ | refine blk_alloc ?_ _)); refine blk_far ?_ NB425_445.out _; (with_reducible repeat (first | refine blk_drewN ?_ _ | refine blk_drew ?_ | refine blk_alloc ?_ _)); exact BK425.out) hb); replace BK426 := Aside0.mk (blk_below (g := gb426) (o := .cells #[.string a1_0, .slice A1_1 l1_1.length c1_1, .bool a1_2] 48 (0, 0)) (by (with_reducible repeat (first | refine blk_drewN ?_ _ | refine blk_drew ?_ | refine blk_alloc ?_ _)); refine blk_far ?_ NB426_445.out _; (with_reducible repeat (first | refine blk_drewN ?_ _ | refine blk_drew ?_ | refine blk_alloc ?_ _)); refine blk_far ?_ NB426_445.out _; (with_reducible repeat (first | refine blk_drewN ?_ _ | refine blk_drew ?_ | refine blk_alloc ?_ _)); exact BK426.out) hb); replace BK445 := Aside0.mk (blk_below (g := gb445) (o := .cells #[.int .i64 t440, .slice Ao127 t441.length co127] 24 (0, 0)) (by (with_reducible repeat (first | refine blk_drewN ?_ _ | refine blk_drew ?_ | refine blk_alloc ?_ _)); refine blk_put (cs := #[.int .i64 t440, .slice none 0 0]) ?_ 1 _ rfl; (with_reducible repeat (first | refine blk_drewN ?_ _ | refine blk_drew ?_ | refine blk_alloc ?_ _)); refine blk_put (cs := #[.int .i64 0, .slice none 0 0]) ?_ 0 _ rfl; (with_reducible repeat (first | refine blk_drewN ?_ _ | refine blk_drew ?_ | refine blk_alloc ?_ _)); exact BK445.out) hb); replace HB := Aside0.mk (below_step bel hb); clear hb hbox hg; have hnb129 := NB445_446.out; have hnc129 := NB446_445.out; obtain ⟨hcz130_0, hcz130_1, hfz130_0, hfz130_1⟩ := bq2 BK445; have hnb131 := NB446_425.out; have hnc131 := NB425_446.out; have hnb132 := NB446_426.out; have hnc132 := NB426_446.out; obtain ⟨hcz133_0, hcz133_1, hfz133_0, hfz133_1⟩ := bq2 BK446) | (go_at_call 16; (refine (paraphrastlaw01_is.calls kj71 t440 _ _ t441 t444 0 _ _ ([] : List (S52)) x8_71 true _ ?side1 ?side2 ?side3 ?side4 A117.out).mono ?_); (case side1 => exact cS (Kd.N_reads' HO443.out).2.2); (case side2 => exact (Kd.N_reads' HO443.out).2.1); (case side3 => exact Kd.C_nil _ _); (case side4 => exact Nat.le_refl _); rintro e w134 ⟨rfl, hb⟩; replace HO_6 := vD HO_6 hb; replace HO_426001 := vD HO_426001 hb; replace HO_427001 := vD HO_427001 hb; replace HO443 := nD HO443 hb; replace BK425 := blB BK425 hb; replace BK426 := blB BK426 hb; replace BK445 := blB BK445 hb; replace BK446 := blB BK446 hb; replace HB := Aside0.mk (below_step bel hb); (try clear hb); (try clear hb2); (try clear hk); (try clear hi)) | (go_at_call 10; (with_reducible refine (paraphrastlaw01_alive.calls kj71  t454 _ ?side1 A119.out).mono ?_); (case side1 => first | exact HG.out | exact Glob.below HG.out bel); rintro e w135 ⟨rfl, hb⟩; replace HO_6 := vD HO_6 hb; replace HO_426001 := vD HO_426001 hb; replace HO_427001 := vD HO_427001 hb; replace HO443 := nD HO443 hb; replace BK425 := blB BK425 hb; replace BK426 := blB BK426 hb; replace BK445 := blB BK445 hb; replace BK446 := blB BK446 hb; replace HB := Aside0.mk (below_step bel hb); (try clear hb); (try clear hb2); (try clear hk); (try clear hi)))
               go_ret
               exact ⟨eN, bel⟩
              ·replace c118 := Bool.eq_false_iff.mpr c118
               subst c118
               have H1 : (some false) = some r := by rw [if_neg (show ¬ (false = true) by decide)] at H; exact H
               clear H
               have H := H1
               clear H1
               obtain rfl := Option.some.inj H
               have hnb136 := NB425_426.out
               have hnc136 := NB426_425.out
               obtain ⟨hcz137_0, hcz137_1, hfz137_0, hfz137_1⟩ := bq2 BK425
               go_wp2_with (first | (go_at_call 28; (with_reducible refine (shape_Put.calls kj71 a0_0 _ _ l0_1 a1_0 _ _ l1_1 a1_2 t440 t441 t444 _ ?side1 ?side2 ?side3 ?side4 A74.out).mono ?_); (case side1 => exact cS (Kd.V_reads' HO_426001.out).2.2); (case side2 => exact (Kd.V_reads' HO_426001.out).2.1); (case side3 => exact cS (Kd.V_reads' HO_6.out).2.2); (case side4 => exact (Kd.V_reads' HO_6.out).2.1); rintro e w138 ⟨v442, rfl, ho0, hb⟩; have HO443 := Aside0.mk (Kd.N_lower (Kd.N_mono (ok' := fun k_ => ((P0_1_ k_ ∨ P1_1_ k_) ∨ w.heap.size ≤ k_) ∧ k_ ≠ gb425 ∧ k_ ≠ gb426) (Kd.R_N (Kd.R_bound ho0)) (fun k_ hk_ => ⟨(.inr (Nat.le_trans (below_size bel) hk_.2.1)), (Kd.freshB (g := gb425) (o := .cells #[.int .i64 a0_0, .slice A0_1 l0_1.length c0_1] 24 (0, 0)) (bk BK425) k_ hk_.2.1), (Kd.freshB (g := gb426) (o := .cells #[.string a1_0, .slice A1_1 l1_1.length c1_1, .bool a1_2] 48 (0, 0)) (bk BK426) k_ hk_.2.1)⟩)) (below_size bel)); replace HO_6 := vE HO_6 (by first | exact Kd.N_base ho0 | exact Kd.R_base ho0) hb; replace HO_426001 := vE HO_426001 (by first | exact Kd.N_base ho0 | exact Kd.R_base ho0) hb; replace HO_427001 := vE HO_427001 (by first | exact Kd.N_base ho0 | exact Kd.R_base ho0) hb; replace BK425 := blB BK425 hb; replace BK426 := blB BK426 hb; replace HB := Aside0.mk (below_step bel hb); (try clear hb); (try clear hb2); (try clear hk); (try clear hi); (try clear ho0)) | ((with_reducible refine gate_dst (N := 12) rfl ?_); (try (refine gate_guard (by rfl) ?_; dsimp only)); refine box_event ?hg (N := 12) ?hd (cs := #[.int .i64 0, .slice none 0 0]) (t := 24) ?hr ?_; (case hd => rfl); (case hg => rfl); (case hr => first | (go_simp; done) | (go_simp; rfl)); intro gb445 hg w139 hbox hb; have BK445 := Aside0.mk (hbox); have GW445 := geB w hg; have GE445 := geB w hg; have NB425_445 := neL BK425 hg; have NB445_425 := neG BK425 hg; have NB426_445 := neL BK426 hg; have NB445_426 := neG BK426 hg; replace HO_6 := vB HO_6 hg hb; replace HO_426001 := vB HO_426001 hg hb; replace HO_427001 := vB HO_427001 hg hb; replace HO443 := nB HO443 hg hb; replace BK425 := blB BK425 hb; replace BK426 := blB BK426 hb; replace HB := Aside0.mk (below_step bel hb); clear hb hbox hg; have hnb140 := NB445_425.out; have hnc140 := NB425_445.out; have hnb141 := NB445_426.out; have hnc141 := NB426_445.out; obtain ⟨hcz142_0, hcz142_1, hfz142_0, hfz142_1⟩ := bq2 BK445; obtain ⟨Ao143, co143, eo143⟩ := Kd.N_slice HO443.out; subst eo143) | ((with_reducible refine gate_dst (N := 14) rfl ?_); (try (refine gate_guard (by rfl) ?_; dsimp only)); refine box_event ?hg (N := 14) ?hd (cs := #[.int .i64 0, .slice none 0 0]) (t := 24) ?hr ?_; (case hd => rfl); (case hg => rfl); (case hr => first | (go_simp; done) | (go_simp; rfl)); intro gb446 hg w144 hbox hb; have BK446 := Aside0.mk (hbox); have GW446 := geB w hg; have GE446 := geB w hg; have NB425_446 := Aside0.mk ((by rw [hg]; exact Nat.ne_of_lt (blk_lt (g := gb425) (o := .cells #[.int .i64 a0_0, .slice A0_1 l0_1.length c0_1] 24 (0, 0)) (by (with_reducible repeat (first | refine blk_drewN ?_ _ | refine blk_drew ?_ | refine blk_alloc ?_ _)); refine blk_far ?_ NB425_445.out _; (with_reducible repeat (first | refine blk_drewN ?_ _ | refine blk_drew ?_ | refine blk_alloc ?_ _)); refine blk_far ?_ NB425_445.out _; (with_reducible repeat (first | refine blk_drewN ?_ _ | refine blk_drew ?_ | refine blk_alloc ?_ _)); exact BK425.out)) : gb425 ≠ gb446)); have NB446_425 := Aside0.mk ((by rw [hg]; exact Nat.ne_of_gt (blk_lt (g := gb425) (o := .cells #[.int .i64 a0_0, .slice A0_1 l0_1.length c0_1] 24 (0, 0)) (by (with_reducible repeat (first | refine blk_drewN ?_ _ | refine blk_drew ?_ | refine blk_alloc ?_ _)); refine blk_far ?_ NB425_445.out _; (with_reducible repeat (first | refine blk_drewN ?_ _ | refine blk_drew ?_ | refine blk_alloc ?_ _)); refine blk_far ?_ NB425_445.out _; (with_reducible repeat (first | refine blk_drewN ?_ _ | refine blk_drew ?_ | refine blk_alloc ?_ _)); exact BK425.out)) : gb446 ≠ gb425)); have NB426_446 := Aside0.mk ((by rw [hg]; exact Nat.ne_of_lt (blk_lt (g := gb426) (o := .cells #[.string a1_0, .slice A1_1 l1_1.length c1_1, .bool a1_2] 48 (0, 0)) (by (with_reducible repeat (first | refine blk_drewN ?_ _ | refine blk_drew ?_ | refine blk_alloc ?_ _)); refine blk_far ?_ NB426_445.out _; (with_reducible repeat (first | refine blk_drewN ?_ _ | refine blk_drew ?_ | refine blk_alloc ?_ _)); refine blk_far ?_ NB426_445.out _; (with_reducible repeat (first | refine blk_drewN ?_ _ | refine blk_drew ?_ | refine blk_alloc ?_ _)); exact BK426.out)) : gb426 ≠ gb446)); have NB446_426 := Aside0.mk ((by rw [hg]; exact Nat.ne_of_gt (blk_lt (g := gb426) (o := .cells #[.string a1_0, .slice A1_1 l1_1.length c1_1, .bool a1_2] 48 (0, 0)) (by (with_reducible repeat (first | refine blk_drewN ?_ _ | refine blk_drew ?_ | refine blk_alloc ?_ _)); refine blk_far ?_ NB426_445.out _; (with_reducible repeat (first | refine blk_drewN ?_ _ | refine blk_drew ?_ | refine blk_alloc ?_ _)); refine blk_far ?_ NB426_445.out _; (with_reducible repeat (first | refine blk_drewN ?_ _ | refine blk_drew ?_ | refine blk_alloc ?_ _)); exact BK426.out)) : gb446 ≠ gb426)); have NB445_446 := Aside0.mk ((by rw [hg]; exact Nat.ne_of_lt (blk_lt (g := gb445) (o := .cells #[.int .i64 t440, .slice Ao143 t441.length co143] 24 (0, 0)) (by (with_reducible repeat (first | refine blk_drewN ?_ _ | refine blk_drew ?_ | refine blk_alloc ?_ _)); refine blk_put (cs := #[.int .i64 t440, .slice none 0 0]) ?_ 1 _ rfl; (with_reducible repeat (first | refine blk_drewN ?_ _ | refine blk_drew ?_ | refine blk_alloc ?_ _)); refine blk_put (cs := #[.int .i64 0, .slice none 0 0]) ?_ 0 _ rfl; (with_reducible repeat (first | refine blk_drewN ?_ _ | refine blk_drew ?_ | refine blk_alloc ?_ _)); exact BK445.out)) : gb445 ≠ gb446)); have NB446_445 := Aside0.mk ((by rw [hg]; exact Nat.ne_of_gt (blk_lt (g := gb445) (o := .cells #[.int .i64 t440, .slice Ao143 t441.length co143] 24 (0, 0)) (by (with_reducible repeat (first | refine blk_drewN ?_ _ | refine blk_drew ?_ | refine blk_alloc ?_ _)); refine blk_put (cs := #[.int .i64 t440, .slice none 0 0]) ?_ 1 _ rfl; (with_reducible repeat (first | refine blk_drewN ?_ _ | refine blk_drew ?_ | refine blk_alloc ?_ _)); refine blk_put (cs := #[.int .i64 0, .slice none 0 0]) ?_ 0 _ rfl; (with_reducible repeat (first | refine blk_drewN ?_ _ | refine blk_drew ?_ | refine blk_alloc ?_ _)); exact BK445.out)) : gb446 ≠ gb445)); replace HO_6 := Aside0.mk (Kd.V_below (Kd.V_elderB (by (with_reducible repeat (first | apply Kd.V_alloc | apply Kd.V_drewN | apply Kd.V_drew)); exact (Kd.V_mono (Kd.V_far (p := ⟨gb445, 1, none⟩) (Kd.V_far (p := ⟨gb445, 0, none⟩) (Kd.V_mono HO_6.out (fun k_ hk => (⟨hk, hk.2⟩ : _ ∧ k_ ≠ gb445))) (fun _ hk => hk.2) (.int .i64 t440)) (fun _ hk => hk.2) (.slice Ao143 t441.length co143)) (fun _ h_ => h_.1))) gb446 (Nat.le_of_eq hg.symm)) hb); replace HO_426001 := Aside0.mk (Kd.V_below (Kd.V_elderB (by (with_reducible repeat (first | apply Kd.V_alloc | apply Kd.V_drewN | apply Kd.V_drew)); exact (Kd.V_mono (Kd.V_far (p := ⟨gb445, 1, none⟩) (Kd.V_far (p := ⟨gb445, 0, none⟩) (Kd.V_mono HO_426001.out (fun k_ hk => (⟨hk, hk.2⟩ : _ ∧ k_ ≠ gb445))) (fun _ hk => hk.2) (.int .i64 t440)) (fun _ hk => hk.2) (.slice Ao143 t441.length co143)) (fun _ h_ => h_.1))) gb446 (Nat.le_of_eq hg.symm)) hb); replace HO_427001 := Aside0.mk (Kd.V_below (Kd.V_elderB (by (with_reducible repeat (first | apply Kd.V_alloc | apply Kd.V_drewN | apply Kd.V_drew)); exact (Kd.V_mono (Kd.V_far (p := ⟨gb445, 1, none⟩) (Kd.V_far (p := ⟨gb445, 0, none⟩) (Kd.V_mono HO_427001.out (fun k_ hk => (⟨hk, hk.2⟩ : _ ∧ k_ ≠ gb445))) (fun _ hk => hk.2) (.int .i64 t440)) (fun _ hk => hk.2) (.slice Ao143 t441.length co143)) (fun _ h_ => h_.1))) gb446 (Nat.le_of_eq hg.symm)) hb); replace HO443 := Aside0.mk (Kd.N_below (Kd.N_elderB (by (with_reducible repeat (first | apply Kd.N_alloc | apply Kd.N_drewN | apply Kd.N_drew)); exact (Kd.N_mono (Kd.N_far (p := ⟨gb445, 1, none⟩) (Kd.N_far (p := ⟨gb445, 0, none⟩) (Kd.N_mono HO443.out (fun k_ hk => (⟨hk, hk.2⟩ : _ ∧ k_ ≠ gb445))) (fun _ hk => hk.2) (.int .i64 t440)) (fun _ hk => hk.2) (.slice Ao143 t441.length co143)) (fun _ h_ => h_.1))) gb446 (Nat.le_of_eq hg.symm)) hb); replace BK425 := Aside0.mk (blk_below (g := gb425) (o := .cells #[.int .i64 a0_0, .slice A0_1 l0_1.length c0_1] 24 (0, 0)) (by (with_reducible repeat (first | refine blk_drewN ?_ _ | refine blk_drew ?_ | refine blk_alloc ?_ _)); refine blk_far ?_ NB425_445.out _; (with_reducible repeat (first | refine blk_drewN ?_ _ | refine blk_drew ?_ | refine blk_alloc ?_ _)); refine blk_far ?_ NB425_445.out _; (with_reducible repeat (first | refine blk_drewN ?_ _ | refine blk_drew ?_ | refine blk_alloc ?_ _)); exact BK425.out) hb); replace BK426 := Aside0.mk (blk_below (g := gb426) (o := .cells #[.string a1_0, .slice A1_1 l1_1.length c1_1, .bool a1_2] 48 (0, 0)) (by (with_reducible repeat (first | refine blk_drewN ?_ _ | refine blk_drew ?_ | refine blk_alloc ?_ _)); refine blk_far ?_ NB426_445.out _; (with_reducible repeat (first | refine blk_drewN ?_ _ | refine blk_drew ?_ | refine blk_alloc ?_ _)); refine blk_far ?_ NB426_445.out _; (with_reducible repeat (first | refine blk_drewN ?_ _ | refine blk_drew ?_ | refine blk_alloc ?_ _)); exact BK426.out) hb); replace BK445 := Aside0.mk (blk_below (g := gb445) (o := .cells #[.int .i64 t440, .slice Ao143 t441.length co143] 24 (0, 0)) (by (with_reducible repeat (first | refine blk_drewN ?_ _ | refine blk_drew ?_ | refine blk_alloc ?_ _)); refine blk_put (cs := #[.int .i64 t440, .slice none 0 0]) ?_ 1 _ rfl; (with_reducible repeat (first | refine blk_drewN ?_ _ | refine blk_drew ?_ | refine blk_alloc ?_ _)); refine blk_put (cs := #[.int .i64 0, .slice none 0 0]) ?_ 0 _ rfl; (with_reducible repeat (first | refine blk_drewN ?_ _ | refine blk_drew ?_ | refine blk_alloc ?_ _)); exact BK445.out) hb); replace HB := Aside0.mk (below_step bel hb); clear hb hbox hg; have hnb145 := NB445_446.out; have hnc145 := NB446_445.out; obtain ⟨hcz146_0, hcz146_1, hfz146_0, hfz146_1⟩ := bq2 BK445; have hnb147 := NB446_425.out; have hnc147 := NB425_446.out; have hnb148 := NB446_426.out; have hnc148 := NB426_446.out; obtain ⟨hcz149_0, hcz149_1, hfz149_0, hfz149_1⟩ := bq2 BK446) | (go_at_call 16; (refine (paraphrastlaw01_is.calls kj71 t440 _ _ t441 t444 0 _ _ ([] : List (S52)) x8_71 false _ ?side1 ?side2 ?side3 ?side4 A117.out).mono ?_); (case side1 => exact cS (Kd.N_reads' HO443.out).2.2); (case side2 => exact (Kd.N_reads' HO443.out).2.1); (case side3 => exact Kd.C_nil _ _); (case side4 => exact Nat.le_refl _); rintro e w150 ⟨rfl, hb⟩; replace HO_6 := vD HO_6 hb; replace HO_426001 := vD HO_426001 hb; replace HO_427001 := vD HO_427001 hb; replace HO443 := nD HO443 hb; replace BK425 := blB BK425 hb; replace BK426 := blB BK426 hb; replace BK445 := blB BK445 hb; replace BK446 := blB BK446 hb; replace HB := Aside0.mk (below_step bel hb); (try clear hb); (try clear hb2); (try clear hk); (try clear hi)))
               go_ret
               exact ⟨eN, bel⟩
end Go.Proofs.YtfmpaofbnjlniaaGreatDoor.F
/- ShapePuts, the plain law. -/
namespace Go.Proofs.YtfmpaofbnjlniaaGreatDoor.F
open Go.RowKit Go.Proofs.YtfmpaofbnjlniaaGreatDoorW.PrintWords Go.Proofs.YtfmpaofbnjlniaaGreatDoorW.PrintLast Go.Proofs.YtfmpaofbnjlniaaGreatDoorW.PrintMore
set_option linter.unusedVariables false
theorem has_bad (n : Int) (l : List S52) (T : Nat) (hT : T ≤ 9223372036854775807) (hall : ∀ r ∈ l, r.f2.length ≤ T) (h : validB n l = false) (nm : ByteArray) (t : List Int) (k : Nat) (hk : T + 300 ≤ k) : shape_Has.f k n l nm t = some (false, 1) := by
  unfold shape_Has.f
  rw [valid_eq n l T hT hall k hk, h, Option.bind_some]
  rfl
theorem same_empty (k : Nat) (hk : 102300 ≤ k) : paraphrastref01_Same.f k 0 [] 0 [] = some true := same_refl 0 [] (by simp) (fun r hr => by cases hr) k hk
theorem puts_law (n : Int) (l : List S52) (nm : ByteArray) (t : List Int) (b : Bool) (T : Nat) (hT : T ≤ 9223372036854775807) (hall : ∀ r ∈ l, r.f2.length ≤ T) (hL : l.length ≤ 9223372036854775807) : ∃ k, paraphrastlaw01_ShapePuts.f k n l nm t b = some true := by
  obtain ⟨K, hA⟩ := alive_true
  obtain ⟨kf, bf, hf⟩ := few_ex n l (fun r hr => Nat.le_trans (hall r hr) hT)
  have hf' : ∀ k, kf ≤ k → paraphrastlaw01_Few.f k [⟨n, l⟩] = some bf := fun k hk => at_rounds (paraphrastlaw01_Few.mono _) hk hf
  have j0t : ∀ k, K ≤ k → paraphrastlaw01_ShapePuts.j0 (k + 1) nm t b true n l = some true := fun k hk => by
    conv => lhs; unfold paraphrastlaw01_ShapePuts.j0
    dsimp only
    rw [if_pos rfl, hA k hk]; rfl
  have is_bad : ∀ (k : Nat) (e : Int), K + 102400 ≤ k → e ≠ 0 → (paraphrastlaw01_is.f k 0 [] e 0 [] e).bind (fun t426 => if t426 = true then ((paraphrastlaw01_alive.f k).bind fun t427 => (some t427)) else (some false)) = some true := fun k e hk he => by
    unfold paraphrastlaw01_is.f
    rw [if_neg he, if_pos rfl, same_empty k (by omega), Option.bind_some, Option.bind_some, if_pos rfl, hA k (by omega)]; rfl
  have j4bad : ∀ (k : Nat) (e : Int), K + 102400 ≤ k → e ≠ 0 → shape_Put.f k n l nm t b = some (0, [], e) → paraphrastlaw01_ShapePuts.j4 (k + 1) nm t b e n l = some true := fun k e hk he hp => by
    conv => lhs; unfold paraphrastlaw01_ShapePuts.j4
    dsimp only
    rw [hp, Option.bind_some, if_neg he]
    exact is_bad k e hk he
  have chain : ∀ (k : Nat) (e : Int), K + 102410 ≤ k → e ≠ 0 → (∀ k, K + 102400 ≤ k → k + 10 ≥ k → shape_Put.f k n l nm t b = some (0, [], e)) → paraphrastlaw01_ShapePuts.j2 k nm t b e (false != false) n l = some true := fun k e hk he hp => by
    obtain ⟨k, rfl⟩ : ∃ k', k = k' + 1 + 1 + 1 := ⟨k - 3, by omega⟩
    conv => lhs; unfold paraphrastlaw01_ShapePuts.j2
    dsimp only
    rw [if_neg (by simp), if_neg he]
    conv => lhs; unfold paraphrastlaw01_ShapePuts.j3
    dsimp only
    rw [if_neg (by simp)]
    exact j4bad k e (by omega) he (hp k (by omega) (by omega))
  have hAll : ∃ K2, ∀ k, K2 ≤ k → paraphrastlaw01_ShapePuts.j0 k nm t b false n l = some true := by
    refine ⟨K + T + 200000 + l.length + 10, fun k hk => ?_⟩
    obtain ⟨k, rfl⟩ : ∃ k', k = k' + 1 + 1 := ⟨k - 2, by omega⟩
    conv => lhs; unfold paraphrastlaw01_ShapePuts.j0
    dsimp only
    rw [if_neg (by simp), ref_valid_eq n l T hT hall (k + 1) (by omega)]
    cases hv : validB n l with
    | false =>
      have hh : ∀ k, K + 102400 ≤ k → T + 300 ≤ k → shape_Has.f k n l nm t = some (false, 1) := fun k _ hk => has_bad n l T hT hall hv nm t k hk
      have hj : ∀ x9, paraphrastlaw01_ShapePuts.j1 (k + 1) nm t b 1 x9 n l = some true := fun x9 => by
        conv => lhs; unfold paraphrastlaw01_ShapePuts.j1
        dsimp only
        rw [hh k (by omega) (by omega), Option.bind_some]
        simp only [if_true]
        rw [if_neg (by omega)]
        obtain ⟨k, rfl⟩ : ∃ k', k = k' + 1 + 1 + 1 := ⟨k - 3, by omega⟩
        conv => lhs; unfold paraphrastlaw01_ShapePuts.j2
        dsimp only
        rw [if_neg (by simp), if_neg (by omega)]
        conv => lhs; unfold paraphrastlaw01_ShapePuts.j3
        dsimp only
        rw [if_neg (by simp)]
        refine j4bad k 1 (by omega) (by omega) ?_
        unfold shape_Put.f
        rw [hh k (by omega) (by omega), Option.bind_some]
        rfl
      rcases find_cases n l nm hL with ⟨q, hq, e1, e2, e3⟩ | ⟨e1, e3⟩
      · rw [e3 _ (by omega), Option.bind_some, Option.bind_some, if_neg (by simp)]
        exact hj _
      · rw [e3 _ (by omega), Option.bind_some, Option.bind_some, if_neg (by simp)]
        exact hj _
    | true =>
      obtain ⟨v1, v2, v3, v4⟩ := valid_facts n l hv
      -- no relation of that name and length
      have hnone : (∀ r ∈ l, symIs nm t.length r = false) → ∀ x9, paraphrastlaw01_ShapePuts.j1 (k + 1) nm t b 4 x9 n l = some true := fun hn x9 => by
        conv => lhs; unfold paraphrastlaw01_ShapePuts.j1
        dsimp only
        rw [has_none n l hv nm t hn k (by omega), Option.bind_some]
        simp only [if_true]
        rw [if_neg (by omega)]
        obtain ⟨k, rfl⟩ : ∃ k', k = k' + 1 + 1 + 1 := ⟨k - 3, by omega⟩
        conv => lhs; unfold paraphrastlaw01_ShapePuts.j2
        dsimp only
        rw [if_neg (by simp), if_neg (by omega)]
        conv => lhs; unfold paraphrastlaw01_ShapePuts.j3
        dsimp only
        rw [if_neg (by simp)]
        refine j4bad k 4 (by omega) (by omega) ?_
        unfold shape_Put.f
        rw [has_none n l hv nm t hn k (by omega), Option.bind_some]
        rfl
      rcases find_cases n l nm (by omega) with ⟨q, hq, e1, e2, e3⟩ | ⟨e1, e3⟩
      · rw [e3 _ (by omega), Option.bind_some, Option.bind_some, if_pos rfl, if_neg (by omega), if_pos (by omega), if_pos (by omega), rdT_nat l q hq]
        by_cases hlen : l[q].f1 = (t.length : Int)
        · rw [if_pos hlen]
          subst e1
          obtain ⟨_, g1, g2, g3⟩ := v4 _ (List.getElem_mem hq)
          obtain ⟨q0, b0, hp, hb, hh, hs⟩ := has_at n l hv q hq t hlen.symm
          have hb' : b0 = decide (t ∈ l[q].f2) := by
            cases b0 with
            | true => exact (decide_eq_true (hb.1 rfl)).symm
            | false => exact (decide_eq_false (fun e => by have := hb.2 e; cases this)).symm
          conv => lhs; unfold paraphrastlaw01_ShapePuts.j1
          dsimp only
          rw [hh k (by omega), Option.bind_some]
          simp only [if_true]
          rw [if_pos (by omega), if_pos (by omega), rdT_nat l q hq, among_eq _ t (by omega) (fun a ha => by have := (g2 a ha).1; omega) k (by omega), Option.bind_some, ← hb', bne_self_eq_false]
          obtain ⟨k, rfl⟩ : ∃ k', k = k' + 1 + 1 + 1 := ⟨k - 3, by omega⟩
          conv => lhs; unfold paraphrastlaw01_ShapePuts.j2
          dsimp only
          rw [if_neg (by simp)]
          simp only [if_true]
          rw [in_elements n t (by omega) _ (by omega), elements_eq, Option.bind_some]
          conv => lhs; unfold paraphrastlaw01_ShapePuts.j3
          dsimp only
          cases ho : t.any (outB n) with
          | true =>
            rw [if_pos (by rfl)]
            refine j4bad k 2 (by omega) (by omega) ?_
            unfold shape_Put.f
            rw [hh k (by omega), Option.bind_some]
            simp only [if_true]
            rw [elements_eq, ho, Option.bind_some]
            rfl
          | false =>
            rw [if_neg (by simp)]
            obtain ⟨ts, t1, t2, t3, t4, t5, hput⟩ := put_at n l hv q hq t hlen.symm ho b
            have hr := rput_at n l hv q hq e2 t hlen.symm b ts t1 t2 t3 t4 t5 k (by omega)
            have hv2 := valid_set n l hv q hq ts t1 t2
            conv => lhs; unfold paraphrastlaw01_ShapePuts.j4
            dsimp only
            rw [hput k (by omega), Option.bind_some]
            simp only [if_true]
            rw [hr, Option.bind_some]
            unfold paraphrastlaw01_is.f
            simp only [if_true]
            rw [same_valid n _ hv2 k (by omega), Option.bind_some, Option.bind_some, if_pos rfl, hA k (by omega)]
            rfl
        · rw [if_neg hlen]
          refine hnone (fun r hr => ?_) _
          obtain ⟨j, hj, rfl⟩ := List.getElem_of_mem hr
          cases hs : symIs nm t.length l[j] with
          | false => rfl
          | true =>
            unfold symIs at hs
            simp only [Bool.and_eq_true, beq_iff_eq] at hs
            have e4 : l[j].f0 = l[q].f0 := (toList_inj hs.1).trans e1.symm
            have : j = q := by
              rcases Nat.lt_trichotomy j q with hlt | e | hlt
              · exact absurd (e4.trans e1) (e2 j hj hlt)
              · exact e
              · exact absurd (by rw [e4]) (names_ne n l hv q j hlt hj)
            subst this
            exact absurd hs.2 hlen
      · rw [e3 _ (by omega), Option.bind_some, Option.bind_some, if_pos rfl, if_pos (by omega)]
        refine hnone (fun r hr => ?_) _
        obtain ⟨j, hj, rfl⟩ := List.getElem_of_mem hr
        cases hs : symIs nm t.length l[j] with
        | false => rfl
        | true =>
          unfold symIs at hs
          simp only [Bool.and_eq_true, beq_iff_eq] at hs
          exact absurd (toList_inj hs.1) (e1 j hj)
  obtain ⟨K2, hK2⟩ := hAll
  refine ⟨kf + K + K2 + 1, ?_⟩
  unfold paraphrastlaw01_ShapePuts.f
  rw [hf' _ (by omega), Option.bind_some]
  cases bf with
  | false => rw [if_neg (by simp)]; exact j0t _ (by omega)
  | true =>
    rw [if_pos rfl]
    by_cases h1 : (nm.size : Int) > 1000
    · rw [if_pos h1]; exact j0t _ (by omega)
    · rw [if_neg h1]
      by_cases h2 : (t.length : Int) > 1000
      · rw [decide_eq_true h2]; exact j0t _ (by omega)
      · rw [decide_eq_false h2]; exact hK2 _ (by omega)
end Go.Proofs.YtfmpaofbnjlniaaGreatDoor.F
/- ShapePuts: the row and its card. -/
namespace Go.Proofs.YtfmpaofbnjlniaaGreatDoor.F
open Go.RowKit Go.WideShapes Go.ChangeShapes Go.ChangeAt Go.Proofs.YtfmpaofbnjlniaaGreatDoorW.PrintWords Go.Proofs.YtfmpaofbnjlniaaGreatDoorW.PrintLast Go.Proofs.YtfmpaofbnjlniaaGreatDoorW.PrintMore
open Go.ChangeMaps (open_string shut_string)
set_option linter.unusedVariables false
set_option linter.unusedSimpArgs false
set_option maxHeartbeats 1000000 in
set_option maxRecDepth 100000 in
theorem shapePuts_lifted (os : Os) (started : os.Started) (H : Type) (enc : TypeId × Value → H) :
    ReturnsInHanded {} Tryz.checked os 5 .any (fun w args => (Rows.shapePutsSpec.pre enc Tryz.prog Tryz.f5 Rows.shapePutsRow.domain false w args ∧ laidMetH Tryz.prog laidL w) ∧ sizedMet enc Tryz.prog Tryz.f5 (OpenSpec.ofChange Rows.shapePutsSpec) false w args)
      (Rows.shapePutsSpec.post enc Tryz.prog Tryz.f5 false true false false) := by
  refine returns_and_shaped (C := Tryz.checked) (X := fun w _ => laidMetH Tryz.prog laidL w) (fun _ _ _ hh h => h.of_heap hh) own started (by kernel_rfl) Tryz.func5
    (ChangeSpec.witness_shaped (enc := enc) (C := Tryz.checked) (os := os) (X := fun w _ => laidMetH Tryz.prog laidL w) false (World.laidAll Tryz.prog os laidL) #[.agg #[.int .i64 0, .slice none 0 0], .agg #[.string ByteArray.empty, .slice none 0 0, .bool false]] 8 (World.laidAll_os _ _ _)
      (World.shaped_of_ZipB (by kernel_rfl) (by kernel_rfl)) (by kernel_rfl) (by kernel_rfl) (by kernel_rfl)
      (by rw [MakeChecks.laidMetH_plain _ _ _ (by kernel_rfl)]; exact laidMet_laidAll _ (by kernel_rfl) (by kernel_rfl))) ?_
  intro W base args ds gs before hval0 hW hsh hL
  have hval : ∀ (j : Nat) t v, Tryz.f5.params[j]? = some t → args[j]? = some v → Value.okWide Tryz.prog W .any base t v := hval0
  have hW' := hW
  obtain ⟨p, q, hA0, hV, rfl, hfz, hnd⟩ := hW
  have hA : DataW.TrodAll enc Tryz.prog W 0 (fun _ => true) true Tryz.f5.params.toList args.toList ds p := hA0
  rw [Tryz.params5] at hA hval
  obtain ⟨v0, vs0, d0, ds0, p0, q0, hargs, rfl, rfl, h0, r0⟩ := trodAll_cons hA
  obtain ⟨v1, vs1, d1, ds1, p1, q1, rfl, rfl, rfl, h1, r1⟩ := trodAll_cons r0
  obtain ⟨rfl, rfl, rfl⟩ := trodAll_nil r1
  obtain rfl : args = #[v0, v1] := by cases args; simp_all
  obtain ⟨rfl, rfl⟩ := trodVars_none hV
  have k0 := h0
  have lt0 : ∀ x ∈ p0, x.block < W.heap.size := by obtain ⟨m, hm⟩ := k0; exact DataW.trod_lt m _ _ _ hm
  obtain ⟨cs0, rfl, _⟩ := okWide_struct Tryz.underlying24 (hval 0 24 v0 rfl rfl)
  obtain ⟨m0, e0⟩ := h0
  obtain ⟨⟨x0, l0⟩, hK0⟩ := opens_structure enc _ _ _ e0
  obtain ⟨A0, c0, ec0, hlc0, hC0⟩ := k24_open hK0
  obtain rfl : cs0 = #[.int .i64 x0, .slice A0 l0.length c0] := Array.ext' (by simpa [Value.cells] using ec0)
  have k1 := h1
  have lt1 : ∀ x ∈ p1, x.block < W.heap.size := by obtain ⟨m, hm⟩ := k1; exact DataW.trod_lt m _ _ _ hm
  obtain ⟨cs1, rfl, _⟩ := okWide_struct Tryz.underlying48 (hval 1 48 v1 rfl rfl)
  obtain ⟨m1, e1⟩ := h1
  obtain ⟨s1, l1, A1, c1, b1, ec1, hlc1, hC1⟩ := opens_change enc _ _ _ e1
  obtain rfl : cs1 = #[.string s1, .slice A1 l1.length c1, .bool b1] := Array.ext' (by simpa [Value.cells] using ec1)
  obtain ⟨k, hk⟩ := puts_law x0 l0 s1 l1 b1 9223372036854775807 (Nat.le_refl _) (rels_max hC0) (Kd.C_max hC0)
  refine (paraphrastlaw01_ShapePuts.calls k x0 (fun k => k < W.heap.size) A0 c0 l0 s1 (fun k => k < W.heap.size) A1 c1 l1 b1 true W (glob_of_laid hsh hL) (Kd.V_mk hlc0 (Kd.C_F k52_heap hC0)) (Kd.V_mk hlc1 (Kd.C_F (Kd.heap_int .i64) hC1)) hk).mono fun e W' he => ?_
  obtain ⟨he, bel⟩ := he
  subst he
  exact ⟨_, rfl, _, _, _, [], _, [], hW', trodAll_mk1 (shut_bool Tryz.underlying4 _), (trodAll_cons_mk (Below.trod laidOut (by kernel_rfl) (of_decide_eq_true (by kernel_rfl)) k0 bel lt0) (trodAll_cons_mk (Below.trod laidOut (by kernel_rfl) (of_decide_eq_true (by kernel_rfl)) k1 bel lt1) trodAll_mk0)), rfl, bel.frame _, fun h => by cases h⟩
theorem shapePuts_holds : Rows.ShapePutsSaid :=
  OpenClaim.holds_of_wide 5 Tryz.f5 rfl rfl rfl rfl rfl rfl rfl ⟨rfl, rfl, rfl, rfl, rfl⟩ rfl rfl rfl rfl rfl (by kernel_rfl) Tryz.func5 (by kernel_rfl)
    (of_decide_eq_true (by kernel_rfl)) (by unfold Func.isWrapper; first | (rw [if_pos (by decide +kernel)]; kernel_rfl) | (rw [if_neg (by decide +kernel)]; exact ⟨rfl, rfl⟩))
    (fun os started H enc _ => shapePuts_lifted os started H enc)
end Go.Proofs.YtfmpaofbnjlniaaGreatDoor.F
namespace Go.Proofs.YtfmpaofbnjlniaaGreatDoor
open F
theorem shapePuts_card : Rows.ShapePutsCardSaid :=
  Claim7.holds_tied_plain_at .later [] [.data, .data, .data, .data, .sentinel, .sentinel, .pinned] true (true, "0b2e56867fdebc6e4a4706954466a18a4e5a5153ee6e2b3ed723d8acf71f299f") true shapePuts_holds (fun _ h => by cases h) (by kernel_rfl) (fun _ h => by cases h) shapePuts_row_tie rfl ⟨rfl, rfl⟩ (by kernel_rfl) rfl
    (fun f fn hf hfn => by
      obtain rfl : f = 5 := Option.some.inj ((show Tryz.prog.funcNamed "paraphrast/paraphrastlaw01.ShapePuts" = some 5 by kernel_rfl).symm.trans hf) |>.symm
      obtain rfl : fn = Tryz.f5 := (Option.some.inj (Tryz.func5.symm.trans hfn)).symm
      exact ⟨by kernel_rfl, fun j t ht => by
        rw [Tryz.params5] at ht
        have hm : t ∈ [24, 48] := by simpa using Array.mem_of_getElem? ht
        have hall : ([24, 48].all fun u => !Tryz.prog.wantsStandIn u) = true := by kernel_rfl
        exact (show Tryz.prog.wantsStandIn t = false by simpa using List.all_eq_true.1 hall t hm)⟩)
    (by kernel_rfl)
#print axioms shapePuts_card
end Go.Proofs.YtfmpaofbnjlniaaGreatDoor
