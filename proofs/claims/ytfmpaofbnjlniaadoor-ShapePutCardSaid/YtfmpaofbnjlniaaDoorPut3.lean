/- Part 3 of the proof: ShapePut: for every structure and every list of changes, each call of Put changes exactly the one tuple that was asked for; no condition. -/
import Derived.Test.YtfmpaofbnjlniaaDoorPut2
import Derived.Test.YtfmpaofbnjlniaaDoorShelf
import Derived.Lib.SplitLaws
import Derived.Lib.Hide
import Derived.Outline
import Derived.WalkLawsBesides
import Derived.LaidEql
import Derived.Lib.CutLaws
import Derived.Defers
import Derived.Recover
import Derived.Tactics2
import Derived.Laws.Pointers
import Derived.Lib.ItoaNum
import Derived.Test.YtfmpaofbnjlniaaDoorProg
import Derived.Shelf.Strings.BuilderK
import Derived.KernelRfl
import Derived.StillTailTactics
import Derived.Deep.DeepMust
import Derived.Deep.RegionWith
import Derived.Deep.RegionHeld3
namespace Go.Proofs.YtfmpaofbnjlniaaDoor.F
open Go.RowKit Go.Proofs.YtfmpaofbnjlniaaDoorW.PrintWords Go.Proofs.YtfmpaofbnjlniaaDoorW.PrintLast Go.Proofs.YtfmpaofbnjlniaaDoorW.PrintMore
attribute [local go_sem] max2_int min2_int max_two min_two max_three min_three max_four min_four
set_option linter.unusedVariables false
set_option linter.unusedSimpArgs false
/-! ### slices_BinarySearchFunc_int_int_int: function 53 -/
def slices_BinarySearchFunc_int_int_int.l0 : Nat → List (List Int) → List Int → Int → Int → Int → Option (Int × Bool)
  | 0, _, _, _, _, _ => none
  | k + 1, x0, x1, x8, x9, x10 => if x9 < x10 then (if 0 ≤ (wrap64 ((IntKind.u64.wrap (wrap64 (x9 + x10))) / 2)) then (if (wrap64 ((IntKind.u64.wrap (wrap64 (x9 + x10))) / 2)) < (x0.length : Int) then ((slices_Compare_int_int.f k (rd_L2 x0 (wrap64 ((IntKind.u64.wrap (wrap64 (x9 + x10))) / 2))) x1).bind fun t146 => (if t146 < 0 then (slices_BinarySearchFunc_int_int_int.l0 k x0 x1 x8 (wrap64 ((wrap64 ((IntKind.u64.wrap (wrap64 (x9 + x10))) / 2)) + 1)) x10) else (slices_BinarySearchFunc_int_int_int.l0 k x0 x1 x8 x9 (wrap64 ((IntKind.u64.wrap (wrap64 (x9 + x10))) / 2))))) else (none)) else (none)) else (if x9 < x8 then (if 0 ≤ x9 then (if x9 < (x0.length : Int) then ((slices_Compare_int_int.f k (rd_L2 x0 x9) x1).bind fun t148 => (some (x9, (t148 == 0)))) else (none)) else (none)) else (some (x9, false)))
def slices_BinarySearchFunc_int_int_int.f (k : Nat) (l0 : List (List Int)) (l1 : List Int)  : Option (Int × Bool) := slices_BinarySearchFunc_int_int_int.l0 k l0 l1 (l0.length : Int) 0 (l0.length : Int)
theorem slices_BinarySearchFunc_int_int_int.mono_l : ∀ k, (∀ y0 y1 y2 y3 y4, LeO (slices_BinarySearchFunc_int_int_int.l0 k y0 y1 y2 y3 y4) (slices_BinarySearchFunc_int_int_int.l0 (k + 1) y0 y1 y2 y3 y4))
  | 0 => fun _ _ _ _ _ r h => by simp [slices_BinarySearchFunc_int_int_int.l0] at h
  | k + 1 => by
    have ih0 := slices_BinarySearchFunc_int_int_int.mono_l k
    · intro y0 y1 y2 y3 y4
      unfold slices_BinarySearchFunc_int_int_int.l0
      repeat' first
      | (with_reducible exact ih0 _ _ _ _ _)
      | (with_reducible exact slices_Compare_int_int.mono _ _ _)
      | (with_reducible exact LeO.refl _)
      | (with_reducible exact LeO.none _)
      | (with_reducible refine LeO.ite ?_ ?_)
      | (with_reducible refine LeO.bind ?_ (fun _ => ?_))
      | exact ih0 _ _ _ _ _
      | exact slices_Compare_int_int.mono _ _ _
      | exact LeO.none _
      | refine LeO.ite ?_ ?_
      | refine LeO.bind ?_ (fun _ => ?_)
theorem slices_BinarySearchFunc_int_int_int.mono : ∀ a0 a1 k, LeO (slices_BinarySearchFunc_int_int_int.f k a0 a1) (slices_BinarySearchFunc_int_int_int.f (k + 1) a0 a1) := by
  intro a0 a1 k
  have ih0 := slices_BinarySearchFunc_int_int_int.mono_l k
  unfold slices_BinarySearchFunc_int_int_int.f
  repeat' first
      | (with_reducible exact ih0 _ _ _ _ _)
      | (with_reducible exact slices_Compare_int_int.mono _ _ _)
      | (with_reducible exact LeO.refl _)
      | (with_reducible exact LeO.none _)
      | (with_reducible refine LeO.ite ?_ ?_)
      | (with_reducible refine LeO.bind ?_ (fun _ => ?_))
      | exact ih0 _ _ _ _ _
      | exact slices_Compare_int_int.mono _ _ _
      | exact LeO.none _
      | refine LeO.ite ?_ ?_
      | refine LeO.bind ?_ (fun _ => ?_)
set_option maxHeartbeats 8000000 in
set_option maxRecDepth 100000 in
theorem slices_BinarySearchFunc_int_int_int.calls (k : Nat) (A0 : Option Addr) (c0 : Nat) (l0 : List (List Int)) (A1 : Option Addr) (c1 : Nat) (l1 : List Int)  (r1 : Int) (r2 : Bool) (w : World) (hr0 : Kd.C (Kd.slice 3 (Kd.int .i64)) w A0 l0.length l0) (hc0 : l0.length ≤ c0) (hr1 : Kd.C (Kd.int .i64) w A1 l1.length l1) (hc1 : l1.length ≤ c1) (h : slices_BinarySearchFunc_int_int_int.f k l0 l1 = some (r1, r2)) :
    Calls Tryd.prog 53 #[.slice A0 l0.length c0, .slice A1 l1.length c1, .func (.func 54) #[] #[]] w fun e w' => e = .returned (.tuple #[.int .i64 r1, .bool r2]) ∧ Drawn0 w w' := by
  have HR0 := Aside0.mk hr0
  have HC0 := Aside0.mk hc0
  clear hr0 hc0
  have HR1 := Aside0.mk hr1
  have HC1 := Aside0.mk hc1
  clear hr1 hc1
  have H : (slices_BinarySearchFunc_int_int_int.l0 k l0 l1 (l0.length : Int) 0 (l0.length : Int)) = some (r1, r2) := h
  clear h
  have H' := Aside0.mk H
  clear H
  go_enter Tryd.func53, Tryd.ntmps53
  go_wp2
  go_loopg [9, 10] k (fun kq v9 v10 w' => ∃ (x9_1 : Int) (x10_1 : Int), v9 = .int .i64 x9_1 ∧ v10 = .int .i64 x10_1 ∧ Aside0 (slices_BinarySearchFunc_int_int_int.l0 kq l0 l1 (l0.length : Int) x9_1 x10_1 = some (r1, r2)) ∧ Aside0 (kq ≤ k) ∧ Drawn0 w w')
  case atStart => exact ⟨(0), ((l0.length : Int)), (by first | rfl | (simp; done) | (simp [*]; done)), (by first | rfl | (simp; done) | (simp [*]; done)), H', ⟨Nat.le_refl _⟩, by repeat (first | exact Drawn0.refl _ | apply Drawn0.step)⟩
  case round =>
    clear H'
    try clear c1
    try clear p2
    obtain ⟨x9_1, x10_1, rfl, rfl, HA, HK1, ⟨m1, rfl⟩⟩ := hrel
    cases gk with
    | zero => exact absurd HA.out (by simp [slices_BinarySearchFunc_int_int_int.l0])
    | succ k1 =>
      have H := HA.out
      clear HA
      simp only [slices_BinarySearchFunc_int_int_int.l0] at H
      by_cases c4 : x9_1 < x10_1
      · rw [if_pos c4] at H
        have c4b0 : decide (x9_1 < x10_1) = true := decide_eq_true c4
        clear c4
        obtain ⟨ji5, hji5⟩ : ∃ j_ : Int, (wrap64 ((IntKind.u64.wrap (wrap64 (x9_1 + x10_1))) / 2)) = j_ := ⟨_, rfl⟩
        replace H : (if 0 ≤ (ji5) then (if (ji5) < (l0.length : Int) then ((slices_Compare_int_int.f k1 (rd_L2 l0 (ji5)) l1).bind fun t146 => (if t146 < 0 then (slices_BinarySearchFunc_int_int_int.l0 k1 l0 l1 (l0.length : Int) (wrap64 ((ji5) + 1)) x10_1) else (slices_BinarySearchFunc_int_int_int.l0 k1 l0 l1 (l0.length : Int) x9_1 ji5))) else (none)) else (none)) = some (r1, r2) := by first | (rw [hji5] at H; exact H) | (simp only [hji5] at H ⊢; exact H)
        have hji5w : (IntKind.i64.wrap ((IntKind.u64.wrap (wrap64 (x9_1 + x10_1))) / 2)) = ji5 := (i64_w _).trans hji5
        by_cases c6 : 0 ≤ (ji5)
        · rw [if_pos c6] at H
          have c6b0 : decide (0 ≤ (ji5)) = true := decide_eq_true c6
          clear c6
          by_cases c7 : (ji5) < (l0.length : Int)
          · rw [if_pos c7] at H
            have c7b0 : decide ((ji5) < (l0.length : Int)) = true := decide_eq_true c7
            clear c7
            replace H := Option.bind_eq_some_iff.mp H
            obtain ⟨t146, A80, H⟩ := H
            replace H : (if t146 < 0 then (slices_BinarySearchFunc_int_int_int.l0 k1 l0 l1 (l0.length : Int) (wrap64 ((ji5) + 1)) x10_1) else (slices_BinarySearchFunc_int_int_int.l0 k1 l0 l1 (l0.length : Int) x9_1 ji5)) = some (r1, r2) := H
            have A8 := Aside0.mk A80
            clear A80
            by_cases c9 : t146 < 0
            · rw [if_pos c9] at H
              have c9b0 : decide (t146 < 0) = true := decide_eq_true c9
              clear c9
              have H' := Aside0.mk H
              clear H
              have p145 : 0 ≤ ((ji5) : Int) := of_decide_eq_true (by first | (with_reducible assumption) | assumption)
              have q145 : (ji5) < (l0.length : Int) := of_decide_eq_true (by first | (with_reducible assumption) | assumption)
              obtain ⟨ad145, A145_0, c145_0, e145, hx145_0, hl145_0, hi145_0⟩ := at_L2 HR0.out (ji5) p145 q145
              cases e145
              have HR145_0 := Aside0.mk hi145_0
              have HC145_0 := Aside0.mk hl145_0
              clear hi145_0 hl145_0
              replace p145 := eq_true p145
              replace q145 := eq_true q145
              go_wp2_with (first | (go_at_call 54; (with_reducible refine (slices_Compare_int_int.calls k1 _ _ (rd_L2 l0 (ji5)) _ _ l1 t146 _ ?side1 ?side2 ?side3 ?side4 A8.out).mono ?_); (case side1 => repeat (first | exact HR145_0.out | (with_reducible refine Kd.C_alloc ?_ _) | (with_reducible refine Kd.C_drewN ?_ _) | (with_reducible refine Kd.C_drew ?_))); (case side2 => exact HC145_0.out); (case side3 => repeat (first | exact HR1.out | (with_reducible refine Kd.C_alloc ?_ _) | (with_reducible refine Kd.C_drewN ?_ _) | (with_reducible refine Kd.C_drew ?_))); (case side4 => exact HC1.out); rintro e w' ⟨rfl, ⟨nd, rfl⟩⟩))
              go_roundg k1
              case measure => have := HK1.out; omega
              case rel => exact ⟨(wrap64 ((ji5) + 1)), (x10_1), (by first | rfl | (simp; done) | (simp only [← hji5] <;> (first | rfl | simp)) | (simp [*]; done)), (by first | rfl | (simp; done) | (simp [*]; done)), H', ⟨by have := HK1.out; omega⟩, by repeat (first | exact Drawn0.refl _ | apply Drawn0.step)⟩
            · rw [if_neg c9] at H
              have c9b0 : decide (t146 < 0) = false := decide_eq_false c9
              clear c9
              have H' := Aside0.mk H
              clear H
              have p145 : 0 ≤ ((ji5) : Int) := of_decide_eq_true (by first | (with_reducible assumption) | assumption)
              have q145 : (ji5) < (l0.length : Int) := of_decide_eq_true (by first | (with_reducible assumption) | assumption)
              obtain ⟨ad145, A145_0, c145_0, e145, hx145_0, hl145_0, hi145_0⟩ := at_L2 HR0.out (ji5) p145 q145
              cases e145
              have HR145_0 := Aside0.mk hi145_0
              have HC145_0 := Aside0.mk hl145_0
              clear hi145_0 hl145_0
              replace p145 := eq_true p145
              replace q145 := eq_true q145
              go_wp2_with (first | (go_at_call 54; (with_reducible refine (slices_Compare_int_int.calls k1 _ _ (rd_L2 l0 (ji5)) _ _ l1 t146 _ ?side1 ?side2 ?side3 ?side4 A8.out).mono ?_); (case side1 => repeat (first | exact HR145_0.out | (with_reducible refine Kd.C_alloc ?_ _) | (with_reducible refine Kd.C_drewN ?_ _) | (with_reducible refine Kd.C_drew ?_))); (case side2 => exact HC145_0.out); (case side3 => repeat (first | exact HR1.out | (with_reducible refine Kd.C_alloc ?_ _) | (with_reducible refine Kd.C_drewN ?_ _) | (with_reducible refine Kd.C_drew ?_))); (case side4 => exact HC1.out); rintro e w' ⟨rfl, ⟨nd, rfl⟩⟩))
              go_roundg k1
              case measure => have := HK1.out; omega
              case rel => exact ⟨(x9_1), (ji5), (by first | rfl | (simp; done) | (simp [*]; done)), (by first | rfl | (simp; done) | (simp only [← hji5] <;> (first | rfl | simp)) | (simp [*]; done)), H', ⟨by have := HK1.out; omega⟩, by repeat (first | exact Drawn0.refl _ | apply Drawn0.step)⟩
          · rw [if_neg c7] at H
            exact absurd H (by simp)
        · rw [if_neg c6] at H
          exact absurd H (by simp)
      · rw [if_neg c4] at H
        have c4b0 : decide (x9_1 < x10_1) = false := decide_eq_false c4
        clear c4
        by_cases c10 : x9_1 < (l0.length : Int)
        · rw [if_pos c10] at H
          have c10b0 : decide (x9_1 < (l0.length : Int)) = true := decide_eq_true c10
          clear c10
          by_cases c11 : 0 ≤ x9_1
          · rw [if_pos c11] at H
            have c11b0 : decide (0 ≤ x9_1) = true := decide_eq_true c11
            clear c11
            by_cases c12 : x9_1 < (l0.length : Int)
            · rw [if_pos c12] at H
              have c12b0 : decide (x9_1 < (l0.length : Int)) = true := decide_eq_true c12
              clear c12
              replace H := Option.bind_eq_some_iff.mp H
              obtain ⟨t148, A130, H⟩ := H
              replace H : (some (x9_1, (t148 == 0))) = some (r1, r2) := H
              have A13 := Aside0.mk A130
              clear A130
              simp only [Option.some.injEq, Prod.mk.injEq] at H
              obtain ⟨rfl, rfl⟩ := H
              have p147 : 0 ≤ (x9_1 : Int) := of_decide_eq_true (by first | (with_reducible assumption) | assumption)
              have q147 : x9_1 < (l0.length : Int) := of_decide_eq_true (by first | (with_reducible assumption) | assumption)
              obtain ⟨ad147, A147_0, c147_0, e147, hx147_0, hl147_0, hi147_0⟩ := at_L2 HR0.out x9_1 p147 q147
              cases e147
              have HR147_0 := Aside0.mk hi147_0
              have HC147_0 := Aside0.mk hl147_0
              clear hi147_0 hl147_0
              replace p147 := eq_true p147
              replace q147 := eq_true q147
              go_wp2_with (first | (go_at_call 54; (with_reducible refine (slices_Compare_int_int.calls k1 _ _ (rd_L2 l0 x9_1) _ _ l1 t148 _ ?side1 ?side2 ?side3 ?side4 A13.out).mono ?_); (case side1 => repeat (first | exact HR147_0.out | (with_reducible refine Kd.C_alloc ?_ _) | (with_reducible refine Kd.C_drewN ?_ _) | (with_reducible refine Kd.C_drew ?_))); (case side2 => exact HC147_0.out); (case side3 => repeat (first | exact HR1.out | (with_reducible refine Kd.C_alloc ?_ _) | (with_reducible refine Kd.C_drewN ?_ _) | (with_reducible refine Kd.C_drew ?_))); (case side4 => exact HC1.out); rintro e w' ⟨rfl, ⟨nd, rfl⟩⟩))
              go_ret2
              exact ⟨by first | rfl | (simp; done) | (simp [*]; done), by repeat (first | exact Drawn0.refl _ | apply Drawn0.step)⟩
            · rw [if_neg c12] at H
              exact absurd H (by simp)
          · rw [if_neg c11] at H
            exact absurd H (by simp)
        · rw [if_neg c10] at H
          have c10b0 : decide (x9_1 < (l0.length : Int)) = false := decide_eq_false c10
          clear c10
          simp only [Option.some.injEq, Prod.mk.injEq] at H
          obtain ⟨rfl, rfl⟩ := H
          go_wp2
          go_ret2
          exact ⟨by first | rfl | (simp; done) | (simp [*]; done), by repeat (first | exact Drawn0.refl _ | apply Drawn0.step)⟩
end Go.Proofs.YtfmpaofbnjlniaaDoor.F
namespace Go.Proofs.YtfmpaofbnjlniaaDoor.F
open Go.RowKit Go.Proofs.YtfmpaofbnjlniaaDoorW.PrintWords Go.Proofs.YtfmpaofbnjlniaaDoorW.PrintLast Go.Proofs.YtfmpaofbnjlniaaDoorW.PrintMore
attribute [local go_sem] max2_int min2_int max_two min_two max_three min_three max_four min_four
set_option linter.unusedVariables false
set_option linter.unusedSimpArgs false
/-! ### shape_Has: function 30 -/
def shape_Has.f (k : Nat) (a0_0 : Int) (l0_1 : List (S54)) (a1 : ByteArray) (l2 : List Int) : Option (Bool × Int) := (shape_Valid.f k a0_0 l0_1).bind fun t150 => (if t150 = true then ((shape_Find.f a0_0 l0_1 a1 (l2.length : Int)).bind fun t151 => (if t151 < 0 then (some (false, 4)) else (if 0 ≤ t151 then (if t151 < (l0_1.length : Int) then ((slices_BinarySearchFunc_int_int_int.f k ((rd_T54 l0_1 t151).f2) l2).bind fun bt153 => (some (bt153.2, 0))) else (none)) else (none)))) else (some (false, 1)))
theorem shape_Has.mono : ∀ a0 a1 a2 a3 k, LeO (shape_Has.f k a0 a1 a2 a3) (shape_Has.f (k + 1) a0 a1 a2 a3) := by
  intro a0 a1 a2 a3 k
  unfold shape_Has.f
  repeat' first
      | (with_reducible exact shape_Valid.mono _ _ _)
      | (with_reducible exact slices_BinarySearchFunc_int_int_int.mono _ _ _)
      | (with_reducible exact LeO.refl _)
      | (with_reducible exact LeO.none _)
      | (with_reducible refine LeO.ite ?_ ?_)
      | (with_reducible refine LeO.bind ?_ (fun _ => ?_))
      | exact shape_Valid.mono _ _ _
      | exact slices_BinarySearchFunc_int_int_int.mono _ _ _
      | exact LeO.none _
      | refine LeO.ite ?_ ?_
      | refine LeO.bind ?_ (fun _ => ?_)
set_option maxHeartbeats 8000000 in
set_option maxRecDepth 100000 in
theorem shape_Has.calls (k : Nat) (a0_0 : Int) (A0_1 : Option Addr) (c0_1 : Nat) (l0_1 : List (S54)) (a1 : ByteArray) (A2 : Option Addr) (c2 : Nat) (l2 : List Int) (r1 : Bool) (r2 : Int) (w : World) (hr0_1 : Kd.C k54 w A0_1 l0_1.length l0_1) (hc0_1 : l0_1.length ≤ c0_1) (hr2 : Kd.C (Kd.int .i64) w A2 l2.length l2) (hc2 : l2.length ≤ c2) (h : shape_Has.f k a0_0 l0_1 a1 l2 = some (r1, r2)) :
    Calls Tryd.prog 30 #[.agg #[.int .i64 a0_0, .slice A0_1 l0_1.length c0_1], .string a1, .slice A2 l2.length c2] w fun e w' => e = .returned (.tuple #[.bool r1, .int .i64 r2]) ∧ Below w.heap.size w w' := by
  have hu38 := Tryd.underlying38
  have HR0_1 := Aside0.mk hr0_1
  have HC0_1 := Aside0.mk hc0_1
  clear hr0_1 hc0_1
  have HR2 := Aside0.mk hr2
  have HC2 := Aside0.mk hc2
  clear hr2 hc2
  have HB := Aside0.mk (Below.refl w.heap.size w)
  have H : ((shape_Valid.f k a0_0 l0_1).bind fun t150 => (if t150 = true then ((shape_Find.f a0_0 l0_1 a1 (l2.length : Int)).bind fun t151 => (if t151 < 0 then (some (false, 4)) else (if 0 ≤ t151 then (if t151 < (l0_1.length : Int) then ((slices_BinarySearchFunc_int_int_int.f k ((rd_T54 l0_1 t151).f2) l2).bind fun bt153 => (some (bt153.2, 0))) else (none)) else (none)))) else (some (false, 1)))) = some (r1, r2) := h
  clear h
  replace H := Option.bind_eq_some_iff.mp H
  obtain ⟨t150, A40, H⟩ := H
  replace H : (if t150 = true then ((shape_Find.f a0_0 l0_1 a1 (l2.length : Int)).bind fun t151 => (if t151 < 0 then (some (false, 4)) else (if 0 ≤ t151 then (if t151 < (l0_1.length : Int) then ((slices_BinarySearchFunc_int_int_int.f k ((rd_T54 l0_1 t151).f2) l2).bind fun bt153 => (some (bt153.2, 0))) else (none)) else (none)))) else (some (false, 1))) = some (r1, r2) := H
  have A4 := Aside0.mk A40
  clear A40
  by_cases c5 : t150 = true
  · subst c5
    have H1 : ((shape_Find.f a0_0 l0_1 a1 (l2.length : Int)).bind fun t151 => (if t151 < 0 then (some (false, 4)) else (if 0 ≤ t151 then (if t151 < (l0_1.length : Int) then ((slices_BinarySearchFunc_int_int_int.f k ((rd_T54 l0_1 t151).f2) l2).bind fun bt153 => (some (bt153.2, 0))) else (none)) else (none)))) = some (r1, r2) := by rw [if_pos rfl] at H; exact H
    clear H
    have H := H1
    clear H1
    replace H := Option.bind_eq_some_iff.mp H
    obtain ⟨t151, A60, H⟩ := H
    replace H : (if t151 < 0 then (some (false, 4)) else (if 0 ≤ t151 then (if t151 < (l0_1.length : Int) then ((slices_BinarySearchFunc_int_int_int.f k ((rd_T54 l0_1 t151).f2) l2).bind fun bt153 => (some (bt153.2, 0))) else (none)) else (none))) = some (r1, r2) := H
    have A6 := Aside0.mk A60
    clear A60
    by_cases c7 : t151 < 0
    · rw [if_pos c7] at H
      have c7b0 : decide (t151 < 0) = true := decide_eq_true c7
      clear c7
      simp only [Option.some.injEq, Prod.mk.injEq] at H
      obtain ⟨rfl, rfl⟩ := H
      go_enter Tryd.func30, Tryd.ntmps30
      go_wp2_with (first | ((with_reducible refine gate_dst (N := 3) rfl ?_); refine box_event ?hg (N := 3) ?hd (cs := #[.int .i64 a0_0, .slice A0_1 l0_1.length c0_1]) (t := 38) ?hr ?_; (case hd => rfl); (case hg => rfl); (case hr => first | (go_simp; done) | (go_simp; rfl)); intro gb149 hg w8 hbox hb; have n0_ := Aside0.mk (below_step (by repeat (first | (with_reducible first | exact HB.out | apply below_alloc | apply pw_below_drewN | apply below_drew1) | exact HB.out)) hb); have n1_ := Aside0.mk (hbox); have n2_ := Aside0.mk ((by rw [hg]; exact (below_size (by repeat (first | (with_reducible first | exact HB.out | apply below_alloc | apply pw_below_drewN | apply below_drew1) | exact HB.out))) : w.heap.size ≤ gb149)); have n3_ := Aside0.mk ((by rw [hg]; exact (below_size (by repeat (first | (with_reducible first | exact HB.out | apply below_alloc | apply pw_below_drewN | apply below_drew1) | exact HB.out))) : w.heap.size ≤ gb149)); clear HB; have HB := n0_; have BK149 := n1_; have GW149 := n2_; have GE149 := n3_; clear n0_ n1_ n2_ n3_; clear hb hbox hg; have hcz9_0 : w8.cell? ⟨gb149, 0, none⟩ = some (.int .i64 a0_0) := (blk_cell BK149.out 0).trans rfl; have hcz9_1 : w8.cell? ⟨gb149, 1, none⟩ = some (.slice A0_1 l0_1.length c0_1) := (blk_cell BK149.out 1).trans rfl; have hfz9_0 := blk_frozen BK149.out 0; have hfz9_1 := blk_frozen BK149.out 1) | ((with_reducible refine gate_callee (f := 21) rfl ?_); refine goesL_ (some 12) rfl rfl Tryd.func21 (by kernel_rfl) rfl #[.agg #[.int .i64 a0_0, .slice A0_1 l0_1.length c0_1]] rfl (by (try simp only [List.map_toArray, List.map_cons, List.map_nil]); first | done | rfl | (simp only [List.length_drop, List.length_take]; rfl)) ?_; (with_reducible refine (shape_Valid.calls k a0_0 _ _ l0_1 true _ ?side1 ?side2 A4.out).mono ?_); (case side1 => repeat (first | exact (Kd.C_below HR0_1.out HB.out) | (with_reducible refine Kd.C_alloc ?_ _) | (with_reducible refine Kd.C_drewN ?_ _) | (with_reducible refine Kd.C_drew ?_))); (case side2 => exact HC0_1.out); rintro e w10 ⟨rfl, hb⟩; refine ⟨_, rfl, ?_⟩; have n0_ := Aside0.mk (blk_below (g := gb149) (o := .cells #[.int .i64 a0_0, .slice A0_1 l0_1.length c0_1] 38 (0, 0)) (by (with_reducible repeat (first | refine blk_drewN ?_ _ | refine blk_drew ?_ | refine blk_alloc ?_ _)); exact BK149.out) hb); have n1_ := Aside0.mk (below_step (by repeat (first | (with_reducible first | exact HB.out | apply below_alloc | apply pw_below_drewN | apply below_drew1 | refine below_set ?_ GE149.out) | exact HB.out)) hb); clear BK149; clear HB; have BK149 := n0_; have HB := n1_; clear n0_ n1_; (try clear hb); (try clear hb2); (try clear hk); (try clear hi); have hcz11_0 : w10.cell? ⟨gb149, 0, none⟩ = some (.int .i64 a0_0) := (blk_cell BK149.out 0).trans rfl; have hcz11_1 : w10.cell? ⟨gb149, 1, none⟩ = some (.slice A0_1 l0_1.length c0_1) := (blk_cell BK149.out 1).trans rfl; have hfz11_0 := blk_frozen BK149.out 0; have hfz11_1 := blk_frozen BK149.out 1) | ((with_reducible refine gate_callee (f := 52) rfl ?_); refine goesL_ (some 18) rfl rfl Tryd.func52 (by kernel_rfl) rfl #[.agg #[.int .i64 a0_0, .slice A0_1 l0_1.length c0_1], .string a1, .int .i64 (l2.length : Int)] rfl (by (try simp only [List.map_toArray, List.map_cons, List.map_nil]); first | done | rfl | (simp only [List.length_drop, List.length_take]; rfl)) ?_; (with_reducible refine (shape_Find.calls a0_0 _ _ l0_1 a1 (l2.length : Int) t151 _ ?side1 ?side2 A6.out).mono ?_); (case side1 => repeat (first | exact (Kd.C_below HR0_1.out HB.out) | (with_reducible refine Kd.C_alloc ?_ _) | (with_reducible refine Kd.C_drewN ?_ _) | (with_reducible refine Kd.C_drew ?_))); (case side2 => exact HC0_1.out); rintro e w12 ⟨rfl, hb⟩; refine ⟨_, rfl, ?_⟩; have n0_ := Aside0.mk (blk_below (g := gb149) (o := .cells #[.int .i64 a0_0, .slice A0_1 l0_1.length c0_1] 38 (0, 0)) (by (with_reducible repeat (first | refine blk_drewN ?_ _ | refine blk_drew ?_ | refine blk_alloc ?_ _)); exact BK149.out) hb); have n1_ := Aside0.mk (below_step (by repeat (first | (with_reducible first | exact HB.out | apply below_alloc | apply pw_below_drewN | apply below_drew1 | refine below_set ?_ GE149.out) | exact HB.out)) hb); clear BK149; clear HB; have BK149 := n0_; have HB := n1_; clear n0_ n1_; (try clear hb); (try clear hb2); (try clear hk); (try clear hi)))
      go_ret2
      exact ⟨by first | rfl | (simp [errW_none, errW_some] <;> rfl) | (simp [*, errW_none, errW_some] <;> rfl), by repeat (first | (with_reducible first | exact HB.out | apply below_alloc | apply pw_below_drewN | apply below_drew1 | refine below_set ?_ GE149.out) | exact HB.out)⟩
    · rw [if_neg c7] at H
      have c7b0 : decide (t151 < 0) = false := decide_eq_false c7
      clear c7
      by_cases c13 : 0 ≤ t151
      · rw [if_pos c13] at H
        have c13b0 : decide (0 ≤ t151) = true := decide_eq_true c13
        clear c13
        by_cases c14 : t151 < (l0_1.length : Int)
        · rw [if_pos c14] at H
          have c14b0 : decide (t151 < (l0_1.length : Int)) = true := decide_eq_true c14
          clear c14
          replace H := Option.bind_eq_some_iff.mp H
          obtain ⟨⟨t153, t154⟩, A150, H⟩ := H
          replace H : (some (t154, 0)) = some (r1, r2) := H
          have A15 := Aside0.mk A150
          clear A150
          simp only [Option.some.injEq, Prod.mk.injEq] at H
          obtain ⟨rfl, rfl⟩ := H
          go_enter Tryd.func30, Tryd.ntmps30
          go_wp2_with (first | ((with_reducible refine gate_dst (N := 3) rfl ?_); refine box_event ?hg (N := 3) ?hd (cs := #[.int .i64 a0_0, .slice A0_1 l0_1.length c0_1]) (t := 38) ?hr ?_; (case hd => rfl); (case hg => rfl); (case hr => first | (go_simp; done) | (go_simp; rfl)); intro gb149 hg w16 hbox hb; have n0_ := Aside0.mk (below_step (by repeat (first | (with_reducible first | exact HB.out | apply below_alloc | apply pw_below_drewN | apply below_drew1) | exact HB.out)) hb); have n1_ := Aside0.mk (hbox); have n2_ := Aside0.mk ((by rw [hg]; exact (below_size (by repeat (first | (with_reducible first | exact HB.out | apply below_alloc | apply pw_below_drewN | apply below_drew1) | exact HB.out))) : w.heap.size ≤ gb149)); have n3_ := Aside0.mk ((by rw [hg]; exact (below_size (by repeat (first | (with_reducible first | exact HB.out | apply below_alloc | apply pw_below_drewN | apply below_drew1) | exact HB.out))) : w.heap.size ≤ gb149)); clear HB; have HB := n0_; have BK149 := n1_; have GW149 := n2_; have GE149 := n3_; clear n0_ n1_ n2_ n3_; clear hb hbox hg; have hcz17_0 : w16.cell? ⟨gb149, 0, none⟩ = some (.int .i64 a0_0) := (blk_cell BK149.out 0).trans rfl; have hcz17_1 : w16.cell? ⟨gb149, 1, none⟩ = some (.slice A0_1 l0_1.length c0_1) := (blk_cell BK149.out 1).trans rfl; have hfz17_0 := blk_frozen BK149.out 0; have hfz17_1 := blk_frozen BK149.out 1) | ((with_reducible refine gate_callee (f := 21) rfl ?_); refine goesL_ (some 12) rfl rfl Tryd.func21 (by kernel_rfl) rfl #[.agg #[.int .i64 a0_0, .slice A0_1 l0_1.length c0_1]] rfl (by (try simp only [List.map_toArray, List.map_cons, List.map_nil]); first | done | rfl | (simp only [List.length_drop, List.length_take]; rfl)) ?_; (with_reducible refine (shape_Valid.calls k a0_0 _ _ l0_1 true _ ?side1 ?side2 A4.out).mono ?_); (case side1 => repeat (first | exact (Kd.C_below HR0_1.out HB.out) | (with_reducible refine Kd.C_alloc ?_ _) | (with_reducible refine Kd.C_drewN ?_ _) | (with_reducible refine Kd.C_drew ?_))); (case side2 => exact HC0_1.out); rintro e w18 ⟨rfl, hb⟩; refine ⟨_, rfl, ?_⟩; have n0_ := Aside0.mk (blk_below (g := gb149) (o := .cells #[.int .i64 a0_0, .slice A0_1 l0_1.length c0_1] 38 (0, 0)) (by (with_reducible repeat (first | refine blk_drewN ?_ _ | refine blk_drew ?_ | refine blk_alloc ?_ _)); exact BK149.out) hb); have n1_ := Aside0.mk (below_step (by repeat (first | (with_reducible first | exact HB.out | apply below_alloc | apply pw_below_drewN | apply below_drew1 | refine below_set ?_ GE149.out) | exact HB.out)) hb); clear BK149; clear HB; have BK149 := n0_; have HB := n1_; clear n0_ n1_; (try clear hb); (try clear hb2); (try clear hk); (try clear hi); have hcz19_0 : w18.cell? ⟨gb149, 0, none⟩ = some (.int .i64 a0_0) := (blk_cell BK149.out 0).trans rfl; have hcz19_1 : w18.cell? ⟨gb149, 1, none⟩ = some (.slice A0_1 l0_1.length c0_1) := (blk_cell BK149.out 1).trans rfl; have hfz19_0 := blk_frozen BK149.out 0; have hfz19_1 := blk_frozen BK149.out 1) | ((with_reducible refine gate_callee (f := 52) rfl ?_); refine goesL_ (some 18) rfl rfl Tryd.func52 (by kernel_rfl) rfl #[.agg #[.int .i64 a0_0, .slice A0_1 l0_1.length c0_1], .string a1, .int .i64 (l2.length : Int)] rfl (by (try simp only [List.map_toArray, List.map_cons, List.map_nil]); first | done | rfl | (simp only [List.length_drop, List.length_take]; rfl)) ?_; (with_reducible refine (shape_Find.calls a0_0 _ _ l0_1 a1 (l2.length : Int) t151 _ ?side1 ?side2 A6.out).mono ?_); (case side1 => repeat (first | exact (Kd.C_below HR0_1.out HB.out) | (with_reducible refine Kd.C_alloc ?_ _) | (with_reducible refine Kd.C_drewN ?_ _) | (with_reducible refine Kd.C_drew ?_))); (case side2 => exact HC0_1.out); rintro e w20 ⟨rfl, hb⟩; refine ⟨_, rfl, ?_⟩; have n0_ := Aside0.mk (blk_below (g := gb149) (o := .cells #[.int .i64 a0_0, .slice A0_1 l0_1.length c0_1] 38 (0, 0)) (by (with_reducible repeat (first | refine blk_drewN ?_ _ | refine blk_drew ?_ | refine blk_alloc ?_ _)); exact BK149.out) hb); have n1_ := Aside0.mk (below_step (by repeat (first | (with_reducible first | exact HB.out | apply below_alloc | apply pw_below_drewN | apply below_drew1 | refine below_set ?_ GE149.out) | exact HB.out)) hb); clear BK149; clear HB; have BK149 := n0_; have HB := n1_; clear n0_ n1_; (try clear hb); (try clear hb2); (try clear hk); (try clear hi); have hcz21_0 : w20.cell? ⟨gb149, 0, none⟩ = some (.int .i64 a0_0) := (blk_cell BK149.out 0).trans rfl; have hcz21_1 : w20.cell? ⟨gb149, 1, none⟩ = some (.slice A0_1 l0_1.length c0_1) := (blk_cell BK149.out 1).trans rfl; have hfz21_0 := blk_frozen BK149.out 0; have hfz21_1 := blk_frozen BK149.out 1; have p152 : 0 ≤ (t151 : Int) := of_decide_eq_true (by first | (with_reducible assumption) | assumption); have q152 : t151 < (l0_1.length : Int) := of_decide_eq_true (by first | (with_reducible assumption) | assumption); obtain ⟨ad152, A152_2, c152_2, e152, hx152_0, hx152_1, hx152_2, hl152_2, hi152_2⟩ := at_T54 HR0_1.out t151 p152 q152; cases e152; replace hx152_0 := (HB.out.cell (World.block_lt_of_cell? w _ hx152_0)).trans hx152_0; replace hx152_1 := (HB.out.cell (World.block_lt_of_cell? w _ hx152_1)).trans hx152_1; replace hx152_2 := (HB.out.cell (World.block_lt_of_cell? w _ hx152_2)).trans hx152_2; have HR152_2 := Aside0.mk hi152_2; have HC152_2 := Aside0.mk hl152_2; clear hi152_2 hl152_2; replace p152 := eq_true p152; replace q152 := eq_true q152) | ((with_reducible refine gate_callee (f := 53) rfl ?_); refine goesL_ (some 29) rfl rfl Tryd.func53 (by kernel_rfl) rfl #[.slice A152_2 ((rd_T54 l0_1 t151).f2).length c152_2, .slice A2 l2.length c2, .func (.func 54) #[] #[]] rfl (by (try simp only [List.map_toArray, List.map_cons, List.map_nil]); first | done | rfl | (simp only [List.length_drop, List.length_take]; rfl)) ?_; (with_reducible refine (slices_BinarySearchFunc_int_int_int.calls k _ _ ((rd_T54 l0_1 t151).f2) _ _ l2  t153 t154 _ ?side1 ?side2 ?side3 ?side4 A15.out).mono ?_); (case side1 => repeat (first | exact (Kd.C_below HR152_2.out HB.out) | (with_reducible refine Kd.C_alloc ?_ _) | (with_reducible refine Kd.C_drewN ?_ _) | (with_reducible refine Kd.C_drew ?_))); (case side2 => exact HC152_2.out); (case side3 => repeat (first | exact (Kd.C_below HR2.out HB.out) | (with_reducible refine Kd.C_alloc ?_ _) | (with_reducible refine Kd.C_drewN ?_ _) | (with_reducible refine Kd.C_drew ?_))); (case side4 => exact HC2.out); rintro e w' ⟨rfl, ⟨nd, rfl⟩⟩; refine ⟨_, rfl, ?_⟩))
          go_ret2
          exact ⟨by first | rfl | (simp [errW_none, errW_some] <;> rfl) | (simp [*, errW_none, errW_some] <;> rfl), by repeat (first | (with_reducible first | exact HB.out | apply below_alloc | apply pw_below_drewN | apply below_drew1 | refine below_set ?_ GE149.out) | exact HB.out)⟩
        · rw [if_neg c14] at H
          exact absurd H (by simp)
      · rw [if_neg c13] at H
        exact absurd H (by simp)
  · replace c5 := Bool.eq_false_iff.mpr c5
    subst c5
    have H1 : (some (false, 1)) = some (r1, r2) := by rw [if_neg (show ¬ (false = true) by decide)] at H; exact H
    clear H
    have H := H1
    clear H1
    simp only [Option.some.injEq, Prod.mk.injEq] at H
    obtain ⟨rfl, rfl⟩ := H
    go_enter Tryd.func30, Tryd.ntmps30
    go_wp2_with (first | ((with_reducible refine gate_dst (N := 3) rfl ?_); refine box_event ?hg (N := 3) ?hd (cs := #[.int .i64 a0_0, .slice A0_1 l0_1.length c0_1]) (t := 38) ?hr ?_; (case hd => rfl); (case hg => rfl); (case hr => first | (go_simp; done) | (go_simp; rfl)); intro gb149 hg w22 hbox hb; have n0_ := Aside0.mk (below_step (by repeat (first | (with_reducible first | exact HB.out | apply below_alloc | apply pw_below_drewN | apply below_drew1) | exact HB.out)) hb); have n1_ := Aside0.mk (hbox); have n2_ := Aside0.mk ((by rw [hg]; exact (below_size (by repeat (first | (with_reducible first | exact HB.out | apply below_alloc | apply pw_below_drewN | apply below_drew1) | exact HB.out))) : w.heap.size ≤ gb149)); have n3_ := Aside0.mk ((by rw [hg]; exact (below_size (by repeat (first | (with_reducible first | exact HB.out | apply below_alloc | apply pw_below_drewN | apply below_drew1) | exact HB.out))) : w.heap.size ≤ gb149)); clear HB; have HB := n0_; have BK149 := n1_; have GW149 := n2_; have GE149 := n3_; clear n0_ n1_ n2_ n3_; clear hb hbox hg; have hcz23_0 : w22.cell? ⟨gb149, 0, none⟩ = some (.int .i64 a0_0) := (blk_cell BK149.out 0).trans rfl; have hcz23_1 : w22.cell? ⟨gb149, 1, none⟩ = some (.slice A0_1 l0_1.length c0_1) := (blk_cell BK149.out 1).trans rfl; have hfz23_0 := blk_frozen BK149.out 0; have hfz23_1 := blk_frozen BK149.out 1) | ((with_reducible refine gate_callee (f := 21) rfl ?_); refine goesL_ (some 12) rfl rfl Tryd.func21 (by kernel_rfl) rfl #[.agg #[.int .i64 a0_0, .slice A0_1 l0_1.length c0_1]] rfl (by (try simp only [List.map_toArray, List.map_cons, List.map_nil]); first | done | rfl | (simp only [List.length_drop, List.length_take]; rfl)) ?_; (with_reducible refine (shape_Valid.calls k a0_0 _ _ l0_1 false _ ?side1 ?side2 A4.out).mono ?_); (case side1 => repeat (first | exact (Kd.C_below HR0_1.out HB.out) | (with_reducible refine Kd.C_alloc ?_ _) | (with_reducible refine Kd.C_drewN ?_ _) | (with_reducible refine Kd.C_drew ?_))); (case side2 => exact HC0_1.out); rintro e w24 ⟨rfl, hb⟩; refine ⟨_, rfl, ?_⟩; have n0_ := Aside0.mk (blk_below (g := gb149) (o := .cells #[.int .i64 a0_0, .slice A0_1 l0_1.length c0_1] 38 (0, 0)) (by (with_reducible repeat (first | refine blk_drewN ?_ _ | refine blk_drew ?_ | refine blk_alloc ?_ _)); exact BK149.out) hb); have n1_ := Aside0.mk (below_step (by repeat (first | (with_reducible first | exact HB.out | apply below_alloc | apply pw_below_drewN | apply below_drew1 | refine below_set ?_ GE149.out) | exact HB.out)) hb); clear BK149; clear HB; have BK149 := n0_; have HB := n1_; clear n0_ n1_; (try clear hb); (try clear hb2); (try clear hk); (try clear hi)))
    go_ret2
    exact ⟨by first | rfl | (simp [errW_none, errW_some] <;> rfl) | (simp [*, errW_none, errW_some] <;> rfl), by repeat (first | (with_reducible first | exact HB.out | apply below_alloc | apply pw_below_drewN | apply below_drew1 | refine below_set ?_ GE149.out) | exact HB.out)⟩
end Go.Proofs.YtfmpaofbnjlniaaDoor.F
/- strings.Split, strings.Cut, strconv.Itoa: the shelf's contracts in the printed form. -/
namespace Go.Proofs.YtfmpaofbnjlniaaDoor.F
open Go.RowKit Go.Proofs.YtfmpaofbnjlniaaDoorW.PrintWords Go.Proofs.YtfmpaofbnjlniaaDoorW.PrintLast Go.Proofs.YtfmpaofbnjlniaaDoorW.PrintMore
set_option linter.unusedVariables false
set_option linter.unusedSimpArgs false
def splitL (s sep : ByteArray) : List ByteArray := Lib.splitB sep 0 (Lib.countB s sep) s
theorem splitL_length (s sep : ByteArray) (h : 1 ≤ sep.size) : (splitL s sep).length = Lib.countB s sep + 1 := Lib.splitB_all sep h 0 _ s rfl
theorem split_calls (s sep : ByteArray) (w : World) (hG : Glob w) (hs : s.size < 4294967281) (h1 : 1 ≤ sep.size) (hl : (splitL s sep).length ≤ 9223372036854775807) :
    Calls Tryd.prog 47 #[.string s, .string sep] w fun e w' => ∃ v0_ : Value, e = .returned v0_ ∧ Kd.R Kd.string 9 w' w.heap.size (fun _ => True) v0_ (splitL s sep) ∧ Below w.heap.size w w' := by
  refine (Tryd.strings_Split_shaped s sep w hG.shaped hs h1).mono ?_
  rintro e w' ⟨rfl, rfl⟩
  refine ⟨_, rfl, ?_, below_alloc (Below.refl _ _) _⟩
  have ho := own_lit_of (enc := Value.string) w w.heap.size 9 (splitL s sep) (Nat.le_refl _) hl
  rw [splitL_length s sep h1] at ho
  refine Kd.R_of_own (h1 := fun _ => rfl) ?_ (fun _ _ => trivial)
  rw [splitL_length s sep h1]
  exact ho
def strings_Cut.f (s sep : ByteArray) : Option (ByteArray × ByteArray × Bool) := if s.size < 4294967281 then some (⟨(Lib.cut s.data.toList sep.data.toList).1.toArray⟩, ⟨(Lib.cut s.data.toList sep.data.toList).2.1.toArray⟩, (Lib.cut s.data.toList sep.data.toList).2.2) else none
theorem strings_Cut.calls (a0 a1 : ByteArray) (r1 r2 : ByteArray) (r3 : Bool) (w : World) (hG : Glob w) (h : strings_Cut.f a0 a1 = some (r1, r2, r3)) :
    Calls Tryd.prog 67 #[.string a0, .string a1] w fun e w' => e = .returned (.tuple #[.string r1, .string r2, .bool r3]) ∧ Drawn0 w w' := by
  unfold strings_Cut.f at h
  split at h
  · rename_i hs
    simp only [Option.some.injEq, Prod.mk.injEq] at h
    obtain ⟨rfl, rfl, rfl⟩ := h
    refine (Tryd.strings_Cut_shaped a0 a1 w hG.shaped hs).mono ?_
    rintro e w' ⟨rfl, hw⟩
    exact ⟨rfl, ⟨hw⟩⟩
  · cases h
end Go.Proofs.YtfmpaofbnjlniaaDoor.F
/- shape.number, by hand: it returns the number, or panics with bad{}. -/
namespace Go.Proofs.YtfmpaofbnjlniaaDoor.F
open Go.RowKit Go.Proofs.YtfmpaofbnjlniaaDoorW.PrintWords Go.Proofs.YtfmpaofbnjlniaaDoorW.PrintLast Go.Proofs.YtfmpaofbnjlniaaDoorW.PrintMore
set_option linter.unusedVariables false
set_option linter.unusedSimpArgs false
def numB (s : ByteArray) : Option Int := match Lib.atoiAll s.data.toList with | .ok v => some v | _ => none
def badEntry : PanicEntry := { v := .iface 73 (.agg #[]), recovered := false }
theorem bytesWorld_below (w : World) (e : TypeId) (t : ByteArray) : Below w.heap.size w (Lib.bytesWorld w e t) := bytes_below (Below.refl _ _) (Nat.le_refl _) e t
theorem number_ok (s : ByteArray) (hs : s.size ≤ 140737488355328) (v : Int) (h : numB s = some v) (w : World) :
    Calls Tryd.prog 48 #[.string s] w fun e w' => e = .returned (.int .i64 v) ∧ Below w.heap.size w w' := by
  have ha : Lib.atoiAll s.data.toList = .ok v := by
    unfold numB at h
    split at h
    · rename_i v' hv; rw [hv]; exact congrArg _ (Option.some.inj h)
    · cases h
  have HC := Lib.hid (Tryd.strconv_Atoi_ok s (by omega) v ha w)
  clear ha h
  go_enter Tryd.func48, Tryd.ntmps48
  go_wp2_with fail
  refine HC.out.mono ?_
  rintro e w' ⟨rfl, hw⟩
  have HB := Aside0.mk (show Below w.heap.size w w' by rcases hw with rfl | ⟨t, rfl⟩; exact Below.refl _ _; exact bytesWorld_below _ _ _)
  clear hw
  go_wp2
  go_ret
  exact ⟨rfl, HB.out⟩
theorem number_bad (s : ByteArray) (hs : s.size ≤ 140737488355328) (h : numB s = none) (w : World) (hG : Glob w) :
    Calls Tryd.prog 48 #[.string s] w fun e w' => e = .panicked [badEntry] ∧ Below w.heap.size w w' := by
  have hcall : ∃ n, Calls Tryd.prog 66 #[.string s] w fun e w' => ∃ N, e = .returned (.tuple #[.int .i64 n, .iface 122 (.pointer (some ⟨N, 0, none⟩))]) ∧ Below w.heap.size w w' := by
    unfold numB at h
    cases ha : Lib.atoiAll s.data.toList
    case ok v => rw [ha] at h; cases h
    case range =>
      obtain ⟨tp, p, hv⟩ := hG.rng
      exact ⟨_, (Any.strconv_Atoi_range_var Tryd.laysC172 s (by omega) ha tp p w hv).mono fun e w' ⟨N, he, _, _, hb⟩ => ⟨N, he, hb⟩⟩
    all_goals
      obtain ⟨tp, p, hv⟩ := hG.syn
      exact ⟨_, (Any.strconv_Atoi_syntax_var Tryd.laysC172 s (by omega) ha tp p w hv).mono fun e w' ⟨N, he, _, _, hb⟩ => ⟨N, he, hb⟩⟩
  obtain ⟨n, hcall⟩ := hcall
  have HC := Lib.hid hcall
  clear hcall h hG
  go_enter Tryd.func48, Tryd.ntmps48
  go_wp2_with fail
  refine HC.out.mono ?_
  rintro e w' ⟨N, rfl, hb⟩
  have HB := Aside0.mk hb
  clear hb
  go_wp2
  exact ⟨rfl, rfl, HB.out⟩
end Go.Proofs.YtfmpaofbnjlniaaDoor.F
/- What shape.relation and shape.Parse read, as plain functions over byte strings. -/
namespace Go.Proofs.YtfmpaofbnjlniaaDoor.F
open Go.RowKit Go.Proofs.YtfmpaofbnjlniaaDoorW.PrintWords
set_option linter.unusedVariables false
def sepB : ByteArray := ⟨#[32]⟩
def sepC : ByteArray := ⟨#[44]⟩
def sepS : ByteArray := ⟨#[47]⟩
def sepR : ByteArray := ⟨#[59, 32]⟩
def numsB : List ByteArray → Option (List Int)
  | [] => some []
  | x :: xs => (numB x).bind fun n => (numsB xs).map (n :: ·)
def isUnit (p : ByteArray) : Bool := p.toList == [40, 41]
def tupB (p : ByteArray) : Option (List Int) := if isUnit p = true then some [] else numsB (splitL p sepC)
def tupsB : List ByteArray → Option (List (List Int))
  | [] => some []
  | x :: xs => (tupB x).bind fun t => (tupsB xs).map (t :: ·)
def cutB (p : ByteArray) : ByteArray × ByteArray × Bool := (⟨(Lib.cut p.data.toList sepS.data.toList).1.toArray⟩, ⟨(Lib.cut p.data.toList sepS.data.toList).2.1.toArray⟩, (Lib.cut p.data.toList sepS.data.toList).2.2)
def relOf (p0 : ByteArray) (ps : List ByteArray) : Option S54 :=
  if (cutB p0).2.2 = true then (numB (cutB p0).2.1).bind fun a => (tupsB ps).map fun ts => ⟨(cutB p0).1, a, ts⟩ else none
def relB (s : ByteArray) : Option S54 := match splitL s sepB with | [] => none | p0 :: ps => relOf p0 ps
def relsB : List ByteArray → Option (List S54)
  | [] => some []
  | x :: xs => (relB x).bind fun t => (relsB xs).map (t :: ·)
def parseB (s : ByteArray) : Option (Int × List S54) := match splitL s sepR with | [] => none | p0 :: ps => (numB p0).bind fun n => (relsB ps).map fun l => (n, l)
theorem numsB_app (l m : List ByteArray) : numsB (l ++ m) = (numsB l).bind fun a => (numsB m).map (a ++ ·) := by
  induction l with
  | nil => cases h : numsB m <;> simp [numsB, h]
  | cons x xs ih =>
    simp only [List.cons_append, numsB, ih]
    cases numB x <;> simp
    cases numsB xs <;> simp
    cases numsB m <;> simp
theorem tupsB_app (l m : List ByteArray) : tupsB (l ++ m) = (tupsB l).bind fun a => (tupsB m).map (a ++ ·) := by
  induction l with
  | nil => cases h : tupsB m <;> simp [tupsB, h]
  | cons x xs ih =>
    simp only [List.cons_append, tupsB, ih]
    cases tupB x <;> simp
    cases tupsB xs <;> simp
    cases tupsB m <;> simp
theorem relsB_app (l m : List ByteArray) : relsB (l ++ m) = (relsB l).bind fun a => (relsB m).map (a ++ ·) := by
  induction l with
  | nil => cases h : relsB m <;> simp [relsB, h]
  | cons x xs ih =>
    simp only [List.cons_append, relsB, ih]
    cases relB x <;> simp
    cases relsB xs <;> simp
    cases relsB m <;> simp
theorem tk {α : Type} {l : List α} {k : Nat} {x : α} (h : l[k]? = some x) : l.take (k + 1) = l.take k ++ [x] := by
  obtain ⟨hk, rfl⟩ := List.getElem?_eq_some_iff.1 h
  rw [List.take_succ_eq_append_getElem hk]
theorem sp {α : Type} {l : List α} {k : Nat} {x : α} (h : l[k]? = some x) : l = l.take k ++ [x] ++ l.drop (k + 1) := by rw [← tk h, List.take_append_drop]
theorem numsB_step {l : List ByteArray} {k : Nat} {x : ByteArray} {a : List Int} {n : Int} (h : l[k]? = some x) (ha : numsB (l.take k) = some a) (hn : numB x = some n) : numsB (l.take (k + 1)) = some (a ++ [n]) := by
  rw [tk h, numsB_app, ha]; simp [numsB, hn]
theorem numsB_stop {l : List ByteArray} {k : Nat} {x : ByteArray} (h : l[k]? = some x) (hn : numB x = none) : numsB l = none := by
  rw [sp h, numsB_app, numsB_app]; cases numsB (l.take k) <;> simp [numsB, hn]
theorem tupsB_step {l : List ByteArray} {k : Nat} {x : ByteArray} {a : List (List Int)} {n : List Int} (h : l[k]? = some x) (ha : tupsB (l.take k) = some a) (hn : tupB x = some n) : tupsB (l.take (k + 1)) = some (a ++ [n]) := by
  rw [tk h, tupsB_app, ha]; simp [tupsB, hn]
theorem tupsB_stop {l : List ByteArray} {k : Nat} {x : ByteArray} (h : l[k]? = some x) (hn : tupB x = none) : tupsB l = none := by
  rw [sp h, tupsB_app, tupsB_app]; cases tupsB (l.take k) <;> simp [tupsB, hn]
theorem relsB_step {l : List ByteArray} {k : Nat} {x : ByteArray} {a : List S54} {n : S54} (h : l[k]? = some x) (ha : relsB (l.take k) = some a) (hn : relB x = some n) : relsB (l.take (k + 1)) = some (a ++ [n]) := by
  rw [tk h, relsB_app, ha]; simp [relsB, hn]
theorem relsB_stop {l : List ByteArray} {k : Nat} {x : ByteArray} (h : l[k]? = some x) (hn : relB x = none) : relsB l = none := by
  rw [sp h, relsB_app, relsB_app]; cases relsB (l.take k) <;> simp [relsB, hn]
theorem numsB_len {l : List ByteArray} {a : List Int} (h : numsB l = some a) : a.length = l.length := by
  induction l generalizing a with
  | nil => injection h with h; subst h; rfl
  | cons x xs ih =>
    simp only [numsB] at h
    obtain ⟨n, _, h⟩ := Option.bind_eq_some_iff.1 h
    obtain ⟨b, hb, rfl⟩ := Option.map_eq_some_iff.1 h
    simp [ih hb]
theorem tupsB_len {l : List ByteArray} {a : List (List Int)} (h : tupsB l = some a) : a.length = l.length := by
  induction l generalizing a with
  | nil => injection h with h; subst h; rfl
  | cons x xs ih =>
    simp only [tupsB] at h
    obtain ⟨n, _, h⟩ := Option.bind_eq_some_iff.1 h
    obtain ⟨b, hb, rfl⟩ := Option.map_eq_some_iff.1 h
    simp [ih hb]
theorem relsB_len {l : List ByteArray} {a : List S54} (h : relsB l = some a) : a.length = l.length := by
  induction l generalizing a with
  | nil => injection h with h; subst h; rfl
  | cons x xs ih =>
    simp only [relsB] at h
    obtain ⟨n, _, h⟩ := Option.bind_eq_some_iff.1 h
    obtain ⟨b, hb, rfl⟩ := Option.map_eq_some_iff.1 h
    simp [ih hb]
theorem splitB_mem (sep : ByteArray) : ∀ (k : Nat) (s x : ByteArray), x ∈ Lib.splitB sep 0 k s → x.size ≤ s.size
  | 0, s, x, h => by rw [Lib.splitB_zero] at h; simp at h; subst h; exact Nat.le_refl _
  | k + 1, s, x, h => by
    unfold Lib.splitB at h
    split at h
    · simp at h; subst h; exact Nat.le_refl _
    · rcases List.mem_cons.1 h with rfl | h
      · simp; omega
      · have := splitB_mem sep k _ x h
        simp at this; omega
theorem splitL_mem {s sep x : ByteArray} (h : x ∈ splitL s sep) : x.size ≤ s.size := splitB_mem sep _ s x h
theorem splitB_many (sep : ByteArray) : ∀ (k : Nat) (s : ByteArray), 1 ≤ sep.size → (Lib.splitB sep 0 k s).length ≤ s.size + 1
  | 0, s, _ => by rw [Lib.splitB_zero]; simp
  | k + 1, s, h1 => by
    unfold Lib.splitB
    split
    · simp
    · rename_i hne
      rcases Lib.indexB_cases s sep with h | ⟨i, hi, hle⟩
      · exact absurd (beq_iff_eq.2 h) hne
      · have := splitB_many sep k (s.extract ((Lib.indexB s sep).toNat + sep.size) s.size) h1
        rw [hi] at this ⊢
        simp at this ⊢
        omega
theorem splitL_many (s sep : ByteArray) (h : 1 ≤ sep.size) : (splitL s sep).length ≤ s.size + 1 := splitB_many sep _ s h
theorem splitL_ne (s sep : ByteArray) (h : 1 ≤ sep.size) : splitL s sep ≠ [] := fun e => by have := splitL_length s sep h; rw [e] at this; simp at this
theorem cutB_size (p : ByteArray) : (cutB p).2.1.size ≤ p.size := by
  have hp : p.data.toList.length = p.size := data_length p
  show (Lib.cut p.data.toList sepS.data.toList).2.1.toArray.size ≤ _
  unfold Lib.cut
  split <;> simp <;> omega
end Go.Proofs.YtfmpaofbnjlniaaDoor.F
/- shape.relation, by hand: it returns the relation that a part of a text is, or panics with bad{}. -/
namespace Go.Proofs.YtfmpaofbnjlniaaDoor.F
open Go.RowKit Go.Proofs.YtfmpaofbnjlniaaDoorW.PrintWords Go.Proofs.YtfmpaofbnjlniaaDoorW.PrintLast Go.Proofs.YtfmpaofbnjlniaaDoorW.PrintMore
set_option linter.unusedVariables false
set_option linter.unusedSimpArgs false
theorem number_calls (s : ByteArray) (hs : s.size ≤ 140737488355328) (w : World) (hG : Glob w) :
    Calls Tryd.prog 48 #[.string s] w fun e w' => (e = match numB s with | some v => .returned (.int .i64 v) | none => .panicked [badEntry]) ∧ Below w.heap.size w w' := by
  cases h : numB s with
  | none => exact number_bad s hs h w hG
  | some v => exact number_ok s hs v h w
theorem infoStr : (Tryd.prog.info? 9).map (fun i => (i.zero, i.size, i.bytes)) = some (some (.string ⟨#[]⟩), 1, 16) := by kernel_rfl
theorem infoInt : (Tryd.prog.info? 3).map (fun i => (i.zero, i.size, i.bytes)) = some (some (.int .i64 0), 1, 8) := by kernel_rfl
theorem infoInts : (Tryd.prog.info? 24).map (fun i => (i.zero, i.size, i.bytes)) = some (some (.slice none 0 0), 1, 24) := by kernel_rfl
/-- parts[1:] of a slice of strings: a slice that reads as the rest. -/
theorem cut_tail (ad : Addr) (c n : Nat) (p0 : ByteArray) (ps : List ByteArray) (w : World) (hn : n = ps.length + 1) (hc : (p0 :: ps).length ≤ c) (hC : Kd.string.C w (some ad) (p0 :: ps).length (p0 :: ps)) :
    ∃ A1, (∀ W : World, (Instr.slice 75 (.slice (some ad) n c) (some (.int .i64 1)) none none).run Tryd.prog W = .ok (.slice A1 ps.length (c - 1)) W) ∧ Kd.string.C w A1 ps.length ps ∧ ps.length ≤ c - 1 := by
  subst hn
  obtain ⟨i0, hi0, _, hsz0, _⟩ := info_parts infoStr
  have hcut := cut_from (P := Tryd.prog) 75 9 .i64 Tryd.underlying75 hi0 1 hsz0 (some ad) (ps.length + 1) c 1 (by decide) (by omega)
  have hd := Kd.C_drop (m := 1) hC (by simp) hc
  refine ⟨_, hcut, ?_, by simp at hc; omega⟩
  exact hd
def RelEnds (w : World) (o : Option S54) (e : Ending) (w' : World) : Prop := match o with
  | some r => ∃ v : Value, e = .returned (.agg #[.string r.f0, .int .i64 r.f1, v]) ∧ Kd.R (Kd.slice 3 (Kd.int .i64)) 24 w' w.heap.size (fun _ => True) v r.f2 ∧ Below w.heap.size w w'
  | none => e = .panicked [badEntry] ∧ Below w.heap.size w w'
theorem RelEnds.bad {w w' : World} {o : Option S54} (h : o = none) (hb : Below w.heap.size w w') : RelEnds w o (.panicked [badEntry]) w' := by subst h; exact ⟨rfl, hb⟩
theorem cut_calls (p : ByteArray) (hp : p.size ≤ 100000) (w : World) (hG : Glob w) :
    Calls Tryd.prog 67 #[.string p, .string sepS] w fun e w' => e = .returned (.tuple #[.string (cutB p).1, .string (cutB p).2.1, .bool (cutB p).2.2]) ∧ Below w.heap.size w w' :=
  (strings_Cut.calls p sepS _ _ _ w hG (by unfold strings_Cut.f; rw [if_pos (by omega)]; rfl)).mono fun e w' ⟨he, hd⟩ => ⟨he, hd.below⟩
set_option maxHeartbeats 4000000 in
set_option maxRecDepth 100000 in
theorem relation_calls (s : ByteArray) (hs : s.size ≤ 100000) (w : World) (hG : Glob w) :
    Calls Tryd.prog 49 #[.string s] w (RelEnds w (relB s)) := by
  have HG := Aside0.mk hG
  have hms : (splitL s sepB).length ≤ 100001 := Nat.le_trans (splitL_many s sepB (by decide)) (by omega)
  have HS := Aside0.mk (fun x (hx : x ∈ splitL s sepB) => splitL_mem hx)
  obtain ⟨p0, ps, hps⟩ : ∃ p0 ps, splitL s sepB = p0 :: ps := by
    cases h : splitL s sepB with
    | nil => exact absurd h (splitL_ne s sepB (by decide))
    | cons a b => exact ⟨a, b, rfl⟩
  have HRB := Aside0.mk (show relB s = relOf p0 ps by unfold relB; rw [hps])
  have HPS := Aside0.mk hps
  clear hG hps
  go_enter Tryd.func49, Tryd.ntmps49
  go_wp2_with (fail)
  refine (split_calls s sepB _ (HG.out.below (below_alloc (Below.refl _ _) _)) (by omega) (by decide) (by omega)).mono ?_
  rintro e w1 ⟨v0, rfl, hv0, hb1⟩
  have HB1 := Aside0.mk ((below_alloc (Below.refl w.heap.size w) _).trans (hb1.mono (by simp)))
  have hres : w1.heap[w.heap.size]? = some (.cells #[.string ⟨#[]⟩, .int .i64 0, .slice none 0 0] 54 (0, 0)) := by
    rw [hb1.block w.heap.size (by simp)]; exact heap_alloc_new _ _
  have HRES := Aside0.mk hres
  have hlt1 : w.heap.size < w1.heap.size := (Array.getElem?_eq_some_iff.1 hres).1
  obtain ⟨A0, c0, rfl, hl0, hC0⟩ := Kd.R_reads hv0
  rw [HPS.out] at hl0 hC0 hms
  have hlen : (splitL s sepB).length = (p0 :: ps).length := congrArg List.length HPS.out
  rw [hlen]
  obtain ⟨ad, hA, hcell0⟩ := Kd.at_string hC0 0 (by omega) (by simp)
  subst hA
  have hcp : w1.cell? ad = some (.string p0) := by
    have h := hcell0
    rw [show ((0 : Int).toNat) = 0 from rfl, Addr.add_zero'] at h
    simpa [rdOf] using h
  have HC0 := Aside0.mk hC0
  have hp0 : p0.size ≤ 100000 := Nat.le_trans (HS.out p0 (by rw [HPS.out]; simp)) hs
  have HG1 := Aside0.mk (HG.out.below HB1.out)
  clear hv0 hb1 hres hC0 hcell0 hlen
  go_wp2_with (fail)
  refine (cut_calls p0 hp0 _ HG1.out).mono ?_
  rintro e w2 ⟨rfl, hb2⟩
  have HB2 := Aside0.mk hb2
  have hcs := cutB_size p0
  have HRO := Aside0.mk (show relB s = (if (cutB p0).2.2 = true then (numB (cutB p0).2.1).bind fun a => (tupsB ps).map fun ts => ⟨(cutB p0).1, a, ts⟩ else none) by rw [HRB.out]; rfl)
  clear hb2 hcp HRB
  generalize cutB p0 = cp at HRO hcs ⊢
  obtain ⟨nm, ar, found⟩ := cp
  (try simp only at HRO hcs)
  cases found with
  | false =>
    go_wp2
    exact ⟨rfl, RelEnds.bad (by rw [HRO.out]; rfl) (below_step HB1.out HB2.out)⟩
  | true =>
    simp only [if_true] at HRO
    go_wp2_with (fail)
    refine (number_calls ar (by omega) _ (HG1.out.below HB2.out)).mono ?_
    rintro e w3 ⟨rfl, hb3⟩
    have HB3 := Aside0.mk (below_step HB2.out hb3)
    clear hb3 HB2
    cases hn : numB ar with
    | none =>
      simp only [hn]
      go_wp2
      exact ⟨rfl, RelEnds.bad (by rw [HRO.out, hn]; rfl) (below_step HB1.out HB3.out)⟩
    | some a =>
      rw [hn] at HRO
      simp only [Option.bind_some] at HRO
      clear hn
      obtain ⟨A1, hcut, hCT, hcc⟩ := cut_tail ad c0 (ps.length + 1) p0 ps w1 rfl hl0 HC0.out
      have HCT := Aside0.mk hCT
      have hps : ps.length ≤ 100000 := by simp at hms; omega
      have HSP := Aside0.mk (fun x (hx : x ∈ ps) => Nat.le_trans (HS.out x (by rw [HPS.out]; exact List.mem_cons_of_mem _ hx)) hs)
      clear hCT HC0 HPS HS hl0
      go_wp2
      clear hcut
      have HB4 := Aside0.mk (below_alloc HB3.out (.cells #[.string nm, .int .i64 a, .slice none 0 0] 54))
      have H7 := Aside0.mk (heap_alloc_new w3 (.cells #[.string nm, .int .i64 a, .slice none 0 0] 54))
      have HG7 := Aside0.mk HB3.out.size
      generalize w3.alloc (.cells #[.string nm, .int .i64 a, .slice none 0 0] 54) = w4 at *
      generalize w3.heap.size = g7 at *
      clear HB3
      go_loopw [34] (fun v34 wr => ∃ (j : Nat) (v : Value) (ts : List (List Int)), v34 = .int .i64 j ∧ j ≤ ps.length ∧ Aside0 (tupsB (ps.take j) = some ts) ∧ Aside0 (wr.heap[g7]? = some (.cells #[.string nm, .int .i64 a, v] 54 (0, 0))) ∧ Aside0 (Kd.R (Kd.slice 3 (Kd.int .i64)) 24 wr w1.heap.size (fun _ => True) v ts) ∧ Aside0 (Below w1.heap.size w1 wr)) (fun v34 _ => ps.length - (intOf v34).toNat)
      case atStart => exact ⟨0, .slice none 0 0, [], rfl, Nat.zero_le _, ⟨rfl⟩, H7, ⟨Kd.R_nil _ _ _ _ _⟩, HB4⟩
      case round =>
        clear H7 HB4
        obtain ⟨j, v, ts, rfl, hj, HTS, H7, HV, HB⟩ := hrel
        by_cases hlt : j < ps.length
        · obtain ⟨ad2, hA1, hjc⟩ := Kd.at_string HCT.out (j : Int) (by omega) (by omega)
          subst hA1
          replace hjc := pw_cell_below HB.out hjc
          simp only [Int.toNat_natCast] at hjc
          have hjx : ps[j]? = some (rdOf ByteArray.empty ps (j : Int)) := by unfold rdOf; rw [List.getElem?_eq_getElem hlt, List.getD_eq_getElem?_getD, Int.toNat_natCast, List.getElem?_eq_getElem hlt]; rfl
          have hpz := HSP.out _ (List.mem_of_getElem? hjx)
          have HJ := Aside0.mk hjx
          clear hjx
          generalize rdOf ByteArray.empty ps (j : Int) = p at *
          have hg7 : g7 < wr.heap.size := (Array.getElem?_eq_some_iff.1 H7.out).1
          generalize wr = wo at *
          go_upto_if 40 with (fail)
          go_cut [10] (fun v10 wc => ∃ (vt : Value) (ns : List Int), v10 = vt ∧ Aside0 (tupB p = some ns) ∧ Aside0 (Kd.R (Kd.int .i64) 3 wc wo.heap.size (fun _ => True) vt ns) ∧ Aside0 (Below wo.heap.size wo wc))
          case first =>
            have HE := Aside0.mk (show Kd.R (Kd.int .i64) 3 (wo.alloc (.cells #[] 3)) wo.heap.size (fun _ => True) (.slice (some ⟨wo.heap.size, 0, none⟩) 0 0) ([] : List Int) from Kd.R_of_own (own_lit_of (enc := Value.int .i64) wo _ 3 ([] : List Int) (Nat.le_refl _) (by decide)) (fun _ _ => trivial))
            have HBa := Aside0.mk (below_alloc (Below.refl wo.heap.size wo) (.cells #[] 3))
            by_cases hu : isUnit p = true
            · have hne : (p.toList == ([40, 41] : List UInt8)) = true := hu
              have HU := Aside0.mk (show tupB p = some [] by unfold tupB; rw [if_pos hu])
              (try rw [hne])
              go_wp2
              go_meet
              case rel => exact ⟨_, [], rfl, HU, HE, HBa⟩
            · have hne : (p.toList == ([40, 41] : List UInt8)) = false := by unfold isUnit at hu; simpa using hu
              have HU := Aside0.mk (show tupB p = numsB (splitL p sepC) by unfold tupB; rw [if_neg hu])
              generalize wo.alloc (.cells #[] 3) = wa at *
              have hsl := Nat.le_trans (splitL_many p sepC (by decide)) (show p.size + 1 ≤ 100001 by omega)
              have HZ := Aside0.mk (fun x (hx : x ∈ splitL p sepC) => Nat.le_trans (splitL_mem hx) hpz)
              clear hu
              (try rw [hne])
              go_wp2_with (fail)
              refine (split_calls p sepC _ ((HG1.out.below HB.out).below HBa.out) (by omega) (by decide) (by omega)).mono ?_
              rintro e w5 ⟨v5, rfl, hv5, hb5⟩
              obtain ⟨A5, c5, rfl, hl5, _⟩ := Kd.R_reads hv5
              have HS5 := Aside0.mk (Kd.R_lower hv5 HBa.out.size)
              have HE5 := Aside0.mk (Kd.R_below HE.out hb5)
              have HB5 := Aside0.mk (below_step HBa.out hb5)
              clear hv5 hb5 HE HBa
              generalize splitL p sepC = L at *
              go_wp2
              go_loopw [44, 10] (fun v44 v10 wl => ∃ (i : Nat) (vt : Value) (ns : List Int), v44 = .int .i64 i ∧ v10 = vt ∧ i ≤ L.length ∧ Aside0 (numsB (L.take i) = some ns) ∧ Aside0 (Kd.R (Kd.int .i64) 3 wl wo.heap.size (fun _ => True) vt ns) ∧ Aside0 (Kd.R Kd.string 9 wl wo.heap.size (fun _ => True) (.slice A5 L.length c5) L) ∧ Aside0 (Below wo.heap.size wo wl)) (fun v44 _ _ => L.length - (intOf v44).toNat)
              case atStart => exact ⟨0, _, [], rfl, rfl, Nat.zero_le _, ⟨rfl⟩, HE5, HS5, HB5⟩
              case round =>
                clear HE5 HS5 HB5
                obtain ⟨i, vt, ns, rfl, rfl, hi, HN, HR, HSr, HBr⟩ := hrel
                by_cases hlt2 : i < L.length
                · obtain ⟨_, _, hCs⟩ := Kd.R_reads' HSr.out
                  obtain ⟨ad3, hA3, hxc⟩ := Kd.at_string hCs (i : Int) (by omega) (by omega)
                  subst hA3
                  simp only [Int.toNat_natCast] at hxc
                  have hxi : L[i]? = some (rdOf ByteArray.empty L (i : Int)) := by unfold rdOf; rw [List.getElem?_eq_getElem hlt2, List.getD_eq_getElem?_getD, Int.toNat_natCast, List.getElem?_eq_getElem hlt2]; rfl
                  have HX := Aside0.mk hxi
                  have hxz := HZ.out _ (List.mem_of_getElem? hxi)
                  clear hCs hxi
                  generalize rdOf ByteArray.empty L (i : Int) = x at *
                  have hnl : ns.length ≤ 100001 := by have := numsB_len HN.out; rw [List.length_take] at this; omega
                  go_wp2_with (fail)
                  refine (number_calls x (by omega) _ ((HG1.out.below HB.out).below HBr.out)).mono ?_
                  rintro e w6 ⟨rfl, hb6⟩
                  have HB6 := Aside0.mk (below_step HBr.out hb6)
                  have HR6 := Aside0.mk (Kd.R_below HR.out hb6)
                  have HS6 := Aside0.mk (Kd.R_below HSr.out hb6)
                  clear hb6 HBr HR HSr
                  cases hnx : numB x with
                  | none =>
                    have HNN := Aside0.mk (show relB s = none by rw [HRO.out, tupsB_stop HJ.out (HU.out.trans (numsB_stop HX.out hnx))]; rfl)
                    simp only
                    go_wp2
                    exact ⟨rfl, RelEnds.bad HNN.out (below_step (below_step HB1.out HB.out) HB6.out)⟩
                  | some nx =>
                    have HN2 := Aside0.mk (numsB_step HX.out HN.out hnx)
                    clear hnx HN
                    simp only
                    go_wp2_with (first | ((with_reducible refine gate_builtin (b := .append) (xs := #[.tmp 48, .tmp 51]) rfl ?_); (try (refine gate_guard (by rfl) ?_; dsimp only)); at_builtin; refine Kd.R_append (Kd.int .i64) (w0 := wo) wo.heap.size rfl (.tmp 48) (.tmp 51) 24 3 (.int .i64 0) 8 rfl Tryd.underlying24 infoInt rfl (by decide) (by omega) _ ns nx [.int .i64 nx] (fun _ => True) (fun _ => False) rfl rfl ?aP (fun _ hk => hk.elim) ?aF ?aO ?aB ?aS ?aL ?_; (case aP => exact rfl); (case aB => exact HB6.out); (case aF => exact (fun _ _ => trivial)); (case aO => exact HR6.out); (case aS => exact HB6.out.size); (case aL => omega); intro v7 w7 ho hb hg hat; have n0_ := Aside0.mk hb; have n1_ := Aside0.mk ho; have n2_ := Aside0.mk (Kd.R_drop (Kd.R_after (ok := fun _ => True) (Kd.R_apartR HS6.out HR6.out (by decide)) hg hat)); clear ho hb hg hat HB6 HR6 HS6))
                    go_roundw
                    · exact ⟨i + 1, _, _, (by simp), rfl, hlt2, HN2, n1_, n2_, n0_⟩
                    · simp [intOf]; omega
                · obtain rfl : i = L.length := by omega
                  rw [List.take_length] at HN
                  go_wp2
                  go_meet
                  case rel => exact ⟨_, ns, rfl, ⟨HU.out.trans HN.out⟩, HR, HBr⟩
          case rest =>
            obtain ⟨vt, ns, rfl, HT, HR, HBc⟩ := hcut
            have H7c := Aside0.mk ((HBc.out.block g7 hg7).trans H7.out)
            have hc7 : wc.cell? ⟨g7, 2, none⟩ = some v := by simp [World.cell?, H7c.out]
            have hf7 : wc.frozen? ⟨g7, 2, none⟩ = false := by simp [World.frozen?, H7c.out]
            have HV1 := Aside0.mk (Kd.R_elder HV.out HR.out HBc.out)
            have HB7 := Aside0.mk (below_step HB.out HBc.out)
            have HR1 := Aside0.mk (Kd.R_newR HR.out HV.out)
            have htl : ts.length ≤ 100000 := by have := tupsB_len HTS.out; rw [List.length_take] at this; omega
            obtain ⟨At, ct, hvt⟩ := Kd.R_slice HR.out
            subst hvt
            clear H7 HV
            go_wp2_with (first | ((with_reducible refine gate_builtin (b := .append) (xs := #[.tmp 55, .tmp 57]) rfl ?_); (try (refine gate_guard (by rfl) ?_; dsimp only)); at_builtin; refine Kd.R_append (Kd.slice 3 (Kd.int .i64)) (w0 := w1) w1.heap.size rfl (.tmp 55) (.tmp 57) 52 24 (.slice none 0 0) 24 rfl Tryd.underlying52 infoInts rfl (by decide) (by omega) v ts ns [.slice At ns.length ct] (fun _ => True) (fun k_ => some k_ = (Value.slice At ns.length ct).ownBlock ∧ some k_ ≠ v.ownBlock) rfl rfl ?aP (fun _ hk => ⟨trivial, hk.2⟩) ?aF ?aO ?aB ?aS ?aL ?_; (case aP => exact Kd.M_row (Kd.R_mono (Kd.R_bound (Kd.R_tight rfl HR1.out)) (fun k_ hk => ⟨hk.1, (HR1.out.1 k_ hk.1.symm).2⟩) |> fun h => Kd.R_lower h HB.out.size)); (case aB => exact HB7.out); (case aF => exact (fun _ _ => trivial)); (case aO => exact Kd.R_drop (ok' := fun k_ => some k_ ≠ (Value.slice At ns.length ct).ownBlock) HV1.out); (case aS => exact HB7.out.size); (case aL => omega); intro v7 w7 ho hb hg hat; have n0_ := Aside0.mk hb; have n1_ := Aside0.mk ho; have n2_ := Aside0.mk (blk_grown H7c.out hg (Kd.R_ne HV1.out H7c.out (by decide))); clear ho hb hg hat HB7 HR1 HV1 HR; obtain ⟨A7, c7, e7⟩ := Kd.R_slice n1_.out; subst e7; have hc8 : w7.cell? ⟨g7, 2, none⟩ = some v := (blk_cell n2_.out 2).trans rfl; have hf8 := blk_frozen n2_.out 2))
            rw [show (ts ++ [ns]).length = ts.length + 1 from by simp] at n1_
            have n3_ := Aside0.mk (Kd.R_set n1_.out n2_.out (by decide) 2 (.slice A7 (ts.length + 1) c7))
            have n4_ := Aside0.mk (blk_put (cs' := #[.string nm, .int .i64 a, .slice A7 (ts.length + 1) c7]) n2_.out 2 (.slice A7 (ts.length + 1) c7) rfl)
            have n5_ := Aside0.mk (below_set (j := 2) (v := .slice A7 (ts.length + 1) c7) n0_.out HG7.out)
            go_roundw
            · exact ⟨j + 1, _, _, (by simp), hlt, ⟨tupsB_step HJ.out HTS.out HT.out⟩, n4_, n3_, n5_⟩
            · simp [intOf]; omega
        · obtain rfl : j = ps.length := by omega
          rw [List.take_length] at HTS
          have hcell7a : wr.cell? ⟨g7, 0, none⟩ = some (.string nm) := by simp [World.cell?, H7.out]
          have hcell7b : wr.cell? ⟨g7, 1, none⟩ = some (.int .i64 a) := by simp [World.cell?, H7.out]
          have hcell7c : wr.cell? ⟨g7, 2, none⟩ = some v := by simp [World.cell?, H7.out]
          obtain ⟨Av, cv, hv⟩ := Kd.R_slice HV.out
          subst hv
          have HR0 := Aside0.mk ((HB.out.block w.heap.size hlt1).trans HRES.out)
          have hr0 : wr.cell? ⟨w.heap.size, 0, none⟩ = some (.string ⟨#[]⟩) := by simp [World.cell?, HR0.out]
          have hr1 : wr.cell? ⟨w.heap.size, 1, none⟩ = some (.int .i64 0) := by simp [World.cell?, HR0.out]
          have hr2 : wr.cell? ⟨w.heap.size, 2, none⟩ = some (.slice none 0 0) := by simp [World.cell?, HR0.out]
          have hz0 : wr.frozen? ⟨w.heap.size, 0, none⟩ = false := by simp [World.frozen?, HR0.out]
          have hz1 : wr.frozen? ⟨w.heap.size, 1, none⟩ = false := by simp [World.frozen?, HR0.out]
          have hz2 : wr.frozen? ⟨w.heap.size, 2, none⟩ = false := by simp [World.frozen?, HR0.out]
          go_wp2
          generalize hWx : ((wr.setCell ⟨w.heap.size, 0, none⟩ (.string nm)).setCell ⟨w.heap.size, 1, none⟩ (.int .i64 a)).setCell ⟨w.heap.size, 2, none⟩ (.slice Av ts.length cv) = WX
          have HX := blk_put (blk_put (blk_put HR0.out 0 (.string nm) rfl) 1 (.int .i64 a) rfl) 2 (.slice Av ts.length cv) rfl
          have HV1 := Kd.R_set HV.out HR0.out (by decide) 0 (.string nm)
          have HV2 := Kd.R_set HV1 (blk_put HR0.out 0 (.string nm) rfl) (by decide) 1 (.int .i64 a)
          have HV3 := Kd.R_set HV2 (blk_put (blk_put HR0.out 0 (.string nm) rfl) 1 (.int .i64 a) rfl) (by decide) 2 (.slice Av ts.length cv)
          have HBX := below_set (j := 2) (v := .slice Av ts.length cv) (below_set (j := 1) (v := .int .i64 a) (below_set (j := 0) (v := .string nm) (below_step HB1.out HB.out) (Nat.le_refl _)) (Nat.le_refl _)) (Nat.le_refl _)
          rw [hWx] at HX HV3 HBX
          refine bodyPost_ret (results_cell_row rfl _ _ w.heap.size 54 #[.string nm, .int .i64 a, .slice Av ts.length cv] (0, 0) _ rfl HX Tryd.underlying54 rfl (by kernel_rfl)) rfl ?_
          rw [HRO.out, HTS.out]
          exact ⟨_, rfl, Kd.R_lower HV3 (Nat.le_of_lt hlt1), HBX⟩
end Go.Proofs.YtfmpaofbnjlniaaDoor.F
/- shape.Parse$1, the deferred closure, by hand. -/
namespace Go.Proofs.YtfmpaofbnjlniaaDoor.F
open Go.RowKit Go.Proofs.YtfmpaofbnjlniaaDoorW.PrintWords Go.Proofs.YtfmpaofbnjlniaaDoorW.PrintLast Go.Proofs.YtfmpaofbnjlniaaDoorW.PrintMore
set_option linter.unusedVariables false
set_option linter.unusedSimpArgs false
theorem assertBad_yes (W : World) (v : Value) : (Instr.typeAssert (.iface 73 v) 20 73 true).run Tryd.prog W = .ok (.tuple #[v, .bool true]) W := by kernel_rfl
theorem assertBad_nil (W : World) : (Instr.typeAssert .nilIface 20 73 true).run Tryd.prog W = .ok (.tuple #[.agg #[], .bool false]) W := by kernel_rfl
theorem catch_panicking (g2 g3 : Nat) (a : Int) (v : Value) (b : Int) (older : List PanicEntry) (w : World) (h2 : w.heap[g2]? = some (.cells #[.int .i64 a, v] 38 (0, 0))) (h3 : w.heap[g3]? = some (.cells #[.int .i64 b] 26 (0, 0))) :
    CallsD Tryd.prog 46 #[.pointer (some ⟨g2, 0, none⟩), .pointer (some ⟨g3, 0, none⟩)] (.panicking ({ v := .iface 73 (.agg #[]), recovered := false } :: older)) w fun e u' w' =>
      e = .returned (.tuple #[]) ∧ u' = .panicking ({ v := .iface 73 (.agg #[]), recovered := true } :: older) ∧ ∃ o, w' = (((w.alloc o).setCell ⟨g2, 0, none⟩ (.int .i64 0)).setCell ⟨g2, 1, none⟩ (.slice none 0 0)).setCell ⟨g3, 0, none⟩ (.int .i64 3) := by
  have hc0 : w.cell? ⟨g2, 0, none⟩ = some (.int .i64 a) := by simp [World.cell?, h2]
  have hc1 : w.cell? ⟨g2, 1, none⟩ = some v := by simp [World.cell?, h2]
  have hc2 : w.cell? ⟨g3, 0, none⟩ = some (.int .i64 b) := by simp [World.cell?, h3]
  have hz0 : w.frozen? ⟨g2, 0, none⟩ = false := by simp [World.frozen?, h2]
  have hz1 : w.frozen? ⟨g2, 1, none⟩ = false := by simp [World.frozen?, h2]
  have hz2 : w.frozen? ⟨g3, 0, none⟩ = false := by simp [World.frozen?, h3]
  refine callsD_of_wpS Tryd.func46 rfl fun c₀ cs hu => ?_
  apply wpS_seq
  apply wpS_region
  simp [assertBad_yes, assertBad_nil, wpOpsS, go_sem, recoverD, hu, Tryd.ntmps46, Exit.thenS]
  apply wpS_seq
  apply wpS_region
  simp [wpOpsS, go_sem, Exit.thenS]
  refine wpS_cond (t := true) (by simp [Act.eval, Array.replicate]) ?_
  simp only [if_true]
  apply wpS_region
  have hb := below_alloc (Below.refl w.heap.size w) (.cells #[] 73)
  have k2 := (hb.block g2 (Array.getElem?_eq_some_iff.1 h2).1).trans h2
  have k3 := (hb.block g3 (Array.getElem?_eq_some_iff.1 h3).1).trans h3
  clear hb
  have e0 : (w.alloc (.cells #[] 73)).cell? ⟨g2, 0, none⟩ = some (.int .i64 a) := by simp only [World.cell?, k2]; simp
  have e1 : (w.alloc (.cells #[] 73)).cell? ⟨g2, 1, none⟩ = some v := by simp only [World.cell?, k2]; simp
  have e2 : (w.alloc (.cells #[] 73)).cell? ⟨g3, 0, none⟩ = some (.int .i64 b) := by simp only [World.cell?, k3]; simp
  have f0 : (w.alloc (.cells #[] 73)).frozen? ⟨g2, 0, none⟩ = false := by simp only [World.frozen?, k2]; simp
  have f1 : (w.alloc (.cells #[] 73)).frozen? ⟨g2, 1, none⟩ = false := by simp only [World.frozen?, k2]; simp
  have f2 : (w.alloc (.cells #[] 73)).frozen? ⟨g3, 0, none⟩ = false := by simp only [World.frozen?, k3]; simp
  have k4 := (Below.heap_setCell (w.alloc (.cells #[] 73)) ⟨g2, 0, none⟩ (.int .i64 0) g3 (blk_ne k3 k2 (by decide))).trans k3
  have e3 : ((w.alloc (.cells #[] 73)).setCell ⟨g2, 0, none⟩ (.int .i64 0)).cell? ⟨g3, 0, none⟩ = some (.int .i64 b) := by simp only [World.cell?, k4]; simp
  simp [wpOpsS, go_sem, bodyPostS, results, Tryd.results46, e0, e1, e2, f0, f1, f2, e3]
  go_goals
  exact ⟨_, rfl⟩
theorem catch_idle (g2 g3 : Nat) (w : World) :
    CallsD Tryd.prog 46 #[.pointer (some ⟨g2, 0, none⟩), .pointer (some ⟨g3, 0, none⟩)] .returning w fun e u' w' => e = .returned (.tuple #[]) ∧ u' = .returning ∧ ∃ o, w' = w.alloc o := by
  refine callsD_of_wpS Tryd.func46 rfl fun c₀ cs hu => ?_
  apply wpS_seq
  apply wpS_region
  simp [assertBad_yes, assertBad_nil, wpOpsS, go_sem, recoverD, hu, Tryd.ntmps46, Exit.thenS]
  apply wpS_seq
  apply wpS_region
  simp [wpOpsS, go_sem, Exit.thenS]
  refine wpS_cond (t := false) (by simp [Act.eval, Array.replicate]) ?_
  simp only [Bool.false_eq_true, if_false]
  refine wpS_of_wp (wp_skip ?_)
  cases c₀
  simp_all [bodyPostS, results, Tryd.results46]
  exact ⟨_, rfl⟩
end Go.Proofs.YtfmpaofbnjlniaaDoor.F
/- The textual form of a structure, as a list of bytes; plain lemmas on it. -/
namespace Go.Proofs.YtfmpaofbnjlniaaDoor.F
open Go.RowKit
set_option linter.unusedVariables false
def digs (x : Int) : List UInt8 := Lib.decDigits x.toNat
def tupRest : List Int → List UInt8
  | [] => []
  | x :: xs => 44 :: (digs x ++ tupRest xs)
def tupJ : List Int → List UInt8
  | [] => []
  | x :: xs => digs x ++ tupRest xs
def tupPre (t : List Int) : List UInt8 := match t with | [] => [40, 41] | _ :: _ => []
def tupT (t : List Int) : List UInt8 := tupPre t ++ tupJ t
def tupsT : List (List Int) → List UInt8
  | [] => []
  | t :: ts => 32 :: (tupT t ++ tupsT ts)
def relHd (r : S54) : List UInt8 := [59, 32] ++ r.f0.data.toList ++ [47] ++ digs r.f1
def relT (r : S54) : List UInt8 := relHd r ++ tupsT r.f2
def relsT : List S54 → List UInt8
  | [] => []
  | r :: rs => relT r ++ relsT rs
def textL (n : Int) (l : List S54) : List UInt8 := digs n ++ relsT l
theorem tupRest_app (l m : List Int) : tupRest (l ++ m) = tupRest l ++ tupRest m := by
  induction l with
  | nil => rfl
  | cons x xs ih => simp [tupRest, ih]
theorem tupJ_snoc (l : List Int) (x : Int) : tupJ (l ++ [x]) = tupJ l ++ (if l = [] then [] else [44]) ++ digs x := by
  cases l with
  | nil => simp [tupJ, tupRest]
  | cons y ys => simp [tupJ, tupRest_app, tupRest]
theorem tupsT_app (l m : List (List Int)) : tupsT (l ++ m) = tupsT l ++ tupsT m := by
  induction l with
  | nil => rfl
  | cons x xs ih => simp [tupsT, ih]
theorem tupsT_snoc (l : List (List Int)) (t : List Int) : tupsT (l ++ [t]) = tupsT l ++ [32] ++ tupT t := by rw [tupsT_app]; simp [tupsT]
theorem relsT_app (l m : List S54) : relsT (l ++ m) = relsT l ++ relsT m := by
  induction l with
  | nil => rfl
  | cons x xs ih => simp [relsT, ih]
theorem relsT_snoc (l : List S54) (r : S54) : relsT (l ++ [r]) = relsT l ++ relHd r ++ tupsT r.f2 := by rw [relsT_app]; simp [relsT, relT]
theorem take_snoc' {α : Type} {l : List α} {k : Nat} {x : α} (h : l[k]? = some x) : l.take (k + 1) = l.take k ++ [x] := by
  obtain ⟨hk, rfl⟩ := List.getElem?_eq_some_iff.1 h
  rw [List.take_succ_eq_append_getElem hk]
theorem split_at {α : Type} {l : List α} {k : Nat} {x : α} (h : l[k]? = some x) : l = l.take k ++ [x] ++ l.drop (k + 1) := by
  rw [← take_snoc' h, List.take_append_drop]
theorem relsT_len {l : List S54} {k : Nat} {r : S54} (h : l[k]? = some r) : (relsT (l.take k)).length + (relHd r).length + (tupsT r.f2).length ≤ (relsT l).length := by
  conv => rhs; rw [split_at h]
  rw [relsT_app, relsT_snoc]; simp; omega
theorem tupsT_len {l : List (List Int)} {k : Nat} {t : List Int} (h : l[k]? = some t) : (tupsT (l.take k)).length + 1 + (tupPre t).length + (tupJ t).length ≤ (tupsT l).length := by
  conv => rhs; rw [split_at h]
  rw [tupsT_app, tupsT_snoc]; simp [tupT]; omega
theorem tupJ_len {l : List Int} {k : Nat} {x : Int} (h : l[k]? = some x) : (tupJ (l.take k)).length + (if l.take k = [] then [] else [(44 : UInt8)]).length + (digs x).length ≤ (tupJ l).length := by
  have hs := split_at h
  generalize hA : l.take k = A at hs ⊢
  generalize l.drop (k + 1) = B at hs
  subst hs
  cases A with
  | nil => simp [tupJ]
  | cons y ys => simp [tupJ, tupRest_app, tupRest]; omega
/-- All that Itoa is asked of lies in 0 .. 99, and the text is no longer than a Builder holds. -/
def okW (n : Int) (l : List S54) : Prop :=
  (0 ≤ n ∧ n < 100) ∧ (∀ r ∈ l, (0 ≤ r.f1 ∧ r.f1 < 100) ∧ ∀ t ∈ r.f2, ∀ x ∈ t, 0 ≤ x ∧ x < 100) ∧ (textL n l).length ≤ 140737488355328
open Classical in
noncomputable def shape_write.f (n : Int) (l : List S54) : Option ByteArray := if okW n l then some ⟨(textL n l).toArray⟩ else none
theorem write_ok {n : Int} {l : List S54} {r : ByteArray} (h : shape_write.f n l = some r) : okW n l ∧ r = ⟨(textL n l).toArray⟩ := by
  unfold shape_write.f at h
  split at h
  · rename_i h1
    exact ⟨h1, (Option.some.inj h).symm⟩
  · cases h
end Go.Proofs.YtfmpaofbnjlniaaDoor.F
namespace Go.Proofs.YtfmpaofbnjlniaaDoor.Build
open Go.RowKit Go.Shelf
set_option linter.unusedVariables false
def ren : Go.Shelf.Ren := ⟨fun | 166 => 61 | 167 => 63 | 240 => 73 | 276 => 83 | n => n, fun | 0 => 0 | 3 => 3 | 4 => 4 | 5 => 5 | 9 => 9 | 20 => 20 | 37 => 93 | 70 => 92 | 72 => 95 | 75 => 97 | 80 => 102 | 81 => 98 | 164 => 113 | n => n, fun | n => n⟩
theorem lays167 : Go.Proofs.Lays.n167 Tryd.prog ren := {
  mixed := by kernel_rfl
  f167 := Tryd.func63.trans (congrArg some (by kernel_rfl))
  f240 := Tryd.func73.trans (congrArg some (by kernel_rfl))
  f276 := Tryd.func83.trans (congrArg some (by kernel_rfl))
  t0 := Tryd.underlying0
  a0 := Tryd.isAgg0
  z0 := Tryd.sizeOf0
  v0 := Tryd.zeroValue0
  t4 := Tryd.underlying4
  a4 := Tryd.isAgg4
  z4 := Tryd.sizeOf4
  v4 := Tryd.zeroValue4
  t5 := Tryd.underlying5
  a5 := Tryd.isAgg5
  z5 := Tryd.sizeOf5
  v5 := Tryd.zeroValue5
  t9 := Tryd.underlying9
  a9 := Tryd.isAgg9
  z9 := Tryd.sizeOf9
  v9 := Tryd.zeroValue9
  t20 := Tryd.underlying20
  a20 := Tryd.isAgg20
  z20 := Tryd.sizeOf20
  v20 := Tryd.zeroValue20
  t37 := Tryd.underlying93
  a37 := Tryd.isAgg93
  z37 := Tryd.sizeOf93
  v37 := Tryd.zeroValue93
  t70 := Tryd.underlying92
  a70 := Tryd.isAgg92
  z70 := Tryd.sizeOf92
  v70 := Tryd.zeroValue92
  t72 := Tryd.underlying95
  a72 := Tryd.isAgg95
  z72 := Tryd.sizeOf95
  v72 := Tryd.zeroValue95
  t75 := Tryd.underlying97
  a75 := Tryd.isAgg97
  z75 := Tryd.sizeOf97
  v75 := Tryd.zeroValue97
  t164 := Tryd.underlying113
  a164 := Tryd.isAgg113
  z164 := Tryd.sizeOf113
  v164 := Tryd.zeroValue113 }
theorem lays166 : Go.Proofs.Lays.n166 Tryd.prog ren := {
  mixed := by kernel_rfl
  f166 := Tryd.func61.trans (congrArg some (by kernel_rfl))
  f240 := Tryd.func73.trans (congrArg some (by kernel_rfl))
  f276 := Tryd.func83.trans (congrArg some (by kernel_rfl))
  t0 := Tryd.underlying0
  a0 := Tryd.isAgg0
  z0 := Tryd.sizeOf0
  v0 := Tryd.zeroValue0
  t3 := Tryd.underlying3
  a3 := Tryd.isAgg3
  z3 := Tryd.sizeOf3
  v3 := Tryd.zeroValue3
  t4 := Tryd.underlying4
  a4 := Tryd.isAgg4
  z4 := Tryd.sizeOf4
  v4 := Tryd.zeroValue4
  t9 := Tryd.underlying9
  a9 := Tryd.isAgg9
  z9 := Tryd.sizeOf9
  v9 := Tryd.zeroValue9
  t20 := Tryd.underlying20
  a20 := Tryd.isAgg20
  z20 := Tryd.sizeOf20
  v20 := Tryd.zeroValue20
  t37 := Tryd.underlying93
  a37 := Tryd.isAgg93
  z37 := Tryd.sizeOf93
  v37 := Tryd.zeroValue93
  t70 := Tryd.underlying92
  a70 := Tryd.isAgg92
  z70 := Tryd.sizeOf92
  v70 := Tryd.zeroValue92
  t72 := Tryd.underlying95
  a72 := Tryd.isAgg95
  z72 := Tryd.sizeOf95
  v72 := Tryd.zeroValue95
  t75 := Tryd.underlying97
  a75 := Tryd.isAgg97
  z75 := Tryd.sizeOf97
  v75 := Tryd.zeroValue97
  t164 := Tryd.underlying113
  a164 := Tryd.isAgg113
  z164 := Tryd.sizeOf113
  v164 := Tryd.zeroValue113 }
theorem extra : Go.Proofs.Builder.Extra Tryd.prog ren := {
  sizeBuilder := by kernel_rfl
  liesBuilder := by kernel_rfl
  t5 := Tryd.underlying5
  a5 := Tryd.isAgg5
  z5 := Tryd.sizeOf5
  v5 := Tryd.zeroValue5
  infoByte := by kernel_rfl
  cellsByte := by kernel_rfl
  sizeByte := by kernel_rfl
  neB5 := by decide }
/-- A builder in block b (from B on) that holds the bytes l. -/
def BL (B b : Nat) (l : List UInt8) (w : World) : Prop := Lib.IsBuilderF 95 5 B b (Lib.byteCells l) w
theorem cells_app (l m : List UInt8) : Lib.byteCells l ++ Lib.byteCells m = Lib.byteCells (l ++ m) := by simp [Lib.byteCells]
theorem BL.of {B b : Nat} {l : List UInt8} {w w' : World} {p : Value} (h : Lib.BuilderAtF 95 5 B b p (Lib.byteCells l) w') (hp : p = .pointer (some ⟨b, 0, none⟩)) : BL B b l w' := by subst hp; exact .inr h
theorem write_string (B b : Nat) (l : List UInt8) (s : ByteArray) (w : World) (h : BL B b l w) (hlen : l.length + s.size ≤ 140737488355328) (hBw : B ≤ w.heap.size) :
    Calls Tryd.prog 61 #[.pointer (some ⟨b, 0, none⟩), .string s] w fun e w' => e = .returned (.tuple #[.int .i64 s.size, .nilIface]) ∧ BL B b (l ++ s.data.toList) w' ∧ Below B w w' ∧ Lib.OthersKept 5 (some b) w w' :=
  (Any.Builder_WriteString_k lays166 extra B b _ s w h (by rw [Lib.byteCells_length]; exact hlen) hBw).mono fun e w' ⟨he, hb, hl, hk⟩ => ⟨he, .inr (by rw [← cells_app]; exact hb), hl, hk⟩
theorem write_byte (B b : Nat) (l : List UInt8) (c : UInt8) (w : World) (h : BL B b l w) (hlen : l.length + 1 ≤ 140737488355328) (hBw : B ≤ w.heap.size) :
    Calls Tryd.prog 63 #[.pointer (some ⟨b, 0, none⟩), .int .u8 (c.toNat : Int)] w fun e w' => e = .returned .nilIface ∧ BL B b (l ++ [c]) w' ∧ Below B w w' ∧ Lib.OthersKept 5 (some b) w w' :=
  (Any.Builder_WriteByte_k lays167 extra B b _ _ w h (by rw [Lib.byteCells_length]; exact hlen) hBw).mono fun e w' ⟨he, hb, hl, hk⟩ => ⟨he, .inr (by rw [← cells_app]; exact hb), hl, hk⟩
theorem write_byte' (B b : Nat) (l : List UInt8) (x : UInt8) (c : Int) (w : World) (hx : (x.toNat : Int) = c) (h : BL B b l w) (hlen : l.length + 1 ≤ 140737488355328) (hBw : B ≤ w.heap.size) :
    Calls Tryd.prog 63 #[.pointer (some ⟨b, 0, none⟩), .int .u8 c] w fun e w' => e = .returned .nilIface ∧ BL B b (l ++ [x]) w' ∧ Below B w w' ∧ Lib.OthersKept 5 (some b) w w' := hx ▸ write_byte B b l x w h hlen hBw
theorem BL.fresh (w : World) : BL w.heap.size w.heap.size [] (w.alloc (.cells #[.pointer none, .slice none 0 0] 95)) := Lib.IsBuilderF.of (Lib.fresh_isBuilder _ _ w)
theorem kept_blk {b : Nat} {w w' : World} {g t : Nat} {cs : Array Value} (hk : Lib.OthersKept 5 (some b) w w') (h : w.heap[g]? = some (.cells cs t (0, 0))) (hne : g ≠ b) (ht : t ≠ 5) : w'.heap[g]? = some (.cells cs t (0, 0)) :=
  hk g _ h (by simpa using hne) (fun c fz e => by injection e with _ e _; exact ht e)
theorem string_of (B b : Nat) (l : List UInt8) (w : World) (h : BL B b l w) (hBw : B ≤ w.heap.size) :
    Calls Tryd.prog 64 #[.pointer (some ⟨b, 0, none⟩)] w fun e w' => e = .returned (.string ⟨l.toArray⟩) ∧ BL B b l w' ∧ Below B w w' :=
  (Tryd.Builder_String_any_k B b l w h hBw).mono fun e w' ⟨he, hb, hl, _⟩ => ⟨he, hb, hl⟩
theorem BL.alloc {B b : Nat} {l : List UInt8} {w : World} (h : BL B b l w) (o : Obj) : BL B b l (w.alloc o) := h.elim (fun x => .inl (x.alloc o)) (fun x => .inr (x.alloc o))
theorem BL.drew {B b : Nat} {l : List UInt8} {w : World} (h : BL B b l w) : BL B b l w.drew := h.elim (fun x => .inl x.drew) (fun x => .inr x.drew)
theorem BL.drewN {B b : Nat} {l : List UInt8} {w : World} (h : BL B b l w) (n : Nat) : BL B b l (w.drewN n) := by
  induction n with
  | zero => exact h
  | succ n ih => exact ih.drew
end Go.Proofs.YtfmpaofbnjlniaaDoor.Build
/- shape.write, by hand: a strings.Builder written in three nested loops. -/
namespace Go.Proofs.YtfmpaofbnjlniaaDoor.F
open Go.RowKit Go.Proofs.YtfmpaofbnjlniaaDoorW.PrintWords Go.Proofs.YtfmpaofbnjlniaaDoorW.PrintLast Go.Proofs.YtfmpaofbnjlniaaDoorW.PrintMore
set_option linter.unusedVariables false
set_option linter.unusedSimpArgs false
theorem at_rows {α : Type} {d : Kd α} {e : Nat} {w : World} {A : Option Addr} {n : Nat} {xs : List (List α)} (h : Kd.C (Kd.slice e d) w A n xs) (k : Nat) (h1 : k < n) : ∃ ad A0 c0 t, A = some ad ∧ xs[k]? = some t ∧ w.cell? (ad.add k) = some (.slice A0 t.length c0) ∧ t.length ≤ c0 ∧ d.C w A0 t.length t := by
  have hl := Kd.C_len h
  obtain ⟨ad, c, e, _, hK, hc0⟩ := Kd.C_get h ([] : List α) (k : Int) (by omega) (by omega)
  have hc : ∀ j u, c[j]? = some u → w.cell? (ad.add ((k : Int).toNat * 1 + j)) = some u := hc0
  obtain ⟨A0, c0, rfl, l0, g0⟩ := hK
  rw [Int.toNat_natCast] at *
  have hx : xs[k]? = some (xs.getD k []) := by rw [List.getElem?_eq_getElem (by omega), List.getD_eq_getElem?_getD, List.getElem?_eq_getElem (by omega)]; rfl
  exact ⟨ad, A0, c0, xs.getD k [], e, hx, by have hq := hc 0 _ rfl; rwa [Nat.mul_one, Nat.add_zero] at hq, l0, g0⟩
theorem itoa_small (x : Int) (h0 : 0 ≤ x) (h1 : x < 100) (w : World) : Calls Tryd.prog 62 #[.int .i64 x] w fun e w' => e = .returned (.string ⟨(digs x).toArray⟩) ∧ w' = w := by
  have h := Tryd.strconv_Itoa_small x.toNat (by omega) w
  rw [Int.toNat_of_nonneg h0] at h
  exact h
open Build in
set_option maxHeartbeats 4000000 in
set_option maxRecDepth 100000 in
theorem shape_write.calls (a0_0 : Int) (A0_1 : Option Addr) (c0_1 : Nat) (l0_1 : List S54) (r : ByteArray) (w : World) (hr0_1 : Kd.C k54 w A0_1 l0_1.length l0_1) (hc0_1 : l0_1.length ≤ c0_1) (h : shape_write.f a0_0 l0_1 = some r) :
    Calls Tryd.prog 45 #[.agg #[.int .i64 a0_0, .slice A0_1 l0_1.length c0_1]] w fun e w' => e = .returned (.string r) ∧ Below w.heap.size w w' := by
  obtain ⟨⟨⟨hn0, hn1⟩, hall, hlen⟩, hr⟩ := write_ok h
  clear h
  have HL := Aside0.mk hlen
  have HALL := Aside0.mk hall
  have HR := Aside0.mk hr0_1
  have HX := Aside0.mk hr
  have hm := Kd.C_max hr0_1
  have HL2 := Aside0.mk (show (digs a0_0).length + (relsT l0_1).length ≤ 140737488355328 by have := hlen; unfold textL at this; simpa using this)
  clear hlen hall hr0_1 hr
  go_enter Tryd.func45, Tryd.ntmps45
  go_wp2_with (go_at_call 62; refine (itoa_small _ hn0 hn1 _).mono ?_; rintro e w' ⟨rfl, rfl⟩)
  have hfr : BL (w.heap.size + 1) (w.heap.size + 1) [] ((w.alloc (.cells #[.int .i64 a0_0, .slice A0_1 l0_1.length c0_1] 38)).alloc (.cells #[.pointer none, .slice none 0 0] 95)) := by
    have := BL.fresh (w.alloc (.cells #[.int .i64 a0_0, .slice A0_1 l0_1.length c0_1] 38))
    simpa using this
  refine (write_string (w.heap.size + 1) (w.heap.size + 1) [] ⟨(digs a0_0).toArray⟩ _ hfr (by have := HL2.out; simp; show (digs a0_0).toArray.size ≤ _; simp; omega) (by simp)).mono ?_
  rintro e w1 ⟨rfl, hbl, hb, _⟩
  have HBL := Aside0.mk (show BL (w.heap.size + 1) (w.heap.size + 1) (digs a0_0) w1 by simpa using hbl)
  have HB := Aside0.mk (show Below w.heap.size w w1 from ((below_alloc (below_alloc (Below.refl _ _) _) _).trans (hb.mono (by simp))))
  have hcs : w1.cell? ⟨w.heap.size, 1, none⟩ = some (.slice A0_1 l0_1.length c0_1) := (hb.cell (p := ⟨w.heap.size, 1, none⟩) (Nat.lt_succ_self _)).trans (by simp)
  have HS0 := Aside0.mk (show w.heap.size + 2 ≤ w1.heap.size by have := hb.size; simpa using this)
  clear hfr hbl hb
  go_wp2
  go_loopw [17] (fun v17 wr => ∃ k : Nat, v17 = .int .i64 k ∧ k ≤ l0_1.length ∧ Aside0 (BL (w.heap.size + 1) (w.heap.size + 1) (digs a0_0 ++ relsT (l0_1.take k)) wr) ∧ Aside0 (Below w.heap.size w wr) ∧ Aside0 (w.heap.size + 2 ≤ wr.heap.size)) (fun v17 _ => l0_1.length - (intOf v17).toNat)
  case atStart => exact ⟨0, rfl, Nat.zero_le _, ⟨by simpa [relsT] using HBL.out⟩, HB, HS0⟩
  case round =>
    clear HBL HB hcs HS0
    obtain ⟨k, rfl, hk, HBL, HB, HS⟩ := hrel
    by_cases hlt : k < l0_1.length
    · obtain ⟨ad, A2, c2, hA, hcell0, hcell1, hcell2, hl2, hC2⟩ := at_T54 HR.out (k : Int) (by omega) (by omega)
      subst hA
      have hx : l0_1[k]? = some (rd_T54 l0_1 (k : Int)) := by unfold rd_T54; rw [List.getElem?_eq_getElem hlt, List.getD_eq_getElem?_getD, Int.toNat_natCast, List.getElem?_eq_getElem hlt]; rfl
      obtain ⟨⟨hf0, hf1⟩, hel⟩ := HALL.out _ (List.mem_of_getElem? hx)
      have HX1 := Aside0.mk hx
      have HEL := Aside0.mk hel
      have HC2 := Aside0.mk hC2
      have HT := Aside0.mk (relsT_len hx)
      have hm2 := Kd.C_max hC2
      replace hcell0 := pw_cell_below HB.out hcell0
      replace hcell1 := pw_cell_below HB.out hcell1
      replace hcell2 := pw_cell_below HB.out hcell2
      clear hx hel hC2
      simp only [Int.toNat_natCast] at hcell0 hcell1 hcell2
      generalize rd_T54 l0_1 (k : Int) = rel at *
      obtain ⟨f0, f1, f2⟩ := rel
      simp only at hcell0 hcell1 hcell2 hl2 hf0 hf1 HEL HC2 hm2
      go_wp2
      have hc0 : (wr.alloc (.cells #[.string f0, .int .i64 f1, .slice A2 f2.length c2] 54)).cell? ⟨wr.heap.size, 0, none⟩ = some (.string f0) := by simp
      have hc1 : (wr.alloc (.cells #[.string f0, .int .i64 f1, .slice A2 f2.length c2] 54)).cell? ⟨wr.heap.size, 1, none⟩ = some (.int .i64 f1) := by simp
      have HN := Aside0.mk (show (wr.alloc (.cells #[.string f0, .int .i64 f1, .slice A2 f2.length c2] 54)).heap[wr.heap.size]? = some (.cells #[.string f0, .int .i64 f1, .slice A2 f2.length c2] 54 (0, 0)) from heap_alloc_new wr _)
      have HBL1 := Aside0.mk (HBL.out.alloc (.cells #[.string f0, .int .i64 f1, .slice A2 f2.length c2] 54))
      have HB1 := Aside0.mk (below_alloc HB.out (.cells #[.string f0, .int .i64 f1, .slice A2 f2.length c2] 54))
      have HS1 := Aside0.mk (show wr.heap.size < (wr.alloc (.cells #[.string f0, .int .i64 f1, .slice A2 f2.length c2] 54)).heap.size by simp)
      have HS2 := Aside0.mk (Nat.le_trans HS.out (Nat.le_of_lt HS1.out))
      generalize wr.alloc (.cells #[.string f0, .int .i64 f1, .slice A2 f2.length c2] 54) = W at *
      clear HBL HB hcell0 hcell1 hcell2
      generalize wr.heap.size = nb at *
      have hd0 : ({ W with drawn := W.drawn + 1 } : World).cell? ⟨nb, 0, none⟩ = some (.string f0) := hc0
      have hd1 : ({ W with drawn := W.drawn + 1 } : World).cell? ⟨nb, 1, none⟩ = some (.int .i64 f1) := hc1
      have HZ := Aside0.mk (show (digs a0_0).length + (relsT (List.take k l0_1)).length + (2 + f0.size + 1 + (digs f1).length) + (tupsT f2).length ≤ 140737488355328 by have h1 := HL2.out; have h2 := HT.out; simp [relHd, data_length] at h2; omega)
      have hz1 : ¬ 9223372036854775807 < 2 + f0.size := by have := HZ.out; omega
      have hz2 : ¬ 9223372036854775807 < 2 + f0.size + 1 := by have := HZ.out; omega
      have hz3 : ¬ 9223372036854775807 < 2 + f0.size + 1 + (digs f1).length := by have := HZ.out; omega
      go_still_tail 8, (by kernel_rfl)
      still_call (itoa_small _ hf0 hf1 _)
      repeat still_step
      refine wpStill_nil ?_
      change wpList _ _ _ _ _ W.drew
      go_wp2_with (fail)
      refine (write_string (w.heap.size + 1) (w.heap.size + 1) (digs a0_0 ++ relsT (l0_1.take k)) _ _ HBL1.out.drew (by have := HZ.out; simp only [List.length_append, ByteArray.size_append]; show _ + (2 + f0.size + 1 + (digs f1).toArray.size) ≤ _; simp only [List.size_toArray]; omega) (by have := HS2.out; simp; omega)).mono ?_
      rintro e w2 ⟨rfl, hb2, hbb, hkk⟩
      have HBL2 := Aside0.mk (show BL (w.heap.size + 1) (w.heap.size + 1) (digs a0_0 ++ relsT (l0_1.take k) ++ relHd ⟨f0, f1, f2⟩ ++ tupsT (f2.take 0)) w2 by simpa [relHd, tupsT] using hb2)
      have HB2 := Aside0.mk (show Below w.heap.size w w2 from (below_drew HB1.out).trans (hbb.mono (Nat.le_succ _)))
      have HS4 := Aside0.mk (show w.heap.size + 2 ≤ w2.heap.size from Nat.le_trans HS2.out (by have := hbb.size; simpa using this))
      have he2 : w2.cell? ⟨nb, 2, none⟩ = some (.slice A2 f2.length c2) := by
        have := kept_blk hkk HN.out (by have := HS.out; omega) (by decide)
        simp [World.cell?, this]
      clear hb2 hbb hkk hz1 hz2 hz3 hd0 hd1 hc0 hc1 HBL1 HB1 HN
      go_wp2
      clear he2
      go_loopw [33] (fun v33 wm => ∃ j : Nat, v33 = .int .i64 j ∧ j ≤ f2.length ∧ Aside0 (BL (w.heap.size + 1) (w.heap.size + 1) (digs a0_0 ++ relsT (l0_1.take k) ++ relHd ⟨f0, f1, f2⟩ ++ tupsT (f2.take j)) wm) ∧ Aside0 (Below w.heap.size w wm) ∧ Aside0 (w.heap.size + 2 ≤ wm.heap.size)) (fun v33 _ => f2.length - (intOf v33).toNat)
      case atStart => exact ⟨0, rfl, Nat.zero_le _, HBL2, HB2, HS4⟩
      case round =>
        clear HBL2 HB2 HS4
        obtain ⟨j, rfl, hj, HBL, HB, HS⟩ := hrel
        by_cases hlj : j < f2.length
        · obtain ⟨ad2, A0, c0, t, hA2, htx, htcell, htl, hC4⟩ := at_rows HC2.out j hlj
          subst hA2
          replace htcell := pw_cell_below HB.out htcell
          have hm4 := Kd.C_max hC4
          have HT2 := Aside0.mk (tupsT_len htx)
          have HM := Aside0.mk (HEL.out t (List.mem_of_getElem? htx))
          have HTX := Aside0.mk htx
          have HC4 := Aside0.mk hC4
          clear htx hC4
          have HZ2 := Aside0.mk (show (digs a0_0 ++ relsT (l0_1.take k) ++ relHd ⟨f0, f1, f2⟩ ++ tupsT (f2.take j)).length + 1 + (tupPre t).length + (tupJ t).length ≤ 140737488355328 by have h1 := HZ.out; have h2 := HT2.out; simp [relHd, data_length]; omega)
          generalize hQ : digs a0_0 ++ relsT (l0_1.take k) ++ relHd ⟨f0, f1, f2⟩ ++ tupsT (f2.take j) = Q at HBL HZ2
          have HQE := Aside0.mk hQ
          clear hQ
          go_wp2_with (fail)
          refine (write_byte' (w.heap.size + 1) (w.heap.size + 1) Q 32 _ _ (by decide) HBL.out (by have := HZ2.out; omega) (by have := HS.out; omega)).mono ?_
          rintro e w3 ⟨rfl, hb3, hbb, _⟩
          have HBL3 := Aside0.mk hb3
          have HB3 := Aside0.mk (HB.out.trans (hbb.mono (Nat.le_succ _)))
          have HS5 := Aside0.mk (show w.heap.size + 2 ≤ w3.heap.size from Nat.le_trans HS.out hbb.size)
          clear htcell
          clear hb3 hbb HBL HB HS
          go_upto_if 40 with (fail)
          go_cut [] (fun wc => Aside0 (BL (w.heap.size + 1) (w.heap.size + 1) (Q ++ [32] ++ tupPre t) wc) ∧ Aside0 (Below w.heap.size w wc) ∧ Aside0 (w.heap.size + 2 ≤ wc.heap.size))
          case first =>
            by_cases ht : t = []
            · have h1 : ((t.length : Int) == 0) = true := by subst ht; rfl
              have h2 : (t.length == 0) = true := by subst ht; rfl
              have hp : tupPre t = [40, 41] := by subst ht; rfl
              have HP := Aside0.mk hp
              clear ht hp
              go_wp2_with (fail)
              refine (write_string (w.heap.size + 1) (w.heap.size + 1) (Q ++ [32]) ⟨#[40, 41]⟩ _ HBL3.out (by have := HZ2.out; rw [HP.out] at this; simp at this ⊢; show _ + 1 + 2 ≤ _; omega) (by have := HS5.out; omega)).mono ?_
              rintro e w4 ⟨rfl, hb4, hbb, _⟩
              have HBL4 := Aside0.mk hb4
              have HB4 := Aside0.mk (HB3.out.trans (hbb.mono (Nat.le_succ _)))
              have HS6 := Aside0.mk (show w.heap.size + 2 ≤ w4.heap.size from Nat.le_trans HS5.out hbb.size)
              clear hb4 hbb
              go_wp2
              go_meet
              case rel => exact ⟨⟨by rw [HP.out]; exact HBL4.out⟩, HB4, HS6⟩
            · have h1 : ((t.length : Int) == 0) = false := by rw [beq_eq_false_iff_ne]; intro e; exact ht (List.eq_nil_of_length_eq_zero (by omega))
              have h2 : (t.length == 0) = false := by rw [beq_eq_false_iff_ne]; intro e; exact ht (List.eq_nil_of_length_eq_zero e)
              have hp : tupPre t = [] := by cases t with | nil => exact absurd rfl ht | cons a b => rfl
              have HP := Aside0.mk hp
              have h3 : ¬ (t = []) := ht
              clear hp ht
              go_wp2
              go_meet
              case rel => exact ⟨⟨by rw [HP.out, List.append_nil]; exact HBL3.out⟩, HB3, HS5⟩
          case rest =>
            clear HBL3 HB3 HS5
            obtain ⟨HBL5, HB5, HS7⟩ := hcut
            have HZ3 := Aside0.mk (show (Q ++ [32] ++ tupPre t).length + (tupJ t).length ≤ 140737488355328 by have h2 := HZ2.out; simp; omega)
            have HTT := Aside0.mk (show Q ++ [32] ++ tupPre t ++ tupJ t = Q ++ [32] ++ tupT t by simp [tupT])
            generalize Q ++ [32] ++ tupPre t = R at HBL5 HZ3 HTT
            go_wp2
            go_loopw [44] (fun v44 wi => ∃ i : Nat, v44 = .int .i64 i ∧ i ≤ t.length ∧ Aside0 (BL (w.heap.size + 1) (w.heap.size + 1) (R ++ tupJ (t.take i)) wi) ∧ Aside0 (Below w.heap.size w wi) ∧ Aside0 (w.heap.size + 2 ≤ wi.heap.size)) (fun v44 _ => t.length - (intOf v44).toNat)
            case atStart => exact ⟨0, rfl, Nat.zero_le _, ⟨by simpa [tupJ] using HBL5.out⟩, HB5, HS7⟩
            case round =>
              clear HBL5 HB5 HS7
              obtain ⟨i, rfl, hi, HBL, HB, HS⟩ := hrel
              by_cases hli : i < t.length
              · obtain ⟨ad3, hA3, hicell⟩ := Kd.at_int HC4.out (i : Int) (by omega) (by omega)
                subst hA3
                replace hicell := pw_cell_below HB.out hicell
                simp only [Int.toNat_natCast] at hicell
                have hix : t[i]? = some (rd t (i : Int)) := by unfold rd; rw [List.getElem?_eq_getElem hli, List.getD_eq_getElem?_getD, Int.toNat_natCast, List.getElem?_eq_getElem hli]; rfl
                obtain ⟨hx0, hx1⟩ := HM.out _ (List.mem_of_getElem? hix)
                have HT3 := Aside0.mk (tupJ_len hix)
                have HIX := Aside0.mk hix
                clear hix
                generalize rd t (i : Int) = x at *
                have HZ4 := Aside0.mk (show (R ++ tupJ (t.take i)).length + (if t.take i = [] then [] else [(44 : UInt8)]).length + (digs x).length ≤ 140737488355328 by have h1 := HZ3.out; have h2 := HT3.out; rw [List.length_append]; omega)
                have HN1 := Aside0.mk (show R ++ tupJ (t.take (i + 1)) = R ++ tupJ (t.take i) ++ (if t.take i = [] then [] else [44]) ++ digs x by rw [take_snoc' HIX.out, tupJ_snoc]; simp)
                by_cases h0 : i = 0
                · have hp : (if t.take i = [] then ([] : List UInt8) else [44]) = [] := by subst h0; simp
                  rw [hp] at HZ4 HN1
                  generalize R ++ tupJ (t.take i) = S at HBL HZ4 HN1
                  have hg : decide (0 < (i : Int)) = false := by subst h0; rfl
                  have hg2 : decide (0 < i) = false := by subst h0; rfl
                  clear hp h0
                  go_wp2_with (go_at_call 62; refine (itoa_small _ hx0 hx1 _).mono ?_; rintro e w' ⟨rfl, rfl⟩)
                  refine (write_string (w.heap.size + 1) (w.heap.size + 1) S ⟨(digs x).toArray⟩ _ HBL.out (by have := HZ4.out; simp at this; show _ + (digs x).toArray.size ≤ _; simp; omega) (by have := HS.out; omega)).mono ?_
                  rintro e w6 ⟨rfl, hb6, hbb, _⟩
                  have HBL6 := Aside0.mk hb6
                  have HB6 := Aside0.mk (HB.out.trans (hbb.mono (Nat.le_succ _)))
                  have HS8 := Aside0.mk (show w.heap.size + 2 ≤ w6.heap.size from Nat.le_trans HS.out hbb.size)
                  clear hb6 hbb
                  go_wp2
                  go_roundw
                  case rel => exact ⟨i + 1, by go_num, by omega, ⟨by rw [HN1.out]; simpa using HBL6.out⟩, HB6, HS8⟩
                  case measure => simp [intOf]; omega
                · have hp : (if t.take i = [] then ([] : List UInt8) else [44]) = [44] := by rw [if_neg]; intro e; rw [List.take_eq_nil_iff] at e; rcases e with e | e; exact h0 e; subst e; simp at hli
                  rw [hp] at HZ4 HN1
                  generalize R ++ tupJ (t.take i) = S at HBL HZ4 HN1
                  have hg : decide (0 < (i : Int)) = true := by simp; omega
                  have hg2 : decide (0 < i) = true := by simp; omega
                  clear hp h0
                  go_wp2_with (fail)
                  refine (write_byte' (w.heap.size + 1) (w.heap.size + 1) S 44 _ _ (by decide) HBL.out (by have := HZ4.out; simp at this; omega) (by have := HS.out; omega)).mono ?_
                  rintro e w7 ⟨rfl, hb7, hbc, _⟩
                  have HBL7 := Aside0.mk hb7
                  have HB7 := Aside0.mk (HB.out.trans (hbc.mono (Nat.le_succ _)))
                  have HS9 := Aside0.mk (show w.heap.size + 2 ≤ w7.heap.size from Nat.le_trans HS.out hbc.size)
                  clear hb7 hbc hicell
                  go_wp2_with (go_at_call 62; refine (itoa_small _ hx0 hx1 _).mono ?_; rintro e w' ⟨rfl, rfl⟩)
                  refine (write_string (w.heap.size + 1) (w.heap.size + 1) (S ++ [44]) ⟨(digs x).toArray⟩ _ HBL7.out (by have := HZ4.out; simp at this ⊢; show _ + 1 + (digs x).toArray.size ≤ _; simp; omega) (by have := HS9.out; omega)).mono ?_
                  rintro e w6 ⟨rfl, hb6, hbb, _⟩
                  have HBL6 := Aside0.mk hb6
                  have HB6 := Aside0.mk (HB7.out.trans (hbb.mono (Nat.le_succ _)))
                  have HS8 := Aside0.mk (show w.heap.size + 2 ≤ w6.heap.size from Nat.le_trans HS9.out hbb.size)
                  clear hb6 hbb
                  go_wp2
                  go_roundw
                  case rel => exact ⟨i + 1, by go_num, by omega, ⟨by rw [HN1.out]; simpa using HBL6.out⟩, HB6, HS8⟩
                  case measure => simp [intOf]; omega
              · obtain rfl : i = t.length := by omega
                rw [List.take_length] at HBL
                go_wp2
                go_roundw
                case rel => exact ⟨j + 1, by go_num, by omega, ⟨by rw [take_snoc' HTX.out, tupsT_snoc, ← List.append_assoc, ← List.append_assoc, HQE.out, ← HTT.out]; exact HBL.out⟩, HB, HS⟩
                case measure => simp [intOf]; omega
        · obtain rfl : j = f2.length := by omega
          rw [List.take_length] at HBL
          go_wp2
          go_roundw
          case rel => exact ⟨k + 1, by go_num, by omega, ⟨by rw [take_snoc' HX1.out, relsT_snoc]; simpa using HBL.out⟩, HB, HS⟩
          case measure => simp [intOf]; omega
    · obtain rfl : k = l0_1.length := by omega
      rw [List.take_length] at HBL
      go_wp2_with (fail)
      refine (string_of (w.heap.size + 1) (w.heap.size + 1) _ _ HBL.out (by have := HS.out; omega)).mono ?_
      rintro e w2 ⟨rfl, _, hbb⟩
      go_wp2
      go_ret
      exact ⟨by rw [HX.out]; rfl, HB.out.trans (hbb.mono (Nat.le_succ _))⟩
end Go.Proofs.YtfmpaofbnjlniaaDoor.F
/- shape.Parse, by hand. -/
namespace Go.Proofs.YtfmpaofbnjlniaaDoor.F
open Go.RowKit Go.Proofs.YtfmpaofbnjlniaaDoorW.PrintWords Go.Proofs.YtfmpaofbnjlniaaDoorW.PrintLast Go.Proofs.YtfmpaofbnjlniaaDoorW.PrintMore
set_option linter.unusedVariables false
set_option linter.unusedSimpArgs false
open Classical in
/-- What Parse answers once the text has been read. -/
noncomputable def parseEnd (k : Nat) (s : ByteArray) : Option (Int × List S54) → Option (Int × List S54 × Int)
  | none => some (0, [], 3)
  | some p => (shape_Valid.f k p.1 p.2).bind fun b => if b = true then (shape_write.f p.1 p.2).bind fun t => if t.toList = s.toList then some (p.1, p.2, 0) else some (0, [], 3) else some (0, [], 3)
noncomputable def shape_Parse.f (k : Nat) (s : ByteArray) : Option (Int × List S54 × Int) := if (s.size : Int) > 40000 then some (0, [], 3) else parseEnd k s (parseB s)
theorem results_two (tmps : Array Value) (W : World) (g2 g3 : Nat) (a b : Int) (v : Value) (hp2 : tmps.getD 2 undef = .pointer (some ⟨g2, 0, none⟩)) (hp3 : tmps.getD 3 undef = .pointer (some ⟨g3, 0, none⟩))
    (h2 : W.heap[g2]? = some (.cells #[.int .i64 a, v] 38 (0, 0))) (h3 : W.heap[g3]? = some (.cells #[.int .i64 b] 26 (0, 0))) :
    (results Tryd.f27 tmps).run Tryd.prog W = .ok (.tuple #[.agg #[.int .i64 a, v], .int .i64 b]) W := by
  have hc : W.cell? ⟨g3, 0, none⟩ = some (.int .i64 b) := by simp [World.cell?, h3]
  have hp2' : tmps[2]?.getD undef = .pointer (some ⟨g2, 0, none⟩) := by simpa using hp2
  have hp3' : tmps[3]?.getD undef = .pointer (some ⟨g3, 0, none⟩) := by simpa using hp3
  have hr := run_loadVar_row (P := Tryd.prog) W g2 38 38 #[.int .i64 a, v] (0, 0) _ h2 Tryd.underlying38 rfl (by kernel_rfl)
  have hr3 : (loadVar 26 ⟨g3, 0, none⟩).run Tryd.prog W = .ok (.int .i64 b) W := by simp [loadVar, go_sem, hc]
  simp [results, Tryd.results27, hp2', hp3', asAddr, hr, hr3]
def PEnds (w : World) (r : Int × List S54 × Int) (e : Ending) (w' : World) : Prop := ∃ v : Value, e = .returned (.tuple #[.agg #[.int .i64 r.1, v], .int .i64 r.2.2]) ∧ Kd.R k54 54 w' w.heap.size (fun _ => True) v r.2.1 ∧ Below w.heap.size w w'
theorem leave_bad {w W : World} {tmps : Array Value} (hp2 : tmps.getD 2 undef = .pointer (some ⟨w.heap.size, 0, none⟩)) (hp3 : tmps.getD 3 undef = .pointer (some ⟨w.heap.size + 1, 0, none⟩))
    (hB : Below w.heap.size w W) (a : Int) (v : Value) (b : Int) (h2 : W.heap[w.heap.size]? = some (.cells #[.int .i64 a, v] 38 (0, 0))) (h3 : W.heap[w.heap.size + 1]? = some (.cells #[.int .i64 b] 26 (0, 0))) :
    Leaves Tryd.prog Tryd.f27 tmps (PEnds w (0, [], 3)) [{ target := .fn (.func 46) #[.pointer (some ⟨w.heap.size, 0, none⟩), .pointer (some ⟨w.heap.size + 1, 0, none⟩)], args := #[] }] (.panicking [badEntry]) W := by
  refine leaves_cons (f := 46) (args := #[.pointer (some ⟨w.heap.size, 0, none⟩), .pointer (some ⟨w.heap.size + 1, 0, none⟩)]) (by simp) (by simp [go_sem]) ?_
  refine (catch_panicking w.heap.size (w.heap.size + 1) a v b [] W h2 h3).mono ?_
  rintro e u' w'' ⟨rfl, rfl, o, rfl⟩
  have hb := below_alloc (Below.refl W.heap.size W) o
  have k2 := (hb.block w.heap.size (Array.getElem?_eq_some_iff.1 h2).1).trans h2
  have k3 := (hb.block (w.heap.size + 1) (Array.getElem?_eq_some_iff.1 h3).1).trans h3
  have hB2 := below_alloc hB o
  clear hb
  generalize W.alloc o = V at *
  have q2 := blk_put (cs' := #[.int .i64 0, .slice none 0 0]) (blk_put (cs' := #[.int .i64 0, v]) k2 0 (.int .i64 0) rfl) 1 (.slice none 0 0) rfl
  have q3 := ((Below.heap_setCell (V.setCell ⟨w.heap.size, 0, none⟩ (.int .i64 0)) ⟨w.heap.size, 1, none⟩ (.slice none 0 0) (w.heap.size + 1) (by simp)).trans ((Below.heap_setCell V ⟨w.heap.size, 0, none⟩ (.int .i64 0) (w.heap.size + 1) (by simp)).trans k3))
  have z2 := (Below.heap_setCell ((V.setCell ⟨w.heap.size, 0, none⟩ (.int .i64 0)).setCell ⟨w.heap.size, 1, none⟩ (.slice none 0 0)) ⟨w.heap.size + 1, 0, none⟩ (.int .i64 3) w.heap.size (by simp)).trans q2
  have z3 := blk_put (cs' := #[.int .i64 3]) q3 0 (.int .i64 3) rfl
  exact ⟨_, results_two tmps _ _ _ 0 3 _ hp2 hp3 z2 z3, _, rfl, Kd.R_nil _ _ _ _ _, below_set (below_set (below_set hB2 (Nat.le_refl _)) (Nat.le_refl _)) (Nat.le_succ _)⟩
theorem leave_ok {w W : World} {tmps : Array Value} (hp2 : tmps.getD 2 undef = .pointer (some ⟨w.heap.size, 0, none⟩)) (hp3 : tmps.getD 3 undef = .pointer (some ⟨w.heap.size + 1, 0, none⟩))
    (hB : Below w.heap.size w W) (a : Int) (v : Value) (l : List S54) (b : Int) (h2 : W.heap[w.heap.size]? = some (.cells #[.int .i64 a, v] 38 (0, 0))) (h3 : W.heap[w.heap.size + 1]? = some (.cells #[.int .i64 b] 26 (0, 0)))
    (hR : Kd.R k54 54 W w.heap.size (fun _ => True) v l) :
    Leaves Tryd.prog Tryd.f27 tmps (PEnds w (a, l, b)) [{ target := .fn (.func 46) #[.pointer (some ⟨w.heap.size, 0, none⟩), .pointer (some ⟨w.heap.size + 1, 0, none⟩)], args := #[] }] .returning W := by
  refine leaves_cons (f := 46) (args := #[.pointer (some ⟨w.heap.size, 0, none⟩), .pointer (some ⟨w.heap.size + 1, 0, none⟩)]) (by simp) (by simp [go_sem]) ?_
  refine (catch_idle w.heap.size (w.heap.size + 1) W).mono ?_
  rintro e u' w'' ⟨rfl, rfl, o, rfl⟩
  have hb := below_alloc (Below.refl W.heap.size W) o
  have k2 := (hb.block w.heap.size (Array.getElem?_eq_some_iff.1 h2).1).trans h2
  have k3 := (hb.block (w.heap.size + 1) (Array.getElem?_eq_some_iff.1 h3).1).trans h3
  exact ⟨_, results_two tmps _ _ _ a b _ hp2 hp3 k2 k3, _, rfl, Kd.R_alloc hR o, below_alloc hB o⟩
theorem leave_set {w W : World} {tmps : Array Value} (hp2 : tmps.getD 2 undef = .pointer (some ⟨w.heap.size, 0, none⟩)) (hp3 : tmps.getD 3 undef = .pointer (some ⟨w.heap.size + 1, 0, none⟩))
    (hB : Below w.heap.size w W) (a : Int) (v : Value) (l : List S54) (b a0 : Int) (v0 : Value) (b0 : Int) (h2 : W.heap[w.heap.size]? = some (.cells #[.int .i64 a0, v0] 38 (0, 0))) (h3 : W.heap[w.heap.size + 1]? = some (.cells #[.int .i64 b0] 26 (0, 0)))
    (hR : Kd.R k54 54 W w.heap.size (fun _ => True) v l) :
    Leaves Tryd.prog Tryd.f27 tmps (PEnds w (a, l, b)) [{ target := .fn (.func 46) #[.pointer (some ⟨w.heap.size, 0, none⟩), .pointer (some ⟨w.heap.size + 1, 0, none⟩)], args := #[] }] .returning
      (((W.setCell ⟨w.heap.size, 0, none⟩ (.int .i64 a)).setCell ⟨w.heap.size, 1, none⟩ v).setCell ⟨w.heap.size + 1, 0, none⟩ (.int .i64 b)) := by
  have p2 := blk_put (cs' := #[.int .i64 a, v0]) h2 0 (.int .i64 a) rfl
  have q2 := blk_put (cs' := #[.int .i64 a, v]) p2 1 v rfl
  have q3 := ((Below.heap_setCell (W.setCell ⟨w.heap.size, 0, none⟩ (.int .i64 a)) ⟨w.heap.size, 1, none⟩ v (w.heap.size + 1) (by simp)).trans ((Below.heap_setCell W ⟨w.heap.size, 0, none⟩ (.int .i64 a) (w.heap.size + 1) (by simp)).trans h3))
  have z2 := (Below.heap_setCell ((W.setCell ⟨w.heap.size, 0, none⟩ (.int .i64 a)).setCell ⟨w.heap.size, 1, none⟩ v) ⟨w.heap.size + 1, 0, none⟩ (.int .i64 b) w.heap.size (by simp)).trans q2
  have z3 := blk_put (cs' := #[.int .i64 b]) q3 0 (.int .i64 b) rfl
  have r1 := Kd.R_set hR h2 (by decide) 0 (.int .i64 a)
  have r2 := Kd.R_set r1 p2 (by decide) 1 v
  have r3 := Kd.R_set r2 q3 (by decide) 0 (.int .i64 b)
  exact leave_ok hp2 hp3 (below_set (below_set (below_set hB (Nat.le_refl _)) (Nat.le_refl _)) (Nat.le_succ _)) a v l b z2 z3 r3
theorem infoRel : (Tryd.prog.info? 54).map (fun i => (i.zero, i.size, i.bytes)) = some (some (.agg #[.string ⟨#[]⟩, .int .i64 0, .slice none 0 0]), 3, 48) := by kernel_rfl
theorem callE_ {P : Program} {ops : Array Oper} {Q : Exit → Act → World → Prop} {oi : Oper} {N : Option Tmp} {a : Act} {w : World} {K : Act → World → Prop} (f : FuncId) (args : Array Value) (hw : Region.wanted oi (yielded ops a.tmps) = true) (hN : oi.dst = N) (hrun : (execOp a.eval oi).run P w = .ok (.enter f args) w)
    (h : Calls P f args w fun e w' => (∃ v, e = .returned v ∧ K (a.put N v) w') ∨ (∃ c, e = .panicked c ∧ Q (.panic c) a w')) : if Region.wanted oi (yielded ops a.tmps) = true then Oper.wp P oi a w K Q else K (a.put N undef) w := by
  rw [if_pos hw]
  subst hN
  unfold Oper.wp
  rw [hrun, Oper.upon_enter]
  refine h.mono fun e w'' hh => ?_
  rcases hh with ⟨v, rfl, hk⟩ | ⟨c, rfl, hk⟩ <;> exact hk
def BadAt (t2 t3 : Value) (D : List Deferred) (G : World → Prop) : Exit → Act → World → Prop
  | .panic c, a, w => c = [badEntry] ∧ a.tmps.getD 2 undef = t2 ∧ a.tmps.getD 3 undef = t3 ∧ a.defers = D ∧ G w
  | _, _, _ => False
set_option maxHeartbeats 4000000 in
set_option maxRecDepth 100000 in
theorem parse_calls (k : Nat) (s : ByteArray) (r : Int × List S54 × Int) (w : World) (hG : Glob w) (h : shape_Parse.f k s = some r) :
    Calls Tryd.prog 27 #[.string s] w (PEnds w r) := by
  have hmf : ∀ (fn : Fn) (first cap : Array Value) (w : World), (Instr.makeFunc fn first cap).run Tryd.prog w = .ok (.func fn first cap) w := fun _ _ _ _ => rfl
  have HG := Aside0.mk hG
  unfold shape_Parse.f at h
  by_cases c1 : (s.size : Int) > 40000
  · rw [if_pos c1] at h
    injection h with h
    subst h
    have c1b : decide (40000 < (s.size : Int)) = true := decide_eq_true c1
    have c1c : decide (40000 < s.size) = true := decide_eq_true (by omega)
    clear hG c1
    go_enter_defers Tryd.func27, Tryd.ntmps27
    go_wp2
    have hB := below_alloc (below_alloc (Below.refl w.heap.size w) (.cells #[.int .i64 0, .slice none 0 0] 38)) (.cells #[.int .i64 3] 26)
    have k2 : ((w.alloc (.cells #[.int .i64 0, .slice none 0 0] 38)).alloc (.cells #[.int .i64 3] 26)).heap[w.heap.size]? = some (.cells #[.int .i64 0, .slice none 0 0] 38 (0, 0)) := ((below_alloc (Below.refl (w.alloc (.cells #[.int .i64 0, .slice none 0 0] 38)).heap.size _) (.cells #[.int .i64 3] 26)).block w.heap.size (by simp)).trans (heap_alloc_new w _)
    have k3 : ((w.alloc (.cells #[.int .i64 0, .slice none 0 0] 38)).alloc (.cells #[.int .i64 3] 26)).heap[w.heap.size + 1]? = some (.cells #[.int .i64 3] 26 (0, 0)) := by have := heap_alloc_new (w.alloc (.cells #[.int .i64 0, .slice none 0 0] 38)) (.cells #[.int .i64 3] 26); simpa using this
    exact ⟨_, results_two _ _ _ _ 0 3 _ rfl rfl k2 k3, _, rfl, Kd.R_nil _ _ _ _ _, hB⟩
  · rw [if_neg c1] at h
    have c1b : decide (40000 < (s.size : Int)) = false := decide_eq_false c1
    have c1c : decide (40000 < s.size) = false := decide_eq_false (by omega)
    have hms : (splitL s sepR).length ≤ 40001 := Nat.le_trans (splitL_many s sepR (by decide)) (by omega)
    have hs : s.size ≤ 40000 := by omega
    have HS := Aside0.mk (fun x (hx : x ∈ splitL s sepR) => Nat.le_trans (splitL_mem hx) hs)
    obtain ⟨p0, ps, hps⟩ : ∃ p0 ps, splitL s sepR = p0 :: ps := by
      cases h : splitL s sepR with
      | nil => exact absurd h (splitL_ne s sepR (by decide))
      | cons a b => exact ⟨a, b, rfl⟩
    rw [show parseB s = (numB p0).bind fun n => (relsB ps).map fun l => (n, l) by unfold parseB; rw [hps]] at h
    have H := Aside0.mk h
    have HPS := Aside0.mk hps
    clear hG hps h c1
    go_enter_defers Tryd.func27, Tryd.ntmps27
    go_wp2_with (fail)
    have hB := below_alloc (below_alloc (Below.refl w.heap.size w) (.cells #[.int .i64 0, .slice none 0 0] 38)) (.cells #[.int .i64 0] 26)
    have k2 : ((w.alloc (.cells #[.int .i64 0, .slice none 0 0] 38)).alloc (.cells #[.int .i64 0] 26)).heap[w.heap.size]? = some (.cells #[.int .i64 0, .slice none 0 0] 38 (0, 0)) := ((below_alloc (Below.refl (w.alloc (.cells #[.int .i64 0, .slice none 0 0] 38)).heap.size _) (.cells #[.int .i64 0] 26)).block w.heap.size (by simp)).trans (heap_alloc_new w _)
    have k3 : ((w.alloc (.cells #[.int .i64 0, .slice none 0 0] 38)).alloc (.cells #[.int .i64 0] 26)).heap[w.heap.size + 1]? = some (.cells #[.int .i64 0] 26 (0, 0)) := by have := heap_alloc_new (w.alloc (.cells #[.int .i64 0, .slice none 0 0] 38)) (.cells #[.int .i64 0] 26); simpa using this
    refine (split_calls s sepR _ (HG.out.below hB) (by omega) (by decide) (by omega)).mono ?_
    rintro e w1 ⟨v0, rfl, hv0, hb1⟩
    have HB1 := Aside0.mk (below_step hB hb1)
    have K2 := Aside0.mk ((hb1.block w.heap.size (Array.getElem?_eq_some_iff.1 k2).1).trans k2)
    have K3 := Aside0.mk ((hb1.block (w.heap.size + 1) (Array.getElem?_eq_some_iff.1 k3).1).trans k3)
    have hlt2 : w.heap.size < w1.heap.size := (Array.getElem?_eq_some_iff.1 K2.out).1
    have hlt3 : w.heap.size + 1 < w1.heap.size := (Array.getElem?_eq_some_iff.1 K3.out).1
    obtain ⟨A0, c0, rfl, hl0, hC0⟩ := Kd.R_reads hv0
    rw [HPS.out] at hl0 hC0 hms
    have hlen : (splitL s sepR).length = (p0 :: ps).length := congrArg List.length HPS.out
    rw [hlen]
    obtain ⟨ad, hA, hcell0⟩ := Kd.at_string hC0 0 (by omega) (by simp)
    subst hA
    have hcp : w1.cell? ad = some (.string p0) := by
      have h := hcell0
      rw [show ((0 : Int).toNat) = 0 from rfl, Addr.add_zero'] at h
      simpa [rdOf] using h
    have HC0 := Aside0.mk hC0
    have hp0 : p0.size ≤ 40000 := HS.out p0 (by rw [HPS.out]; simp)
    have HG1 := Aside0.mk (HG.out.below HB1.out)
    clear hv0 hb1 hC0 hcell0 hlen k2 k3 hB
    go_wp2_with (fail)
    refine (number_calls p0 (by omega) _ HG1.out).mono ?_
    rintro e w3 ⟨rfl, hb3⟩
    have HB3 := Aside0.mk (below_step HB1.out hb3)
    have K2' := Aside0.mk ((hb3.block w.heap.size hlt2).trans K2.out)
    have K3' := Aside0.mk ((hb3.block (w.heap.size + 1) hlt3).trans K3.out)
    have HB31 := Aside0.mk hb3
    clear hb3
    cases hn : numB p0 with
    | none =>
      rw [hn] at H
      obtain rfl := Option.some.inj H.out
      simp only
      go_wp2
      exact leave_bad rfl rfl HB3.out _ _ _ K2'.out K3'.out
    | some n =>
      rw [hn] at H
      simp only [Option.bind_some] at H
      clear hn
      obtain ⟨A1, hcut, hCT, hcc⟩ := cut_tail ad c0 (ps.length + 1) p0 ps w1 rfl hl0 HC0.out
      have HCT := Aside0.mk hCT
      have hpl : ps.length ≤ 40000 := by simp at hms; omega
      have HSP := Aside0.mk (fun x (hx : x ∈ ps) => HS.out x (by rw [HPS.out]; exact List.mem_cons_of_mem _ hx))
      clear hCT HC0 HPS HS hl0
      simp only
      go_wp2
      clear hcut
      have HB4 := Aside0.mk (below_alloc HB31.out (.cells #[.int .i64 n, .slice none 0 0] 38))
      have H5 := Aside0.mk (heap_alloc_new w3 (.cells #[.int .i64 n, .slice none 0 0] 38))
      have HG5 := Aside0.mk HB31.out.size
      have X2 := Aside0.mk (((below_alloc (Below.refl w3.heap.size w3) (.cells #[.int .i64 n, .slice none 0 0] 38)).block w.heap.size (Array.getElem?_eq_some_iff.1 K2'.out).1).trans K2'.out)
      have X3 := Aside0.mk (((below_alloc (Below.refl w3.heap.size w3) (.cells #[.int .i64 n, .slice none 0 0] 38)).block (w.heap.size + 1) (Array.getElem?_eq_some_iff.1 K3'.out).1).trans K3'.out)
      generalize w3.alloc (.cells #[.int .i64 n, .slice none 0 0] 38) = w4 at *
      generalize w3.heap.size = g5 at *
      clear HB31 HB3 K2' K3'
      go_loopw [23] (fun v23 wr => ∃ (j : Nat) (v : Value) (ls : List S54), v23 = .int .i64 j ∧ j ≤ ps.length ∧ Aside0 (relsB (ps.take j) = some ls) ∧ Aside0 (wr.heap[g5]? = some (.cells #[.int .i64 n, v] 38 (0, 0))) ∧ Aside0 (Kd.R k54 54 wr w1.heap.size (fun _ => True) v ls) ∧ Aside0 (Below w1.heap.size w1 wr)) (fun v23 _ => ps.length - (intOf v23).toNat)
      case atStart => exact ⟨0, .slice none 0 0, [], rfl, Nat.zero_le _, ⟨rfl⟩, H5, ⟨Kd.R_nil _ _ _ _ _⟩, HB4⟩
      case round =>
        clear H5 HB4 X2 X3
        obtain ⟨j, v, ls, rfl, hj, HTS, H5, HV, HB⟩ := hrel
        by_cases hlt : j < ps.length
        · obtain ⟨ad2, hA1, hjc⟩ := Kd.at_string HCT.out (j : Int) (by omega) (by omega)
          subst hA1
          replace hjc := pw_cell_below HB.out hjc
          simp only [Int.toNat_natCast] at hjc
          have hjx : ps[j]? = some (rdOf ByteArray.empty ps (j : Int)) := by unfold rdOf; rw [List.getElem?_eq_getElem hlt, List.getD_eq_getElem?_getD, Int.toNat_natCast, List.getElem?_eq_getElem hlt]; rfl
          have hpz := HSP.out _ (List.mem_of_getElem? hjx)
          have HJ := Aside0.mk hjx
          clear hjx
          generalize rdOf ByteArray.empty ps (j : Int) = p at *
          have hc5 : wr.cell? ⟨g5, 1, none⟩ = some v := by simp [World.cell?, H5.out]
          have hf5 : wr.frozen? ⟨g5, 1, none⟩ = false := by simp [World.frozen?, H5.out]
          go_upto_region 9 with (fail)
          have HGr := Aside0.mk ((HG1.out.below HB.out).drew)
          have HBd := Aside0.mk (below_drew HB.out)
          have H5d := Aside0.mk (show wr.drew.heap[g5]? = some (.cells #[.int .i64 n, v] 38 (0, 0)) from H5.out)
          have HVd := Aside0.mk (Kd.R_drew HV.out)
          have hg5 : g5 < wr.drew.heap.size := (Array.getElem?_eq_some_iff.1 H5d.out).1
          have hcd : wr.drew.cell? ⟨g5, 1, none⟩ = some v := hc5
          cases hr : relB p with
          | none =>
            have HN0 := Aside0.mk (show r = (0, [], 3) by have h := H.out; rw [relsB_stop HJ.out hr] at h; exact (Option.some.inj h).symm)
            refine Code.wp_mono (Q := BadAt (.pointer (some ⟨w.heap.size, 0, none⟩)) (.pointer (some ⟨w.heap.size + 1, 0, none⟩)) [{ target := .fn (.func 46) #[.pointer (some ⟨w.heap.size, 0, none⟩), .pointer (some ⟨w.heap.size + 1, 0, none⟩)], args := #[] }] (fun w' => Below w1.heap.size w1 w')) ?_ ?_
            · intro e a2 w2 hbad
              cases e <;> first | exact hbad.elim | skip
              obtain ⟨rfl, h2, h3, h4, h5⟩ := hbad
              obtain ⟨tm2, df2⟩ := a2
              simp only at h2 h3 h4
              subst h4
              obtain rfl := HN0.out
              have K2' := (h5.block w.heap.size hlt2).trans K2.out
              have K3' := (h5.block (w.heap.size + 1) hlt3).trans K3.out
              exact leave_bad h2 h3 (below_step HB1.out h5) _ _ _ K2' K3'
            · refine start_ (n := 8) (S := fun w' => w'.cell? ⟨g5, 1, none⟩ = some v) (ds := [7]) #[false, false, false, false, false, false, false, false] (by kernel_rfl) rfl rfl hcd (fun hHeld => ?_)
              generalize wr.drew = wd at *
              refine pure_ (i := 0) (N := some 27) (v := ?_) (a' := ?_) #[true, false, false, false, false, false, false, false] rfl rfl (by kernel_rfl) (fun _ _ _ h => ⟨h.1, by have := h.2.1; simpa [Act.put] using this, by have := h.2.2.1; simpa [Act.put] using this, h.2.2.2.1, h.2.2.2.2⟩) (Or.inl ⟨by rfl, ?_⟩) ?_ ?_
              rotate_left
              · intro w'
                go_simp
                with_reducible rfl
              rotate_left
              · simp only [Act.put, List.setIfInBounds_toArray, List.set_cons_zero, List.set_cons_succ, i64_w, i32_w]
                rfl
              refine pure_ (i := 2) (N := some 29) (v := ?_) (a' := ?_) #[true, false, true, false, false, false, false, false] rfl rfl (by kernel_rfl) (fun _ _ _ h => ⟨h.1, by have := h.2.1; simpa [Act.put] using this, by have := h.2.2.1; simpa [Act.put] using this, h.2.2.2.1, h.2.2.2.2⟩) (Or.inl ⟨by rfl, ?_⟩) ?_ ?_
              rotate_left
              · intro w'
                go_simp
                with_reducible rfl
              rotate_left
              · simp only [Act.put, List.setIfInBounds_toArray, List.set_cons_zero, List.set_cons_succ, i64_w, i32_w]
                rfl
              refine take_ (i := 1) (N := some 28) (v := ?_) (a' := ?_) #[true, true, true, false, false, false, false, false] rfl rfl (by kernel_rfl) (fun _ _ _ h => ⟨h.1, by have := h.2.1; simpa [Act.put] using this, by have := h.2.2.1; simpa [Act.put] using this, h.2.2.2.1, h.2.2.2.2⟩) (Or.inl ⟨by rfl, ?_⟩) hHeld ?_ ?_
              rotate_left
              · intro w' s0
                go_simp
                with_reducible rfl
              rotate_left
              · simp only [Act.put, List.setIfInBounds_toArray, List.set_cons_zero, List.set_cons_succ, i64_w, i32_w]
                rfl
              refine one_ (i := 3) (N := some 30) #[true, true, true, true, false, false, false, false] rfl rfl (by kernel_rfl) (by decide) (fun K hK => ?_)
              refine callE_ 49 #[.string p] (by rfl) rfl (by go_simp) ?_
              refine (relation_calls p (by omega) _ HGr.out).mono ?_
              rw [hr]
              rintro e w6 ⟨rfl, hb6⟩
              right
              exact ⟨_, rfl, rfl, rfl, rfl, rfl, below_step HBd.out hb6⟩
          | some rr =>
            have HRR := Aside0.mk (relsB_step HJ.out HTS.out hr)
            refine wp_region_noPanic ?_
            refine start_ (n := 8) (S := fun w' => w'.cell? ⟨g5, 1, none⟩ = some v) (ds := [7]) #[false, false, false, false, false, false, false, false] (by kernel_rfl) rfl rfl hcd (fun hHeld => ?_)
            generalize wr.drew = wd at *
            refine pure_ (i := 0) (N := some 27) (v := ?_) (a' := ?_) #[true, false, false, false, false, false, false, false] rfl rfl (by kernel_rfl) (fun _ _ _ h => h) (Or.inl ⟨by rfl, ?_⟩) ?_ ?_
            rotate_left
            · intro w'
              go_simp
              with_reducible rfl
            rotate_left
            · simp only [Act.put, List.setIfInBounds_toArray, List.set_cons_zero, List.set_cons_succ, i64_w, i32_w]
              rfl
            refine pure_ (i := 2) (N := some 29) (v := ?_) (a' := ?_) #[true, false, true, false, false, false, false, false] rfl rfl (by kernel_rfl) (fun _ _ _ h => h) (Or.inl ⟨by rfl, ?_⟩) ?_ ?_
            rotate_left
            · intro w'
              go_simp
              with_reducible rfl
            rotate_left
            · simp only [Act.put, List.setIfInBounds_toArray, List.set_cons_zero, List.set_cons_succ, i64_w, i32_w]
              rfl
            refine take_ (i := 1) (N := some 28) (v := ?_) (a' := ?_) #[true, true, true, false, false, false, false, false] rfl rfl (by kernel_rfl) (fun _ _ _ h => h) (Or.inl ⟨by rfl, ?_⟩) hHeld ?_ ?_
            rotate_left
            · intro w' s0
              go_simp
              with_reducible rfl
            rotate_left
            · simp only [Act.put, List.setIfInBounds_toArray, List.set_cons_zero, List.set_cons_succ, i64_w, i32_w]
              rfl
            refine one_ (i := 3) (N := some 30) #[true, true, true, true, false, false, false, false] rfl rfl (by kernel_rfl) (by decide) (fun K hK => ?_)
            refine callE_ 49 #[.string p] (by rfl) rfl (by go_simp) ?_
            refine (relation_calls p (by omega) _ HGr.out).mono ?_
            rw [hr]
            rintro e w6 ⟨va, rfl, hRa, hb6⟩
            left
            refine ⟨_, rfl, ?_⟩
            have HB6 := Aside0.mk (below_step HBd.out hb6)
            have H56 := Aside0.mk ((hb6.block g5 hg5).trans H5d.out)
            have HV6 := Aside0.mk (Kd.R_below HVd.out hb6)
            have HRa := Aside0.mk (Kd.R_lower (Kd.R_newR hRa HVd.out) HBd.out.size)
            refine hK.out _ _ (pw_cell_below hb6 hcd) (fun hHeld2 => ?_)
            obtain ⟨Aa, ca, ea⟩ := Kd.R_slice hRa
            subst ea
            clear hK K hb6 hRa HVd HV H5 H5d HBd hr
            refine norm_ (a' := ?_) ?_ ?_
            rotate_left
            · show Act.put _ (some 30) _ = _
              simp only [Act.put, List.setIfInBounds_toArray, List.set_cons_zero, List.set_cons_succ, i64_w, i32_w]
              rfl
            refine one_ (i := 4) (N := some 31) #[true, true, true, true, true, false, false, false] rfl rfl (by kernel_rfl) (by decide) (fun K hK => ?_)
            refine value_ (w1 := ?_) (v := ?_) (by rfl) rfl ?_ ?_
            rotate_left 2
            · go_simp
              constructor
              · rfl
              · rfl
            refine hK.out _ _ ((blk_cell (blk_alloc H56.out _) 1).trans rfl) (fun hHeld => ?_)
            clear hK K
            refine norm_ (a' := ?_) ?_ ?_
            rotate_left
            · show Act.put _ (some 31) _ = _
              simp only [Act.put, List.setIfInBounds_toArray, List.set_cons_zero, List.set_cons_succ, i64_w, i32_w]
              rfl
            refine one_ (i := 5) (N := some 32) #[true, true, true, true, true, true, false, false] rfl rfl (by kernel_rfl) (by decide) (fun K hK => ?_)
            refine Kd.R_append_step k54 (w0 := w1) w1.heap.size (by rfl) (.tmp 28) (.tmp 31) 36 54 (.agg #[(.string ⟨#[]⟩), (.int .i64 0), (.slice none 0 0)]) 48 rfl Tryd.underlying36 infoRel rfl (by decide) (by omega) v ls rr [.string rr.f0, .int .i64 rr.f1, .slice Aa rr.f2.length ca] (fun _ => True) (fun k_ => True ∧ some k_ ≠ v.ownBlock) rfl rfl ?aP (fun _ hk => hk) ?aF ?aO ?aB ?aS ?aL ?_
            (case aP => exact k54_mkM _ _ _ rr HRa.out)
            (case aB => exact HB6.out)
            (case aF => exact (fun _ _ => trivial))
            (case aO => exact HV6.out)
            (case aS => exact HB6.out.size)
            (case aL => have := relsB_len HTS.out; rw [List.length_take] at this; omega)
            intro v7 w7 ho hb hg hat
            have n0_ := Aside0.mk hb
            have n1_ := Aside0.mk ho
            have n2_ := Aside0.mk (blk_grown H56.out hg (Kd.R_ne HV6.out H56.out (by decide)))
            clear ho hb hg hat HB6 HV6 HRa
            obtain ⟨A7, c7, e7⟩ := Kd.R_slice n1_.out
            subst e7
            rw [show (ls ++ [rr]).length = ls.length + 1 from by simp] at n1_ ⊢
            refine hK.out _ _ ((blk_cell n2_.out 1).trans rfl) (fun hHeld => ?_)
            clear hK K
            refine norm_ (a' := ?_) ?_ ?_
            rotate_left
            · show Act.put _ (some 32) _ = _
              simp only [Act.put, List.setIfInBounds_toArray, List.set_cons_zero, List.set_cons_succ, i64_w, i32_w]
              rfl
            refine pure_ (i := 6) (N := some 33) (v := ?_) (a' := ?_) #[true, true, true, true, true, true, true, false] rfl rfl (by kernel_rfl) (fun _ _ _ h => h) (Or.inl ⟨by rfl, ?_⟩) ?_ ?_
            rotate_left
            · intro w'
              go_simp
              with_reducible rfl
            rotate_left
            · simp only [Act.put, List.setIfInBounds_toArray, List.set_cons_zero, List.set_cons_succ, i64_w, i32_w]
              rfl
            refine last_ (i := 7) (N := none) #[true, true, true, true, true, true, true, true] rfl rfl (by kernel_rfl) (by decide) (fun K hK => ?_)
            have hs7 : w7.cell? ⟨g5, 1, none⟩ = some v := (blk_cell n2_.out 1).trans rfl
            have hf7 := blk_frozen n2_.out 1
            refine skip_ (w1 := ?_) (by rfl) rfl ?_ ?_
            rotate_left
            · go_simp
              rfl
            refine hK.out _ _ ?_
            clear hK K
            refine done_ (by kernel_rfl) ?_
            refine NoPanic.normal ?_
            have n3_ := Aside0.mk (Kd.R_set n1_.out n2_.out (by decide) 1 (.slice A7 (ls.length + 1) c7))
            have n4_ := Aside0.mk (blk_put (cs' := #[.int .i64 n, .slice A7 (ls.length + 1) c7]) n2_.out 1 (.slice A7 (ls.length + 1) c7) rfl)
            have n5_ := Aside0.mk (below_set (j := 1) (v := .slice A7 (ls.length + 1) c7) n0_.out HG5.out)
            try go_wp2
            go_roundw
            · exact ⟨j + 1, _, _, (by simp), hlt, HRR, n4_, n3_, n5_⟩
            · simp [intOf]; omega
        · obtain rfl : j = ps.length := by omega
          rw [List.take_length] at HTS
          rw [HTS.out] at H
          simp only [Option.map_some, parseEnd] at H
          obtain ⟨b, hvb, hend⟩ := Option.bind_eq_some_iff.1 H.out
          have HVB := Aside0.mk hvb
          have HEND := Aside0.mk hend
          clear hvb hend H
          have hc50 : wr.cell? ⟨g5, 0, none⟩ = some (.int .i64 n) := by simp [World.cell?, H5.out]
          have hc51 : wr.cell? ⟨g5, 1, none⟩ = some v := by simp [World.cell?, H5.out]
          obtain ⟨Av, cv, hv, hlv, hCv⟩ := Kd.R_reads HV.out
          subst hv
          have HCv := Aside0.mk hCv
          have HGr := Aside0.mk (HG1.out.below HB.out)
          have K2' := Aside0.mk ((HB.out.block w.heap.size hlt2).trans K2.out)
          have K3' := Aside0.mk ((HB.out.block (w.heap.size + 1) hlt3).trans K3.out)
          clear hCv
          go_wp2_with (fail)
          refine (shape_Valid.calls k n Av cv ls b wr HCv.out hlv HVB.out).mono ?_
          rintro e w8 ⟨rfl, hb8⟩
          have HB8 := Aside0.mk (below_step HB.out hb8)
          have KK2 := Aside0.mk ((HB8.out.block w.heap.size hlt2).trans K2.out)
          have KK3 := Aside0.mk ((HB8.out.block (w.heap.size + 1) hlt3).trans K3.out)
          have HV8 := Aside0.mk (Kd.R_below HV.out hb8)
          have H58 := Aside0.mk ((hb8.block g5 (Array.getElem?_eq_some_iff.1 H5.out).1).trans H5.out)
          clear hb8 hc50 hc51 H5 HV HCv K2' K3' HB
          cases b with
          | false =>
            simp only [Bool.false_eq_true, if_false] at HEND
            obtain rfl := Option.some.inj HEND.out
            have y0 : w8.cell? ⟨w.heap.size, 0, none⟩ = some (.int .i64 0) := by simp [World.cell?, KK2.out]
            have y1 : w8.cell? ⟨w.heap.size, 1, none⟩ = some (.slice none 0 0) := by simp [World.cell?, KK2.out]
            have y2 : w8.cell? ⟨w.heap.size + 1, 0, none⟩ = some (.int .i64 0) := by simp [World.cell?, KK3.out]
            have z0 : w8.frozen? ⟨w.heap.size, 0, none⟩ = false := by simp [World.frozen?, KK2.out]
            have z1 : w8.frozen? ⟨w.heap.size, 1, none⟩ = false := by simp [World.frozen?, KK2.out]
            have z2 : w8.frozen? ⟨w.heap.size + 1, 0, none⟩ = false := by simp [World.frozen?, KK3.out]
            go_wp2
            exact leave_set rfl rfl (below_step HB1.out HB8.out) 0 _ [] 3 _ _ _ KK2.out KK3.out (Kd.R_nil _ _ _ _ _)
          | true =>
            simp only [if_true] at HEND
            obtain ⟨t, hwt, hend⟩ := Option.bind_eq_some_iff.1 HEND.out
            obtain ⟨_, _, hC8⟩ := Kd.R_reads' HV8.out
            have hc50 : w8.cell? ⟨g5, 0, none⟩ = some (.int .i64 n) := by simp [World.cell?, H58.out]
            have hc51 : w8.cell? ⟨g5, 1, none⟩ = some (.slice Av ls.length cv) := by simp [World.cell?, H58.out]
            have HC8 := Aside0.mk hC8
            have HWT := Aside0.mk hwt
            have HE2 := Aside0.mk hend
            clear hC8 hwt hend HEND
            go_wp2_with (fail)
            refine (shape_write.calls n Av cv ls t w8 HC8.out hlv HWT.out).mono ?_
            rintro e w9 ⟨rfl, hb9⟩
            have HB9 := Aside0.mk (below_step HB8.out hb9)
            have KK2 := Aside0.mk ((HB9.out.block w.heap.size hlt2).trans K2.out)
            have KK3 := Aside0.mk ((HB9.out.block (w.heap.size + 1) hlt3).trans K3.out)
            have HV9 := Aside0.mk (Kd.R_below HV8.out hb9)
            have H59 := Aside0.mk ((hb9.block g5 (Array.getElem?_eq_some_iff.1 H58.out).1).trans H58.out)
            clear hb9 hc50 hc51 H58 HV8 HC8 HB8
            have y0 : w9.cell? ⟨w.heap.size, 0, none⟩ = some (.int .i64 0) := by simp [World.cell?, KK2.out]
            have y1 : w9.cell? ⟨w.heap.size, 1, none⟩ = some (.slice none 0 0) := by simp [World.cell?, KK2.out]
            have y2 : w9.cell? ⟨w.heap.size + 1, 0, none⟩ = some (.int .i64 0) := by simp [World.cell?, KK3.out]
            have z0 : w9.frozen? ⟨w.heap.size, 0, none⟩ = false := by simp [World.frozen?, KK2.out]
            have z1 : w9.frozen? ⟨w.heap.size, 1, none⟩ = false := by simp [World.frozen?, KK2.out]
            have z2 : w9.frozen? ⟨w.heap.size + 1, 0, none⟩ = false := by simp [World.frozen?, KK3.out]
            have hc50 : w9.cell? ⟨g5, 0, none⟩ = some (.int .i64 n) := by simp [World.cell?, H59.out]
            have hc51 : w9.cell? ⟨g5, 1, none⟩ = some (.slice Av ls.length cv) := by simp [World.cell?, H59.out]
            by_cases ht : t.toList = s.toList
            · have HE3 := Aside0.mk (show some (n, ls, (0 : Int)) = some r by have h := HE2.out; rw [if_pos ht] at h; exact h)
              obtain rfl := Option.some.inj HE3.out
              have htb : (t.toList == s.toList) = true := beq_iff_eq.mpr ht
              go_wp2
              exact leave_set rfl rfl (below_step HB1.out HB9.out) n _ ls 0 _ _ _ KK2.out KK3.out (Kd.R_lower HV9.out HB1.out.size)
            · have HE3 := Aside0.mk (show some ((0 : Int), ([] : List S54), (3 : Int)) = some r by have h := HE2.out; rw [if_neg ht] at h; exact h)
              obtain rfl := Option.some.inj HE3.out
              have htb : (t.toList == s.toList) = false := beq_eq_false_iff_ne.mpr ht
              go_wp2
              exact leave_set rfl rfl (below_step HB1.out HB9.out) 0 _ [] 3 _ _ _ KK2.out KK3.out (Kd.R_nil _ _ _ _ _)
theorem shape_Parse.calls (k : Nat) (a0 : ByteArray) (r1 : Int) (r2 : List S54) (r3 : Int) (w : World) (hG : Glob w) (h : shape_Parse.f k a0 = some (r1, r2, r3)) :
    Calls Tryd.prog 27 #[.string a0] w fun e w' => ∃ v1_ : Value, e = .returned (.tuple #[.agg #[.int .i64 r1, v1_], .int .i64 r3]) ∧ Kd.R k54 54 w' w.heap.size (fun _ => True) v1_ r2 ∧ Below w.heap.size w w' :=
  parse_calls k a0 (r1, r2, r3) w hG h
end Go.Proofs.YtfmpaofbnjlniaaDoor.F
namespace Go.Proofs.YtfmpaofbnjlniaaDoor.F
open Go.RowKit Go.Proofs.YtfmpaofbnjlniaaDoorW.PrintWords Go.Proofs.YtfmpaofbnjlniaaDoorW.PrintLast Go.Proofs.YtfmpaofbnjlniaaDoorW.PrintMore
attribute [local go_sem] max2_int min2_int max_two min_two max_three min_three max_four min_four
set_option linter.unusedVariables false
set_option linter.unusedSimpArgs false
/-! ### paraphrastlaw01_alive: function 8 -/
noncomputable def paraphrastlaw01_alive.f (k : Nat)  : Option (Bool) := (shape_Parse.f k (⟨#[51, 59, 32, 69, 47, 50, 32, 48, 44, 49, 32, 49, 44, 50, 59, 32, 80, 47, 49, 32, 50, 59, 32, 81, 47, 48, 32, 40, 41]⟩ : ByteArray)).bind fun bt155 => ((shape_Rank.f k 3 (([1, 2] : List Int))).bind fun bt164 => ((shape_Tuple.f k 2 3 5).bind fun bt166 => ((shape_Has.f k bt155.1 bt155.2.1 (⟨#[69]⟩ : ByteArray) (([1, 2] : List Int))).bind fun bt173 => (if bt155.2.2 = 0 then (if bt164.2 = 0 then (if bt166.2 = 0 then (if bt173.2 = 0 then (if bt155.1 = 3 then (if bt164.1 = 5 then ((paraphrastref01_Equal.f k bt166.1 (([1, 0, 1] : List Int))).bind fun t178 => (if t178 = true then (some bt173.1) else (some false))) else (some false)) else (some false)) else (some false)) else (some false)) else (some false)) else (some false)))))
set_option maxHeartbeats 8000000 in
set_option maxRecDepth 100000 in
theorem paraphrastlaw01_alive.calls (k : Nat)  (r : Bool) (w : World) (hG : Glob w) (h : paraphrastlaw01_alive.f k  = some r) :
    Calls Tryd.prog 8 #[] w fun e w' => e = .returned (.bool r) ∧ Below w.heap.size w w' := by
  have hu38 := Tryd.underlying38
  have HG := Aside0.mk hG
  clear hG
  have HB := Aside0.mk (Below.refl w.heap.size w)
  have H : ((shape_Parse.f k (⟨#[51, 59, 32, 69, 47, 50, 32, 48, 44, 49, 32, 49, 44, 50, 59, 32, 80, 47, 49, 32, 50, 59, 32, 81, 47, 48, 32, 40, 41]⟩ : ByteArray)).bind fun bt155 => ((shape_Rank.f k 3 (([1, 2] : List Int))).bind fun bt164 => ((shape_Tuple.f k 2 3 5).bind fun bt166 => ((shape_Has.f k bt155.1 bt155.2.1 (⟨#[69]⟩ : ByteArray) (([1, 2] : List Int))).bind fun bt173 => (if bt155.2.2 = 0 then (if bt164.2 = 0 then (if bt166.2 = 0 then (if bt173.2 = 0 then (if bt155.1 = 3 then (if bt164.1 = 5 then ((paraphrastref01_Equal.f k bt166.1 (([1, 0, 1] : List Int))).bind fun t178 => (if t178 = true then (some bt173.1) else (some false))) else (some false)) else (some false)) else (some false)) else (some false)) else (some false)) else (some false)))))) = some r := h
  clear h
  replace H := Option.bind_eq_some_iff.mp H
  obtain ⟨⟨t155, t156, t159⟩, A10, H⟩ := H
  replace H : ((shape_Rank.f k 3 (([1, 2] : List Int))).bind fun bt164 => ((shape_Tuple.f k 2 3 5).bind fun bt166 => ((shape_Has.f k t155 t156 (⟨#[69]⟩ : ByteArray) (([1, 2] : List Int))).bind fun bt173 => (if t159 = 0 then (if bt164.2 = 0 then (if bt166.2 = 0 then (if bt173.2 = 0 then (if t155 = 3 then (if bt164.1 = 5 then ((paraphrastref01_Equal.f k bt166.1 (([1, 0, 1] : List Int))).bind fun t178 => (if t178 = true then (some bt173.1) else (some false))) else (some false)) else (some false)) else (some false)) else (some false)) else (some false)) else (some false))))) = some r := H
  have A1 := Aside0.mk A10
  clear A10
  obtain ⟨y161, hy161⟩ : ∃ y_ : List Int, y_ = (([1, 2] : List Int)) := ⟨_, rfl⟩
  replace H : ((shape_Rank.f k 3 y161).bind fun bt164 => ((shape_Tuple.f k 2 3 5).bind fun bt166 => ((shape_Has.f k t155 t156 (⟨#[69]⟩ : ByteArray) (([1, 2] : List Int))).bind fun bt173 => (if t159 = 0 then (if bt164.2 = 0 then (if bt166.2 = 0 then (if bt173.2 = 0 then (if t155 = 3 then (if bt164.1 = 5 then ((paraphrastref01_Equal.f k bt166.1 (([1, 0, 1] : List Int))).bind fun t178 => (if t178 = true then (some bt173.1) else (some false))) else (some false)) else (some false)) else (some false)) else (some false)) else (some false)) else (some false))))) = some r := by first | (rw [hy161]; with_reducible exact H) | (have H2_ := (Option.bind_some _ _).symm.trans H; rw [hy161]; with_reducible exact H2_) | (have H2_ := (Option.bind_some _ _).symm.trans H; with_reducible exact H2_) | with_reducible exact H | (rw [hy161]; exact H) | exact H
  have Ny161 := Aside0.mk hy161
  clear hy161
  replace H := Option.bind_eq_some_iff.mp H
  obtain ⟨⟨t164, t165⟩, A20, H⟩ := H
  replace H : ((shape_Tuple.f k 2 3 5).bind fun bt166 => ((shape_Has.f k t155 t156 (⟨#[69]⟩ : ByteArray) (([1, 2] : List Int))).bind fun bt173 => (if t159 = 0 then (if t165 = 0 then (if bt166.2 = 0 then (if bt173.2 = 0 then (if t155 = 3 then (if t164 = 5 then ((paraphrastref01_Equal.f k bt166.1 (([1, 0, 1] : List Int))).bind fun t178 => (if t178 = true then (some bt173.1) else (some false))) else (some false)) else (some false)) else (some false)) else (some false)) else (some false)) else (some false)))) = some r := H
  have A2 := Aside0.mk A20
  clear A20
  replace H := Option.bind_eq_some_iff.mp H
  obtain ⟨⟨t166, t167⟩, A30, H⟩ := H
  replace H : ((shape_Has.f k t155 t156 (⟨#[69]⟩ : ByteArray) (([1, 2] : List Int))).bind fun bt173 => (if t159 = 0 then (if t165 = 0 then (if t167 = 0 then (if bt173.2 = 0 then (if t155 = 3 then (if t164 = 5 then ((paraphrastref01_Equal.f k t166 (([1, 0, 1] : List Int))).bind fun t178 => (if t178 = true then (some bt173.1) else (some false))) else (some false)) else (some false)) else (some false)) else (some false)) else (some false)) else (some false))) = some r := H
  have A3 := Aside0.mk A30
  clear A30
  obtain ⟨y170, hy170⟩ : ∃ y_ : List Int, y_ = (([1, 2] : List Int)) := ⟨_, rfl⟩
  replace H : ((shape_Has.f k t155 t156 (⟨#[69]⟩ : ByteArray) y170).bind fun bt173 => (if t159 = 0 then (if t165 = 0 then (if t167 = 0 then (if bt173.2 = 0 then (if t155 = 3 then (if t164 = 5 then ((paraphrastref01_Equal.f k t166 (([1, 0, 1] : List Int))).bind fun t178 => (if t178 = true then (some bt173.1) else (some false))) else (some false)) else (some false)) else (some false)) else (some false)) else (some false)) else (some false))) = some r := by first | (rw [hy170]; with_reducible exact H) | (have H2_ := (Option.bind_some _ _).symm.trans H; rw [hy170]; with_reducible exact H2_) | (have H2_ := (Option.bind_some _ _).symm.trans H; with_reducible exact H2_) | with_reducible exact H | (rw [hy170]; exact H) | exact H
  have Ny170 := Aside0.mk hy170
  clear hy170
  replace H := Option.bind_eq_some_iff.mp H
  obtain ⟨⟨t173, t174⟩, A40, H⟩ := H
  replace H : (if t159 = 0 then (if t165 = 0 then (if t167 = 0 then (if t174 = 0 then (if t155 = 3 then (if t164 = 5 then ((paraphrastref01_Equal.f k t166 (([1, 0, 1] : List Int))).bind fun t178 => (if t178 = true then (some t173) else (some false))) else (some false)) else (some false)) else (some false)) else (some false)) else (some false)) else (some false)) = some r := H
  have A4 := Aside0.mk A40
  clear A40
  by_cases c5 : t159 = 0
  · rw [if_pos c5] at H
    have c5b0 : (t159 == 0) = true := beq_iff_eq.mpr c5
    have c5b1 : (t159 != 0) = false := bne_eq_false_iff_eq.mpr c5
    clear c5
    by_cases c6 : t165 = 0
    · rw [if_pos c6] at H
      have c6b0 : (t165 == 0) = true := beq_iff_eq.mpr c6
      have c6b1 : (t165 != 0) = false := bne_eq_false_iff_eq.mpr c6
      clear c6
      by_cases c7 : t167 = 0
      · rw [if_pos c7] at H
        have c7b0 : (t167 == 0) = true := beq_iff_eq.mpr c7
        have c7b1 : (t167 != 0) = false := bne_eq_false_iff_eq.mpr c7
        clear c7
        by_cases c8 : t174 = 0
        · rw [if_pos c8] at H
          have c8b0 : (t174 == 0) = true := beq_iff_eq.mpr c8
          have c8b1 : (t174 != 0) = false := bne_eq_false_iff_eq.mpr c8
          clear c8
          by_cases c9 : t155 = 3
          · rw [if_pos c9] at H
            have c9b0 : (t155 == 3) = true := beq_iff_eq.mpr c9
            have c9b1 : (t155 != 3) = false := bne_eq_false_iff_eq.mpr c9
            clear c9
            by_cases c10 : t164 = 5
            · rw [if_pos c10] at H
              have c10b0 : (t164 == 5) = true := beq_iff_eq.mpr c10
              have c10b1 : (t164 != 5) = false := bne_eq_false_iff_eq.mpr c10
              clear c10
              obtain ⟨y175, hy175⟩ : ∃ y_ : List Int, y_ = (([1, 0, 1] : List Int)) := ⟨_, rfl⟩
              replace H : ((paraphrastref01_Equal.f k t166 y175).bind fun t178 => (if t178 = true then (some t173) else (some false))) = some r := by first | (rw [hy175]; with_reducible exact H) | (have H2_ := (Option.bind_some _ _).symm.trans H; rw [hy175]; with_reducible exact H2_) | (have H2_ := (Option.bind_some _ _).symm.trans H; with_reducible exact H2_) | with_reducible exact H | (rw [hy175]; exact H) | exact H
              have Ny175 := Aside0.mk hy175
              clear hy175
              replace H := Option.bind_eq_some_iff.mp H
              obtain ⟨t178, A110, H⟩ := H
              replace H : (if t178 = true then (some t173) else (some false)) = some r := H
              have A11 := Aside0.mk A110
              clear A110
              by_cases c12 : t178 = true
              · subst c12
                have H1 : (some t173) = some r := by rw [if_pos rfl] at H; exact H
                clear H
                have H := H1
                clear H1
                obtain rfl := Option.some.inj H
                go_enter Tryd.func8, Tryd.ntmps8
                go_wp2_with (first | ((with_reducible refine gate_callee (f := 27) rfl ?_); refine goesL_ (some 10) rfl rfl Tryd.func27 (by kernel_rfl) rfl #[.string (⟨#[51, 59, 32, 69, 47, 50, 32, 48, 44, 49, 32, 49, 44, 50, 59, 32, 80, 47, 49, 32, 50, 59, 32, 81, 47, 48, 32, 40, 41]⟩ : ByteArray)] rfl (by (try simp only [List.map_toArray, List.map_cons, List.map_nil]); first | done | rfl | (simp only [List.length_drop, List.length_take]; rfl)) ?_; (with_reducible refine (shape_Parse.calls k (⟨#[51, 59, 32, 69, 47, 50, 32, 48, 44, 49, 32, 49, 44, 50, 59, 32, 80, 47, 49, 32, 50, 59, 32, 81, 47, 48, 32, 40, 41]⟩ : ByteArray) t155 t156 t159 _ ?side1 A1.out).mono ?_); (case side1 => first | exact HG.out | exact Glob.below HG.out (by repeat (first | (with_reducible first | exact HB.out | apply below_alloc | apply pw_below_drewN | apply below_drew1) | exact HB.out))); rintro e w13 ⟨v157, rfl, ho0, hb⟩; refine ⟨_, rfl, ?_⟩; have n0_ := Aside0.mk (Kd.R_lower ho0 (below_size (by repeat (first | (with_reducible first | exact HB.out | apply below_alloc | apply pw_below_drewN | apply below_drew1) | exact HB.out)))); have n1_ := Aside0.mk (below_step (by repeat (first | (with_reducible first | exact HB.out | apply below_alloc | apply pw_below_drewN | apply below_drew1) | exact HB.out)) hb); clear HB; have HO158 := n0_; have HB := n1_; clear n0_ n1_; (try clear hb); (try clear hb2); (try clear hk); (try clear hi); (try clear ho0)) | ((with_reducible refine gate_dst (N := 1) rfl ?_); (try (refine gate_guard (by rfl) ?_; dsimp only)); refine box_event ?hg (N := 1) ?hd (cs := #[.int .i64 0, .slice none 0 0]) (t := 38) ?hr ?_; (case hd => rfl); (case hg => rfl); (case hr => first | (go_simp; done) | (go_simp; rfl)); intro gb160 hg w14 hbox hb; have n0_ := Aside0.mk (Kd.R_below (by (with_reducible repeat (first | apply Kd.R_alloc | apply Kd.R_drewN | apply Kd.R_drew)); exact HO158.out) hb); have n1_ := Aside0.mk (below_step (by repeat (first | (with_reducible first | exact HB.out | apply below_alloc | apply pw_below_drewN | apply below_drew1) | exact HB.out)) hb); have n2_ := Aside0.mk (hbox); have n3_ := Aside0.mk ((by rw [hg]; exact (below_size (by repeat (first | (with_reducible first | exact HB.out | apply below_alloc | apply pw_below_drewN | apply below_drew1) | exact HB.out))) : w.heap.size ≤ gb160)); have n4_ := Aside0.mk ((by rw [hg]; exact (below_size (by repeat (first | (with_reducible first | exact HB.out | apply below_alloc | apply pw_below_drewN | apply below_drew1) | exact HB.out))) : w.heap.size ≤ gb160)); clear HO158; clear HB; have HO158 := n0_; have HB := n1_; have BK160 := n2_; have GW160 := n3_; have GE160 := n4_; clear n0_ n1_ n2_ n3_ n4_; clear hb hbox hg; have hcz15_0 : w14.cell? ⟨gb160, 0, none⟩ = some (.int .i64 0) := (blk_cell BK160.out 0).trans rfl; have hcz15_1 : w14.cell? ⟨gb160, 1, none⟩ = some (.slice none 0 0) := (blk_cell BK160.out 1).trans rfl; have hfz15_0 := blk_frozen BK160.out 0; have hfz15_1 := blk_frozen BK160.out 1; obtain ⟨Ao16, co16, eo16⟩ := Kd.R_slice HO158.out; subst eo16) | ((with_reducible refine gate_dst (N := 14) rfl ?_); (try (refine gate_guard (by rfl) ?_; dsimp only)); refine Kd.R_lit (Kd.int .i64) _ 3 ?hg (N := 14) ?hd (xs := ([1, 2] : List Int)) (inner := [.int .i64 1, .int .i64 2]) (ok := fun _ => True) (okp := fun _ => True) ?hr ?hp (fun _ hk => hk) trivial (Below.refl _ _) (Nat.le_refl _) (by simp) ?_; (case hd => rfl); (case hg => rfl); (case hr => first | (go_simp; done) | (go_simp; rfl)); (case hp => exact (Reps.one (show Kd.M (Kd.int .i64) _ _ _ 1 [.int .i64 1] from rfl) (Reps.one (show Kd.M (Kd.int .i64) _ _ _ 2 [.int .i64 2] from rfl) (Reps.none _ _)))); intro v162 w17 ho18 hb hg_ hnew_; clear hg_ hnew_; (first | rw [← Ny161.out] at ho18 | (simp only [Int.reduceToNat] at ho18; rw [← Ny161.out] at ho18)); have n0_ := Aside0.mk (Kd.R_elder' (by (with_reducible repeat (first | apply Kd.R_alloc | apply Kd.R_drewN | apply Kd.R_drew)); exact (Kd.R_mono (Kd.R_far (p := ⟨gb160, 1, none⟩) (Kd.R_far (p := ⟨gb160, 0, none⟩) (Kd.R_types HO158.out BK160.out (by decide)) (fun _ hk => hk.2) (.int .i64 t155)) (fun _ hk => hk.2) (.slice Ao16 t156.length co16)) (fun _ h_ => h_.1))) (Kd.R_base ho18) hb); have n1_ := Aside0.mk (Kd.R_lower ho18 (below_size (by repeat (first | (with_reducible first | exact HB.out | apply below_alloc | apply pw_below_drewN | apply below_drew1 | refine below_set ?_ GE160.out) | exact HB.out)))); have n2_ := Aside0.mk (blk_below (g := gb160) (o := .cells #[.int .i64 t155, .slice Ao16 t156.length co16] 38 (0, 0)) (by (with_reducible repeat (first | refine blk_drewN ?_ _ | refine blk_drew ?_ | refine blk_alloc ?_ _)); refine blk_put (cs := #[.int .i64 t155, .slice none 0 0]) ?_ 1 _ rfl; (with_reducible repeat (first | refine blk_drewN ?_ _ | refine blk_drew ?_ | refine blk_alloc ?_ _)); refine blk_put (cs := #[.int .i64 0, .slice none 0 0]) ?_ 0 _ rfl; (with_reducible repeat (first | refine blk_drewN ?_ _ | refine blk_drew ?_ | refine blk_alloc ?_ _)); exact BK160.out) hb); have n3_ := Aside0.mk (below_step (by repeat (first | (with_reducible first | exact HB.out | apply below_alloc | apply pw_below_drewN | apply below_drew1 | refine below_set ?_ GE160.out) | exact HB.out)) hb); clear HO158; clear BK160; clear HB; have HO158 := n0_; have HO163 := n1_; have BK160 := n2_; have HB := n3_; clear n0_ n1_ n2_ n3_; clear hb ho18; obtain ⟨Ao19, co19, eo19⟩ := Kd.R_slice HO163.out; subst eo19) | ((with_reducible refine gate_callee (f := 11) rfl ?_); refine goesL_ (some 15) rfl rfl Tryd.func11 (by kernel_rfl) rfl #[.int .i64 3, .slice Ao19 y161.length co19] rfl (by (try simp only [List.map_toArray, List.map_cons, List.map_nil]); first | done | rfl | (simp only [List.length_drop, List.length_take]; rfl)) ?_; (with_reducible refine (shape_Rank.calls k 3 _ _ y161 t164 t165 _ ?side1 ?side2 A2.out).mono ?_); (case side1 => repeat (first | exact (Kd.R_reads' HO163.out).2.2 | (with_reducible refine Kd.C_alloc ?_ _) | (with_reducible refine Kd.C_drewN ?_ _) | (with_reducible refine Kd.C_drew ?_))); (case side2 => exact (Kd.R_reads' HO163.out).2.1); rintro e w20 ⟨rfl, hb⟩; refine ⟨_, rfl, ?_⟩; have n0_ := Aside0.mk (Kd.R_below (by (with_reducible repeat (first | apply Kd.R_alloc | apply Kd.R_drewN | apply Kd.R_drew)); exact HO158.out) hb); have n1_ := Aside0.mk (Kd.R_below (by (with_reducible repeat (first | apply Kd.R_alloc | apply Kd.R_drewN | apply Kd.R_drew)); exact HO163.out) hb); have n2_ := Aside0.mk (blk_below (g := gb160) (o := .cells #[.int .i64 t155, .slice Ao16 t156.length co16] 38 (0, 0)) (by (with_reducible repeat (first | refine blk_drewN ?_ _ | refine blk_drew ?_ | refine blk_alloc ?_ _)); exact BK160.out) hb); have n3_ := Aside0.mk (below_step (by repeat (first | (with_reducible first | exact HB.out | apply below_alloc | apply pw_below_drewN | apply below_drew1 | refine below_set ?_ GE160.out) | exact HB.out)) hb); clear HO158; clear HO163; clear BK160; clear HB; have HO158 := n0_; have HO163 := n1_; have BK160 := n2_; have HB := n3_; clear n0_ n1_ n2_ n3_; (try clear hb); (try clear hb2); (try clear hk); (try clear hi)) | ((with_reducible refine gate_callee (f := 13) rfl ?_); refine goesL_ (some 19) rfl rfl Tryd.func13 (by kernel_rfl) rfl #[.int .i64 2, .int .i64 3, .int .i64 5] rfl (by (try simp only [List.map_toArray, List.map_cons, List.map_nil]); first | done | rfl | (simp only [List.length_drop, List.length_take]; rfl)) ?_; (with_reducible refine (shape_Tuple.calls k 2 3 5 t166 t167 _ A3.out).mono ?_); rintro e w21 ⟨v168, rfl, ho0, hb⟩; refine ⟨_, rfl, ?_⟩; have n0_ := Aside0.mk (Kd.R_elder' (by (with_reducible repeat (first | apply Kd.R_alloc | apply Kd.R_drewN | apply Kd.R_drew)); exact HO158.out) (Kd.R_base ho0) hb); have n1_ := Aside0.mk (Kd.R_elder' (by (with_reducible repeat (first | apply Kd.R_alloc | apply Kd.R_drewN | apply Kd.R_drew)); exact HO163.out) (Kd.R_base ho0) hb); have n2_ := Aside0.mk (Kd.R_lower (Kd.R_new' ho0 (Kd.R_lt (by (with_reducible repeat (first | apply Kd.R_alloc | apply Kd.R_drewN | apply Kd.R_drew)); exact HO163.out))) (below_size (by repeat (first | (with_reducible first | exact HB.out | apply below_alloc | apply pw_below_drewN | apply below_drew1 | refine below_set ?_ GE160.out) | exact HB.out)))); have n3_ := Aside0.mk (blk_below (g := gb160) (o := .cells #[.int .i64 t155, .slice Ao16 t156.length co16] 38 (0, 0)) (by (with_reducible repeat (first | refine blk_drewN ?_ _ | refine blk_drew ?_ | refine blk_alloc ?_ _)); exact BK160.out) hb); have n4_ := Aside0.mk (below_step (by repeat (first | (with_reducible first | exact HB.out | apply below_alloc | apply pw_below_drewN | apply below_drew1 | refine below_set ?_ GE160.out) | exact HB.out)) hb); clear HO158; clear HO163; clear BK160; clear HB; have HO158 := n0_; have HO163 := n1_; have HO169 := n2_; have BK160 := n3_; have HB := n4_; clear n0_ n1_ n2_ n3_ n4_; (try clear hb); (try clear hb2); (try clear hk); (try clear hi); (try clear ho0); have hcz22_0 : w21.cell? ⟨gb160, 0, none⟩ = some (.int .i64 t155) := (blk_cell BK160.out 0).trans rfl; have hcz22_1 : w21.cell? ⟨gb160, 1, none⟩ = some (.slice Ao16 t156.length co16) := (blk_cell BK160.out 1).trans rfl; have hfz22_0 := blk_frozen BK160.out 0; have hfz22_1 := blk_frozen BK160.out 1) | ((with_reducible refine gate_dst (N := 24) rfl ?_); (try (refine gate_guard (by rfl) ?_; dsimp only)); refine Kd.R_lit (Kd.int .i64) _ 3 ?hg (N := 24) ?hd (xs := ([1, 2] : List Int)) (inner := [.int .i64 1, .int .i64 2]) (ok := fun _ => True) (okp := fun _ => True) ?hr ?hp (fun _ hk => hk) trivial (Below.refl _ _) (Nat.le_refl _) (by simp) ?_; (case hd => rfl); (case hg => rfl); (case hr => first | (go_simp; done) | (go_simp; rfl)); (case hp => exact (Reps.one (show Kd.M (Kd.int .i64) _ _ _ 1 [.int .i64 1] from rfl) (Reps.one (show Kd.M (Kd.int .i64) _ _ _ 2 [.int .i64 2] from rfl) (Reps.none _ _)))); intro v171 w23 ho24 hb hg_ hnew_; clear hg_ hnew_; (first | rw [← Ny170.out] at ho24 | (simp only [Int.reduceToNat] at ho24; rw [← Ny170.out] at ho24)); have n0_ := Aside0.mk (Kd.R_elder' (by (with_reducible repeat (first | apply Kd.R_alloc | apply Kd.R_drewN | apply Kd.R_drew)); exact HO158.out) (Kd.R_base ho24) hb); have n1_ := Aside0.mk (Kd.R_elder' (by (with_reducible repeat (first | apply Kd.R_alloc | apply Kd.R_drewN | apply Kd.R_drew)); exact HO163.out) (Kd.R_base ho24) hb); have n2_ := Aside0.mk (Kd.R_elder' (by (with_reducible repeat (first | apply Kd.R_alloc | apply Kd.R_drewN | apply Kd.R_drew)); exact HO169.out) (Kd.R_base ho24) hb); have n3_ := Aside0.mk (Kd.R_lower (Kd.R_new' (Kd.R_new' ho24 (Kd.R_lt (by (with_reducible repeat (first | apply Kd.R_alloc | apply Kd.R_drewN | apply Kd.R_drew)); exact HO163.out))) (Kd.R_lt (by (with_reducible repeat (first | apply Kd.R_alloc | apply Kd.R_drewN | apply Kd.R_drew)); exact HO169.out))) (below_size (by repeat (first | (with_reducible first | exact HB.out | apply below_alloc | apply pw_below_drewN | apply below_drew1 | refine below_set ?_ GE160.out) | exact HB.out)))); have n4_ := Aside0.mk (blk_below (g := gb160) (o := .cells #[.int .i64 t155, .slice Ao16 t156.length co16] 38 (0, 0)) (by (with_reducible repeat (first | refine blk_drewN ?_ _ | refine blk_drew ?_ | refine blk_alloc ?_ _)); exact BK160.out) hb); have n5_ := Aside0.mk (below_step (by repeat (first | (with_reducible first | exact HB.out | apply below_alloc | apply pw_below_drewN | apply below_drew1 | refine below_set ?_ GE160.out) | exact HB.out)) hb); clear HO158; clear HO163; clear HO169; clear BK160; clear HB; have HO158 := n0_; have HO163 := n1_; have HO169 := n2_; have HO172 := n3_; have BK160 := n4_; have HB := n5_; clear n0_ n1_ n2_ n3_ n4_ n5_; clear hb ho24; obtain ⟨Ao25, co25, eo25⟩ := Kd.R_slice HO172.out; subst eo25) | ((with_reducible refine gate_callee (f := 30) rfl ?_); refine goesL_ (some 25) rfl rfl Tryd.func30 (by kernel_rfl) rfl #[.agg #[.int .i64 t155, .slice Ao16 t156.length co16], .string (⟨#[69]⟩ : ByteArray), .slice Ao25 y170.length co25] rfl (by (try simp only [List.map_toArray, List.map_cons, List.map_nil]); first | done | rfl | (simp only [List.length_drop, List.length_take]; rfl)) ?_; (with_reducible refine (shape_Has.calls k t155 _ _ t156 (⟨#[69]⟩ : ByteArray) _ _ y170 t173 t174 _ ?side1 ?side2 ?side3 ?side4 A4.out).mono ?_); (case side1 => repeat (first | exact (Kd.R_reads' HO158.out).2.2 | (with_reducible refine Kd.C_alloc ?_ _) | (with_reducible refine Kd.C_drewN ?_ _) | (with_reducible refine Kd.C_drew ?_))); (case side2 => exact (Kd.R_reads' HO158.out).2.1); (case side3 => repeat (first | exact (Kd.R_reads' HO172.out).2.2 | (with_reducible refine Kd.C_alloc ?_ _) | (with_reducible refine Kd.C_drewN ?_ _) | (with_reducible refine Kd.C_drew ?_))); (case side4 => exact (Kd.R_reads' HO172.out).2.1); rintro e w26 ⟨rfl, hb⟩; refine ⟨_, rfl, ?_⟩; have n0_ := Aside0.mk (Kd.R_below (by (with_reducible repeat (first | apply Kd.R_alloc | apply Kd.R_drewN | apply Kd.R_drew)); exact HO158.out) hb); have n1_ := Aside0.mk (Kd.R_below (by (with_reducible repeat (first | apply Kd.R_alloc | apply Kd.R_drewN | apply Kd.R_drew)); exact HO163.out) hb); have n2_ := Aside0.mk (Kd.R_below (by (with_reducible repeat (first | apply Kd.R_alloc | apply Kd.R_drewN | apply Kd.R_drew)); exact HO169.out) hb); have n3_ := Aside0.mk (Kd.R_below (by (with_reducible repeat (first | apply Kd.R_alloc | apply Kd.R_drewN | apply Kd.R_drew)); exact HO172.out) hb); have n4_ := Aside0.mk (blk_below (g := gb160) (o := .cells #[.int .i64 t155, .slice Ao16 t156.length co16] 38 (0, 0)) (by (with_reducible repeat (first | refine blk_drewN ?_ _ | refine blk_drew ?_ | refine blk_alloc ?_ _)); exact BK160.out) hb); have n5_ := Aside0.mk (below_step (by repeat (first | (with_reducible first | exact HB.out | apply below_alloc | apply pw_below_drewN | apply below_drew1 | refine below_set ?_ GE160.out) | exact HB.out)) hb); clear HO158; clear HO163; clear HO169; clear HO172; clear BK160; clear HB; have HO158 := n0_; have HO163 := n1_; have HO169 := n2_; have HO172 := n3_; have BK160 := n4_; have HB := n5_; clear n0_ n1_ n2_ n3_ n4_ n5_; (try clear hb); (try clear hb2); (try clear hk); (try clear hi); have hcz27_0 : w26.cell? ⟨gb160, 0, none⟩ = some (.int .i64 t155) := (blk_cell BK160.out 0).trans rfl; have hcz27_1 : w26.cell? ⟨gb160, 1, none⟩ = some (.slice Ao16 t156.length co16) := (blk_cell BK160.out 1).trans rfl; have hfz27_0 := blk_frozen BK160.out 0; have hfz27_1 := blk_frozen BK160.out 1) | ((with_reducible refine gate_dst (N := 53) rfl ?_); (try (refine gate_guard (by rfl) ?_; dsimp only)); refine Kd.R_lit (Kd.int .i64) _ 3 ?hg (N := 53) ?hd (xs := ([1, 0, 1] : List Int)) (inner := [.int .i64 1, .int .i64 0, .int .i64 1]) (ok := fun _ => True) (okp := fun _ => True) ?hr ?hp (fun _ hk => hk) trivial (Below.refl _ _) (Nat.le_refl _) (by simp) ?_; (case hd => rfl); (case hg => rfl); (case hr => first | (go_simp; done) | (go_simp; rfl)); (case hp => exact (Reps.one (show Kd.M (Kd.int .i64) _ _ _ 1 [.int .i64 1] from rfl) (Reps.one (show Kd.M (Kd.int .i64) _ _ _ 0 [.int .i64 0] from rfl) (Reps.one (show Kd.M (Kd.int .i64) _ _ _ 1 [.int .i64 1] from rfl) (Reps.none _ _))))); intro v176 w28 ho29 hb hg_ hnew_; clear hg_ hnew_; (first | rw [← Ny175.out] at ho29 | (simp only [Int.reduceToNat] at ho29; rw [← Ny175.out] at ho29)); have n0_ := Aside0.mk (Kd.R_elder' (by (with_reducible repeat (first | apply Kd.R_alloc | apply Kd.R_drewN | apply Kd.R_drew)); exact HO158.out) (Kd.R_base ho29) hb); have n1_ := Aside0.mk (Kd.R_elder' (by (with_reducible repeat (first | apply Kd.R_alloc | apply Kd.R_drewN | apply Kd.R_drew)); exact HO163.out) (Kd.R_base ho29) hb); have n2_ := Aside0.mk (Kd.R_elder' (by (with_reducible repeat (first | apply Kd.R_alloc | apply Kd.R_drewN | apply Kd.R_drew)); exact HO169.out) (Kd.R_base ho29) hb); have n3_ := Aside0.mk (Kd.R_elder' (by (with_reducible repeat (first | apply Kd.R_alloc | apply Kd.R_drewN | apply Kd.R_drew)); exact HO172.out) (Kd.R_base ho29) hb); have n4_ := Aside0.mk (Kd.R_lower (Kd.R_new' (Kd.R_new' (Kd.R_new' ho29 (Kd.R_lt (by (with_reducible repeat (first | apply Kd.R_alloc | apply Kd.R_drewN | apply Kd.R_drew)); exact HO163.out))) (Kd.R_lt (by (with_reducible repeat (first | apply Kd.R_alloc | apply Kd.R_drewN | apply Kd.R_drew)); exact HO169.out))) (Kd.R_lt (by (with_reducible repeat (first | apply Kd.R_alloc | apply Kd.R_drewN | apply Kd.R_drew)); exact HO172.out))) (below_size (by repeat (first | (with_reducible first | exact HB.out | apply below_alloc | apply pw_below_drewN | apply below_drew1 | refine below_set ?_ GE160.out) | exact HB.out)))); have n5_ := Aside0.mk (blk_below (g := gb160) (o := .cells #[.int .i64 t155, .slice Ao16 t156.length co16] 38 (0, 0)) (by (with_reducible repeat (first | refine blk_drewN ?_ _ | refine blk_drew ?_ | refine blk_alloc ?_ _)); exact BK160.out) hb); have n6_ := Aside0.mk (below_step (by repeat (first | (with_reducible first | exact HB.out | apply below_alloc | apply pw_below_drewN | apply below_drew1 | refine below_set ?_ GE160.out) | exact HB.out)) hb); clear HO158; clear HO163; clear HO169; clear HO172; clear BK160; clear HB; have HO158 := n0_; have HO163 := n1_; have HO169 := n2_; have HO172 := n3_; have HO177 := n4_; have BK160 := n5_; have HB := n6_; clear n0_ n1_ n2_ n3_ n4_ n5_ n6_; clear hb ho29; obtain ⟨Ao30, co30, eo30⟩ := Kd.R_slice HO169.out; subst eo30; obtain ⟨Ao31, co31, eo31⟩ := Kd.R_slice HO177.out; subst eo31) | (go_at_call 15; (with_reducible refine (paraphrastref01_Equal.calls k _ _ t166 _ _ y175 true _ ?side1 ?side2 ?side3 ?side4 A11.out).mono ?_); (case side1 => repeat (first | exact (Kd.R_reads' HO169.out).2.2 | (with_reducible refine Kd.C_alloc ?_ _) | (with_reducible refine Kd.C_drewN ?_ _) | (with_reducible refine Kd.C_drew ?_))); (case side2 => exact (Kd.R_reads' HO169.out).2.1); (case side3 => repeat (first | exact (Kd.R_reads' HO177.out).2.2 | (with_reducible refine Kd.C_alloc ?_ _) | (with_reducible refine Kd.C_drewN ?_ _) | (with_reducible refine Kd.C_drew ?_))); (case side4 => exact (Kd.R_reads' HO177.out).2.1); rintro e w' ⟨rfl, ⟨nd, rfl⟩⟩))
                go_ret
                exact ⟨by first | rfl | (simp [errW_none, errW_some] <;> rfl) | (simp [*, errW_none, errW_some] <;> rfl), by repeat (first | (with_reducible first | exact HB.out | apply below_alloc | apply pw_below_drewN | apply below_drew1 | refine below_set ?_ GE160.out) | exact HB.out)⟩
              · replace c12 := Bool.eq_false_iff.mpr c12
                subst c12
                have H1 : (some false) = some r := by rw [if_neg (show ¬ (false = true) by decide)] at H; exact H
                clear H
                have H := H1
                clear H1
                obtain rfl := Option.some.inj H
                go_enter Tryd.func8, Tryd.ntmps8
                go_wp2_with (first | ((with_reducible refine gate_callee (f := 27) rfl ?_); refine goesL_ (some 10) rfl rfl Tryd.func27 (by kernel_rfl) rfl #[.string (⟨#[51, 59, 32, 69, 47, 50, 32, 48, 44, 49, 32, 49, 44, 50, 59, 32, 80, 47, 49, 32, 50, 59, 32, 81, 47, 48, 32, 40, 41]⟩ : ByteArray)] rfl (by (try simp only [List.map_toArray, List.map_cons, List.map_nil]); first | done | rfl | (simp only [List.length_drop, List.length_take]; rfl)) ?_; (with_reducible refine (shape_Parse.calls k (⟨#[51, 59, 32, 69, 47, 50, 32, 48, 44, 49, 32, 49, 44, 50, 59, 32, 80, 47, 49, 32, 50, 59, 32, 81, 47, 48, 32, 40, 41]⟩ : ByteArray) t155 t156 t159 _ ?side1 A1.out).mono ?_); (case side1 => first | exact HG.out | exact Glob.below HG.out (by repeat (first | (with_reducible first | exact HB.out | apply below_alloc | apply pw_below_drewN | apply below_drew1) | exact HB.out))); rintro e w32 ⟨v157, rfl, ho0, hb⟩; refine ⟨_, rfl, ?_⟩; have n0_ := Aside0.mk (Kd.R_lower ho0 (below_size (by repeat (first | (with_reducible first | exact HB.out | apply below_alloc | apply pw_below_drewN | apply below_drew1) | exact HB.out)))); have n1_ := Aside0.mk (below_step (by repeat (first | (with_reducible first | exact HB.out | apply below_alloc | apply pw_below_drewN | apply below_drew1) | exact HB.out)) hb); clear HB; have HO158 := n0_; have HB := n1_; clear n0_ n1_; (try clear hb); (try clear hb2); (try clear hk); (try clear hi); (try clear ho0)) | ((with_reducible refine gate_dst (N := 1) rfl ?_); (try (refine gate_guard (by rfl) ?_; dsimp only)); refine box_event ?hg (N := 1) ?hd (cs := #[.int .i64 0, .slice none 0 0]) (t := 38) ?hr ?_; (case hd => rfl); (case hg => rfl); (case hr => first | (go_simp; done) | (go_simp; rfl)); intro gb160 hg w33 hbox hb; have n0_ := Aside0.mk (Kd.R_below (by (with_reducible repeat (first | apply Kd.R_alloc | apply Kd.R_drewN | apply Kd.R_drew)); exact HO158.out) hb); have n1_ := Aside0.mk (below_step (by repeat (first | (with_reducible first | exact HB.out | apply below_alloc | apply pw_below_drewN | apply below_drew1) | exact HB.out)) hb); have n2_ := Aside0.mk (hbox); have n3_ := Aside0.mk ((by rw [hg]; exact (below_size (by repeat (first | (with_reducible first | exact HB.out | apply below_alloc | apply pw_below_drewN | apply below_drew1) | exact HB.out))) : w.heap.size ≤ gb160)); have n4_ := Aside0.mk ((by rw [hg]; exact (below_size (by repeat (first | (with_reducible first | exact HB.out | apply below_alloc | apply pw_below_drewN | apply below_drew1) | exact HB.out))) : w.heap.size ≤ gb160)); clear HO158; clear HB; have HO158 := n0_; have HB := n1_; have BK160 := n2_; have GW160 := n3_; have GE160 := n4_; clear n0_ n1_ n2_ n3_ n4_; clear hb hbox hg; have hcz34_0 : w33.cell? ⟨gb160, 0, none⟩ = some (.int .i64 0) := (blk_cell BK160.out 0).trans rfl; have hcz34_1 : w33.cell? ⟨gb160, 1, none⟩ = some (.slice none 0 0) := (blk_cell BK160.out 1).trans rfl; have hfz34_0 := blk_frozen BK160.out 0; have hfz34_1 := blk_frozen BK160.out 1; obtain ⟨Ao35, co35, eo35⟩ := Kd.R_slice HO158.out; subst eo35) | ((with_reducible refine gate_dst (N := 14) rfl ?_); (try (refine gate_guard (by rfl) ?_; dsimp only)); refine Kd.R_lit (Kd.int .i64) _ 3 ?hg (N := 14) ?hd (xs := ([1, 2] : List Int)) (inner := [.int .i64 1, .int .i64 2]) (ok := fun _ => True) (okp := fun _ => True) ?hr ?hp (fun _ hk => hk) trivial (Below.refl _ _) (Nat.le_refl _) (by simp) ?_; (case hd => rfl); (case hg => rfl); (case hr => first | (go_simp; done) | (go_simp; rfl)); (case hp => exact (Reps.one (show Kd.M (Kd.int .i64) _ _ _ 1 [.int .i64 1] from rfl) (Reps.one (show Kd.M (Kd.int .i64) _ _ _ 2 [.int .i64 2] from rfl) (Reps.none _ _)))); intro v162 w36 ho37 hb hg_ hnew_; clear hg_ hnew_; (first | rw [← Ny161.out] at ho37 | (simp only [Int.reduceToNat] at ho37; rw [← Ny161.out] at ho37)); have n0_ := Aside0.mk (Kd.R_elder' (by (with_reducible repeat (first | apply Kd.R_alloc | apply Kd.R_drewN | apply Kd.R_drew)); exact (Kd.R_mono (Kd.R_far (p := ⟨gb160, 1, none⟩) (Kd.R_far (p := ⟨gb160, 0, none⟩) (Kd.R_types HO158.out BK160.out (by decide)) (fun _ hk => hk.2) (.int .i64 t155)) (fun _ hk => hk.2) (.slice Ao35 t156.length co35)) (fun _ h_ => h_.1))) (Kd.R_base ho37) hb); have n1_ := Aside0.mk (Kd.R_lower ho37 (below_size (by repeat (first | (with_reducible first | exact HB.out | apply below_alloc | apply pw_below_drewN | apply below_drew1 | refine below_set ?_ GE160.out) | exact HB.out)))); have n2_ := Aside0.mk (blk_below (g := gb160) (o := .cells #[.int .i64 t155, .slice Ao35 t156.length co35] 38 (0, 0)) (by (with_reducible repeat (first | refine blk_drewN ?_ _ | refine blk_drew ?_ | refine blk_alloc ?_ _)); refine blk_put (cs := #[.int .i64 t155, .slice none 0 0]) ?_ 1 _ rfl; (with_reducible repeat (first | refine blk_drewN ?_ _ | refine blk_drew ?_ | refine blk_alloc ?_ _)); refine blk_put (cs := #[.int .i64 0, .slice none 0 0]) ?_ 0 _ rfl; (with_reducible repeat (first | refine blk_drewN ?_ _ | refine blk_drew ?_ | refine blk_alloc ?_ _)); exact BK160.out) hb); have n3_ := Aside0.mk (below_step (by repeat (first | (with_reducible first | exact HB.out | apply below_alloc | apply pw_below_drewN | apply below_drew1 | refine below_set ?_ GE160.out) | exact HB.out)) hb); clear HO158; clear BK160; clear HB; have HO158 := n0_; have HO163 := n1_; have BK160 := n2_; have HB := n3_; clear n0_ n1_ n2_ n3_; clear hb ho37; obtain ⟨Ao38, co38, eo38⟩ := Kd.R_slice HO163.out; subst eo38) | ((with_reducible refine gate_callee (f := 11) rfl ?_); refine goesL_ (some 15) rfl rfl Tryd.func11 (by kernel_rfl) rfl #[.int .i64 3, .slice Ao38 y161.length co38] rfl (by (try simp only [List.map_toArray, List.map_cons, List.map_nil]); first | done | rfl | (simp only [List.length_drop, List.length_take]; rfl)) ?_; (with_reducible refine (shape_Rank.calls k 3 _ _ y161 t164 t165 _ ?side1 ?side2 A2.out).mono ?_); (case side1 => repeat (first | exact (Kd.R_reads' HO163.out).2.2 | (with_reducible refine Kd.C_alloc ?_ _) | (with_reducible refine Kd.C_drewN ?_ _) | (with_reducible refine Kd.C_drew ?_))); (case side2 => exact (Kd.R_reads' HO163.out).2.1); rintro e w39 ⟨rfl, hb⟩; refine ⟨_, rfl, ?_⟩; have n0_ := Aside0.mk (Kd.R_below (by (with_reducible repeat (first | apply Kd.R_alloc | apply Kd.R_drewN | apply Kd.R_drew)); exact HO158.out) hb); have n1_ := Aside0.mk (Kd.R_below (by (with_reducible repeat (first | apply Kd.R_alloc | apply Kd.R_drewN | apply Kd.R_drew)); exact HO163.out) hb); have n2_ := Aside0.mk (blk_below (g := gb160) (o := .cells #[.int .i64 t155, .slice Ao35 t156.length co35] 38 (0, 0)) (by (with_reducible repeat (first | refine blk_drewN ?_ _ | refine blk_drew ?_ | refine blk_alloc ?_ _)); exact BK160.out) hb); have n3_ := Aside0.mk (below_step (by repeat (first | (with_reducible first | exact HB.out | apply below_alloc | apply pw_below_drewN | apply below_drew1 | refine below_set ?_ GE160.out) | exact HB.out)) hb); clear HO158; clear HO163; clear BK160; clear HB; have HO158 := n0_; have HO163 := n1_; have BK160 := n2_; have HB := n3_; clear n0_ n1_ n2_ n3_; (try clear hb); (try clear hb2); (try clear hk); (try clear hi)) | ((with_reducible refine gate_callee (f := 13) rfl ?_); refine goesL_ (some 19) rfl rfl Tryd.func13 (by kernel_rfl) rfl #[.int .i64 2, .int .i64 3, .int .i64 5] rfl (by (try simp only [List.map_toArray, List.map_cons, List.map_nil]); first | done | rfl | (simp only [List.length_drop, List.length_take]; rfl)) ?_; (with_reducible refine (shape_Tuple.calls k 2 3 5 t166 t167 _ A3.out).mono ?_); rintro e w40 ⟨v168, rfl, ho0, hb⟩; refine ⟨_, rfl, ?_⟩; have n0_ := Aside0.mk (Kd.R_elder' (by (with_reducible repeat (first | apply Kd.R_alloc | apply Kd.R_drewN | apply Kd.R_drew)); exact HO158.out) (Kd.R_base ho0) hb); have n1_ := Aside0.mk (Kd.R_elder' (by (with_reducible repeat (first | apply Kd.R_alloc | apply Kd.R_drewN | apply Kd.R_drew)); exact HO163.out) (Kd.R_base ho0) hb); have n2_ := Aside0.mk (Kd.R_lower (Kd.R_new' ho0 (Kd.R_lt (by (with_reducible repeat (first | apply Kd.R_alloc | apply Kd.R_drewN | apply Kd.R_drew)); exact HO163.out))) (below_size (by repeat (first | (with_reducible first | exact HB.out | apply below_alloc | apply pw_below_drewN | apply below_drew1 | refine below_set ?_ GE160.out) | exact HB.out)))); have n3_ := Aside0.mk (blk_below (g := gb160) (o := .cells #[.int .i64 t155, .slice Ao35 t156.length co35] 38 (0, 0)) (by (with_reducible repeat (first | refine blk_drewN ?_ _ | refine blk_drew ?_ | refine blk_alloc ?_ _)); exact BK160.out) hb); have n4_ := Aside0.mk (below_step (by repeat (first | (with_reducible first | exact HB.out | apply below_alloc | apply pw_below_drewN | apply below_drew1 | refine below_set ?_ GE160.out) | exact HB.out)) hb); clear HO158; clear HO163; clear BK160; clear HB; have HO158 := n0_; have HO163 := n1_; have HO169 := n2_; have BK160 := n3_; have HB := n4_; clear n0_ n1_ n2_ n3_ n4_; (try clear hb); (try clear hb2); (try clear hk); (try clear hi); (try clear ho0); have hcz41_0 : w40.cell? ⟨gb160, 0, none⟩ = some (.int .i64 t155) := (blk_cell BK160.out 0).trans rfl; have hcz41_1 : w40.cell? ⟨gb160, 1, none⟩ = some (.slice Ao35 t156.length co35) := (blk_cell BK160.out 1).trans rfl; have hfz41_0 := blk_frozen BK160.out 0; have hfz41_1 := blk_frozen BK160.out 1) | ((with_reducible refine gate_dst (N := 24) rfl ?_); (try (refine gate_guard (by rfl) ?_; dsimp only)); refine Kd.R_lit (Kd.int .i64) _ 3 ?hg (N := 24) ?hd (xs := ([1, 2] : List Int)) (inner := [.int .i64 1, .int .i64 2]) (ok := fun _ => True) (okp := fun _ => True) ?hr ?hp (fun _ hk => hk) trivial (Below.refl _ _) (Nat.le_refl _) (by simp) ?_; (case hd => rfl); (case hg => rfl); (case hr => first | (go_simp; done) | (go_simp; rfl)); (case hp => exact (Reps.one (show Kd.M (Kd.int .i64) _ _ _ 1 [.int .i64 1] from rfl) (Reps.one (show Kd.M (Kd.int .i64) _ _ _ 2 [.int .i64 2] from rfl) (Reps.none _ _)))); intro v171 w42 ho43 hb hg_ hnew_; clear hg_ hnew_; (first | rw [← Ny170.out] at ho43 | (simp only [Int.reduceToNat] at ho43; rw [← Ny170.out] at ho43)); have n0_ := Aside0.mk (Kd.R_elder' (by (with_reducible repeat (first | apply Kd.R_alloc | apply Kd.R_drewN | apply Kd.R_drew)); exact HO158.out) (Kd.R_base ho43) hb); have n1_ := Aside0.mk (Kd.R_elder' (by (with_reducible repeat (first | apply Kd.R_alloc | apply Kd.R_drewN | apply Kd.R_drew)); exact HO163.out) (Kd.R_base ho43) hb); have n2_ := Aside0.mk (Kd.R_elder' (by (with_reducible repeat (first | apply Kd.R_alloc | apply Kd.R_drewN | apply Kd.R_drew)); exact HO169.out) (Kd.R_base ho43) hb); have n3_ := Aside0.mk (Kd.R_lower (Kd.R_new' (Kd.R_new' ho43 (Kd.R_lt (by (with_reducible repeat (first | apply Kd.R_alloc | apply Kd.R_drewN | apply Kd.R_drew)); exact HO163.out))) (Kd.R_lt (by (with_reducible repeat (first | apply Kd.R_alloc | apply Kd.R_drewN | apply Kd.R_drew)); exact HO169.out))) (below_size (by repeat (first | (with_reducible first | exact HB.out | apply below_alloc | apply pw_below_drewN | apply below_drew1 | refine below_set ?_ GE160.out) | exact HB.out)))); have n4_ := Aside0.mk (blk_below (g := gb160) (o := .cells #[.int .i64 t155, .slice Ao35 t156.length co35] 38 (0, 0)) (by (with_reducible repeat (first | refine blk_drewN ?_ _ | refine blk_drew ?_ | refine blk_alloc ?_ _)); exact BK160.out) hb); have n5_ := Aside0.mk (below_step (by repeat (first | (with_reducible first | exact HB.out | apply below_alloc | apply pw_below_drewN | apply below_drew1 | refine below_set ?_ GE160.out) | exact HB.out)) hb); clear HO158; clear HO163; clear HO169; clear BK160; clear HB; have HO158 := n0_; have HO163 := n1_; have HO169 := n2_; have HO172 := n3_; have BK160 := n4_; have HB := n5_; clear n0_ n1_ n2_ n3_ n4_ n5_; clear hb ho43; obtain ⟨Ao44, co44, eo44⟩ := Kd.R_slice HO172.out; subst eo44) | ((with_reducible refine gate_callee (f := 30) rfl ?_); refine goesL_ (some 25) rfl rfl Tryd.func30 (by kernel_rfl) rfl #[.agg #[.int .i64 t155, .slice Ao35 t156.length co35], .string (⟨#[69]⟩ : ByteArray), .slice Ao44 y170.length co44] rfl (by (try simp only [List.map_toArray, List.map_cons, List.map_nil]); first | done | rfl | (simp only [List.length_drop, List.length_take]; rfl)) ?_; (with_reducible refine (shape_Has.calls k t155 _ _ t156 (⟨#[69]⟩ : ByteArray) _ _ y170 t173 t174 _ ?side1 ?side2 ?side3 ?side4 A4.out).mono ?_); (case side1 => repeat (first | exact (Kd.R_reads' HO158.out).2.2 | (with_reducible refine Kd.C_alloc ?_ _) | (with_reducible refine Kd.C_drewN ?_ _) | (with_reducible refine Kd.C_drew ?_))); (case side2 => exact (Kd.R_reads' HO158.out).2.1); (case side3 => repeat (first | exact (Kd.R_reads' HO172.out).2.2 | (with_reducible refine Kd.C_alloc ?_ _) | (with_reducible refine Kd.C_drewN ?_ _) | (with_reducible refine Kd.C_drew ?_))); (case side4 => exact (Kd.R_reads' HO172.out).2.1); rintro e w45 ⟨rfl, hb⟩; refine ⟨_, rfl, ?_⟩; have n0_ := Aside0.mk (Kd.R_below (by (with_reducible repeat (first | apply Kd.R_alloc | apply Kd.R_drewN | apply Kd.R_drew)); exact HO158.out) hb); have n1_ := Aside0.mk (Kd.R_below (by (with_reducible repeat (first | apply Kd.R_alloc | apply Kd.R_drewN | apply Kd.R_drew)); exact HO163.out) hb); have n2_ := Aside0.mk (Kd.R_below (by (with_reducible repeat (first | apply Kd.R_alloc | apply Kd.R_drewN | apply Kd.R_drew)); exact HO169.out) hb); have n3_ := Aside0.mk (Kd.R_below (by (with_reducible repeat (first | apply Kd.R_alloc | apply Kd.R_drewN | apply Kd.R_drew)); exact HO172.out) hb); have n4_ := Aside0.mk (blk_below (g := gb160) (o := .cells #[.int .i64 t155, .slice Ao35 t156.length co35] 38 (0, 0)) (by (with_reducible repeat (first | refine blk_drewN ?_ _ | refine blk_drew ?_ | refine blk_alloc ?_ _)); exact BK160.out) hb); have n5_ := Aside0.mk (below_step (by repeat (first | (with_reducible first | exact HB.out | apply below_alloc | apply pw_below_drewN | apply below_drew1 | refine below_set ?_ GE160.out) | exact HB.out)) hb); clear HO158; clear HO163; clear HO169; clear HO172; clear BK160; clear HB; have HO158 := n0_; have HO163 := n1_; have HO169 := n2_; have HO172 := n3_; have BK160 := n4_; have HB := n5_; clear n0_ n1_ n2_ n3_ n4_ n5_; (try clear hb); (try clear hb2); (try clear hk); (try clear hi); have hcz46_0 : w45.cell? ⟨gb160, 0, none⟩ = some (.int .i64 t155) := (blk_cell BK160.out 0).trans rfl; have hcz46_1 : w45.cell? ⟨gb160, 1, none⟩ = some (.slice Ao35 t156.length co35) := (blk_cell BK160.out 1).trans rfl; have hfz46_0 := blk_frozen BK160.out 0; have hfz46_1 := blk_frozen BK160.out 1) | ((with_reducible refine gate_dst (N := 53) rfl ?_); (try (refine gate_guard (by rfl) ?_; dsimp only)); refine Kd.R_lit (Kd.int .i64) _ 3 ?hg (N := 53) ?hd (xs := ([1, 0, 1] : List Int)) (inner := [.int .i64 1, .int .i64 0, .int .i64 1]) (ok := fun _ => True) (okp := fun _ => True) ?hr ?hp (fun _ hk => hk) trivial (Below.refl _ _) (Nat.le_refl _) (by simp) ?_; (case hd => rfl); (case hg => rfl); (case hr => first | (go_simp; done) | (go_simp; rfl)); (case hp => exact (Reps.one (show Kd.M (Kd.int .i64) _ _ _ 1 [.int .i64 1] from rfl) (Reps.one (show Kd.M (Kd.int .i64) _ _ _ 0 [.int .i64 0] from rfl) (Reps.one (show Kd.M (Kd.int .i64) _ _ _ 1 [.int .i64 1] from rfl) (Reps.none _ _))))); intro v176 w47 ho48 hb hg_ hnew_; clear hg_ hnew_; (first | rw [← Ny175.out] at ho48 | (simp only [Int.reduceToNat] at ho48; rw [← Ny175.out] at ho48)); have n0_ := Aside0.mk (Kd.R_elder' (by (with_reducible repeat (first | apply Kd.R_alloc | apply Kd.R_drewN | apply Kd.R_drew)); exact HO158.out) (Kd.R_base ho48) hb); have n1_ := Aside0.mk (Kd.R_elder' (by (with_reducible repeat (first | apply Kd.R_alloc | apply Kd.R_drewN | apply Kd.R_drew)); exact HO163.out) (Kd.R_base ho48) hb); have n2_ := Aside0.mk (Kd.R_elder' (by (with_reducible repeat (first | apply Kd.R_alloc | apply Kd.R_drewN | apply Kd.R_drew)); exact HO169.out) (Kd.R_base ho48) hb); have n3_ := Aside0.mk (Kd.R_elder' (by (with_reducible repeat (first | apply Kd.R_alloc | apply Kd.R_drewN | apply Kd.R_drew)); exact HO172.out) (Kd.R_base ho48) hb); have n4_ := Aside0.mk (Kd.R_lower (Kd.R_new' (Kd.R_new' (Kd.R_new' ho48 (Kd.R_lt (by (with_reducible repeat (first | apply Kd.R_alloc | apply Kd.R_drewN | apply Kd.R_drew)); exact HO163.out))) (Kd.R_lt (by (with_reducible repeat (first | apply Kd.R_alloc | apply Kd.R_drewN | apply Kd.R_drew)); exact HO169.out))) (Kd.R_lt (by (with_reducible repeat (first | apply Kd.R_alloc | apply Kd.R_drewN | apply Kd.R_drew)); exact HO172.out))) (below_size (by repeat (first | (with_reducible first | exact HB.out | apply below_alloc | apply pw_below_drewN | apply below_drew1 | refine below_set ?_ GE160.out) | exact HB.out)))); have n5_ := Aside0.mk (blk_below (g := gb160) (o := .cells #[.int .i64 t155, .slice Ao35 t156.length co35] 38 (0, 0)) (by (with_reducible repeat (first | refine blk_drewN ?_ _ | refine blk_drew ?_ | refine blk_alloc ?_ _)); exact BK160.out) hb); have n6_ := Aside0.mk (below_step (by repeat (first | (with_reducible first | exact HB.out | apply below_alloc | apply pw_below_drewN | apply below_drew1 | refine below_set ?_ GE160.out) | exact HB.out)) hb); clear HO158; clear HO163; clear HO169; clear HO172; clear BK160; clear HB; have HO158 := n0_; have HO163 := n1_; have HO169 := n2_; have HO172 := n3_; have HO177 := n4_; have BK160 := n5_; have HB := n6_; clear n0_ n1_ n2_ n3_ n4_ n5_ n6_; clear hb ho48; obtain ⟨Ao49, co49, eo49⟩ := Kd.R_slice HO169.out; subst eo49; obtain ⟨Ao50, co50, eo50⟩ := Kd.R_slice HO177.out; subst eo50) | (go_at_call 15; (with_reducible refine (paraphrastref01_Equal.calls k _ _ t166 _ _ y175 false _ ?side1 ?side2 ?side3 ?side4 A11.out).mono ?_); (case side1 => repeat (first | exact (Kd.R_reads' HO169.out).2.2 | (with_reducible refine Kd.C_alloc ?_ _) | (with_reducible refine Kd.C_drewN ?_ _) | (with_reducible refine Kd.C_drew ?_))); (case side2 => exact (Kd.R_reads' HO169.out).2.1); (case side3 => repeat (first | exact (Kd.R_reads' HO177.out).2.2 | (with_reducible refine Kd.C_alloc ?_ _) | (with_reducible refine Kd.C_drewN ?_ _) | (with_reducible refine Kd.C_drew ?_))); (case side4 => exact (Kd.R_reads' HO177.out).2.1); rintro e w' ⟨rfl, ⟨nd, rfl⟩⟩))
                go_ret
                exact ⟨by first | rfl | (simp [errW_none, errW_some] <;> rfl) | (simp [*, errW_none, errW_some] <;> rfl), by repeat (first | (with_reducible first | exact HB.out | apply below_alloc | apply pw_below_drewN | apply below_drew1 | refine below_set ?_ GE160.out) | exact HB.out)⟩
            · rw [if_neg c10] at H
              have c10b0 : (t164 == 5) = false := beq_eq_false_iff_ne.mpr c10
              have c10b1 : (t164 != 5) = true := bne_iff_ne.mpr c10
              obtain rfl := Option.some.inj H
              go_enter Tryd.func8, Tryd.ntmps8
              go_wp2_with (first | ((with_reducible refine gate_callee (f := 27) rfl ?_); refine goesL_ (some 10) rfl rfl Tryd.func27 (by kernel_rfl) rfl #[.string (⟨#[51, 59, 32, 69, 47, 50, 32, 48, 44, 49, 32, 49, 44, 50, 59, 32, 80, 47, 49, 32, 50, 59, 32, 81, 47, 48, 32, 40, 41]⟩ : ByteArray)] rfl (by (try simp only [List.map_toArray, List.map_cons, List.map_nil]); first | done | rfl | (simp only [List.length_drop, List.length_take]; rfl)) ?_; (with_reducible refine (shape_Parse.calls k (⟨#[51, 59, 32, 69, 47, 50, 32, 48, 44, 49, 32, 49, 44, 50, 59, 32, 80, 47, 49, 32, 50, 59, 32, 81, 47, 48, 32, 40, 41]⟩ : ByteArray) t155 t156 t159 _ ?side1 A1.out).mono ?_); (case side1 => first | exact HG.out | exact Glob.below HG.out (by repeat (first | (with_reducible first | exact HB.out | apply below_alloc | apply pw_below_drewN | apply below_drew1) | exact HB.out))); rintro e w51 ⟨v157, rfl, ho0, hb⟩; refine ⟨_, rfl, ?_⟩; have n0_ := Aside0.mk (Kd.R_lower ho0 (below_size (by repeat (first | (with_reducible first | exact HB.out | apply below_alloc | apply pw_below_drewN | apply below_drew1) | exact HB.out)))); have n1_ := Aside0.mk (below_step (by repeat (first | (with_reducible first | exact HB.out | apply below_alloc | apply pw_below_drewN | apply below_drew1) | exact HB.out)) hb); clear HB; have HO158 := n0_; have HB := n1_; clear n0_ n1_; (try clear hb); (try clear hb2); (try clear hk); (try clear hi); (try clear ho0)) | ((with_reducible refine gate_dst (N := 1) rfl ?_); (try (refine gate_guard (by rfl) ?_; dsimp only)); refine box_event ?hg (N := 1) ?hd (cs := #[.int .i64 0, .slice none 0 0]) (t := 38) ?hr ?_; (case hd => rfl); (case hg => rfl); (case hr => first | (go_simp; done) | (go_simp; rfl)); intro gb160 hg w52 hbox hb; have n0_ := Aside0.mk (Kd.R_below (by (with_reducible repeat (first | apply Kd.R_alloc | apply Kd.R_drewN | apply Kd.R_drew)); exact HO158.out) hb); have n1_ := Aside0.mk (below_step (by repeat (first | (with_reducible first | exact HB.out | apply below_alloc | apply pw_below_drewN | apply below_drew1) | exact HB.out)) hb); have n2_ := Aside0.mk (hbox); have n3_ := Aside0.mk ((by rw [hg]; exact (below_size (by repeat (first | (with_reducible first | exact HB.out | apply below_alloc | apply pw_below_drewN | apply below_drew1) | exact HB.out))) : w.heap.size ≤ gb160)); have n4_ := Aside0.mk ((by rw [hg]; exact (below_size (by repeat (first | (with_reducible first | exact HB.out | apply below_alloc | apply pw_below_drewN | apply below_drew1) | exact HB.out))) : w.heap.size ≤ gb160)); clear HO158; clear HB; have HO158 := n0_; have HB := n1_; have BK160 := n2_; have GW160 := n3_; have GE160 := n4_; clear n0_ n1_ n2_ n3_ n4_; clear hb hbox hg; have hcz53_0 : w52.cell? ⟨gb160, 0, none⟩ = some (.int .i64 0) := (blk_cell BK160.out 0).trans rfl; have hcz53_1 : w52.cell? ⟨gb160, 1, none⟩ = some (.slice none 0 0) := (blk_cell BK160.out 1).trans rfl; have hfz53_0 := blk_frozen BK160.out 0; have hfz53_1 := blk_frozen BK160.out 1; obtain ⟨Ao54, co54, eo54⟩ := Kd.R_slice HO158.out; subst eo54) | ((with_reducible refine gate_dst (N := 14) rfl ?_); (try (refine gate_guard (by rfl) ?_; dsimp only)); refine Kd.R_lit (Kd.int .i64) _ 3 ?hg (N := 14) ?hd (xs := ([1, 2] : List Int)) (inner := [.int .i64 1, .int .i64 2]) (ok := fun _ => True) (okp := fun _ => True) ?hr ?hp (fun _ hk => hk) trivial (Below.refl _ _) (Nat.le_refl _) (by simp) ?_; (case hd => rfl); (case hg => rfl); (case hr => first | (go_simp; done) | (go_simp; rfl)); (case hp => exact (Reps.one (show Kd.M (Kd.int .i64) _ _ _ 1 [.int .i64 1] from rfl) (Reps.one (show Kd.M (Kd.int .i64) _ _ _ 2 [.int .i64 2] from rfl) (Reps.none _ _)))); intro v162 w55 ho56 hb hg_ hnew_; clear hg_ hnew_; (first | rw [← Ny161.out] at ho56 | (simp only [Int.reduceToNat] at ho56; rw [← Ny161.out] at ho56)); have n0_ := Aside0.mk (Kd.R_elder' (by (with_reducible repeat (first | apply Kd.R_alloc | apply Kd.R_drewN | apply Kd.R_drew)); exact (Kd.R_mono (Kd.R_far (p := ⟨gb160, 1, none⟩) (Kd.R_far (p := ⟨gb160, 0, none⟩) (Kd.R_types HO158.out BK160.out (by decide)) (fun _ hk => hk.2) (.int .i64 t155)) (fun _ hk => hk.2) (.slice Ao54 t156.length co54)) (fun _ h_ => h_.1))) (Kd.R_base ho56) hb); have n1_ := Aside0.mk (Kd.R_lower ho56 (below_size (by repeat (first | (with_reducible first | exact HB.out | apply below_alloc | apply pw_below_drewN | apply below_drew1 | refine below_set ?_ GE160.out) | exact HB.out)))); have n2_ := Aside0.mk (blk_below (g := gb160) (o := .cells #[.int .i64 t155, .slice Ao54 t156.length co54] 38 (0, 0)) (by (with_reducible repeat (first | refine blk_drewN ?_ _ | refine blk_drew ?_ | refine blk_alloc ?_ _)); refine blk_put (cs := #[.int .i64 t155, .slice none 0 0]) ?_ 1 _ rfl; (with_reducible repeat (first | refine blk_drewN ?_ _ | refine blk_drew ?_ | refine blk_alloc ?_ _)); refine blk_put (cs := #[.int .i64 0, .slice none 0 0]) ?_ 0 _ rfl; (with_reducible repeat (first | refine blk_drewN ?_ _ | refine blk_drew ?_ | refine blk_alloc ?_ _)); exact BK160.out) hb); have n3_ := Aside0.mk (below_step (by repeat (first | (with_reducible first | exact HB.out | apply below_alloc | apply pw_below_drewN | apply below_drew1 | refine below_set ?_ GE160.out) | exact HB.out)) hb); clear HO158; clear BK160; clear HB; have HO158 := n0_; have HO163 := n1_; have BK160 := n2_; have HB := n3_; clear n0_ n1_ n2_ n3_; clear hb ho56; obtain ⟨Ao57, co57, eo57⟩ := Kd.R_slice HO163.out; subst eo57) | ((with_reducible refine gate_callee (f := 11) rfl ?_); refine goesL_ (some 15) rfl rfl Tryd.func11 (by kernel_rfl) rfl #[.int .i64 3, .slice Ao57 y161.length co57] rfl (by (try simp only [List.map_toArray, List.map_cons, List.map_nil]); first | done | rfl | (simp only [List.length_drop, List.length_take]; rfl)) ?_; (with_reducible refine (shape_Rank.calls k 3 _ _ y161 t164 t165 _ ?side1 ?side2 A2.out).mono ?_); (case side1 => repeat (first | exact (Kd.R_reads' HO163.out).2.2 | (with_reducible refine Kd.C_alloc ?_ _) | (with_reducible refine Kd.C_drewN ?_ _) | (with_reducible refine Kd.C_drew ?_))); (case side2 => exact (Kd.R_reads' HO163.out).2.1); rintro e w58 ⟨rfl, hb⟩; refine ⟨_, rfl, ?_⟩; have n0_ := Aside0.mk (Kd.R_below (by (with_reducible repeat (first | apply Kd.R_alloc | apply Kd.R_drewN | apply Kd.R_drew)); exact HO158.out) hb); have n1_ := Aside0.mk (Kd.R_below (by (with_reducible repeat (first | apply Kd.R_alloc | apply Kd.R_drewN | apply Kd.R_drew)); exact HO163.out) hb); have n2_ := Aside0.mk (blk_below (g := gb160) (o := .cells #[.int .i64 t155, .slice Ao54 t156.length co54] 38 (0, 0)) (by (with_reducible repeat (first | refine blk_drewN ?_ _ | refine blk_drew ?_ | refine blk_alloc ?_ _)); exact BK160.out) hb); have n3_ := Aside0.mk (below_step (by repeat (first | (with_reducible first | exact HB.out | apply below_alloc | apply pw_below_drewN | apply below_drew1 | refine below_set ?_ GE160.out) | exact HB.out)) hb); clear HO158; clear HO163; clear BK160; clear HB; have HO158 := n0_; have HO163 := n1_; have BK160 := n2_; have HB := n3_; clear n0_ n1_ n2_ n3_; (try clear hb); (try clear hb2); (try clear hk); (try clear hi)) | ((with_reducible refine gate_callee (f := 13) rfl ?_); refine goesL_ (some 19) rfl rfl Tryd.func13 (by kernel_rfl) rfl #[.int .i64 2, .int .i64 3, .int .i64 5] rfl (by (try simp only [List.map_toArray, List.map_cons, List.map_nil]); first | done | rfl | (simp only [List.length_drop, List.length_take]; rfl)) ?_; (with_reducible refine (shape_Tuple.calls k 2 3 5 t166 t167 _ A3.out).mono ?_); rintro e w59 ⟨v168, rfl, ho0, hb⟩; refine ⟨_, rfl, ?_⟩; have n0_ := Aside0.mk (Kd.R_elder' (by (with_reducible repeat (first | apply Kd.R_alloc | apply Kd.R_drewN | apply Kd.R_drew)); exact HO158.out) (Kd.R_base ho0) hb); have n1_ := Aside0.mk (Kd.R_elder' (by (with_reducible repeat (first | apply Kd.R_alloc | apply Kd.R_drewN | apply Kd.R_drew)); exact HO163.out) (Kd.R_base ho0) hb); have n2_ := Aside0.mk (Kd.R_lower (Kd.R_new' ho0 (Kd.R_lt (by (with_reducible repeat (first | apply Kd.R_alloc | apply Kd.R_drewN | apply Kd.R_drew)); exact HO163.out))) (below_size (by repeat (first | (with_reducible first | exact HB.out | apply below_alloc | apply pw_below_drewN | apply below_drew1 | refine below_set ?_ GE160.out) | exact HB.out)))); have n3_ := Aside0.mk (blk_below (g := gb160) (o := .cells #[.int .i64 t155, .slice Ao54 t156.length co54] 38 (0, 0)) (by (with_reducible repeat (first | refine blk_drewN ?_ _ | refine blk_drew ?_ | refine blk_alloc ?_ _)); exact BK160.out) hb); have n4_ := Aside0.mk (below_step (by repeat (first | (with_reducible first | exact HB.out | apply below_alloc | apply pw_below_drewN | apply below_drew1 | refine below_set ?_ GE160.out) | exact HB.out)) hb); clear HO158; clear HO163; clear BK160; clear HB; have HO158 := n0_; have HO163 := n1_; have HO169 := n2_; have BK160 := n3_; have HB := n4_; clear n0_ n1_ n2_ n3_ n4_; (try clear hb); (try clear hb2); (try clear hk); (try clear hi); (try clear ho0); have hcz60_0 : w59.cell? ⟨gb160, 0, none⟩ = some (.int .i64 t155) := (blk_cell BK160.out 0).trans rfl; have hcz60_1 : w59.cell? ⟨gb160, 1, none⟩ = some (.slice Ao54 t156.length co54) := (blk_cell BK160.out 1).trans rfl; have hfz60_0 := blk_frozen BK160.out 0; have hfz60_1 := blk_frozen BK160.out 1) | ((with_reducible refine gate_dst (N := 24) rfl ?_); (try (refine gate_guard (by rfl) ?_; dsimp only)); refine Kd.R_lit (Kd.int .i64) _ 3 ?hg (N := 24) ?hd (xs := ([1, 2] : List Int)) (inner := [.int .i64 1, .int .i64 2]) (ok := fun _ => True) (okp := fun _ => True) ?hr ?hp (fun _ hk => hk) trivial (Below.refl _ _) (Nat.le_refl _) (by simp) ?_; (case hd => rfl); (case hg => rfl); (case hr => first | (go_simp; done) | (go_simp; rfl)); (case hp => exact (Reps.one (show Kd.M (Kd.int .i64) _ _ _ 1 [.int .i64 1] from rfl) (Reps.one (show Kd.M (Kd.int .i64) _ _ _ 2 [.int .i64 2] from rfl) (Reps.none _ _)))); intro v171 w61 ho62 hb hg_ hnew_; clear hg_ hnew_; (first | rw [← Ny170.out] at ho62 | (simp only [Int.reduceToNat] at ho62; rw [← Ny170.out] at ho62)); have n0_ := Aside0.mk (Kd.R_elder' (by (with_reducible repeat (first | apply Kd.R_alloc | apply Kd.R_drewN | apply Kd.R_drew)); exact HO158.out) (Kd.R_base ho62) hb); have n1_ := Aside0.mk (Kd.R_elder' (by (with_reducible repeat (first | apply Kd.R_alloc | apply Kd.R_drewN | apply Kd.R_drew)); exact HO163.out) (Kd.R_base ho62) hb); have n2_ := Aside0.mk (Kd.R_elder' (by (with_reducible repeat (first | apply Kd.R_alloc | apply Kd.R_drewN | apply Kd.R_drew)); exact HO169.out) (Kd.R_base ho62) hb); have n3_ := Aside0.mk (Kd.R_lower (Kd.R_new' (Kd.R_new' ho62 (Kd.R_lt (by (with_reducible repeat (first | apply Kd.R_alloc | apply Kd.R_drewN | apply Kd.R_drew)); exact HO163.out))) (Kd.R_lt (by (with_reducible repeat (first | apply Kd.R_alloc | apply Kd.R_drewN | apply Kd.R_drew)); exact HO169.out))) (below_size (by repeat (first | (with_reducible first | exact HB.out | apply below_alloc | apply pw_below_drewN | apply below_drew1 | refine below_set ?_ GE160.out) | exact HB.out)))); have n4_ := Aside0.mk (blk_below (g := gb160) (o := .cells #[.int .i64 t155, .slice Ao54 t156.length co54] 38 (0, 0)) (by (with_reducible repeat (first | refine blk_drewN ?_ _ | refine blk_drew ?_ | refine blk_alloc ?_ _)); exact BK160.out) hb); have n5_ := Aside0.mk (below_step (by repeat (first | (with_reducible first | exact HB.out | apply below_alloc | apply pw_below_drewN | apply below_drew1 | refine below_set ?_ GE160.out) | exact HB.out)) hb); clear HO158; clear HO163; clear HO169; clear BK160; clear HB; have HO158 := n0_; have HO163 := n1_; have HO169 := n2_; have HO172 := n3_; have BK160 := n4_; have HB := n5_; clear n0_ n1_ n2_ n3_ n4_ n5_; clear hb ho62; obtain ⟨Ao63, co63, eo63⟩ := Kd.R_slice HO172.out; subst eo63) | ((with_reducible refine gate_callee (f := 30) rfl ?_); refine goesL_ (some 25) rfl rfl Tryd.func30 (by kernel_rfl) rfl #[.agg #[.int .i64 t155, .slice Ao54 t156.length co54], .string (⟨#[69]⟩ : ByteArray), .slice Ao63 y170.length co63] rfl (by (try simp only [List.map_toArray, List.map_cons, List.map_nil]); first | done | rfl | (simp only [List.length_drop, List.length_take]; rfl)) ?_; (with_reducible refine (shape_Has.calls k t155 _ _ t156 (⟨#[69]⟩ : ByteArray) _ _ y170 t173 t174 _ ?side1 ?side2 ?side3 ?side4 A4.out).mono ?_); (case side1 => repeat (first | exact (Kd.R_reads' HO158.out).2.2 | (with_reducible refine Kd.C_alloc ?_ _) | (with_reducible refine Kd.C_drewN ?_ _) | (with_reducible refine Kd.C_drew ?_))); (case side2 => exact (Kd.R_reads' HO158.out).2.1); (case side3 => repeat (first | exact (Kd.R_reads' HO172.out).2.2 | (with_reducible refine Kd.C_alloc ?_ _) | (with_reducible refine Kd.C_drewN ?_ _) | (with_reducible refine Kd.C_drew ?_))); (case side4 => exact (Kd.R_reads' HO172.out).2.1); rintro e w64 ⟨rfl, hb⟩; refine ⟨_, rfl, ?_⟩; have n0_ := Aside0.mk (Kd.R_below (by (with_reducible repeat (first | apply Kd.R_alloc | apply Kd.R_drewN | apply Kd.R_drew)); exact HO158.out) hb); have n1_ := Aside0.mk (Kd.R_below (by (with_reducible repeat (first | apply Kd.R_alloc | apply Kd.R_drewN | apply Kd.R_drew)); exact HO163.out) hb); have n2_ := Aside0.mk (Kd.R_below (by (with_reducible repeat (first | apply Kd.R_alloc | apply Kd.R_drewN | apply Kd.R_drew)); exact HO169.out) hb); have n3_ := Aside0.mk (Kd.R_below (by (with_reducible repeat (first | apply Kd.R_alloc | apply Kd.R_drewN | apply Kd.R_drew)); exact HO172.out) hb); have n4_ := Aside0.mk (blk_below (g := gb160) (o := .cells #[.int .i64 t155, .slice Ao54 t156.length co54] 38 (0, 0)) (by (with_reducible repeat (first | refine blk_drewN ?_ _ | refine blk_drew ?_ | refine blk_alloc ?_ _)); exact BK160.out) hb); have n5_ := Aside0.mk (below_step (by repeat (first | (with_reducible first | exact HB.out | apply below_alloc | apply pw_below_drewN | apply below_drew1 | refine below_set ?_ GE160.out) | exact HB.out)) hb); clear HO158; clear HO163; clear HO169; clear HO172; clear BK160; clear HB; have HO158 := n0_; have HO163 := n1_; have HO169 := n2_; have HO172 := n3_; have BK160 := n4_; have HB := n5_; clear n0_ n1_ n2_ n3_ n4_ n5_; (try clear hb); (try clear hb2); (try clear hk); (try clear hi); have hcz65_0 : w64.cell? ⟨gb160, 0, none⟩ = some (.int .i64 t155) := (blk_cell BK160.out 0).trans rfl; have hcz65_1 : w64.cell? ⟨gb160, 1, none⟩ = some (.slice Ao54 t156.length co54) := (blk_cell BK160.out 1).trans rfl; have hfz65_0 := blk_frozen BK160.out 0; have hfz65_1 := blk_frozen BK160.out 1))
              go_ret
              exact ⟨by first | rfl | (simp [errW_none, errW_some] <;> rfl) | (simp [*, errW_none, errW_some] <;> rfl), by repeat (first | (with_reducible first | exact HB.out | apply below_alloc | apply pw_below_drewN | apply below_drew1 | refine below_set ?_ GE160.out) | exact HB.out)⟩
          · rw [if_neg c9] at H
            have c9b0 : (t155 == 3) = false := beq_eq_false_iff_ne.mpr c9
            have c9b1 : (t155 != 3) = true := bne_iff_ne.mpr c9
            obtain rfl := Option.some.inj H
            go_enter Tryd.func8, Tryd.ntmps8
            go_wp2_with (first | ((with_reducible refine gate_callee (f := 27) rfl ?_); refine goesL_ (some 10) rfl rfl Tryd.func27 (by kernel_rfl) rfl #[.string (⟨#[51, 59, 32, 69, 47, 50, 32, 48, 44, 49, 32, 49, 44, 50, 59, 32, 80, 47, 49, 32, 50, 59, 32, 81, 47, 48, 32, 40, 41]⟩ : ByteArray)] rfl (by (try simp only [List.map_toArray, List.map_cons, List.map_nil]); first | done | rfl | (simp only [List.length_drop, List.length_take]; rfl)) ?_; (with_reducible refine (shape_Parse.calls k (⟨#[51, 59, 32, 69, 47, 50, 32, 48, 44, 49, 32, 49, 44, 50, 59, 32, 80, 47, 49, 32, 50, 59, 32, 81, 47, 48, 32, 40, 41]⟩ : ByteArray) t155 t156 t159 _ ?side1 A1.out).mono ?_); (case side1 => first | exact HG.out | exact Glob.below HG.out (by repeat (first | (with_reducible first | exact HB.out | apply below_alloc | apply pw_below_drewN | apply below_drew1) | exact HB.out))); rintro e w66 ⟨v157, rfl, ho0, hb⟩; refine ⟨_, rfl, ?_⟩; have n0_ := Aside0.mk (Kd.R_lower ho0 (below_size (by repeat (first | (with_reducible first | exact HB.out | apply below_alloc | apply pw_below_drewN | apply below_drew1) | exact HB.out)))); have n1_ := Aside0.mk (below_step (by repeat (first | (with_reducible first | exact HB.out | apply below_alloc | apply pw_below_drewN | apply below_drew1) | exact HB.out)) hb); clear HB; have HO158 := n0_; have HB := n1_; clear n0_ n1_; (try clear hb); (try clear hb2); (try clear hk); (try clear hi); (try clear ho0)) | ((with_reducible refine gate_dst (N := 1) rfl ?_); (try (refine gate_guard (by rfl) ?_; dsimp only)); refine box_event ?hg (N := 1) ?hd (cs := #[.int .i64 0, .slice none 0 0]) (t := 38) ?hr ?_; (case hd => rfl); (case hg => rfl); (case hr => first | (go_simp; done) | (go_simp; rfl)); intro gb160 hg w67 hbox hb; have n0_ := Aside0.mk (Kd.R_below (by (with_reducible repeat (first | apply Kd.R_alloc | apply Kd.R_drewN | apply Kd.R_drew)); exact HO158.out) hb); have n1_ := Aside0.mk (below_step (by repeat (first | (with_reducible first | exact HB.out | apply below_alloc | apply pw_below_drewN | apply below_drew1) | exact HB.out)) hb); have n2_ := Aside0.mk (hbox); have n3_ := Aside0.mk ((by rw [hg]; exact (below_size (by repeat (first | (with_reducible first | exact HB.out | apply below_alloc | apply pw_below_drewN | apply below_drew1) | exact HB.out))) : w.heap.size ≤ gb160)); have n4_ := Aside0.mk ((by rw [hg]; exact (below_size (by repeat (first | (with_reducible first | exact HB.out | apply below_alloc | apply pw_below_drewN | apply below_drew1) | exact HB.out))) : w.heap.size ≤ gb160)); clear HO158; clear HB; have HO158 := n0_; have HB := n1_; have BK160 := n2_; have GW160 := n3_; have GE160 := n4_; clear n0_ n1_ n2_ n3_ n4_; clear hb hbox hg; have hcz68_0 : w67.cell? ⟨gb160, 0, none⟩ = some (.int .i64 0) := (blk_cell BK160.out 0).trans rfl; have hcz68_1 : w67.cell? ⟨gb160, 1, none⟩ = some (.slice none 0 0) := (blk_cell BK160.out 1).trans rfl; have hfz68_0 := blk_frozen BK160.out 0; have hfz68_1 := blk_frozen BK160.out 1; obtain ⟨Ao69, co69, eo69⟩ := Kd.R_slice HO158.out; subst eo69) | ((with_reducible refine gate_dst (N := 14) rfl ?_); (try (refine gate_guard (by rfl) ?_; dsimp only)); refine Kd.R_lit (Kd.int .i64) _ 3 ?hg (N := 14) ?hd (xs := ([1, 2] : List Int)) (inner := [.int .i64 1, .int .i64 2]) (ok := fun _ => True) (okp := fun _ => True) ?hr ?hp (fun _ hk => hk) trivial (Below.refl _ _) (Nat.le_refl _) (by simp) ?_; (case hd => rfl); (case hg => rfl); (case hr => first | (go_simp; done) | (go_simp; rfl)); (case hp => exact (Reps.one (show Kd.M (Kd.int .i64) _ _ _ 1 [.int .i64 1] from rfl) (Reps.one (show Kd.M (Kd.int .i64) _ _ _ 2 [.int .i64 2] from rfl) (Reps.none _ _)))); intro v162 w70 ho71 hb hg_ hnew_; clear hg_ hnew_; (first | rw [← Ny161.out] at ho71 | (simp only [Int.reduceToNat] at ho71; rw [← Ny161.out] at ho71)); have n0_ := Aside0.mk (Kd.R_elder' (by (with_reducible repeat (first | apply Kd.R_alloc | apply Kd.R_drewN | apply Kd.R_drew)); exact (Kd.R_mono (Kd.R_far (p := ⟨gb160, 1, none⟩) (Kd.R_far (p := ⟨gb160, 0, none⟩) (Kd.R_types HO158.out BK160.out (by decide)) (fun _ hk => hk.2) (.int .i64 t155)) (fun _ hk => hk.2) (.slice Ao69 t156.length co69)) (fun _ h_ => h_.1))) (Kd.R_base ho71) hb); have n1_ := Aside0.mk (Kd.R_lower ho71 (below_size (by repeat (first | (with_reducible first | exact HB.out | apply below_alloc | apply pw_below_drewN | apply below_drew1 | refine below_set ?_ GE160.out) | exact HB.out)))); have n2_ := Aside0.mk (blk_below (g := gb160) (o := .cells #[.int .i64 t155, .slice Ao69 t156.length co69] 38 (0, 0)) (by (with_reducible repeat (first | refine blk_drewN ?_ _ | refine blk_drew ?_ | refine blk_alloc ?_ _)); refine blk_put (cs := #[.int .i64 t155, .slice none 0 0]) ?_ 1 _ rfl; (with_reducible repeat (first | refine blk_drewN ?_ _ | refine blk_drew ?_ | refine blk_alloc ?_ _)); refine blk_put (cs := #[.int .i64 0, .slice none 0 0]) ?_ 0 _ rfl; (with_reducible repeat (first | refine blk_drewN ?_ _ | refine blk_drew ?_ | refine blk_alloc ?_ _)); exact BK160.out) hb); have n3_ := Aside0.mk (below_step (by repeat (first | (with_reducible first | exact HB.out | apply below_alloc | apply pw_below_drewN | apply below_drew1 | refine below_set ?_ GE160.out) | exact HB.out)) hb); clear HO158; clear BK160; clear HB; have HO158 := n0_; have HO163 := n1_; have BK160 := n2_; have HB := n3_; clear n0_ n1_ n2_ n3_; clear hb ho71; obtain ⟨Ao72, co72, eo72⟩ := Kd.R_slice HO163.out; subst eo72) | ((with_reducible refine gate_callee (f := 11) rfl ?_); refine goesL_ (some 15) rfl rfl Tryd.func11 (by kernel_rfl) rfl #[.int .i64 3, .slice Ao72 y161.length co72] rfl (by (try simp only [List.map_toArray, List.map_cons, List.map_nil]); first | done | rfl | (simp only [List.length_drop, List.length_take]; rfl)) ?_; (with_reducible refine (shape_Rank.calls k 3 _ _ y161 t164 t165 _ ?side1 ?side2 A2.out).mono ?_); (case side1 => repeat (first | exact (Kd.R_reads' HO163.out).2.2 | (with_reducible refine Kd.C_alloc ?_ _) | (with_reducible refine Kd.C_drewN ?_ _) | (with_reducible refine Kd.C_drew ?_))); (case side2 => exact (Kd.R_reads' HO163.out).2.1); rintro e w73 ⟨rfl, hb⟩; refine ⟨_, rfl, ?_⟩; have n0_ := Aside0.mk (Kd.R_below (by (with_reducible repeat (first | apply Kd.R_alloc | apply Kd.R_drewN | apply Kd.R_drew)); exact HO158.out) hb); have n1_ := Aside0.mk (Kd.R_below (by (with_reducible repeat (first | apply Kd.R_alloc | apply Kd.R_drewN | apply Kd.R_drew)); exact HO163.out) hb); have n2_ := Aside0.mk (blk_below (g := gb160) (o := .cells #[.int .i64 t155, .slice Ao69 t156.length co69] 38 (0, 0)) (by (with_reducible repeat (first | refine blk_drewN ?_ _ | refine blk_drew ?_ | refine blk_alloc ?_ _)); exact BK160.out) hb); have n3_ := Aside0.mk (below_step (by repeat (first | (with_reducible first | exact HB.out | apply below_alloc | apply pw_below_drewN | apply below_drew1 | refine below_set ?_ GE160.out) | exact HB.out)) hb); clear HO158; clear HO163; clear BK160; clear HB; have HO158 := n0_; have HO163 := n1_; have BK160 := n2_; have HB := n3_; clear n0_ n1_ n2_ n3_; (try clear hb); (try clear hb2); (try clear hk); (try clear hi)) | ((with_reducible refine gate_callee (f := 13) rfl ?_); refine goesL_ (some 19) rfl rfl Tryd.func13 (by kernel_rfl) rfl #[.int .i64 2, .int .i64 3, .int .i64 5] rfl (by (try simp only [List.map_toArray, List.map_cons, List.map_nil]); first | done | rfl | (simp only [List.length_drop, List.length_take]; rfl)) ?_; (with_reducible refine (shape_Tuple.calls k 2 3 5 t166 t167 _ A3.out).mono ?_); rintro e w74 ⟨v168, rfl, ho0, hb⟩; refine ⟨_, rfl, ?_⟩; have n0_ := Aside0.mk (Kd.R_elder' (by (with_reducible repeat (first | apply Kd.R_alloc | apply Kd.R_drewN | apply Kd.R_drew)); exact HO158.out) (Kd.R_base ho0) hb); have n1_ := Aside0.mk (Kd.R_elder' (by (with_reducible repeat (first | apply Kd.R_alloc | apply Kd.R_drewN | apply Kd.R_drew)); exact HO163.out) (Kd.R_base ho0) hb); have n2_ := Aside0.mk (Kd.R_lower (Kd.R_new' ho0 (Kd.R_lt (by (with_reducible repeat (first | apply Kd.R_alloc | apply Kd.R_drewN | apply Kd.R_drew)); exact HO163.out))) (below_size (by repeat (first | (with_reducible first | exact HB.out | apply below_alloc | apply pw_below_drewN | apply below_drew1 | refine below_set ?_ GE160.out) | exact HB.out)))); have n3_ := Aside0.mk (blk_below (g := gb160) (o := .cells #[.int .i64 t155, .slice Ao69 t156.length co69] 38 (0, 0)) (by (with_reducible repeat (first | refine blk_drewN ?_ _ | refine blk_drew ?_ | refine blk_alloc ?_ _)); exact BK160.out) hb); have n4_ := Aside0.mk (below_step (by repeat (first | (with_reducible first | exact HB.out | apply below_alloc | apply pw_below_drewN | apply below_drew1 | refine below_set ?_ GE160.out) | exact HB.out)) hb); clear HO158; clear HO163; clear BK160; clear HB; have HO158 := n0_; have HO163 := n1_; have HO169 := n2_; have BK160 := n3_; have HB := n4_; clear n0_ n1_ n2_ n3_ n4_; (try clear hb); (try clear hb2); (try clear hk); (try clear hi); (try clear ho0); have hcz75_0 : w74.cell? ⟨gb160, 0, none⟩ = some (.int .i64 t155) := (blk_cell BK160.out 0).trans rfl; have hcz75_1 : w74.cell? ⟨gb160, 1, none⟩ = some (.slice Ao69 t156.length co69) := (blk_cell BK160.out 1).trans rfl; have hfz75_0 := blk_frozen BK160.out 0; have hfz75_1 := blk_frozen BK160.out 1) | ((with_reducible refine gate_dst (N := 24) rfl ?_); (try (refine gate_guard (by rfl) ?_; dsimp only)); refine Kd.R_lit (Kd.int .i64) _ 3 ?hg (N := 24) ?hd (xs := ([1, 2] : List Int)) (inner := [.int .i64 1, .int .i64 2]) (ok := fun _ => True) (okp := fun _ => True) ?hr ?hp (fun _ hk => hk) trivial (Below.refl _ _) (Nat.le_refl _) (by simp) ?_; (case hd => rfl); (case hg => rfl); (case hr => first | (go_simp; done) | (go_simp; rfl)); (case hp => exact (Reps.one (show Kd.M (Kd.int .i64) _ _ _ 1 [.int .i64 1] from rfl) (Reps.one (show Kd.M (Kd.int .i64) _ _ _ 2 [.int .i64 2] from rfl) (Reps.none _ _)))); intro v171 w76 ho77 hb hg_ hnew_; clear hg_ hnew_; (first | rw [← Ny170.out] at ho77 | (simp only [Int.reduceToNat] at ho77; rw [← Ny170.out] at ho77)); have n0_ := Aside0.mk (Kd.R_elder' (by (with_reducible repeat (first | apply Kd.R_alloc | apply Kd.R_drewN | apply Kd.R_drew)); exact HO158.out) (Kd.R_base ho77) hb); have n1_ := Aside0.mk (Kd.R_elder' (by (with_reducible repeat (first | apply Kd.R_alloc | apply Kd.R_drewN | apply Kd.R_drew)); exact HO163.out) (Kd.R_base ho77) hb); have n2_ := Aside0.mk (Kd.R_elder' (by (with_reducible repeat (first | apply Kd.R_alloc | apply Kd.R_drewN | apply Kd.R_drew)); exact HO169.out) (Kd.R_base ho77) hb); have n3_ := Aside0.mk (Kd.R_lower (Kd.R_new' (Kd.R_new' ho77 (Kd.R_lt (by (with_reducible repeat (first | apply Kd.R_alloc | apply Kd.R_drewN | apply Kd.R_drew)); exact HO163.out))) (Kd.R_lt (by (with_reducible repeat (first | apply Kd.R_alloc | apply Kd.R_drewN | apply Kd.R_drew)); exact HO169.out))) (below_size (by repeat (first | (with_reducible first | exact HB.out | apply below_alloc | apply pw_below_drewN | apply below_drew1 | refine below_set ?_ GE160.out) | exact HB.out)))); have n4_ := Aside0.mk (blk_below (g := gb160) (o := .cells #[.int .i64 t155, .slice Ao69 t156.length co69] 38 (0, 0)) (by (with_reducible repeat (first | refine blk_drewN ?_ _ | refine blk_drew ?_ | refine blk_alloc ?_ _)); exact BK160.out) hb); have n5_ := Aside0.mk (below_step (by repeat (first | (with_reducible first | exact HB.out | apply below_alloc | apply pw_below_drewN | apply below_drew1 | refine below_set ?_ GE160.out) | exact HB.out)) hb); clear HO158; clear HO163; clear HO169; clear BK160; clear HB; have HO158 := n0_; have HO163 := n1_; have HO169 := n2_; have HO172 := n3_; have BK160 := n4_; have HB := n5_; clear n0_ n1_ n2_ n3_ n4_ n5_; clear hb ho77; obtain ⟨Ao78, co78, eo78⟩ := Kd.R_slice HO172.out; subst eo78) | ((with_reducible refine gate_callee (f := 30) rfl ?_); refine goesL_ (some 25) rfl rfl Tryd.func30 (by kernel_rfl) rfl #[.agg #[.int .i64 t155, .slice Ao69 t156.length co69], .string (⟨#[69]⟩ : ByteArray), .slice Ao78 y170.length co78] rfl (by (try simp only [List.map_toArray, List.map_cons, List.map_nil]); first | done | rfl | (simp only [List.length_drop, List.length_take]; rfl)) ?_; (with_reducible refine (shape_Has.calls k t155 _ _ t156 (⟨#[69]⟩ : ByteArray) _ _ y170 t173 t174 _ ?side1 ?side2 ?side3 ?side4 A4.out).mono ?_); (case side1 => repeat (first | exact (Kd.R_reads' HO158.out).2.2 | (with_reducible refine Kd.C_alloc ?_ _) | (with_reducible refine Kd.C_drewN ?_ _) | (with_reducible refine Kd.C_drew ?_))); (case side2 => exact (Kd.R_reads' HO158.out).2.1); (case side3 => repeat (first | exact (Kd.R_reads' HO172.out).2.2 | (with_reducible refine Kd.C_alloc ?_ _) | (with_reducible refine Kd.C_drewN ?_ _) | (with_reducible refine Kd.C_drew ?_))); (case side4 => exact (Kd.R_reads' HO172.out).2.1); rintro e w79 ⟨rfl, hb⟩; refine ⟨_, rfl, ?_⟩; have n0_ := Aside0.mk (Kd.R_below (by (with_reducible repeat (first | apply Kd.R_alloc | apply Kd.R_drewN | apply Kd.R_drew)); exact HO158.out) hb); have n1_ := Aside0.mk (Kd.R_below (by (with_reducible repeat (first | apply Kd.R_alloc | apply Kd.R_drewN | apply Kd.R_drew)); exact HO163.out) hb); have n2_ := Aside0.mk (Kd.R_below (by (with_reducible repeat (first | apply Kd.R_alloc | apply Kd.R_drewN | apply Kd.R_drew)); exact HO169.out) hb); have n3_ := Aside0.mk (Kd.R_below (by (with_reducible repeat (first | apply Kd.R_alloc | apply Kd.R_drewN | apply Kd.R_drew)); exact HO172.out) hb); have n4_ := Aside0.mk (blk_below (g := gb160) (o := .cells #[.int .i64 t155, .slice Ao69 t156.length co69] 38 (0, 0)) (by (with_reducible repeat (first | refine blk_drewN ?_ _ | refine blk_drew ?_ | refine blk_alloc ?_ _)); exact BK160.out) hb); have n5_ := Aside0.mk (below_step (by repeat (first | (with_reducible first | exact HB.out | apply below_alloc | apply pw_below_drewN | apply below_drew1 | refine below_set ?_ GE160.out) | exact HB.out)) hb); clear HO158; clear HO163; clear HO169; clear HO172; clear BK160; clear HB; have HO158 := n0_; have HO163 := n1_; have HO169 := n2_; have HO172 := n3_; have BK160 := n4_; have HB := n5_; clear n0_ n1_ n2_ n3_ n4_ n5_; (try clear hb); (try clear hb2); (try clear hk); (try clear hi); have hcz80_0 : w79.cell? ⟨gb160, 0, none⟩ = some (.int .i64 t155) := (blk_cell BK160.out 0).trans rfl; have hcz80_1 : w79.cell? ⟨gb160, 1, none⟩ = some (.slice Ao69 t156.length co69) := (blk_cell BK160.out 1).trans rfl; have hfz80_0 := blk_frozen BK160.out 0; have hfz80_1 := blk_frozen BK160.out 1))
            go_ret
            exact ⟨by first | rfl | (simp [errW_none, errW_some] <;> rfl) | (simp [*, errW_none, errW_some] <;> rfl), by repeat (first | (with_reducible first | exact HB.out | apply below_alloc | apply pw_below_drewN | apply below_drew1 | refine below_set ?_ GE160.out) | exact HB.out)⟩
        · rw [if_neg c8] at H
          have c8b0 : (t174 == 0) = false := beq_eq_false_iff_ne.mpr c8
          have c8b1 : (t174 != 0) = true := bne_iff_ne.mpr c8
          obtain rfl := Option.some.inj H
          go_enter Tryd.func8, Tryd.ntmps8
          go_wp2_with (first | ((with_reducible refine gate_callee (f := 27) rfl ?_); refine goesL_ (some 10) rfl rfl Tryd.func27 (by kernel_rfl) rfl #[.string (⟨#[51, 59, 32, 69, 47, 50, 32, 48, 44, 49, 32, 49, 44, 50, 59, 32, 80, 47, 49, 32, 50, 59, 32, 81, 47, 48, 32, 40, 41]⟩ : ByteArray)] rfl (by (try simp only [List.map_toArray, List.map_cons, List.map_nil]); first | done | rfl | (simp only [List.length_drop, List.length_take]; rfl)) ?_; (with_reducible refine (shape_Parse.calls k (⟨#[51, 59, 32, 69, 47, 50, 32, 48, 44, 49, 32, 49, 44, 50, 59, 32, 80, 47, 49, 32, 50, 59, 32, 81, 47, 48, 32, 40, 41]⟩ : ByteArray) t155 t156 t159 _ ?side1 A1.out).mono ?_); (case side1 => first | exact HG.out | exact Glob.below HG.out (by repeat (first | (with_reducible first | exact HB.out | apply below_alloc | apply pw_below_drewN | apply below_drew1) | exact HB.out))); rintro e w81 ⟨v157, rfl, ho0, hb⟩; refine ⟨_, rfl, ?_⟩; have n0_ := Aside0.mk (Kd.R_lower ho0 (below_size (by repeat (first | (with_reducible first | exact HB.out | apply below_alloc | apply pw_below_drewN | apply below_drew1) | exact HB.out)))); have n1_ := Aside0.mk (below_step (by repeat (first | (with_reducible first | exact HB.out | apply below_alloc | apply pw_below_drewN | apply below_drew1) | exact HB.out)) hb); clear HB; have HO158 := n0_; have HB := n1_; clear n0_ n1_; (try clear hb); (try clear hb2); (try clear hk); (try clear hi); (try clear ho0)) | ((with_reducible refine gate_dst (N := 1) rfl ?_); (try (refine gate_guard (by rfl) ?_; dsimp only)); refine box_event ?hg (N := 1) ?hd (cs := #[.int .i64 0, .slice none 0 0]) (t := 38) ?hr ?_; (case hd => rfl); (case hg => rfl); (case hr => first | (go_simp; done) | (go_simp; rfl)); intro gb160 hg w82 hbox hb; have n0_ := Aside0.mk (Kd.R_below (by (with_reducible repeat (first | apply Kd.R_alloc | apply Kd.R_drewN | apply Kd.R_drew)); exact HO158.out) hb); have n1_ := Aside0.mk (below_step (by repeat (first | (with_reducible first | exact HB.out | apply below_alloc | apply pw_below_drewN | apply below_drew1) | exact HB.out)) hb); have n2_ := Aside0.mk (hbox); have n3_ := Aside0.mk ((by rw [hg]; exact (below_size (by repeat (first | (with_reducible first | exact HB.out | apply below_alloc | apply pw_below_drewN | apply below_drew1) | exact HB.out))) : w.heap.size ≤ gb160)); have n4_ := Aside0.mk ((by rw [hg]; exact (below_size (by repeat (first | (with_reducible first | exact HB.out | apply below_alloc | apply pw_below_drewN | apply below_drew1) | exact HB.out))) : w.heap.size ≤ gb160)); clear HO158; clear HB; have HO158 := n0_; have HB := n1_; have BK160 := n2_; have GW160 := n3_; have GE160 := n4_; clear n0_ n1_ n2_ n3_ n4_; clear hb hbox hg; have hcz83_0 : w82.cell? ⟨gb160, 0, none⟩ = some (.int .i64 0) := (blk_cell BK160.out 0).trans rfl; have hcz83_1 : w82.cell? ⟨gb160, 1, none⟩ = some (.slice none 0 0) := (blk_cell BK160.out 1).trans rfl; have hfz83_0 := blk_frozen BK160.out 0; have hfz83_1 := blk_frozen BK160.out 1; obtain ⟨Ao84, co84, eo84⟩ := Kd.R_slice HO158.out; subst eo84) | ((with_reducible refine gate_dst (N := 14) rfl ?_); (try (refine gate_guard (by rfl) ?_; dsimp only)); refine Kd.R_lit (Kd.int .i64) _ 3 ?hg (N := 14) ?hd (xs := ([1, 2] : List Int)) (inner := [.int .i64 1, .int .i64 2]) (ok := fun _ => True) (okp := fun _ => True) ?hr ?hp (fun _ hk => hk) trivial (Below.refl _ _) (Nat.le_refl _) (by simp) ?_; (case hd => rfl); (case hg => rfl); (case hr => first | (go_simp; done) | (go_simp; rfl)); (case hp => exact (Reps.one (show Kd.M (Kd.int .i64) _ _ _ 1 [.int .i64 1] from rfl) (Reps.one (show Kd.M (Kd.int .i64) _ _ _ 2 [.int .i64 2] from rfl) (Reps.none _ _)))); intro v162 w85 ho86 hb hg_ hnew_; clear hg_ hnew_; (first | rw [← Ny161.out] at ho86 | (simp only [Int.reduceToNat] at ho86; rw [← Ny161.out] at ho86)); have n0_ := Aside0.mk (Kd.R_elder' (by (with_reducible repeat (first | apply Kd.R_alloc | apply Kd.R_drewN | apply Kd.R_drew)); exact (Kd.R_mono (Kd.R_far (p := ⟨gb160, 1, none⟩) (Kd.R_far (p := ⟨gb160, 0, none⟩) (Kd.R_types HO158.out BK160.out (by decide)) (fun _ hk => hk.2) (.int .i64 t155)) (fun _ hk => hk.2) (.slice Ao84 t156.length co84)) (fun _ h_ => h_.1))) (Kd.R_base ho86) hb); have n1_ := Aside0.mk (Kd.R_lower ho86 (below_size (by repeat (first | (with_reducible first | exact HB.out | apply below_alloc | apply pw_below_drewN | apply below_drew1 | refine below_set ?_ GE160.out) | exact HB.out)))); have n2_ := Aside0.mk (blk_below (g := gb160) (o := .cells #[.int .i64 t155, .slice Ao84 t156.length co84] 38 (0, 0)) (by (with_reducible repeat (first | refine blk_drewN ?_ _ | refine blk_drew ?_ | refine blk_alloc ?_ _)); refine blk_put (cs := #[.int .i64 t155, .slice none 0 0]) ?_ 1 _ rfl; (with_reducible repeat (first | refine blk_drewN ?_ _ | refine blk_drew ?_ | refine blk_alloc ?_ _)); refine blk_put (cs := #[.int .i64 0, .slice none 0 0]) ?_ 0 _ rfl; (with_reducible repeat (first | refine blk_drewN ?_ _ | refine blk_drew ?_ | refine blk_alloc ?_ _)); exact BK160.out) hb); have n3_ := Aside0.mk (below_step (by repeat (first | (with_reducible first | exact HB.out | apply below_alloc | apply pw_below_drewN | apply below_drew1 | refine below_set ?_ GE160.out) | exact HB.out)) hb); clear HO158; clear BK160; clear HB; have HO158 := n0_; have HO163 := n1_; have BK160 := n2_; have HB := n3_; clear n0_ n1_ n2_ n3_; clear hb ho86; obtain ⟨Ao87, co87, eo87⟩ := Kd.R_slice HO163.out; subst eo87) | ((with_reducible refine gate_callee (f := 11) rfl ?_); refine goesL_ (some 15) rfl rfl Tryd.func11 (by kernel_rfl) rfl #[.int .i64 3, .slice Ao87 y161.length co87] rfl (by (try simp only [List.map_toArray, List.map_cons, List.map_nil]); first | done | rfl | (simp only [List.length_drop, List.length_take]; rfl)) ?_; (with_reducible refine (shape_Rank.calls k 3 _ _ y161 t164 t165 _ ?side1 ?side2 A2.out).mono ?_); (case side1 => repeat (first | exact (Kd.R_reads' HO163.out).2.2 | (with_reducible refine Kd.C_alloc ?_ _) | (with_reducible refine Kd.C_drewN ?_ _) | (with_reducible refine Kd.C_drew ?_))); (case side2 => exact (Kd.R_reads' HO163.out).2.1); rintro e w88 ⟨rfl, hb⟩; refine ⟨_, rfl, ?_⟩; have n0_ := Aside0.mk (Kd.R_below (by (with_reducible repeat (first | apply Kd.R_alloc | apply Kd.R_drewN | apply Kd.R_drew)); exact HO158.out) hb); have n1_ := Aside0.mk (Kd.R_below (by (with_reducible repeat (first | apply Kd.R_alloc | apply Kd.R_drewN | apply Kd.R_drew)); exact HO163.out) hb); have n2_ := Aside0.mk (blk_below (g := gb160) (o := .cells #[.int .i64 t155, .slice Ao84 t156.length co84] 38 (0, 0)) (by (with_reducible repeat (first | refine blk_drewN ?_ _ | refine blk_drew ?_ | refine blk_alloc ?_ _)); exact BK160.out) hb); have n3_ := Aside0.mk (below_step (by repeat (first | (with_reducible first | exact HB.out | apply below_alloc | apply pw_below_drewN | apply below_drew1 | refine below_set ?_ GE160.out) | exact HB.out)) hb); clear HO158; clear HO163; clear BK160; clear HB; have HO158 := n0_; have HO163 := n1_; have BK160 := n2_; have HB := n3_; clear n0_ n1_ n2_ n3_; (try clear hb); (try clear hb2); (try clear hk); (try clear hi)) | ((with_reducible refine gate_callee (f := 13) rfl ?_); refine goesL_ (some 19) rfl rfl Tryd.func13 (by kernel_rfl) rfl #[.int .i64 2, .int .i64 3, .int .i64 5] rfl (by (try simp only [List.map_toArray, List.map_cons, List.map_nil]); first | done | rfl | (simp only [List.length_drop, List.length_take]; rfl)) ?_; (with_reducible refine (shape_Tuple.calls k 2 3 5 t166 t167 _ A3.out).mono ?_); rintro e w89 ⟨v168, rfl, ho0, hb⟩; refine ⟨_, rfl, ?_⟩; have n0_ := Aside0.mk (Kd.R_elder' (by (with_reducible repeat (first | apply Kd.R_alloc | apply Kd.R_drewN | apply Kd.R_drew)); exact HO158.out) (Kd.R_base ho0) hb); have n1_ := Aside0.mk (Kd.R_elder' (by (with_reducible repeat (first | apply Kd.R_alloc | apply Kd.R_drewN | apply Kd.R_drew)); exact HO163.out) (Kd.R_base ho0) hb); have n2_ := Aside0.mk (Kd.R_lower (Kd.R_new' ho0 (Kd.R_lt (by (with_reducible repeat (first | apply Kd.R_alloc | apply Kd.R_drewN | apply Kd.R_drew)); exact HO163.out))) (below_size (by repeat (first | (with_reducible first | exact HB.out | apply below_alloc | apply pw_below_drewN | apply below_drew1 | refine below_set ?_ GE160.out) | exact HB.out)))); have n3_ := Aside0.mk (blk_below (g := gb160) (o := .cells #[.int .i64 t155, .slice Ao84 t156.length co84] 38 (0, 0)) (by (with_reducible repeat (first | refine blk_drewN ?_ _ | refine blk_drew ?_ | refine blk_alloc ?_ _)); exact BK160.out) hb); have n4_ := Aside0.mk (below_step (by repeat (first | (with_reducible first | exact HB.out | apply below_alloc | apply pw_below_drewN | apply below_drew1 | refine below_set ?_ GE160.out) | exact HB.out)) hb); clear HO158; clear HO163; clear BK160; clear HB; have HO158 := n0_; have HO163 := n1_; have HO169 := n2_; have BK160 := n3_; have HB := n4_; clear n0_ n1_ n2_ n3_ n4_; (try clear hb); (try clear hb2); (try clear hk); (try clear hi); (try clear ho0); have hcz90_0 : w89.cell? ⟨gb160, 0, none⟩ = some (.int .i64 t155) := (blk_cell BK160.out 0).trans rfl; have hcz90_1 : w89.cell? ⟨gb160, 1, none⟩ = some (.slice Ao84 t156.length co84) := (blk_cell BK160.out 1).trans rfl; have hfz90_0 := blk_frozen BK160.out 0; have hfz90_1 := blk_frozen BK160.out 1) | ((with_reducible refine gate_dst (N := 24) rfl ?_); (try (refine gate_guard (by rfl) ?_; dsimp only)); refine Kd.R_lit (Kd.int .i64) _ 3 ?hg (N := 24) ?hd (xs := ([1, 2] : List Int)) (inner := [.int .i64 1, .int .i64 2]) (ok := fun _ => True) (okp := fun _ => True) ?hr ?hp (fun _ hk => hk) trivial (Below.refl _ _) (Nat.le_refl _) (by simp) ?_; (case hd => rfl); (case hg => rfl); (case hr => first | (go_simp; done) | (go_simp; rfl)); (case hp => exact (Reps.one (show Kd.M (Kd.int .i64) _ _ _ 1 [.int .i64 1] from rfl) (Reps.one (show Kd.M (Kd.int .i64) _ _ _ 2 [.int .i64 2] from rfl) (Reps.none _ _)))); intro v171 w91 ho92 hb hg_ hnew_; clear hg_ hnew_; (first | rw [← Ny170.out] at ho92 | (simp only [Int.reduceToNat] at ho92; rw [← Ny170.out] at ho92)); have n0_ := Aside0.mk (Kd.R_elder' (by (with_reducible repeat (first | apply Kd.R_alloc | apply Kd.R_drewN | apply Kd.R_drew)); exact HO158.out) (Kd.R_base ho92) hb); have n1_ := Aside0.mk (Kd.R_elder' (by (with_reducible repeat (first | apply Kd.R_alloc | apply Kd.R_drewN | apply Kd.R_drew)); exact HO163.out) (Kd.R_base ho92) hb); have n2_ := Aside0.mk (Kd.R_elder' (by (with_reducible repeat (first | apply Kd.R_alloc | apply Kd.R_drewN | apply Kd.R_drew)); exact HO169.out) (Kd.R_base ho92) hb); have n3_ := Aside0.mk (Kd.R_lower (Kd.R_new' (Kd.R_new' ho92 (Kd.R_lt (by (with_reducible repeat (first | apply Kd.R_alloc | apply Kd.R_drewN | apply Kd.R_drew)); exact HO163.out))) (Kd.R_lt (by (with_reducible repeat (first | apply Kd.R_alloc | apply Kd.R_drewN | apply Kd.R_drew)); exact HO169.out))) (below_size (by repeat (first | (with_reducible first | exact HB.out | apply below_alloc | apply pw_below_drewN | apply below_drew1 | refine below_set ?_ GE160.out) | exact HB.out)))); have n4_ := Aside0.mk (blk_below (g := gb160) (o := .cells #[.int .i64 t155, .slice Ao84 t156.length co84] 38 (0, 0)) (by (with_reducible repeat (first | refine blk_drewN ?_ _ | refine blk_drew ?_ | refine blk_alloc ?_ _)); exact BK160.out) hb); have n5_ := Aside0.mk (below_step (by repeat (first | (with_reducible first | exact HB.out | apply below_alloc | apply pw_below_drewN | apply below_drew1 | refine below_set ?_ GE160.out) | exact HB.out)) hb); clear HO158; clear HO163; clear HO169; clear BK160; clear HB; have HO158 := n0_; have HO163 := n1_; have HO169 := n2_; have HO172 := n3_; have BK160 := n4_; have HB := n5_; clear n0_ n1_ n2_ n3_ n4_ n5_; clear hb ho92; obtain ⟨Ao93, co93, eo93⟩ := Kd.R_slice HO172.out; subst eo93) | ((with_reducible refine gate_callee (f := 30) rfl ?_); refine goesL_ (some 25) rfl rfl Tryd.func30 (by kernel_rfl) rfl #[.agg #[.int .i64 t155, .slice Ao84 t156.length co84], .string (⟨#[69]⟩ : ByteArray), .slice Ao93 y170.length co93] rfl (by (try simp only [List.map_toArray, List.map_cons, List.map_nil]); first | done | rfl | (simp only [List.length_drop, List.length_take]; rfl)) ?_; (with_reducible refine (shape_Has.calls k t155 _ _ t156 (⟨#[69]⟩ : ByteArray) _ _ y170 t173 t174 _ ?side1 ?side2 ?side3 ?side4 A4.out).mono ?_); (case side1 => repeat (first | exact (Kd.R_reads' HO158.out).2.2 | (with_reducible refine Kd.C_alloc ?_ _) | (with_reducible refine Kd.C_drewN ?_ _) | (with_reducible refine Kd.C_drew ?_))); (case side2 => exact (Kd.R_reads' HO158.out).2.1); (case side3 => repeat (first | exact (Kd.R_reads' HO172.out).2.2 | (with_reducible refine Kd.C_alloc ?_ _) | (with_reducible refine Kd.C_drewN ?_ _) | (with_reducible refine Kd.C_drew ?_))); (case side4 => exact (Kd.R_reads' HO172.out).2.1); rintro e w94 ⟨rfl, hb⟩; refine ⟨_, rfl, ?_⟩; have n0_ := Aside0.mk (Kd.R_below (by (with_reducible repeat (first | apply Kd.R_alloc | apply Kd.R_drewN | apply Kd.R_drew)); exact HO158.out) hb); have n1_ := Aside0.mk (Kd.R_below (by (with_reducible repeat (first | apply Kd.R_alloc | apply Kd.R_drewN | apply Kd.R_drew)); exact HO163.out) hb); have n2_ := Aside0.mk (Kd.R_below (by (with_reducible repeat (first | apply Kd.R_alloc | apply Kd.R_drewN | apply Kd.R_drew)); exact HO169.out) hb); have n3_ := Aside0.mk (Kd.R_below (by (with_reducible repeat (first | apply Kd.R_alloc | apply Kd.R_drewN | apply Kd.R_drew)); exact HO172.out) hb); have n4_ := Aside0.mk (blk_below (g := gb160) (o := .cells #[.int .i64 t155, .slice Ao84 t156.length co84] 38 (0, 0)) (by (with_reducible repeat (first | refine blk_drewN ?_ _ | refine blk_drew ?_ | refine blk_alloc ?_ _)); exact BK160.out) hb); have n5_ := Aside0.mk (below_step (by repeat (first | (with_reducible first | exact HB.out | apply below_alloc | apply pw_below_drewN | apply below_drew1 | refine below_set ?_ GE160.out) | exact HB.out)) hb); clear HO158; clear HO163; clear HO169; clear HO172; clear BK160; clear HB; have HO158 := n0_; have HO163 := n1_; have HO169 := n2_; have HO172 := n3_; have BK160 := n4_; have HB := n5_; clear n0_ n1_ n2_ n3_ n4_ n5_; (try clear hb); (try clear hb2); (try clear hk); (try clear hi)))
          go_ret
          exact ⟨by first | rfl | (simp [errW_none, errW_some] <;> rfl) | (simp [*, errW_none, errW_some] <;> rfl), by repeat (first | (with_reducible first | exact HB.out | apply below_alloc | apply pw_below_drewN | apply below_drew1 | refine below_set ?_ GE160.out) | exact HB.out)⟩
      · rw [if_neg c7] at H
        have c7b0 : (t167 == 0) = false := beq_eq_false_iff_ne.mpr c7
        have c7b1 : (t167 != 0) = true := bne_iff_ne.mpr c7
        obtain rfl := Option.some.inj H
        go_enter Tryd.func8, Tryd.ntmps8
        go_wp2_with (first | ((with_reducible refine gate_callee (f := 27) rfl ?_); refine goesL_ (some 10) rfl rfl Tryd.func27 (by kernel_rfl) rfl #[.string (⟨#[51, 59, 32, 69, 47, 50, 32, 48, 44, 49, 32, 49, 44, 50, 59, 32, 80, 47, 49, 32, 50, 59, 32, 81, 47, 48, 32, 40, 41]⟩ : ByteArray)] rfl (by (try simp only [List.map_toArray, List.map_cons, List.map_nil]); first | done | rfl | (simp only [List.length_drop, List.length_take]; rfl)) ?_; (with_reducible refine (shape_Parse.calls k (⟨#[51, 59, 32, 69, 47, 50, 32, 48, 44, 49, 32, 49, 44, 50, 59, 32, 80, 47, 49, 32, 50, 59, 32, 81, 47, 48, 32, 40, 41]⟩ : ByteArray) t155 t156 t159 _ ?side1 A1.out).mono ?_); (case side1 => first | exact HG.out | exact Glob.below HG.out (by repeat (first | (with_reducible first | exact HB.out | apply below_alloc | apply pw_below_drewN | apply below_drew1) | exact HB.out))); rintro e w95 ⟨v157, rfl, ho0, hb⟩; refine ⟨_, rfl, ?_⟩; have n0_ := Aside0.mk (Kd.R_lower ho0 (below_size (by repeat (first | (with_reducible first | exact HB.out | apply below_alloc | apply pw_below_drewN | apply below_drew1) | exact HB.out)))); have n1_ := Aside0.mk (below_step (by repeat (first | (with_reducible first | exact HB.out | apply below_alloc | apply pw_below_drewN | apply below_drew1) | exact HB.out)) hb); clear HB; have HO158 := n0_; have HB := n1_; clear n0_ n1_; (try clear hb); (try clear hb2); (try clear hk); (try clear hi); (try clear ho0)) | ((with_reducible refine gate_dst (N := 1) rfl ?_); (try (refine gate_guard (by rfl) ?_; dsimp only)); refine box_event ?hg (N := 1) ?hd (cs := #[.int .i64 0, .slice none 0 0]) (t := 38) ?hr ?_; (case hd => rfl); (case hg => rfl); (case hr => first | (go_simp; done) | (go_simp; rfl)); intro gb160 hg w96 hbox hb; have n0_ := Aside0.mk (Kd.R_below (by (with_reducible repeat (first | apply Kd.R_alloc | apply Kd.R_drewN | apply Kd.R_drew)); exact HO158.out) hb); have n1_ := Aside0.mk (below_step (by repeat (first | (with_reducible first | exact HB.out | apply below_alloc | apply pw_below_drewN | apply below_drew1) | exact HB.out)) hb); have n2_ := Aside0.mk (hbox); have n3_ := Aside0.mk ((by rw [hg]; exact (below_size (by repeat (first | (with_reducible first | exact HB.out | apply below_alloc | apply pw_below_drewN | apply below_drew1) | exact HB.out))) : w.heap.size ≤ gb160)); have n4_ := Aside0.mk ((by rw [hg]; exact (below_size (by repeat (first | (with_reducible first | exact HB.out | apply below_alloc | apply pw_below_drewN | apply below_drew1) | exact HB.out))) : w.heap.size ≤ gb160)); clear HO158; clear HB; have HO158 := n0_; have HB := n1_; have BK160 := n2_; have GW160 := n3_; have GE160 := n4_; clear n0_ n1_ n2_ n3_ n4_; clear hb hbox hg; have hcz97_0 : w96.cell? ⟨gb160, 0, none⟩ = some (.int .i64 0) := (blk_cell BK160.out 0).trans rfl; have hcz97_1 : w96.cell? ⟨gb160, 1, none⟩ = some (.slice none 0 0) := (blk_cell BK160.out 1).trans rfl; have hfz97_0 := blk_frozen BK160.out 0; have hfz97_1 := blk_frozen BK160.out 1; obtain ⟨Ao98, co98, eo98⟩ := Kd.R_slice HO158.out; subst eo98) | ((with_reducible refine gate_dst (N := 14) rfl ?_); (try (refine gate_guard (by rfl) ?_; dsimp only)); refine Kd.R_lit (Kd.int .i64) _ 3 ?hg (N := 14) ?hd (xs := ([1, 2] : List Int)) (inner := [.int .i64 1, .int .i64 2]) (ok := fun _ => True) (okp := fun _ => True) ?hr ?hp (fun _ hk => hk) trivial (Below.refl _ _) (Nat.le_refl _) (by simp) ?_; (case hd => rfl); (case hg => rfl); (case hr => first | (go_simp; done) | (go_simp; rfl)); (case hp => exact (Reps.one (show Kd.M (Kd.int .i64) _ _ _ 1 [.int .i64 1] from rfl) (Reps.one (show Kd.M (Kd.int .i64) _ _ _ 2 [.int .i64 2] from rfl) (Reps.none _ _)))); intro v162 w99 ho100 hb hg_ hnew_; clear hg_ hnew_; (first | rw [← Ny161.out] at ho100 | (simp only [Int.reduceToNat] at ho100; rw [← Ny161.out] at ho100)); have n0_ := Aside0.mk (Kd.R_elder' (by (with_reducible repeat (first | apply Kd.R_alloc | apply Kd.R_drewN | apply Kd.R_drew)); exact (Kd.R_mono (Kd.R_far (p := ⟨gb160, 1, none⟩) (Kd.R_far (p := ⟨gb160, 0, none⟩) (Kd.R_types HO158.out BK160.out (by decide)) (fun _ hk => hk.2) (.int .i64 t155)) (fun _ hk => hk.2) (.slice Ao98 t156.length co98)) (fun _ h_ => h_.1))) (Kd.R_base ho100) hb); have n1_ := Aside0.mk (Kd.R_lower ho100 (below_size (by repeat (first | (with_reducible first | exact HB.out | apply below_alloc | apply pw_below_drewN | apply below_drew1 | refine below_set ?_ GE160.out) | exact HB.out)))); have n2_ := Aside0.mk (blk_below (g := gb160) (o := .cells #[.int .i64 t155, .slice Ao98 t156.length co98] 38 (0, 0)) (by (with_reducible repeat (first | refine blk_drewN ?_ _ | refine blk_drew ?_ | refine blk_alloc ?_ _)); refine blk_put (cs := #[.int .i64 t155, .slice none 0 0]) ?_ 1 _ rfl; (with_reducible repeat (first | refine blk_drewN ?_ _ | refine blk_drew ?_ | refine blk_alloc ?_ _)); refine blk_put (cs := #[.int .i64 0, .slice none 0 0]) ?_ 0 _ rfl; (with_reducible repeat (first | refine blk_drewN ?_ _ | refine blk_drew ?_ | refine blk_alloc ?_ _)); exact BK160.out) hb); have n3_ := Aside0.mk (below_step (by repeat (first | (with_reducible first | exact HB.out | apply below_alloc | apply pw_below_drewN | apply below_drew1 | refine below_set ?_ GE160.out) | exact HB.out)) hb); clear HO158; clear BK160; clear HB; have HO158 := n0_; have HO163 := n1_; have BK160 := n2_; have HB := n3_; clear n0_ n1_ n2_ n3_; clear hb ho100; obtain ⟨Ao101, co101, eo101⟩ := Kd.R_slice HO163.out; subst eo101) | ((with_reducible refine gate_callee (f := 11) rfl ?_); refine goesL_ (some 15) rfl rfl Tryd.func11 (by kernel_rfl) rfl #[.int .i64 3, .slice Ao101 y161.length co101] rfl (by (try simp only [List.map_toArray, List.map_cons, List.map_nil]); first | done | rfl | (simp only [List.length_drop, List.length_take]; rfl)) ?_; (with_reducible refine (shape_Rank.calls k 3 _ _ y161 t164 t165 _ ?side1 ?side2 A2.out).mono ?_); (case side1 => repeat (first | exact (Kd.R_reads' HO163.out).2.2 | (with_reducible refine Kd.C_alloc ?_ _) | (with_reducible refine Kd.C_drewN ?_ _) | (with_reducible refine Kd.C_drew ?_))); (case side2 => exact (Kd.R_reads' HO163.out).2.1); rintro e w102 ⟨rfl, hb⟩; refine ⟨_, rfl, ?_⟩; have n0_ := Aside0.mk (Kd.R_below (by (with_reducible repeat (first | apply Kd.R_alloc | apply Kd.R_drewN | apply Kd.R_drew)); exact HO158.out) hb); have n1_ := Aside0.mk (Kd.R_below (by (with_reducible repeat (first | apply Kd.R_alloc | apply Kd.R_drewN | apply Kd.R_drew)); exact HO163.out) hb); have n2_ := Aside0.mk (blk_below (g := gb160) (o := .cells #[.int .i64 t155, .slice Ao98 t156.length co98] 38 (0, 0)) (by (with_reducible repeat (first | refine blk_drewN ?_ _ | refine blk_drew ?_ | refine blk_alloc ?_ _)); exact BK160.out) hb); have n3_ := Aside0.mk (below_step (by repeat (first | (with_reducible first | exact HB.out | apply below_alloc | apply pw_below_drewN | apply below_drew1 | refine below_set ?_ GE160.out) | exact HB.out)) hb); clear HO158; clear HO163; clear BK160; clear HB; have HO158 := n0_; have HO163 := n1_; have BK160 := n2_; have HB := n3_; clear n0_ n1_ n2_ n3_; (try clear hb); (try clear hb2); (try clear hk); (try clear hi)) | ((with_reducible refine gate_callee (f := 13) rfl ?_); refine goesL_ (some 19) rfl rfl Tryd.func13 (by kernel_rfl) rfl #[.int .i64 2, .int .i64 3, .int .i64 5] rfl (by (try simp only [List.map_toArray, List.map_cons, List.map_nil]); first | done | rfl | (simp only [List.length_drop, List.length_take]; rfl)) ?_; (with_reducible refine (shape_Tuple.calls k 2 3 5 t166 t167 _ A3.out).mono ?_); rintro e w103 ⟨v168, rfl, ho0, hb⟩; refine ⟨_, rfl, ?_⟩; have n0_ := Aside0.mk (Kd.R_elder' (by (with_reducible repeat (first | apply Kd.R_alloc | apply Kd.R_drewN | apply Kd.R_drew)); exact HO158.out) (Kd.R_base ho0) hb); have n1_ := Aside0.mk (Kd.R_elder' (by (with_reducible repeat (first | apply Kd.R_alloc | apply Kd.R_drewN | apply Kd.R_drew)); exact HO163.out) (Kd.R_base ho0) hb); have n2_ := Aside0.mk (Kd.R_lower (Kd.R_new' ho0 (Kd.R_lt (by (with_reducible repeat (first | apply Kd.R_alloc | apply Kd.R_drewN | apply Kd.R_drew)); exact HO163.out))) (below_size (by repeat (first | (with_reducible first | exact HB.out | apply below_alloc | apply pw_below_drewN | apply below_drew1 | refine below_set ?_ GE160.out) | exact HB.out)))); have n3_ := Aside0.mk (blk_below (g := gb160) (o := .cells #[.int .i64 t155, .slice Ao98 t156.length co98] 38 (0, 0)) (by (with_reducible repeat (first | refine blk_drewN ?_ _ | refine blk_drew ?_ | refine blk_alloc ?_ _)); exact BK160.out) hb); have n4_ := Aside0.mk (below_step (by repeat (first | (with_reducible first | exact HB.out | apply below_alloc | apply pw_below_drewN | apply below_drew1 | refine below_set ?_ GE160.out) | exact HB.out)) hb); clear HO158; clear HO163; clear BK160; clear HB; have HO158 := n0_; have HO163 := n1_; have HO169 := n2_; have BK160 := n3_; have HB := n4_; clear n0_ n1_ n2_ n3_ n4_; (try clear hb); (try clear hb2); (try clear hk); (try clear hi); (try clear ho0); have hcz104_0 : w103.cell? ⟨gb160, 0, none⟩ = some (.int .i64 t155) := (blk_cell BK160.out 0).trans rfl; have hcz104_1 : w103.cell? ⟨gb160, 1, none⟩ = some (.slice Ao98 t156.length co98) := (blk_cell BK160.out 1).trans rfl; have hfz104_0 := blk_frozen BK160.out 0; have hfz104_1 := blk_frozen BK160.out 1) | ((with_reducible refine gate_dst (N := 24) rfl ?_); (try (refine gate_guard (by rfl) ?_; dsimp only)); refine Kd.R_lit (Kd.int .i64) _ 3 ?hg (N := 24) ?hd (xs := ([1, 2] : List Int)) (inner := [.int .i64 1, .int .i64 2]) (ok := fun _ => True) (okp := fun _ => True) ?hr ?hp (fun _ hk => hk) trivial (Below.refl _ _) (Nat.le_refl _) (by simp) ?_; (case hd => rfl); (case hg => rfl); (case hr => first | (go_simp; done) | (go_simp; rfl)); (case hp => exact (Reps.one (show Kd.M (Kd.int .i64) _ _ _ 1 [.int .i64 1] from rfl) (Reps.one (show Kd.M (Kd.int .i64) _ _ _ 2 [.int .i64 2] from rfl) (Reps.none _ _)))); intro v171 w105 ho106 hb hg_ hnew_; clear hg_ hnew_; (first | rw [← Ny170.out] at ho106 | (simp only [Int.reduceToNat] at ho106; rw [← Ny170.out] at ho106)); have n0_ := Aside0.mk (Kd.R_elder' (by (with_reducible repeat (first | apply Kd.R_alloc | apply Kd.R_drewN | apply Kd.R_drew)); exact HO158.out) (Kd.R_base ho106) hb); have n1_ := Aside0.mk (Kd.R_elder' (by (with_reducible repeat (first | apply Kd.R_alloc | apply Kd.R_drewN | apply Kd.R_drew)); exact HO163.out) (Kd.R_base ho106) hb); have n2_ := Aside0.mk (Kd.R_elder' (by (with_reducible repeat (first | apply Kd.R_alloc | apply Kd.R_drewN | apply Kd.R_drew)); exact HO169.out) (Kd.R_base ho106) hb); have n3_ := Aside0.mk (Kd.R_lower (Kd.R_new' (Kd.R_new' ho106 (Kd.R_lt (by (with_reducible repeat (first | apply Kd.R_alloc | apply Kd.R_drewN | apply Kd.R_drew)); exact HO163.out))) (Kd.R_lt (by (with_reducible repeat (first | apply Kd.R_alloc | apply Kd.R_drewN | apply Kd.R_drew)); exact HO169.out))) (below_size (by repeat (first | (with_reducible first | exact HB.out | apply below_alloc | apply pw_below_drewN | apply below_drew1 | refine below_set ?_ GE160.out) | exact HB.out)))); have n4_ := Aside0.mk (blk_below (g := gb160) (o := .cells #[.int .i64 t155, .slice Ao98 t156.length co98] 38 (0, 0)) (by (with_reducible repeat (first | refine blk_drewN ?_ _ | refine blk_drew ?_ | refine blk_alloc ?_ _)); exact BK160.out) hb); have n5_ := Aside0.mk (below_step (by repeat (first | (with_reducible first | exact HB.out | apply below_alloc | apply pw_below_drewN | apply below_drew1 | refine below_set ?_ GE160.out) | exact HB.out)) hb); clear HO158; clear HO163; clear HO169; clear BK160; clear HB; have HO158 := n0_; have HO163 := n1_; have HO169 := n2_; have HO172 := n3_; have BK160 := n4_; have HB := n5_; clear n0_ n1_ n2_ n3_ n4_ n5_; clear hb ho106; obtain ⟨Ao107, co107, eo107⟩ := Kd.R_slice HO172.out; subst eo107) | ((with_reducible refine gate_callee (f := 30) rfl ?_); refine goesL_ (some 25) rfl rfl Tryd.func30 (by kernel_rfl) rfl #[.agg #[.int .i64 t155, .slice Ao98 t156.length co98], .string (⟨#[69]⟩ : ByteArray), .slice Ao107 y170.length co107] rfl (by (try simp only [List.map_toArray, List.map_cons, List.map_nil]); first | done | rfl | (simp only [List.length_drop, List.length_take]; rfl)) ?_; (with_reducible refine (shape_Has.calls k t155 _ _ t156 (⟨#[69]⟩ : ByteArray) _ _ y170 t173 t174 _ ?side1 ?side2 ?side3 ?side4 A4.out).mono ?_); (case side1 => repeat (first | exact (Kd.R_reads' HO158.out).2.2 | (with_reducible refine Kd.C_alloc ?_ _) | (with_reducible refine Kd.C_drewN ?_ _) | (with_reducible refine Kd.C_drew ?_))); (case side2 => exact (Kd.R_reads' HO158.out).2.1); (case side3 => repeat (first | exact (Kd.R_reads' HO172.out).2.2 | (with_reducible refine Kd.C_alloc ?_ _) | (with_reducible refine Kd.C_drewN ?_ _) | (with_reducible refine Kd.C_drew ?_))); (case side4 => exact (Kd.R_reads' HO172.out).2.1); rintro e w108 ⟨rfl, hb⟩; refine ⟨_, rfl, ?_⟩; have n0_ := Aside0.mk (Kd.R_below (by (with_reducible repeat (first | apply Kd.R_alloc | apply Kd.R_drewN | apply Kd.R_drew)); exact HO158.out) hb); have n1_ := Aside0.mk (Kd.R_below (by (with_reducible repeat (first | apply Kd.R_alloc | apply Kd.R_drewN | apply Kd.R_drew)); exact HO163.out) hb); have n2_ := Aside0.mk (Kd.R_below (by (with_reducible repeat (first | apply Kd.R_alloc | apply Kd.R_drewN | apply Kd.R_drew)); exact HO169.out) hb); have n3_ := Aside0.mk (Kd.R_below (by (with_reducible repeat (first | apply Kd.R_alloc | apply Kd.R_drewN | apply Kd.R_drew)); exact HO172.out) hb); have n4_ := Aside0.mk (blk_below (g := gb160) (o := .cells #[.int .i64 t155, .slice Ao98 t156.length co98] 38 (0, 0)) (by (with_reducible repeat (first | refine blk_drewN ?_ _ | refine blk_drew ?_ | refine blk_alloc ?_ _)); exact BK160.out) hb); have n5_ := Aside0.mk (below_step (by repeat (first | (with_reducible first | exact HB.out | apply below_alloc | apply pw_below_drewN | apply below_drew1 | refine below_set ?_ GE160.out) | exact HB.out)) hb); clear HO158; clear HO163; clear HO169; clear HO172; clear BK160; clear HB; have HO158 := n0_; have HO163 := n1_; have HO169 := n2_; have HO172 := n3_; have BK160 := n4_; have HB := n5_; clear n0_ n1_ n2_ n3_ n4_ n5_; (try clear hb); (try clear hb2); (try clear hk); (try clear hi)))
        go_ret
        exact ⟨by first | rfl | (simp [errW_none, errW_some] <;> rfl) | (simp [*, errW_none, errW_some] <;> rfl), by repeat (first | (with_reducible first | exact HB.out | apply below_alloc | apply pw_below_drewN | apply below_drew1 | refine below_set ?_ GE160.out) | exact HB.out)⟩
    · rw [if_neg c6] at H
      have c6b0 : (t165 == 0) = false := beq_eq_false_iff_ne.mpr c6
      have c6b1 : (t165 != 0) = true := bne_iff_ne.mpr c6
      obtain rfl := Option.some.inj H
      go_enter Tryd.func8, Tryd.ntmps8
      go_wp2_with (first | ((with_reducible refine gate_callee (f := 27) rfl ?_); refine goesL_ (some 10) rfl rfl Tryd.func27 (by kernel_rfl) rfl #[.string (⟨#[51, 59, 32, 69, 47, 50, 32, 48, 44, 49, 32, 49, 44, 50, 59, 32, 80, 47, 49, 32, 50, 59, 32, 81, 47, 48, 32, 40, 41]⟩ : ByteArray)] rfl (by (try simp only [List.map_toArray, List.map_cons, List.map_nil]); first | done | rfl | (simp only [List.length_drop, List.length_take]; rfl)) ?_; (with_reducible refine (shape_Parse.calls k (⟨#[51, 59, 32, 69, 47, 50, 32, 48, 44, 49, 32, 49, 44, 50, 59, 32, 80, 47, 49, 32, 50, 59, 32, 81, 47, 48, 32, 40, 41]⟩ : ByteArray) t155 t156 t159 _ ?side1 A1.out).mono ?_); (case side1 => first | exact HG.out | exact Glob.below HG.out (by repeat (first | (with_reducible first | exact HB.out | apply below_alloc | apply pw_below_drewN | apply below_drew1) | exact HB.out))); rintro e w109 ⟨v157, rfl, ho0, hb⟩; refine ⟨_, rfl, ?_⟩; have n0_ := Aside0.mk (Kd.R_lower ho0 (below_size (by repeat (first | (with_reducible first | exact HB.out | apply below_alloc | apply pw_below_drewN | apply below_drew1) | exact HB.out)))); have n1_ := Aside0.mk (below_step (by repeat (first | (with_reducible first | exact HB.out | apply below_alloc | apply pw_below_drewN | apply below_drew1) | exact HB.out)) hb); clear HB; have HO158 := n0_; have HB := n1_; clear n0_ n1_; (try clear hb); (try clear hb2); (try clear hk); (try clear hi); (try clear ho0)) | ((with_reducible refine gate_dst (N := 1) rfl ?_); (try (refine gate_guard (by rfl) ?_; dsimp only)); refine box_event ?hg (N := 1) ?hd (cs := #[.int .i64 0, .slice none 0 0]) (t := 38) ?hr ?_; (case hd => rfl); (case hg => rfl); (case hr => first | (go_simp; done) | (go_simp; rfl)); intro gb160 hg w110 hbox hb; have n0_ := Aside0.mk (Kd.R_below (by (with_reducible repeat (first | apply Kd.R_alloc | apply Kd.R_drewN | apply Kd.R_drew)); exact HO158.out) hb); have n1_ := Aside0.mk (below_step (by repeat (first | (with_reducible first | exact HB.out | apply below_alloc | apply pw_below_drewN | apply below_drew1) | exact HB.out)) hb); have n2_ := Aside0.mk (hbox); have n3_ := Aside0.mk ((by rw [hg]; exact (below_size (by repeat (first | (with_reducible first | exact HB.out | apply below_alloc | apply pw_below_drewN | apply below_drew1) | exact HB.out))) : w.heap.size ≤ gb160)); have n4_ := Aside0.mk ((by rw [hg]; exact (below_size (by repeat (first | (with_reducible first | exact HB.out | apply below_alloc | apply pw_below_drewN | apply below_drew1) | exact HB.out))) : w.heap.size ≤ gb160)); clear HO158; clear HB; have HO158 := n0_; have HB := n1_; have BK160 := n2_; have GW160 := n3_; have GE160 := n4_; clear n0_ n1_ n2_ n3_ n4_; clear hb hbox hg; have hcz111_0 : w110.cell? ⟨gb160, 0, none⟩ = some (.int .i64 0) := (blk_cell BK160.out 0).trans rfl; have hcz111_1 : w110.cell? ⟨gb160, 1, none⟩ = some (.slice none 0 0) := (blk_cell BK160.out 1).trans rfl; have hfz111_0 := blk_frozen BK160.out 0; have hfz111_1 := blk_frozen BK160.out 1; obtain ⟨Ao112, co112, eo112⟩ := Kd.R_slice HO158.out; subst eo112) | ((with_reducible refine gate_dst (N := 14) rfl ?_); (try (refine gate_guard (by rfl) ?_; dsimp only)); refine Kd.R_lit (Kd.int .i64) _ 3 ?hg (N := 14) ?hd (xs := ([1, 2] : List Int)) (inner := [.int .i64 1, .int .i64 2]) (ok := fun _ => True) (okp := fun _ => True) ?hr ?hp (fun _ hk => hk) trivial (Below.refl _ _) (Nat.le_refl _) (by simp) ?_; (case hd => rfl); (case hg => rfl); (case hr => first | (go_simp; done) | (go_simp; rfl)); (case hp => exact (Reps.one (show Kd.M (Kd.int .i64) _ _ _ 1 [.int .i64 1] from rfl) (Reps.one (show Kd.M (Kd.int .i64) _ _ _ 2 [.int .i64 2] from rfl) (Reps.none _ _)))); intro v162 w113 ho114 hb hg_ hnew_; clear hg_ hnew_; (first | rw [← Ny161.out] at ho114 | (simp only [Int.reduceToNat] at ho114; rw [← Ny161.out] at ho114)); have n0_ := Aside0.mk (Kd.R_elder' (by (with_reducible repeat (first | apply Kd.R_alloc | apply Kd.R_drewN | apply Kd.R_drew)); exact (Kd.R_mono (Kd.R_far (p := ⟨gb160, 1, none⟩) (Kd.R_far (p := ⟨gb160, 0, none⟩) (Kd.R_types HO158.out BK160.out (by decide)) (fun _ hk => hk.2) (.int .i64 t155)) (fun _ hk => hk.2) (.slice Ao112 t156.length co112)) (fun _ h_ => h_.1))) (Kd.R_base ho114) hb); have n1_ := Aside0.mk (Kd.R_lower ho114 (below_size (by repeat (first | (with_reducible first | exact HB.out | apply below_alloc | apply pw_below_drewN | apply below_drew1 | refine below_set ?_ GE160.out) | exact HB.out)))); have n2_ := Aside0.mk (blk_below (g := gb160) (o := .cells #[.int .i64 t155, .slice Ao112 t156.length co112] 38 (0, 0)) (by (with_reducible repeat (first | refine blk_drewN ?_ _ | refine blk_drew ?_ | refine blk_alloc ?_ _)); refine blk_put (cs := #[.int .i64 t155, .slice none 0 0]) ?_ 1 _ rfl; (with_reducible repeat (first | refine blk_drewN ?_ _ | refine blk_drew ?_ | refine blk_alloc ?_ _)); refine blk_put (cs := #[.int .i64 0, .slice none 0 0]) ?_ 0 _ rfl; (with_reducible repeat (first | refine blk_drewN ?_ _ | refine blk_drew ?_ | refine blk_alloc ?_ _)); exact BK160.out) hb); have n3_ := Aside0.mk (below_step (by repeat (first | (with_reducible first | exact HB.out | apply below_alloc | apply pw_below_drewN | apply below_drew1 | refine below_set ?_ GE160.out) | exact HB.out)) hb); clear HO158; clear BK160; clear HB; have HO158 := n0_; have HO163 := n1_; have BK160 := n2_; have HB := n3_; clear n0_ n1_ n2_ n3_; clear hb ho114; obtain ⟨Ao115, co115, eo115⟩ := Kd.R_slice HO163.out; subst eo115) | ((with_reducible refine gate_callee (f := 11) rfl ?_); refine goesL_ (some 15) rfl rfl Tryd.func11 (by kernel_rfl) rfl #[.int .i64 3, .slice Ao115 y161.length co115] rfl (by (try simp only [List.map_toArray, List.map_cons, List.map_nil]); first | done | rfl | (simp only [List.length_drop, List.length_take]; rfl)) ?_; (with_reducible refine (shape_Rank.calls k 3 _ _ y161 t164 t165 _ ?side1 ?side2 A2.out).mono ?_); (case side1 => repeat (first | exact (Kd.R_reads' HO163.out).2.2 | (with_reducible refine Kd.C_alloc ?_ _) | (with_reducible refine Kd.C_drewN ?_ _) | (with_reducible refine Kd.C_drew ?_))); (case side2 => exact (Kd.R_reads' HO163.out).2.1); rintro e w116 ⟨rfl, hb⟩; refine ⟨_, rfl, ?_⟩; have n0_ := Aside0.mk (Kd.R_below (by (with_reducible repeat (first | apply Kd.R_alloc | apply Kd.R_drewN | apply Kd.R_drew)); exact HO158.out) hb); have n1_ := Aside0.mk (Kd.R_below (by (with_reducible repeat (first | apply Kd.R_alloc | apply Kd.R_drewN | apply Kd.R_drew)); exact HO163.out) hb); have n2_ := Aside0.mk (blk_below (g := gb160) (o := .cells #[.int .i64 t155, .slice Ao112 t156.length co112] 38 (0, 0)) (by (with_reducible repeat (first | refine blk_drewN ?_ _ | refine blk_drew ?_ | refine blk_alloc ?_ _)); exact BK160.out) hb); have n3_ := Aside0.mk (below_step (by repeat (first | (with_reducible first | exact HB.out | apply below_alloc | apply pw_below_drewN | apply below_drew1 | refine below_set ?_ GE160.out) | exact HB.out)) hb); clear HO158; clear HO163; clear BK160; clear HB; have HO158 := n0_; have HO163 := n1_; have BK160 := n2_; have HB := n3_; clear n0_ n1_ n2_ n3_; (try clear hb); (try clear hb2); (try clear hk); (try clear hi)) | ((with_reducible refine gate_callee (f := 13) rfl ?_); refine goesL_ (some 19) rfl rfl Tryd.func13 (by kernel_rfl) rfl #[.int .i64 2, .int .i64 3, .int .i64 5] rfl (by (try simp only [List.map_toArray, List.map_cons, List.map_nil]); first | done | rfl | (simp only [List.length_drop, List.length_take]; rfl)) ?_; (with_reducible refine (shape_Tuple.calls k 2 3 5 t166 t167 _ A3.out).mono ?_); rintro e w117 ⟨v168, rfl, ho0, hb⟩; refine ⟨_, rfl, ?_⟩; have n0_ := Aside0.mk (Kd.R_elder' (by (with_reducible repeat (first | apply Kd.R_alloc | apply Kd.R_drewN | apply Kd.R_drew)); exact HO158.out) (Kd.R_base ho0) hb); have n1_ := Aside0.mk (Kd.R_elder' (by (with_reducible repeat (first | apply Kd.R_alloc | apply Kd.R_drewN | apply Kd.R_drew)); exact HO163.out) (Kd.R_base ho0) hb); have n2_ := Aside0.mk (Kd.R_lower (Kd.R_new' ho0 (Kd.R_lt (by (with_reducible repeat (first | apply Kd.R_alloc | apply Kd.R_drewN | apply Kd.R_drew)); exact HO163.out))) (below_size (by repeat (first | (with_reducible first | exact HB.out | apply below_alloc | apply pw_below_drewN | apply below_drew1 | refine below_set ?_ GE160.out) | exact HB.out)))); have n3_ := Aside0.mk (blk_below (g := gb160) (o := .cells #[.int .i64 t155, .slice Ao112 t156.length co112] 38 (0, 0)) (by (with_reducible repeat (first | refine blk_drewN ?_ _ | refine blk_drew ?_ | refine blk_alloc ?_ _)); exact BK160.out) hb); have n4_ := Aside0.mk (below_step (by repeat (first | (with_reducible first | exact HB.out | apply below_alloc | apply pw_below_drewN | apply below_drew1 | refine below_set ?_ GE160.out) | exact HB.out)) hb); clear HO158; clear HO163; clear BK160; clear HB; have HO158 := n0_; have HO163 := n1_; have HO169 := n2_; have BK160 := n3_; have HB := n4_; clear n0_ n1_ n2_ n3_ n4_; (try clear hb); (try clear hb2); (try clear hk); (try clear hi); (try clear ho0); have hcz118_0 : w117.cell? ⟨gb160, 0, none⟩ = some (.int .i64 t155) := (blk_cell BK160.out 0).trans rfl; have hcz118_1 : w117.cell? ⟨gb160, 1, none⟩ = some (.slice Ao112 t156.length co112) := (blk_cell BK160.out 1).trans rfl; have hfz118_0 := blk_frozen BK160.out 0; have hfz118_1 := blk_frozen BK160.out 1) | ((with_reducible refine gate_dst (N := 24) rfl ?_); (try (refine gate_guard (by rfl) ?_; dsimp only)); refine Kd.R_lit (Kd.int .i64) _ 3 ?hg (N := 24) ?hd (xs := ([1, 2] : List Int)) (inner := [.int .i64 1, .int .i64 2]) (ok := fun _ => True) (okp := fun _ => True) ?hr ?hp (fun _ hk => hk) trivial (Below.refl _ _) (Nat.le_refl _) (by simp) ?_; (case hd => rfl); (case hg => rfl); (case hr => first | (go_simp; done) | (go_simp; rfl)); (case hp => exact (Reps.one (show Kd.M (Kd.int .i64) _ _ _ 1 [.int .i64 1] from rfl) (Reps.one (show Kd.M (Kd.int .i64) _ _ _ 2 [.int .i64 2] from rfl) (Reps.none _ _)))); intro v171 w119 ho120 hb hg_ hnew_; clear hg_ hnew_; (first | rw [← Ny170.out] at ho120 | (simp only [Int.reduceToNat] at ho120; rw [← Ny170.out] at ho120)); have n0_ := Aside0.mk (Kd.R_elder' (by (with_reducible repeat (first | apply Kd.R_alloc | apply Kd.R_drewN | apply Kd.R_drew)); exact HO158.out) (Kd.R_base ho120) hb); have n1_ := Aside0.mk (Kd.R_elder' (by (with_reducible repeat (first | apply Kd.R_alloc | apply Kd.R_drewN | apply Kd.R_drew)); exact HO163.out) (Kd.R_base ho120) hb); have n2_ := Aside0.mk (Kd.R_elder' (by (with_reducible repeat (first | apply Kd.R_alloc | apply Kd.R_drewN | apply Kd.R_drew)); exact HO169.out) (Kd.R_base ho120) hb); have n3_ := Aside0.mk (Kd.R_lower (Kd.R_new' (Kd.R_new' ho120 (Kd.R_lt (by (with_reducible repeat (first | apply Kd.R_alloc | apply Kd.R_drewN | apply Kd.R_drew)); exact HO163.out))) (Kd.R_lt (by (with_reducible repeat (first | apply Kd.R_alloc | apply Kd.R_drewN | apply Kd.R_drew)); exact HO169.out))) (below_size (by repeat (first | (with_reducible first | exact HB.out | apply below_alloc | apply pw_below_drewN | apply below_drew1 | refine below_set ?_ GE160.out) | exact HB.out)))); have n4_ := Aside0.mk (blk_below (g := gb160) (o := .cells #[.int .i64 t155, .slice Ao112 t156.length co112] 38 (0, 0)) (by (with_reducible repeat (first | refine blk_drewN ?_ _ | refine blk_drew ?_ | refine blk_alloc ?_ _)); exact BK160.out) hb); have n5_ := Aside0.mk (below_step (by repeat (first | (with_reducible first | exact HB.out | apply below_alloc | apply pw_below_drewN | apply below_drew1 | refine below_set ?_ GE160.out) | exact HB.out)) hb); clear HO158; clear HO163; clear HO169; clear BK160; clear HB; have HO158 := n0_; have HO163 := n1_; have HO169 := n2_; have HO172 := n3_; have BK160 := n4_; have HB := n5_; clear n0_ n1_ n2_ n3_ n4_ n5_; clear hb ho120; obtain ⟨Ao121, co121, eo121⟩ := Kd.R_slice HO172.out; subst eo121) | ((with_reducible refine gate_callee (f := 30) rfl ?_); refine goesL_ (some 25) rfl rfl Tryd.func30 (by kernel_rfl) rfl #[.agg #[.int .i64 t155, .slice Ao112 t156.length co112], .string (⟨#[69]⟩ : ByteArray), .slice Ao121 y170.length co121] rfl (by (try simp only [List.map_toArray, List.map_cons, List.map_nil]); first | done | rfl | (simp only [List.length_drop, List.length_take]; rfl)) ?_; (with_reducible refine (shape_Has.calls k t155 _ _ t156 (⟨#[69]⟩ : ByteArray) _ _ y170 t173 t174 _ ?side1 ?side2 ?side3 ?side4 A4.out).mono ?_); (case side1 => repeat (first | exact (Kd.R_reads' HO158.out).2.2 | (with_reducible refine Kd.C_alloc ?_ _) | (with_reducible refine Kd.C_drewN ?_ _) | (with_reducible refine Kd.C_drew ?_))); (case side2 => exact (Kd.R_reads' HO158.out).2.1); (case side3 => repeat (first | exact (Kd.R_reads' HO172.out).2.2 | (with_reducible refine Kd.C_alloc ?_ _) | (with_reducible refine Kd.C_drewN ?_ _) | (with_reducible refine Kd.C_drew ?_))); (case side4 => exact (Kd.R_reads' HO172.out).2.1); rintro e w122 ⟨rfl, hb⟩; refine ⟨_, rfl, ?_⟩; have n0_ := Aside0.mk (Kd.R_below (by (with_reducible repeat (first | apply Kd.R_alloc | apply Kd.R_drewN | apply Kd.R_drew)); exact HO158.out) hb); have n1_ := Aside0.mk (Kd.R_below (by (with_reducible repeat (first | apply Kd.R_alloc | apply Kd.R_drewN | apply Kd.R_drew)); exact HO163.out) hb); have n2_ := Aside0.mk (Kd.R_below (by (with_reducible repeat (first | apply Kd.R_alloc | apply Kd.R_drewN | apply Kd.R_drew)); exact HO169.out) hb); have n3_ := Aside0.mk (Kd.R_below (by (with_reducible repeat (first | apply Kd.R_alloc | apply Kd.R_drewN | apply Kd.R_drew)); exact HO172.out) hb); have n4_ := Aside0.mk (blk_below (g := gb160) (o := .cells #[.int .i64 t155, .slice Ao112 t156.length co112] 38 (0, 0)) (by (with_reducible repeat (first | refine blk_drewN ?_ _ | refine blk_drew ?_ | refine blk_alloc ?_ _)); exact BK160.out) hb); have n5_ := Aside0.mk (below_step (by repeat (first | (with_reducible first | exact HB.out | apply below_alloc | apply pw_below_drewN | apply below_drew1 | refine below_set ?_ GE160.out) | exact HB.out)) hb); clear HO158; clear HO163; clear HO169; clear HO172; clear BK160; clear HB; have HO158 := n0_; have HO163 := n1_; have HO169 := n2_; have HO172 := n3_; have BK160 := n4_; have HB := n5_; clear n0_ n1_ n2_ n3_ n4_ n5_; (try clear hb); (try clear hb2); (try clear hk); (try clear hi)))
      go_ret
      exact ⟨by first | rfl | (simp [errW_none, errW_some] <;> rfl) | (simp [*, errW_none, errW_some] <;> rfl), by repeat (first | (with_reducible first | exact HB.out | apply below_alloc | apply pw_below_drewN | apply below_drew1 | refine below_set ?_ GE160.out) | exact HB.out)⟩
  · rw [if_neg c5] at H
    have c5b0 : (t159 == 0) = false := beq_eq_false_iff_ne.mpr c5
    have c5b1 : (t159 != 0) = true := bne_iff_ne.mpr c5
    obtain rfl := Option.some.inj H
    go_enter Tryd.func8, Tryd.ntmps8
    go_wp2_with (first | ((with_reducible refine gate_callee (f := 27) rfl ?_); refine goesL_ (some 10) rfl rfl Tryd.func27 (by kernel_rfl) rfl #[.string (⟨#[51, 59, 32, 69, 47, 50, 32, 48, 44, 49, 32, 49, 44, 50, 59, 32, 80, 47, 49, 32, 50, 59, 32, 81, 47, 48, 32, 40, 41]⟩ : ByteArray)] rfl (by (try simp only [List.map_toArray, List.map_cons, List.map_nil]); first | done | rfl | (simp only [List.length_drop, List.length_take]; rfl)) ?_; (with_reducible refine (shape_Parse.calls k (⟨#[51, 59, 32, 69, 47, 50, 32, 48, 44, 49, 32, 49, 44, 50, 59, 32, 80, 47, 49, 32, 50, 59, 32, 81, 47, 48, 32, 40, 41]⟩ : ByteArray) t155 t156 t159 _ ?side1 A1.out).mono ?_); (case side1 => first | exact HG.out | exact Glob.below HG.out (by repeat (first | (with_reducible first | exact HB.out | apply below_alloc | apply pw_below_drewN | apply below_drew1) | exact HB.out))); rintro e w123 ⟨v157, rfl, ho0, hb⟩; refine ⟨_, rfl, ?_⟩; have n0_ := Aside0.mk (Kd.R_lower ho0 (below_size (by repeat (first | (with_reducible first | exact HB.out | apply below_alloc | apply pw_below_drewN | apply below_drew1) | exact HB.out)))); have n1_ := Aside0.mk (below_step (by repeat (first | (with_reducible first | exact HB.out | apply below_alloc | apply pw_below_drewN | apply below_drew1) | exact HB.out)) hb); clear HB; have HO158 := n0_; have HB := n1_; clear n0_ n1_; (try clear hb); (try clear hb2); (try clear hk); (try clear hi); (try clear ho0)) | ((with_reducible refine gate_dst (N := 1) rfl ?_); (try (refine gate_guard (by rfl) ?_; dsimp only)); refine box_event ?hg (N := 1) ?hd (cs := #[.int .i64 0, .slice none 0 0]) (t := 38) ?hr ?_; (case hd => rfl); (case hg => rfl); (case hr => first | (go_simp; done) | (go_simp; rfl)); intro gb160 hg w124 hbox hb; have n0_ := Aside0.mk (Kd.R_below (by (with_reducible repeat (first | apply Kd.R_alloc | apply Kd.R_drewN | apply Kd.R_drew)); exact HO158.out) hb); have n1_ := Aside0.mk (below_step (by repeat (first | (with_reducible first | exact HB.out | apply below_alloc | apply pw_below_drewN | apply below_drew1) | exact HB.out)) hb); have n2_ := Aside0.mk (hbox); have n3_ := Aside0.mk ((by rw [hg]; exact (below_size (by repeat (first | (with_reducible first | exact HB.out | apply below_alloc | apply pw_below_drewN | apply below_drew1) | exact HB.out))) : w.heap.size ≤ gb160)); have n4_ := Aside0.mk ((by rw [hg]; exact (below_size (by repeat (first | (with_reducible first | exact HB.out | apply below_alloc | apply pw_below_drewN | apply below_drew1) | exact HB.out))) : w.heap.size ≤ gb160)); clear HO158; clear HB; have HO158 := n0_; have HB := n1_; have BK160 := n2_; have GW160 := n3_; have GE160 := n4_; clear n0_ n1_ n2_ n3_ n4_; clear hb hbox hg; have hcz125_0 : w124.cell? ⟨gb160, 0, none⟩ = some (.int .i64 0) := (blk_cell BK160.out 0).trans rfl; have hcz125_1 : w124.cell? ⟨gb160, 1, none⟩ = some (.slice none 0 0) := (blk_cell BK160.out 1).trans rfl; have hfz125_0 := blk_frozen BK160.out 0; have hfz125_1 := blk_frozen BK160.out 1; obtain ⟨Ao126, co126, eo126⟩ := Kd.R_slice HO158.out; subst eo126) | ((with_reducible refine gate_dst (N := 14) rfl ?_); (try (refine gate_guard (by rfl) ?_; dsimp only)); refine Kd.R_lit (Kd.int .i64) _ 3 ?hg (N := 14) ?hd (xs := ([1, 2] : List Int)) (inner := [.int .i64 1, .int .i64 2]) (ok := fun _ => True) (okp := fun _ => True) ?hr ?hp (fun _ hk => hk) trivial (Below.refl _ _) (Nat.le_refl _) (by simp) ?_; (case hd => rfl); (case hg => rfl); (case hr => first | (go_simp; done) | (go_simp; rfl)); (case hp => exact (Reps.one (show Kd.M (Kd.int .i64) _ _ _ 1 [.int .i64 1] from rfl) (Reps.one (show Kd.M (Kd.int .i64) _ _ _ 2 [.int .i64 2] from rfl) (Reps.none _ _)))); intro v162 w127 ho128 hb hg_ hnew_; clear hg_ hnew_; (first | rw [← Ny161.out] at ho128 | (simp only [Int.reduceToNat] at ho128; rw [← Ny161.out] at ho128)); have n0_ := Aside0.mk (Kd.R_elder' (by (with_reducible repeat (first | apply Kd.R_alloc | apply Kd.R_drewN | apply Kd.R_drew)); exact (Kd.R_mono (Kd.R_far (p := ⟨gb160, 1, none⟩) (Kd.R_far (p := ⟨gb160, 0, none⟩) (Kd.R_types HO158.out BK160.out (by decide)) (fun _ hk => hk.2) (.int .i64 t155)) (fun _ hk => hk.2) (.slice Ao126 t156.length co126)) (fun _ h_ => h_.1))) (Kd.R_base ho128) hb); have n1_ := Aside0.mk (Kd.R_lower ho128 (below_size (by repeat (first | (with_reducible first | exact HB.out | apply below_alloc | apply pw_below_drewN | apply below_drew1 | refine below_set ?_ GE160.out) | exact HB.out)))); have n2_ := Aside0.mk (blk_below (g := gb160) (o := .cells #[.int .i64 t155, .slice Ao126 t156.length co126] 38 (0, 0)) (by (with_reducible repeat (first | refine blk_drewN ?_ _ | refine blk_drew ?_ | refine blk_alloc ?_ _)); refine blk_put (cs := #[.int .i64 t155, .slice none 0 0]) ?_ 1 _ rfl; (with_reducible repeat (first | refine blk_drewN ?_ _ | refine blk_drew ?_ | refine blk_alloc ?_ _)); refine blk_put (cs := #[.int .i64 0, .slice none 0 0]) ?_ 0 _ rfl; (with_reducible repeat (first | refine blk_drewN ?_ _ | refine blk_drew ?_ | refine blk_alloc ?_ _)); exact BK160.out) hb); have n3_ := Aside0.mk (below_step (by repeat (first | (with_reducible first | exact HB.out | apply below_alloc | apply pw_below_drewN | apply below_drew1 | refine below_set ?_ GE160.out) | exact HB.out)) hb); clear HO158; clear BK160; clear HB; have HO158 := n0_; have HO163 := n1_; have BK160 := n2_; have HB := n3_; clear n0_ n1_ n2_ n3_; clear hb ho128; obtain ⟨Ao129, co129, eo129⟩ := Kd.R_slice HO163.out; subst eo129) | ((with_reducible refine gate_callee (f := 11) rfl ?_); refine goesL_ (some 15) rfl rfl Tryd.func11 (by kernel_rfl) rfl #[.int .i64 3, .slice Ao129 y161.length co129] rfl (by (try simp only [List.map_toArray, List.map_cons, List.map_nil]); first | done | rfl | (simp only [List.length_drop, List.length_take]; rfl)) ?_; (with_reducible refine (shape_Rank.calls k 3 _ _ y161 t164 t165 _ ?side1 ?side2 A2.out).mono ?_); (case side1 => repeat (first | exact (Kd.R_reads' HO163.out).2.2 | (with_reducible refine Kd.C_alloc ?_ _) | (with_reducible refine Kd.C_drewN ?_ _) | (with_reducible refine Kd.C_drew ?_))); (case side2 => exact (Kd.R_reads' HO163.out).2.1); rintro e w130 ⟨rfl, hb⟩; refine ⟨_, rfl, ?_⟩; have n0_ := Aside0.mk (Kd.R_below (by (with_reducible repeat (first | apply Kd.R_alloc | apply Kd.R_drewN | apply Kd.R_drew)); exact HO158.out) hb); have n1_ := Aside0.mk (Kd.R_below (by (with_reducible repeat (first | apply Kd.R_alloc | apply Kd.R_drewN | apply Kd.R_drew)); exact HO163.out) hb); have n2_ := Aside0.mk (blk_below (g := gb160) (o := .cells #[.int .i64 t155, .slice Ao126 t156.length co126] 38 (0, 0)) (by (with_reducible repeat (first | refine blk_drewN ?_ _ | refine blk_drew ?_ | refine blk_alloc ?_ _)); exact BK160.out) hb); have n3_ := Aside0.mk (below_step (by repeat (first | (with_reducible first | exact HB.out | apply below_alloc | apply pw_below_drewN | apply below_drew1 | refine below_set ?_ GE160.out) | exact HB.out)) hb); clear HO158; clear HO163; clear BK160; clear HB; have HO158 := n0_; have HO163 := n1_; have BK160 := n2_; have HB := n3_; clear n0_ n1_ n2_ n3_; (try clear hb); (try clear hb2); (try clear hk); (try clear hi)) | ((with_reducible refine gate_callee (f := 13) rfl ?_); refine goesL_ (some 19) rfl rfl Tryd.func13 (by kernel_rfl) rfl #[.int .i64 2, .int .i64 3, .int .i64 5] rfl (by (try simp only [List.map_toArray, List.map_cons, List.map_nil]); first | done | rfl | (simp only [List.length_drop, List.length_take]; rfl)) ?_; (with_reducible refine (shape_Tuple.calls k 2 3 5 t166 t167 _ A3.out).mono ?_); rintro e w131 ⟨v168, rfl, ho0, hb⟩; refine ⟨_, rfl, ?_⟩; have n0_ := Aside0.mk (Kd.R_elder' (by (with_reducible repeat (first | apply Kd.R_alloc | apply Kd.R_drewN | apply Kd.R_drew)); exact HO158.out) (Kd.R_base ho0) hb); have n1_ := Aside0.mk (Kd.R_elder' (by (with_reducible repeat (first | apply Kd.R_alloc | apply Kd.R_drewN | apply Kd.R_drew)); exact HO163.out) (Kd.R_base ho0) hb); have n2_ := Aside0.mk (Kd.R_lower (Kd.R_new' ho0 (Kd.R_lt (by (with_reducible repeat (first | apply Kd.R_alloc | apply Kd.R_drewN | apply Kd.R_drew)); exact HO163.out))) (below_size (by repeat (first | (with_reducible first | exact HB.out | apply below_alloc | apply pw_below_drewN | apply below_drew1 | refine below_set ?_ GE160.out) | exact HB.out)))); have n3_ := Aside0.mk (blk_below (g := gb160) (o := .cells #[.int .i64 t155, .slice Ao126 t156.length co126] 38 (0, 0)) (by (with_reducible repeat (first | refine blk_drewN ?_ _ | refine blk_drew ?_ | refine blk_alloc ?_ _)); exact BK160.out) hb); have n4_ := Aside0.mk (below_step (by repeat (first | (with_reducible first | exact HB.out | apply below_alloc | apply pw_below_drewN | apply below_drew1 | refine below_set ?_ GE160.out) | exact HB.out)) hb); clear HO158; clear HO163; clear BK160; clear HB; have HO158 := n0_; have HO163 := n1_; have HO169 := n2_; have BK160 := n3_; have HB := n4_; clear n0_ n1_ n2_ n3_ n4_; (try clear hb); (try clear hb2); (try clear hk); (try clear hi); (try clear ho0); have hcz132_0 : w131.cell? ⟨gb160, 0, none⟩ = some (.int .i64 t155) := (blk_cell BK160.out 0).trans rfl; have hcz132_1 : w131.cell? ⟨gb160, 1, none⟩ = some (.slice Ao126 t156.length co126) := (blk_cell BK160.out 1).trans rfl; have hfz132_0 := blk_frozen BK160.out 0; have hfz132_1 := blk_frozen BK160.out 1) | ((with_reducible refine gate_dst (N := 24) rfl ?_); (try (refine gate_guard (by rfl) ?_; dsimp only)); refine Kd.R_lit (Kd.int .i64) _ 3 ?hg (N := 24) ?hd (xs := ([1, 2] : List Int)) (inner := [.int .i64 1, .int .i64 2]) (ok := fun _ => True) (okp := fun _ => True) ?hr ?hp (fun _ hk => hk) trivial (Below.refl _ _) (Nat.le_refl _) (by simp) ?_; (case hd => rfl); (case hg => rfl); (case hr => first | (go_simp; done) | (go_simp; rfl)); (case hp => exact (Reps.one (show Kd.M (Kd.int .i64) _ _ _ 1 [.int .i64 1] from rfl) (Reps.one (show Kd.M (Kd.int .i64) _ _ _ 2 [.int .i64 2] from rfl) (Reps.none _ _)))); intro v171 w133 ho134 hb hg_ hnew_; clear hg_ hnew_; (first | rw [← Ny170.out] at ho134 | (simp only [Int.reduceToNat] at ho134; rw [← Ny170.out] at ho134)); have n0_ := Aside0.mk (Kd.R_elder' (by (with_reducible repeat (first | apply Kd.R_alloc | apply Kd.R_drewN | apply Kd.R_drew)); exact HO158.out) (Kd.R_base ho134) hb); have n1_ := Aside0.mk (Kd.R_elder' (by (with_reducible repeat (first | apply Kd.R_alloc | apply Kd.R_drewN | apply Kd.R_drew)); exact HO163.out) (Kd.R_base ho134) hb); have n2_ := Aside0.mk (Kd.R_elder' (by (with_reducible repeat (first | apply Kd.R_alloc | apply Kd.R_drewN | apply Kd.R_drew)); exact HO169.out) (Kd.R_base ho134) hb); have n3_ := Aside0.mk (Kd.R_lower (Kd.R_new' (Kd.R_new' ho134 (Kd.R_lt (by (with_reducible repeat (first | apply Kd.R_alloc | apply Kd.R_drewN | apply Kd.R_drew)); exact HO163.out))) (Kd.R_lt (by (with_reducible repeat (first | apply Kd.R_alloc | apply Kd.R_drewN | apply Kd.R_drew)); exact HO169.out))) (below_size (by repeat (first | (with_reducible first | exact HB.out | apply below_alloc | apply pw_below_drewN | apply below_drew1 | refine below_set ?_ GE160.out) | exact HB.out)))); have n4_ := Aside0.mk (blk_below (g := gb160) (o := .cells #[.int .i64 t155, .slice Ao126 t156.length co126] 38 (0, 0)) (by (with_reducible repeat (first | refine blk_drewN ?_ _ | refine blk_drew ?_ | refine blk_alloc ?_ _)); exact BK160.out) hb); have n5_ := Aside0.mk (below_step (by repeat (first | (with_reducible first | exact HB.out | apply below_alloc | apply pw_below_drewN | apply below_drew1 | refine below_set ?_ GE160.out) | exact HB.out)) hb); clear HO158; clear HO163; clear HO169; clear BK160; clear HB; have HO158 := n0_; have HO163 := n1_; have HO169 := n2_; have HO172 := n3_; have BK160 := n4_; have HB := n5_; clear n0_ n1_ n2_ n3_ n4_ n5_; clear hb ho134; obtain ⟨Ao135, co135, eo135⟩ := Kd.R_slice HO172.out; subst eo135) | ((with_reducible refine gate_callee (f := 30) rfl ?_); refine goesL_ (some 25) rfl rfl Tryd.func30 (by kernel_rfl) rfl #[.agg #[.int .i64 t155, .slice Ao126 t156.length co126], .string (⟨#[69]⟩ : ByteArray), .slice Ao135 y170.length co135] rfl (by (try simp only [List.map_toArray, List.map_cons, List.map_nil]); first | done | rfl | (simp only [List.length_drop, List.length_take]; rfl)) ?_; (with_reducible refine (shape_Has.calls k t155 _ _ t156 (⟨#[69]⟩ : ByteArray) _ _ y170 t173 t174 _ ?side1 ?side2 ?side3 ?side4 A4.out).mono ?_); (case side1 => repeat (first | exact (Kd.R_reads' HO158.out).2.2 | (with_reducible refine Kd.C_alloc ?_ _) | (with_reducible refine Kd.C_drewN ?_ _) | (with_reducible refine Kd.C_drew ?_))); (case side2 => exact (Kd.R_reads' HO158.out).2.1); (case side3 => repeat (first | exact (Kd.R_reads' HO172.out).2.2 | (with_reducible refine Kd.C_alloc ?_ _) | (with_reducible refine Kd.C_drewN ?_ _) | (with_reducible refine Kd.C_drew ?_))); (case side4 => exact (Kd.R_reads' HO172.out).2.1); rintro e w136 ⟨rfl, hb⟩; refine ⟨_, rfl, ?_⟩; have n0_ := Aside0.mk (Kd.R_below (by (with_reducible repeat (first | apply Kd.R_alloc | apply Kd.R_drewN | apply Kd.R_drew)); exact HO158.out) hb); have n1_ := Aside0.mk (Kd.R_below (by (with_reducible repeat (first | apply Kd.R_alloc | apply Kd.R_drewN | apply Kd.R_drew)); exact HO163.out) hb); have n2_ := Aside0.mk (Kd.R_below (by (with_reducible repeat (first | apply Kd.R_alloc | apply Kd.R_drewN | apply Kd.R_drew)); exact HO169.out) hb); have n3_ := Aside0.mk (Kd.R_below (by (with_reducible repeat (first | apply Kd.R_alloc | apply Kd.R_drewN | apply Kd.R_drew)); exact HO172.out) hb); have n4_ := Aside0.mk (blk_below (g := gb160) (o := .cells #[.int .i64 t155, .slice Ao126 t156.length co126] 38 (0, 0)) (by (with_reducible repeat (first | refine blk_drewN ?_ _ | refine blk_drew ?_ | refine blk_alloc ?_ _)); exact BK160.out) hb); have n5_ := Aside0.mk (below_step (by repeat (first | (with_reducible first | exact HB.out | apply below_alloc | apply pw_below_drewN | apply below_drew1 | refine below_set ?_ GE160.out) | exact HB.out)) hb); clear HO158; clear HO163; clear HO169; clear HO172; clear BK160; clear HB; have HO158 := n0_; have HO163 := n1_; have HO169 := n2_; have HO172 := n3_; have BK160 := n4_; have HB := n5_; clear n0_ n1_ n2_ n3_ n4_ n5_; (try clear hb); (try clear hb2); (try clear hk); (try clear hi)))
    go_ret
    exact ⟨by first | rfl | (simp [errW_none, errW_some] <;> rfl) | (simp [*, errW_none, errW_some] <;> rfl), by repeat (first | (with_reducible first | exact HB.out | apply below_alloc | apply pw_below_drewN | apply below_drew1 | refine below_set ?_ GE160.out) | exact HB.out)⟩
end Go.Proofs.YtfmpaofbnjlniaaDoor.F
namespace Go.Proofs.YtfmpaofbnjlniaaDoor.F
open Go.RowKit Go.Proofs.YtfmpaofbnjlniaaDoorW.PrintWords Go.Proofs.YtfmpaofbnjlniaaDoorW.PrintLast Go.Proofs.YtfmpaofbnjlniaaDoorW.PrintMore
attribute [local go_sem] max2_int min2_int max_two min_two max_three min_three max_four min_four
set_option linter.unusedVariables false
set_option linter.unusedSimpArgs false
/-! ### paraphrastref01_Pow: function 16 -/
def paraphrastref01_Pow.l0 : Nat → Int → Int → Int → Int → Option (Int)
  | 0, _, _, _, _ => none
  | k + 1, x0, x1, x5, x6 => if x6 < x1 then (if x5 ≤ 4096 then (paraphrastref01_Pow.l0 k x0 x1 (wrap64 (x5 * x0)) (wrap64 (x6 + 1))) else (some x5)) else (some x5)
def paraphrastref01_Pow.f (k : Nat) (a0 : Int) (a1 : Int) : Option (Int) := paraphrastref01_Pow.l0 k a0 a1 1 0
theorem paraphrastref01_Pow.mono_l : ∀ k, (∀ y0 y1 y2 y3, LeO (paraphrastref01_Pow.l0 k y0 y1 y2 y3) (paraphrastref01_Pow.l0 (k + 1) y0 y1 y2 y3))
  | 0 => fun _ _ _ _ r h => by simp [paraphrastref01_Pow.l0] at h
  | k + 1 => by
    have ih0 := paraphrastref01_Pow.mono_l k
    · intro y0 y1 y2 y3
      unfold paraphrastref01_Pow.l0
      repeat' first
      | (with_reducible exact ih0 _ _ _ _)
      | (with_reducible exact LeO.refl _)
      | (with_reducible exact LeO.none _)
      | (with_reducible refine LeO.ite ?_ ?_)
      | (with_reducible refine LeO.bind ?_ (fun _ => ?_))
      | exact ih0 _ _ _ _
      | exact LeO.none _
      | refine LeO.ite ?_ ?_
      | refine LeO.bind ?_ (fun _ => ?_)
theorem paraphrastref01_Pow.mono : ∀ a0 a1 k, LeO (paraphrastref01_Pow.f k a0 a1) (paraphrastref01_Pow.f (k + 1) a0 a1) := by
  intro a0 a1 k
  have ih0 := paraphrastref01_Pow.mono_l k
  unfold paraphrastref01_Pow.f
  repeat' first
      | (with_reducible exact ih0 _ _ _ _)
      | (with_reducible exact LeO.refl _)
      | (with_reducible exact LeO.none _)
      | (with_reducible refine LeO.ite ?_ ?_)
      | (with_reducible refine LeO.bind ?_ (fun _ => ?_))
      | exact ih0 _ _ _ _
      | exact LeO.none _
      | refine LeO.ite ?_ ?_
      | refine LeO.bind ?_ (fun _ => ?_)
end Go.Proofs.YtfmpaofbnjlniaaDoor.F
