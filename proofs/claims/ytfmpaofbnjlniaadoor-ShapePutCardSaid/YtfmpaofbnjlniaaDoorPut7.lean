/- ShapePut: for every structure and every list of changes, each call of Put changes exactly the one tuple that was asked for; no condition. -/
import Derived.Test.YtfmpaofbnjlniaaDoorPut6
import Derived.Test.YtfmpaofbnjlniaaDoorCards
import Derived.Test.YtfmpaofbnjlniaaDoorTie
import Derived.SevenTiedAt
/- ShapePut: the row and its card. -/
namespace Go.Proofs.YtfmpaofbnjlniaaDoor.F
open Go.RowKit Go.WideShapes Go.ChangeShapes Go.ChangeAt Go.Proofs.YtfmpaofbnjlniaaDoorW.PrintWords Go.Proofs.YtfmpaofbnjlniaaDoorW.PrintLast Go.Proofs.YtfmpaofbnjlniaaDoorW.PrintMore
open Go.ChangeMaps (open_string shut_string)
set_option linter.unusedVariables false
set_option linter.unusedSimpArgs false
theorem opens_bool_ {w : World} : Opens Tryd.prog w Kd.bool 4 := fun enc m cs x h => by
  obtain ⟨b, rfl, _, _⟩ := DataW.trod_bool Tryd.underlying4 h
  exact ⟨b, rfl⟩
theorem opens_change {w : World} : Opens Tryd.prog w k56 56 := fun enc m cs x h => by
  obtain ⟨y0, y1, y2, n, _, hl, h0, h1, h2⟩ := Go.Deep.trod_struct3 Tryd.underlying56 h
  rw [show Tryd.prog.cellsOf 56 = 3 by kernel_rfl] at hl
  rw [show Tryd.prog.cellsOf 9 = 1 by kernel_rfl] at h0
  rw [show Tryd.prog.cellsOf 24 = 1 by kernel_rfl] at h1
  rw [show Tryd.prog.cellsOf 4 = 1 by kernel_rfl] at h2
  obtain ⟨s, e0⟩ := opens_string Tryd.underlying9 enc _ _ _ h0
  obtain ⟨l, A, c, e1, hlc, hC⟩ := opens_ints enc _ _ _ h1
  obtain ⟨b, e2⟩ := opens_bool_ enc _ _ _ h2
  rw [of_cells3 hl (one_cell e0) (one_cell e1) (one_cell e2)]
  exact ⟨⟨s, l, b⟩, k56_mk w ⟨s, l, b⟩ hlc hC⟩
theorem opens_changes {w : World} : Opens Tryd.prog w (Kd.slice 56 k56) 51 := opens_slice Tryd.underlying51 (by kernel_rfl) opens_change
theorem rels_max' {w : World} {A : Option Addr} {n : Nat} {l : List S54} (h : Kd.C k54 w A n l) : ∀ r ∈ l, r.f2.length ≤ 9223372036854775807 := rels_max h
set_option maxHeartbeats 1000000 in
set_option maxRecDepth 100000 in
theorem shapePut_lifted (os : Os) (started : os.Started) (H : Type) (enc : TypeId × Value → H) :
    ReturnsInHanded {} Tryd.checked os 7 .any (fun w args => (Rows.shapePutSpec.pre enc Tryd.prog Tryd.f7 Rows.shapePutRow.domain false w args ∧ laidMetH Tryd.prog laidL w) ∧ sizedMet enc Tryd.prog Tryd.f7 (OpenSpec.ofChange Rows.shapePutSpec) false w args)
      (Rows.shapePutSpec.post enc Tryd.prog Tryd.f7 false true false false) := by
  refine returns_and_shaped (C := Tryd.checked) (X := fun w _ => laidMetH Tryd.prog laidL w) (fun _ _ _ hh h => h.of_heap hh) own started (by kernel_rfl) Tryd.func7
    (ChangeSpec.witness_shaped (enc := enc) (C := Tryd.checked) (os := os) (X := fun w _ => laidMetH Tryd.prog laidL w) false (World.laidAll Tryd.prog os laidL) #[.agg #[.int .i64 0, .slice none 0 0], .slice none 0 0] 8 (World.laidAll_os _ _ _)
      (World.shaped_of_ZipB (by kernel_rfl) (by kernel_rfl)) (by kernel_rfl) (by kernel_rfl) (by kernel_rfl)
      (by rw [MakeChecks.laidMetH_plain _ _ _ (by kernel_rfl)]; exact laidMet_laidAll _ (by kernel_rfl) (by kernel_rfl))) ?_
  intro W base args ds gs before hval0 hW hsh hL
  have hval : ∀ (j : Nat) t v, Tryd.f7.params[j]? = some t → args[j]? = some v → Value.okWide Tryd.prog W .any base t v := hval0
  have hW' := hW
  obtain ⟨p, q, hA0, hV, rfl, hfz, hnd⟩ := hW
  have hA : DataW.TrodAll enc Tryd.prog W 0 (fun _ => true) true Tryd.f7.params.toList args.toList ds p := hA0
  rw [Tryd.params7] at hA hval
  obtain ⟨v0, vs0, d0, ds0, p0, q0, hargs, rfl, rfl, h0, r0⟩ := trodAll_cons hA
  obtain ⟨v1, vs1, d1, ds1, p1, q1, rfl, rfl, rfl, h1, r1⟩ := trodAll_cons r0
  obtain ⟨rfl, rfl, rfl⟩ := trodAll_nil r1
  obtain rfl : args = #[v0, v1] := by cases args; simp_all
  obtain ⟨rfl, rfl⟩ := trodVars_none hV
  have k0 := h0
  have lt0 : ∀ x ∈ p0, x.block < W.heap.size := by obtain ⟨m, hm⟩ := k0; exact DataW.trod_lt m _ _ _ hm
  obtain ⟨cs0, rfl, _⟩ := okWide_struct Tryd.underlying38 (hval 0 38 v0 rfl rfl)
  obtain ⟨m0, e0⟩ := h0
  obtain ⟨⟨x0, l0⟩, hK0⟩ := opens_structure enc _ _ _ e0
  obtain ⟨A0, c0, ec0, hlc0, hC0⟩ := k38_open hK0
  obtain rfl : cs0 = #[.int .i64 x0, .slice A0 l0.length c0] := Array.ext' (by simpa [Value.cells] using ec0)
  have k1 := h1
  have lt1 : ∀ x ∈ p1, x.block < W.heap.size := by obtain ⟨m, hm⟩ := k1; exact DataW.trod_lt m _ _ _ hm
  obtain ⟨a1, len1, cap1, rfl⟩ := okWide_slice Tryd.underlying51 (hval 1 51 v1 rfl rfl)
  obtain ⟨m1, e1⟩ := h1
  obtain ⟨l1, A1, c1, ec1, hlc1, hC1⟩ := opens_changes enc _ _ _ e1
  obtain ⟨rfl, rfl, rfl⟩ : a1 = A1 ∧ len1 = l1.length ∧ cap1 = c1 := by simpa [Value.cells] using ec1
  obtain ⟨k, hk⟩ := put_law x0 l0 l1 9223372036854775807 (Nat.le_refl _) (rels_max' hC0)
  refine (sput_calls k x0 A0 c0 l0 a1 cap1 l1 true W (glob_of_laid hsh hL) hC0 hlc0 hC1 hlc1 hk).mono fun e W' he => ?_
  obtain ⟨he, bel⟩ := he
  subst he
  exact ⟨_, rfl, _, _, _, [], _, [], hW', trodAll_mk1 (shut_bool Tryd.underlying4 _), (trodAll_cons_mk (Below.trod laidOut (by kernel_rfl) (of_decide_eq_true (by kernel_rfl)) k0 bel lt0) (trodAll_cons_mk (Below.trod laidOut (by kernel_rfl) (of_decide_eq_true (by kernel_rfl)) k1 bel lt1) trodAll_mk0)), rfl, bel.frame _, fun h => by cases h⟩
theorem shapePut_holds : Rows.ShapePutSaid :=
  OpenClaim.holds_of_wide 7 Tryd.f7 rfl rfl rfl rfl rfl rfl rfl ⟨rfl, rfl, rfl, rfl, rfl⟩ rfl rfl rfl rfl rfl (by kernel_rfl) Tryd.func7 (by kernel_rfl)
    (of_decide_eq_true (by kernel_rfl)) (by unfold Func.isWrapper; first | (rw [if_pos (by decide +kernel)]; kernel_rfl) | (rw [if_neg (by decide +kernel)]; exact ⟨rfl, rfl⟩))
    (fun os started H enc _ => shapePut_lifted os started H enc)
end Go.Proofs.YtfmpaofbnjlniaaDoor.F
namespace Go.Proofs.YtfmpaofbnjlniaaDoor
open F
theorem shapePut_card : Rows.ShapePutCardSaid :=
  Claim7.holds_tied_plain_at .later [] [.data, .data, .data, .data, .sentinel, .sentinel, .pinned] true (true, "6b45c302708eda0955f1a463382c4f6ee7da67013868422ba3d0a9410e29f46f") true shapePut_holds (fun _ h => by cases h) (by kernel_rfl) (fun _ h => by cases h) shapePut_row_tie rfl ⟨rfl, rfl⟩ (by kernel_rfl) rfl
    (fun f fn hf hfn => by
      obtain rfl : f = 7 := Option.some.inj ((show Tryd.prog.funcNamed "paraphrast/paraphrastlaw01.ShapePut" = some 7 by kernel_rfl).symm.trans hf) |>.symm
      obtain rfl : fn = Tryd.f7 := (Option.some.inj (Tryd.func7.symm.trans hfn)).symm
      exact ⟨by kernel_rfl, fun j t ht => by
        rw [Tryd.params7] at ht
        have hm : t ∈ [38, 51] := by simpa using Array.mem_of_getElem? ht
        have hall : ([38, 51].all fun u => !Tryd.prog.wantsStandIn u) = true := by kernel_rfl
        exact (show Tryd.prog.wantsStandIn t = false by simpa using List.all_eq_true.1 hall t hm)⟩)
    (by kernel_rfl)
#print axioms shapePut_card
end Go.Proofs.YtfmpaofbnjlniaaDoor
