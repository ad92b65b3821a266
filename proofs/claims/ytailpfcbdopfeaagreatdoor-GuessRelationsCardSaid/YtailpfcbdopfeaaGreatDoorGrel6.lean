/- For every machine and every size, GuessRelations answers true, whatever the input; no condition. -/
import Derived.Test.YtailpfcbdopfeaaGreatDoorGrel5
import Derived.Test.YtailpfcbdopfeaaGreatDoorCards
import Derived.Test.YtailpfcbdopfeaaGreatDoorTie
import Derived.SevenTiedAt
namespace Go.Proofs.YtailpfcbdopfeaaGreatDoor.F
open Go.RowKit Go.Proofs.YtailpfcbdopfeaaGreatDoorW.PrintWords Go.Proofs.YtailpfcbdopfeaaGreatDoorW.PrintLast Go.Proofs.YtailpfcbdopfeaaGreatDoorW.PrintMore
attribute [local go_sem] max2_int min2_int max_two min_two max_three min_three max_four min_four
set_option linter.unusedVariables false
set_option linter.unusedSimpArgs false
/-! ### paraphrastlaw18_GuessRelations: function 3 -/
mutual
noncomputable def paraphrastlaw18_GuessRelations.j0 : Nat → Int → Int → Int → Int → Bool → Int → Int → Int → Int → List (S42) → List (S69) → Option (Bool)
 | 0, _, _, _, _, _, _, _, _, _, _, _ => none
 | k + 1, x1, x5, x9, x10, x38, x225000, x225001, x225002, x225003, x225004, x225005 => if x38 = true then (some false) else (if x5 = 1 then (if x10 = 1 then (if x9 = 0 then ((paraphrastlaw18_Awake.f k).bind fun t238 => (some t238)) else (some false)) else (some false)) else (if x1 < 1 then (paraphrastlaw18_GuessRelations.j1 k x1 x9 x10 true x225000 x225001 x225002 x225003 x225004 x225005) else (paraphrastlaw18_GuessRelations.j1 k x1 x9 x10 (decide (x1 > 64)) x225000 x225001 x225002 x225003 x225004 x225005)))
noncomputable def paraphrastlaw18_GuessRelations.j1 : Nat → Int → Int → Int → Bool → Int → Int → Int → Int → List (S42) → List (S69) → Option (Bool)
 | 0, _, _, _, _, _, _, _, _, _, _ => none
 | k + 1, x1, x9, x10, x51, x225000, x225001, x225002, x225003, x225004, x225005 => if x51 = true then (if x10 = 2 then (if x9 = 0 then ((paraphrastlaw18_Awake.f k).bind fun t239 => (some t239)) else (some false)) else (some false)) else ((paraphrastref01_Pow.f k x1 x225002).bind fun t240 => (if t240 > 4096 then (paraphrastlaw18_GuessRelations.j2 k x1 x9 x10 true x225000 x225001 x225002 x225003 x225004 x225005) else ((paraphrastref01_Pow.f k x1 x225003).bind fun t241 => (paraphrastlaw18_GuessRelations.j2 k x1 x9 x10 (decide (t241 > 4096)) x225000 x225001 x225002 x225003 x225004 x225005))))
noncomputable def paraphrastlaw18_GuessRelations.j2 : Nat → Int → Int → Int → Bool → Int → Int → Int → Int → List (S42) → List (S69) → Option (Bool)
 | 0, _, _, _, _, _, _, _, _, _, _ => none
 | k + 1, x1, x9, x10, x67, x225000, x225001, x225002, x225003, x225004, x225005 => if x67 = true then (if x10 = 5 then (if x9 = 0 then ((paraphrastlaw18_Awake.f k).bind fun t242 => (some t242)) else (some false)) else (some false)) else (if x10 = 0 then ((paraphrastref18_Guesses.f k x225000 x225001 x225002 x225003 x225004 x225005 x1).bind fun t243 => (if x9 = t243 then ((paraphrastlaw18_Awake.f k).bind fun t244 => (some t244)) else (some false))) else (some false))
end
noncomputable def paraphrastlaw18_GuessRelations.f (k : Nat) (a0_0 : Int) (a0_1 : Int) (a0_2 : Int) (a0_3 : Int) (l0_4 : List (S42)) (l0_5 : List (S69)) (a1 : Int) : Option (Bool) := (paraphrastlaw16_Wide.f k a0_0 a0_1 a0_2 a0_3 l0_4 l0_5).bind fun t225 => (if t225 = true then ((paraphrastlaw18_Awake.f k).bind fun t226 => (some t226)) else ((paraphrastlaw18_code.f k a0_0 a0_1 a0_2 a0_3 l0_4 l0_5).bind fun bt227 => ((guess_Relations.f k a0_0 a0_1 a0_2 a0_3 l0_4 l0_5).bind fun bt231 => ((guess_Guesses.f k a0_0 a0_1 a0_2 a0_3 l0_4 l0_5 a1).bind fun bt235 => (if bt231.2 = bt227.1 then ((paraphrastref12_SameSymbols.f k bt231.1 bt227.2).bind fun t237 => (paraphrastlaw18_GuessRelations.j0 k a1 bt227.1 bt235.1 bt235.2 (!t237) a0_0 a0_1 a0_2 a0_3 l0_4 l0_5)) else (paraphrastlaw18_GuessRelations.j0 k a1 bt227.1 bt235.1 bt235.2 true a0_0 a0_1 a0_2 a0_3 l0_4 l0_5))))))
set_option maxHeartbeats 8000000 in
set_option maxRecDepth 100000 in
theorem paraphrastlaw18_GuessRelations.calls (k : Nat) (a0_0 : Int) (a0_1 : Int) (a0_2 : Int) (a0_3 : Int) (A0_4 : Option Addr) (c0_4 : Nat) (l0_4 : List (S42)) (A0_5 : Option Addr) (c0_5 : Nat) (l0_5 : List (S69)) (a1 : Int) (r : Bool) (w : World) (hG : Glob w) (hr0_4 : Kd.C k42 w A0_4 l0_4.length l0_4) (hc0_4 : l0_4.length ≤ c0_4) (hr0_5 : Kd.C k69 w A0_5 l0_5.length l0_5) (hc0_5 : l0_5.length ≤ c0_5) (h : paraphrastlaw18_GuessRelations.f k a0_0 a0_1 a0_2 a0_3 l0_4 l0_5 a1 = some r) :
  Calls Tryz.prog 3 #[.agg #[.int .i64 a0_0, .int .i64 a0_1, .int .i64 a0_2, .int .i64 a0_3, .slice A0_4 l0_4.length c0_4, .slice A0_5 l0_5.length c0_5], .int .i64 a1] w fun e w' => e = .returned (.bool r) ∧ Below w.heap.size w w' := by
 have hu25 := Tryz.underlying25
 have HR0_4 := Aside0.mk hr0_4
 have HC0_4 := Aside0.mk hc0_4
 clear hr0_4 hc0_4
 have HR0_5 := Aside0.mk hr0_5
 have HC0_5 := Aside0.mk hc0_5
 clear hr0_5 hc0_5
 have HG := Aside0.mk hG
 clear hG
 have HB := Aside0.mk (Below.refl w.heap.size w)
 have H : ((paraphrastlaw16_Wide.f k a0_0 a0_1 a0_2 a0_3 l0_4 l0_5).bind fun t225 => (if t225 = true then ((paraphrastlaw18_Awake.f k).bind fun t226 => (some t226)) else ((paraphrastlaw18_code.f k a0_0 a0_1 a0_2 a0_3 l0_4 l0_5).bind fun bt227 => ((guess_Relations.f k a0_0 a0_1 a0_2 a0_3 l0_4 l0_5).bind fun bt231 => ((guess_Guesses.f k a0_0 a0_1 a0_2 a0_3 l0_4 l0_5 a1).bind fun bt235 => (if bt231.2 = bt227.1 then ((paraphrastref12_SameSymbols.f k bt231.1 bt227.2).bind fun t237 => (paraphrastlaw18_GuessRelations.j0 k a1 bt227.1 bt235.1 bt235.2 (!t237) a0_0 a0_1 a0_2 a0_3 l0_4 l0_5)) else (paraphrastlaw18_GuessRelations.j0 k a1 bt227.1 bt235.1 bt235.2 true a0_0 a0_1 a0_2 a0_3 l0_4 l0_5))))))) = some r := h
 clear h
 replace H := Option.bind_eq_some_iff.mp H
 obtain ⟨t225, A30, H⟩ := H
 replace H : (if t225 = true then ((paraphrastlaw18_Awake.f k).bind fun t226 => (some t226)) else ((paraphrastlaw18_code.f k a0_0 a0_1 a0_2 a0_3 l0_4 l0_5).bind fun bt227 => ((guess_Relations.f k a0_0 a0_1 a0_2 a0_3 l0_4 l0_5).bind fun bt231 => ((guess_Guesses.f k a0_0 a0_1 a0_2 a0_3 l0_4 l0_5 a1).bind fun bt235 => (if bt231.2 = bt227.1 then ((paraphrastref12_SameSymbols.f k bt231.1 bt227.2).bind fun t237 => (paraphrastlaw18_GuessRelations.j0 k a1 bt227.1 bt235.1 bt235.2 (!t237) a0_0 a0_1 a0_2 a0_3 l0_4 l0_5)) else (paraphrastlaw18_GuessRelations.j0 k a1 bt227.1 bt235.1 bt235.2 true a0_0 a0_1 a0_2 a0_3 l0_4 l0_5)))))) = some r := H
 have A3 := Aside0.mk A30
 clear A30
 by_cases c4 : t225 = true
 ·subst c4
  have H1 : ((paraphrastlaw18_Awake.f k).bind fun t226 => (some t226)) = some r := by rw [if_pos rfl] at H; exact H
  clear H
  have H := H1
  clear H1
  replace H := Option.bind_eq_some_iff.mp H
  obtain ⟨t226, A50, H⟩ := H
  replace H : (some t226) = some r := H
  have A5 := Aside0.mk A50
  clear A50
  obtain rfl := Option.some.inj H
  go_enter Tryz.func3, Tryz.ntmps3
  go_wp2_with (first | ((with_reducible refine gate_dst (N := 2) rfl ?_); refine box_event ?hg (N := 2) ?hd (cs := #[.int .i64 a0_0, .int .i64 a0_1, .int .i64 a0_2, .int .i64 a0_3, .slice A0_4 l0_4.length c0_4, .slice A0_5 l0_5.length c0_5]) (t := 25) ?hr ?_; (case hd => rfl); (case hg => rfl); (case hr => first | (go_simp; done) | (go_simp; rfl)); intro gb224 hg w6 hbox hb; have BK224 := Aside0.mk (hbox); have GW224 := geB w hg; have GE224 := geB w hg; replace HB := Aside0.mk (below_step bel hb); clear hb hbox hg; have hcz7_0 : w6.cell? ⟨gb224, 0, none⟩ = some (.int .i64 a0_0) := (blk_cell BK224.out 0).trans rfl; have hcz7_1 : w6.cell? ⟨gb224, 1, none⟩ = some (.int .i64 a0_1) := (blk_cell BK224.out 1).trans rfl; have hcz7_2 : w6.cell? ⟨gb224, 2, none⟩ = some (.int .i64 a0_2) := (blk_cell BK224.out 2).trans rfl; have hcz7_3 : w6.cell? ⟨gb224, 3, none⟩ = some (.int .i64 a0_3) := (blk_cell BK224.out 3).trans rfl; have hcz7_4 : w6.cell? ⟨gb224, 4, none⟩ = some (.slice A0_4 l0_4.length c0_4) := (blk_cell BK224.out 4).trans rfl; have hcz7_5 : w6.cell? ⟨gb224, 5, none⟩ = some (.slice A0_5 l0_5.length c0_5) := (blk_cell BK224.out 5).trans rfl; have hfz7_0 := blk_frozen BK224.out 0; have hfz7_1 := blk_frozen BK224.out 1; have hfz7_2 := blk_frozen BK224.out 2; have hfz7_3 := blk_frozen BK224.out 3; have hfz7_4 := blk_frozen BK224.out 4; have hfz7_5 := blk_frozen BK224.out 5) | ((with_reducible refine gate_callee (f := 4) rfl ?_); refine gL (some 12) Tryz.func4 #[.agg #[.int .i64 a0_0, .int .i64 a0_1, .int .i64 a0_2, .int .i64 a0_3, .slice A0_4 l0_4.length c0_4, .slice A0_5 l0_5.length c0_5]] ?_; (with_reducible refine (paraphrastlaw16_Wide.calls k a0_0 a0_1 a0_2 a0_3 _ _ l0_4 _ _ l0_5 true _ ?side1 ?side2 ?side3 ?side4 A3.out).mono ?_); (case side1 => exact cS (Kd.C_below HR0_4.out HB.out)); (case side2 => exact HC0_4.out); (case side3 => exact cS (Kd.C_below HR0_5.out HB.out)); (case side4 => exact HC0_5.out); rintro e w8 ⟨rfl, hb⟩; refine ⟨_, rfl, ?_⟩; replace BK224 := blB BK224 hb; replace HB := Aside0.mk (below_step bel hb); (try clear hb); (try clear hb2); (try clear hk); (try clear hi)) | ((with_reducible refine gate_callee (f := 5) rfl ?_); refine gL (some 13) Tryz.func5 #[] ?_; (with_reducible refine (paraphrastlaw18_Awake.calls k  t226 _ ?side1 A5.out).mono ?_); (case side1 => first | exact HG.out | exact Glob.below HG.out bel); rintro e w9 ⟨rfl, hb⟩; refine ⟨_, rfl, ?_⟩; replace BK224 := blB BK224 hb; replace HB := Aside0.mk (below_step bel hb); (try clear hb); (try clear hb2); (try clear hk); (try clear hi)))
  go_ret
  exact ⟨eN, bel⟩
 ·replace c4 := Bool.eq_false_iff.mpr c4
  subst c4
  have H1 : ((paraphrastlaw18_code.f k a0_0 a0_1 a0_2 a0_3 l0_4 l0_5).bind fun bt227 => ((guess_Relations.f k a0_0 a0_1 a0_2 a0_3 l0_4 l0_5).bind fun bt231 => ((guess_Guesses.f k a0_0 a0_1 a0_2 a0_3 l0_4 l0_5 a1).bind fun bt235 => (if bt231.2 = bt227.1 then ((paraphrastref12_SameSymbols.f k bt231.1 bt227.2).bind fun t237 => (paraphrastlaw18_GuessRelations.j0 k a1 bt227.1 bt235.1 bt235.2 (!t237) a0_0 a0_1 a0_2 a0_3 l0_4 l0_5)) else (paraphrastlaw18_GuessRelations.j0 k a1 bt227.1 bt235.1 bt235.2 true a0_0 a0_1 a0_2 a0_3 l0_4 l0_5))))) = some r := by rw [if_neg (show ¬ (false = true) by decide)] at H; exact H
  clear H
  have H := H1
  clear H1
  replace H := Option.bind_eq_some_iff.mp H
  obtain ⟨⟨t227, t228⟩, A100, H⟩ := H
  replace H : ((guess_Relations.f k a0_0 a0_1 a0_2 a0_3 l0_4 l0_5).bind fun bt231 => ((guess_Guesses.f k a0_0 a0_1 a0_2 a0_3 l0_4 l0_5 a1).bind fun bt235 => (if bt231.2 = t227 then ((paraphrastref12_SameSymbols.f k bt231.1 t228).bind fun t237 => (paraphrastlaw18_GuessRelations.j0 k a1 t227 bt235.1 bt235.2 (!t237) a0_0 a0_1 a0_2 a0_3 l0_4 l0_5)) else (paraphrastlaw18_GuessRelations.j0 k a1 t227 bt235.1 bt235.2 true a0_0 a0_1 a0_2 a0_3 l0_4 l0_5)))) = some r := H
  have A10 := Aside0.mk A100
  clear A100
  replace H := Option.bind_eq_some_iff.mp H
  obtain ⟨⟨t231, t234⟩, A110, H⟩ := H
  replace H : ((guess_Guesses.f k a0_0 a0_1 a0_2 a0_3 l0_4 l0_5 a1).bind fun bt235 => (if t234 = t227 then ((paraphrastref12_SameSymbols.f k t231 t228).bind fun t237 => (paraphrastlaw18_GuessRelations.j0 k a1 t227 bt235.1 bt235.2 (!t237) a0_0 a0_1 a0_2 a0_3 l0_4 l0_5)) else (paraphrastlaw18_GuessRelations.j0 k a1 t227 bt235.1 bt235.2 true a0_0 a0_1 a0_2 a0_3 l0_4 l0_5))) = some r := H
  have A11 := Aside0.mk A110
  clear A110
  replace H := Option.bind_eq_some_iff.mp H
  obtain ⟨⟨t235, t236⟩, A120, H⟩ := H
  replace H : (if t234 = t227 then ((paraphrastref12_SameSymbols.f k t231 t228).bind fun t237 => (paraphrastlaw18_GuessRelations.j0 k a1 t227 t235 t236 (!t237) a0_0 a0_1 a0_2 a0_3 l0_4 l0_5)) else (paraphrastlaw18_GuessRelations.j0 k a1 t227 t235 t236 true a0_0 a0_1 a0_2 a0_3 l0_4 l0_5)) = some r := H
  have A12 := Aside0.mk A120
  clear A120
  have HC13 := Aside0.mk H
  clear H
  go_enter Tryz.func3, Tryz.ntmps3
  go_upto_region 6 with (first | ((with_reducible refine gate_dst (N := 2) rfl ?_); refine box_event ?hg (N := 2) ?hd (cs := #[.int .i64 a0_0, .int .i64 a0_1, .int .i64 a0_2, .int .i64 a0_3, .slice A0_4 l0_4.length c0_4, .slice A0_5 l0_5.length c0_5]) (t := 25) ?hr ?_; (case hd => rfl); (case hg => rfl); (case hr => first | (go_simp; done) | (go_simp; rfl)); intro gb224 hg w14 hbox hb; have BK224 := Aside0.mk (hbox); have GW224 := geB w hg; have GE224 := geB w hg; replace HB := Aside0.mk (below_step bel hb); clear hb hbox hg; have hcz15_0 : w14.cell? ⟨gb224, 0, none⟩ = some (.int .i64 a0_0) := (blk_cell BK224.out 0).trans rfl; have hcz15_1 : w14.cell? ⟨gb224, 1, none⟩ = some (.int .i64 a0_1) := (blk_cell BK224.out 1).trans rfl; have hcz15_2 : w14.cell? ⟨gb224, 2, none⟩ = some (.int .i64 a0_2) := (blk_cell BK224.out 2).trans rfl; have hcz15_3 : w14.cell? ⟨gb224, 3, none⟩ = some (.int .i64 a0_3) := (blk_cell BK224.out 3).trans rfl; have hcz15_4 : w14.cell? ⟨gb224, 4, none⟩ = some (.slice A0_4 l0_4.length c0_4) := (blk_cell BK224.out 4).trans rfl; have hcz15_5 : w14.cell? ⟨gb224, 5, none⟩ = some (.slice A0_5 l0_5.length c0_5) := (blk_cell BK224.out 5).trans rfl; have hfz15_0 := blk_frozen BK224.out 0; have hfz15_1 := blk_frozen BK224.out 1; have hfz15_2 := blk_frozen BK224.out 2; have hfz15_3 := blk_frozen BK224.out 3; have hfz15_4 := blk_frozen BK224.out 4; have hfz15_5 := blk_frozen BK224.out 5) | ((with_reducible refine gate_callee (f := 4) rfl ?_); refine gL (some 12) Tryz.func4 #[.agg #[.int .i64 a0_0, .int .i64 a0_1, .int .i64 a0_2, .int .i64 a0_3, .slice A0_4 l0_4.length c0_4, .slice A0_5 l0_5.length c0_5]] ?_; (with_reducible refine (paraphrastlaw16_Wide.calls k a0_0 a0_1 a0_2 a0_3 _ _ l0_4 _ _ l0_5 false _ ?side1 ?side2 ?side3 ?side4 A3.out).mono ?_); (case side1 => exact cS (Kd.C_below HR0_4.out HB.out)); (case side2 => exact HC0_4.out); (case side3 => exact cS (Kd.C_below HR0_5.out HB.out)); (case side4 => exact HC0_5.out); rintro e w16 ⟨rfl, hb⟩; refine ⟨_, rfl, ?_⟩; replace BK224 := blB BK224 hb; replace HB := Aside0.mk (below_step bel hb); (try clear hb); (try clear hb2); (try clear hk); (try clear hi); have hcz17_0 : w16.cell? ⟨gb224, 0, none⟩ = some (.int .i64 a0_0) := (blk_cell BK224.out 0).trans rfl; have hcz17_1 : w16.cell? ⟨gb224, 1, none⟩ = some (.int .i64 a0_1) := (blk_cell BK224.out 1).trans rfl; have hcz17_2 : w16.cell? ⟨gb224, 2, none⟩ = some (.int .i64 a0_2) := (blk_cell BK224.out 2).trans rfl; have hcz17_3 : w16.cell? ⟨gb224, 3, none⟩ = some (.int .i64 a0_3) := (blk_cell BK224.out 3).trans rfl; have hcz17_4 : w16.cell? ⟨gb224, 4, none⟩ = some (.slice A0_4 l0_4.length c0_4) := (blk_cell BK224.out 4).trans rfl; have hcz17_5 : w16.cell? ⟨gb224, 5, none⟩ = some (.slice A0_5 l0_5.length c0_5) := (blk_cell BK224.out 5).trans rfl; have hfz17_0 := blk_frozen BK224.out 0; have hfz17_1 := blk_frozen BK224.out 1; have hfz17_2 := blk_frozen BK224.out 2; have hfz17_3 := blk_frozen BK224.out 3; have hfz17_4 := blk_frozen BK224.out 4; have hfz17_5 := blk_frozen BK224.out 5) | ((with_reducible refine gate_callee (f := 6) rfl ?_); refine gL (some 16) Tryz.func6 #[.agg #[.int .i64 a0_0, .int .i64 a0_1, .int .i64 a0_2, .int .i64 a0_3, .slice A0_4 l0_4.length c0_4, .slice A0_5 l0_5.length c0_5]] ?_; (with_reducible refine (paraphrastlaw18_code.calls k a0_0 a0_1 a0_2 a0_3 _ _ l0_4 _ _ l0_5 t227 t228 _ ?side1 ?side2 ?side3 ?side4 ?side5 A10.out).mono ?_); (case side1 => first | exact HG.out | exact Glob.below HG.out bel); (case side2 => exact cS (Kd.C_below HR0_4.out HB.out)); (case side3 => exact HC0_4.out); (case side4 => exact cS (Kd.C_below HR0_5.out HB.out)); (case side5 => exact HC0_5.out); rintro e w18 ⟨v229, rfl, ho0, hb⟩; refine ⟨_, rfl, ?_⟩; have HO230 := Aside0.mk (Kd.R_lower ho0 (below_size bel)); replace BK224 := blB BK224 hb; replace HB := Aside0.mk (below_step bel hb); (try clear hb); (try clear hb2); (try clear hk); (try clear hi); (try clear ho0); have hcz19_0 : w18.cell? ⟨gb224, 0, none⟩ = some (.int .i64 a0_0) := (blk_cell BK224.out 0).trans rfl; have hcz19_1 : w18.cell? ⟨gb224, 1, none⟩ = some (.int .i64 a0_1) := (blk_cell BK224.out 1).trans rfl; have hcz19_2 : w18.cell? ⟨gb224, 2, none⟩ = some (.int .i64 a0_2) := (blk_cell BK224.out 2).trans rfl; have hcz19_3 : w18.cell? ⟨gb224, 3, none⟩ = some (.int .i64 a0_3) := (blk_cell BK224.out 3).trans rfl; have hcz19_4 : w18.cell? ⟨gb224, 4, none⟩ = some (.slice A0_4 l0_4.length c0_4) := (blk_cell BK224.out 4).trans rfl; have hcz19_5 : w18.cell? ⟨gb224, 5, none⟩ = some (.slice A0_5 l0_5.length c0_5) := (blk_cell BK224.out 5).trans rfl; have hfz19_0 := blk_frozen BK224.out 0; have hfz19_1 := blk_frozen BK224.out 1; have hfz19_2 := blk_frozen BK224.out 2; have hfz19_3 := blk_frozen BK224.out 3; have hfz19_4 := blk_frozen BK224.out 4; have hfz19_5 := blk_frozen BK224.out 5) | ((with_reducible refine gate_callee (f := 7) rfl ?_); refine gL (some 21) Tryz.func7 #[.agg #[.int .i64 a0_0, .int .i64 a0_1, .int .i64 a0_2, .int .i64 a0_3, .slice A0_4 l0_4.length c0_4, .slice A0_5 l0_5.length c0_5]] ?_; (with_reducible refine (guess_Relations.calls k a0_0 a0_1 a0_2 a0_3 _ _ l0_4 _ _ l0_5 t231 t234 _ ?side1 ?side2 ?side3 ?side4 ?side5 A11.out).mono ?_); (case side1 => first | exact HG.out | exact Glob.below HG.out bel); (case side2 => exact cS (Kd.C_below HR0_4.out HB.out)); (case side3 => exact HC0_4.out); (case side4 => exact cS (Kd.C_below HR0_5.out HB.out)); (case side5 => exact HC0_5.out); rintro e w20 ⟨v232, rfl, ho0, hb⟩; refine ⟨_, rfl, ?_⟩; have HO233 := Aside0.mk (Kd.R_lower (Kd.R_new' ho0 (Kd.R_lt (tw HO230.out))) (below_size bel)); replace HO230 := rE HO230 (Kd.R_base ho0) hb; replace BK224 := blB BK224 hb; replace HB := Aside0.mk (below_step bel hb); (try clear hb); (try clear hb2); (try clear hk); (try clear hi); (try clear ho0); have hcz21_0 : w20.cell? ⟨gb224, 0, none⟩ = some (.int .i64 a0_0) := (blk_cell BK224.out 0).trans rfl; have hcz21_1 : w20.cell? ⟨gb224, 1, none⟩ = some (.int .i64 a0_1) := (blk_cell BK224.out 1).trans rfl; have hcz21_2 : w20.cell? ⟨gb224, 2, none⟩ = some (.int .i64 a0_2) := (blk_cell BK224.out 2).trans rfl; have hcz21_3 : w20.cell? ⟨gb224, 3, none⟩ = some (.int .i64 a0_3) := (blk_cell BK224.out 3).trans rfl; have hcz21_4 : w20.cell? ⟨gb224, 4, none⟩ = some (.slice A0_4 l0_4.length c0_4) := (blk_cell BK224.out 4).trans rfl; have hcz21_5 : w20.cell? ⟨gb224, 5, none⟩ = some (.slice A0_5 l0_5.length c0_5) := (blk_cell BK224.out 5).trans rfl; have hfz21_0 := blk_frozen BK224.out 0; have hfz21_1 := blk_frozen BK224.out 1; have hfz21_2 := blk_frozen BK224.out 2; have hfz21_3 := blk_frozen BK224.out 3; have hfz21_4 := blk_frozen BK224.out 4; have hfz21_5 := blk_frozen BK224.out 5) | ((with_reducible refine gate_callee (f := 8) rfl ?_); refine gL (some 27) Tryz.func8 #[.agg #[.int .i64 a0_0, .int .i64 a0_1, .int .i64 a0_2, .int .i64 a0_3, .slice A0_4 l0_4.length c0_4, .slice A0_5 l0_5.length c0_5], .int .i64 a1] ?_; (with_reducible refine (guess_Guesses.calls k a0_0 a0_1 a0_2 a0_3 _ _ l0_4 _ _ l0_5 a1 t235 t236 _ ?side1 ?side2 ?side3 ?side4 A12.out).mono ?_); (case side1 => exact cS (Kd.C_below HR0_4.out HB.out)); (case side2 => exact HC0_4.out); (case side3 => exact cS (Kd.C_below HR0_5.out HB.out)); (case side4 => exact HC0_5.out); rintro e w22 ⟨rfl, hb⟩; refine ⟨_, rfl, ?_⟩; replace HO230 := rD HO230 hb; replace HO233 := rD HO233 hb; replace BK224 := blB BK224 hb; replace HB := Aside0.mk (below_step bel hb); (try clear hb); (try clear hb2); (try clear hk); (try clear hi)))
  (try simp only [Act.put, List.setIfInBounds_toArray, List.set_cons_zero, List.set_cons_succ])
  go_cut [38] (fun v38 wc => ∃ (kq : Nat) (x38_12 : Bool), v38 = .bool x38_12 ∧ Aside0 (paraphrastlaw18_GuessRelations.j0 kq a1 t227 t235 t236 x38_12 a0_0 a0_1 a0_2 a0_3 l0_4 l0_5 = some r) ∧ Aside0 (kq ≤ k) ∧ Aside0 (wc.heap[gb224]? = some (.cells #[.int .i64 a0_0, .int .i64 a0_1, .int .i64 a0_2, .int .i64 a0_3, (.slice A0_4 l0_4.length c0_4), (.slice A0_5 l0_5.length c0_5)] 25 (0, 0))) ∧ Aside0 (Below w.heap.size w wc))
  case first =>
   have H := HC13.out
   clear HC13
   by_cases c23 : t234 = t227
   ·rw [if_pos c23] at H
    have c23b0 : (t234 == t227) = true := beq_iff_eq.mpr c23
    have c23b1 : (t234 != t227) = false := bne_eq_false_iff_eq.mpr c23
    clear c23
    (first | rw [c23b0] | (simp only [i64_w, i32_w]; rw [c23b0]) | skip)
    replace H := Option.bind_eq_some_iff.mp H
    obtain ⟨t237, A240, H⟩ := H
    replace H : (paraphrastlaw18_GuessRelations.j0 k a1 t227 t235 t236 (!t237) a0_0 a0_1 a0_2 a0_3 l0_4 l0_5) = some r := H
    have A24 := Aside0.mk A240
    clear A240
    have H' := Aside0.mk H
    clear H
    obtain ⟨Ao25, co25, eo25⟩ := Kd.R_slice HO233.out
    subst eo25
    obtain ⟨Ao26, co26, eo26⟩ := Kd.R_slice HO230.out
    subst eo26
    go_wp2_with (first | (go_at_call 9; (with_reducible refine (paraphrastref12_SameSymbols.calls k _ _ t231 _ _ t228 t237 _ ?side1 ?side2 ?side3 ?side4 A24.out).mono ?_); (case side1 => exact cS (Kd.R_reads' HO233.out).2.2); (case side2 => exact (Kd.R_reads' HO233.out).2.1); (case side3 => exact cS (Kd.R_reads' HO230.out).2.2); (case side4 => exact (Kd.R_reads' HO230.out).2.1); rintro e w' ⟨rfl, ⟨nd, rfl⟩⟩))
    go_meet
    case rel => exact ⟨_, (!t237), eS, H', ⟨kle⟩, ⟨bk BK224⟩, ⟨bel⟩⟩
   ·rw [if_neg c23] at H
    have c23b0 : (t234 == t227) = false := beq_eq_false_iff_ne.mpr c23
    have c23b1 : (t234 != t227) = true := bne_iff_ne.mpr c23
    (first | rw [c23b0] | (simp only [i64_w, i32_w]; rw [c23b0]) | skip)
    have H' := Aside0.mk H
    clear H
    go_wp2
    go_meet
    case rel => exact ⟨_, (true), eS, H', ⟨kle⟩, ⟨bk BK224⟩, ⟨bel⟩⟩
  case rest =>
   clear HC13
   (try clear c4); (try clear hcz15_0); (try clear hcz15_1); (try clear hcz15_2); (try clear hcz15_3); (try clear hcz15_4); (try clear hcz15_5); (try clear hcz17_0); (try clear hcz17_1); (try clear hcz17_2); (try clear hcz17_3); (try clear hcz17_4); (try clear hcz17_5); (try clear hcz19_0); (try clear hcz19_1); (try clear hcz19_2); (try clear hcz19_3); (try clear hcz19_4); (try clear hcz19_5); (try clear hcz21_0); (try clear hcz21_1); (try clear hcz21_2); (try clear hcz21_3); (try clear hcz21_4); (try clear hcz21_5); (try clear hfz15_0); (try clear hfz15_1); (try clear hfz15_2); (try clear hfz15_3); (try clear hfz15_4); (try clear hfz15_5); (try clear hfz17_0); (try clear hfz17_1); (try clear hfz17_2); (try clear hfz17_3); (try clear hfz17_4); (try clear hfz17_5); (try clear hfz19_0); (try clear hfz19_1); (try clear hfz19_2); (try clear hfz19_3); (try clear hfz19_4); (try clear hfz19_5); (try clear hfz21_0); (try clear hfz21_1); (try clear hfz21_2); (try clear hfz21_3); (try clear hfz21_4); (try clear hfz21_5)
   obtain ⟨kq, x38_12, rfl, HA, HJ12, BK224, HB⟩ := hcut
   cases kq with
   | zero => exact absurd HA.out (by simp [paraphrastlaw18_GuessRelations.j0])
   | succ kj12 =>
    have H := HA.out
    clear HA
    simp only [paraphrastlaw18_GuessRelations.j0] at H
    by_cases c27 : x38_12 = true
    ·subst c27
     have H1 : (some false) = some r := by rw [if_pos rfl] at H; exact H
     clear H
     have H := H1
     clear H1
     obtain rfl := Option.some.inj H
     go_wp2
     go_ret
     exact ⟨eN, bel⟩
    ·replace c27 := Bool.eq_false_iff.mpr c27
     subst c27
     have H1 : (if t227 = 1 then (if t236 = 1 then (if t235 = 0 then ((paraphrastlaw18_Awake.f kj12).bind fun t238 => (some t238)) else (some false)) else (some false)) else (if a1 < 1 then (paraphrastlaw18_GuessRelations.j1 kj12 a1 t235 t236 true a0_0 a0_1 a0_2 a0_3 l0_4 l0_5) else (paraphrastlaw18_GuessRelations.j1 kj12 a1 t235 t236 (decide (a1 > 64)) a0_0 a0_1 a0_2 a0_3 l0_4 l0_5))) = some r := by rw [if_neg (show ¬ (false = true) by decide)] at H; exact H
     clear H
     have H := H1
     clear H1
     by_cases c28 : t227 = 1
     ·rw [if_pos c28] at H
      have c28b0 : (t227 == 1) = true := beq_iff_eq.mpr c28
      have c28b1 : (t227 != 1) = false := bne_eq_false_iff_eq.mpr c28
      clear c28
      by_cases c29 : t236 = 1
      ·rw [if_pos c29] at H
       have c29b0 : (t236 == 1) = true := beq_iff_eq.mpr c29
       have c29b1 : (t236 != 1) = false := bne_eq_false_iff_eq.mpr c29
       clear c29
       by_cases c30 : t235 = 0
       ·rw [if_pos c30] at H
        have c30b0 : (t235 == 0) = true := beq_iff_eq.mpr c30
        have c30b1 : (t235 != 0) = false := bne_eq_false_iff_eq.mpr c30
        clear c30
        replace H := Option.bind_eq_some_iff.mp H
        obtain ⟨t238, A310, H⟩ := H
        replace H : (some t238) = some r := H
        have A31 := Aside0.mk A310
        clear A310
        obtain rfl := Option.some.inj H
        go_wp2_with (first | (go_at_call 5; (with_reducible refine (paraphrastlaw18_Awake.calls kj12  t238 _ ?side1 A31.out).mono ?_); (case side1 => first | exact HG.out | exact Glob.below HG.out bel); rintro e w32 ⟨rfl, hb⟩; replace BK224 := blB BK224 hb; replace HB := Aside0.mk (below_step bel hb); (try clear hb); (try clear hb2); (try clear hk); (try clear hi)))
        go_ret
        exact ⟨eN, bel⟩
       ·rw [if_neg c30] at H
        have c30b0 : (t235 == 0) = false := beq_eq_false_iff_ne.mpr c30
        have c30b1 : (t235 != 0) = true := bne_iff_ne.mpr c30
        obtain rfl := Option.some.inj H
        go_wp2
        go_ret
        exact ⟨eN, bel⟩
      ·rw [if_neg c29] at H
       have c29b0 : (t236 == 1) = false := beq_eq_false_iff_ne.mpr c29
       have c29b1 : (t236 != 1) = true := bne_iff_ne.mpr c29
       obtain rfl := Option.some.inj H
       go_wp2
       go_ret
       exact ⟨eN, bel⟩
     ·rw [if_neg c28] at H
      have c28b0 : (t227 == 1) = false := beq_eq_false_iff_ne.mpr c28
      have c28b1 : (t227 != 1) = true := bne_iff_ne.mpr c28
      have HC33 := Aside0.mk H
      clear H
      go_upto_region 10 with (fail)
      go_cut [51] (fun v51 wc => ∃ (kq : Nat) (x51_32 : Bool), v51 = .bool x51_32 ∧ Aside0 (paraphrastlaw18_GuessRelations.j1 kq a1 t235 t236 x51_32 a0_0 a0_1 a0_2 a0_3 l0_4 l0_5 = some r) ∧ Aside0 (kq ≤ kj12) ∧ Aside0 (wc.heap[gb224]? = some (.cells #[.int .i64 a0_0, .int .i64 a0_1, .int .i64 a0_2, .int .i64 a0_3, (.slice A0_4 l0_4.length c0_4), (.slice A0_5 l0_5.length c0_5)] 25 (0, 0))) ∧ Aside0 (Below w.heap.size w wc))
      case first =>
       have H := HC33.out
       clear HC33
       by_cases c34 : a1 < 1
       ·rw [if_pos c34] at H
        have c34b0 : decide (a1 < 1) = true := decide_eq_true c34
        clear c34
        (first | rw [c34b0] | (simp only [i64_w, i32_w]; rw [c34b0]) | skip)
        have H' := Aside0.mk H
        clear H
        go_wp2
        go_meet
        case rel => exact ⟨_, (true), eS, H', ⟨by have := HJ12.out; first | omega | exact Nat.le_refl _⟩, ⟨bk BK224⟩, ⟨bel⟩⟩
       ·rw [if_neg c34] at H
        have c34b0 : decide (a1 < 1) = false := decide_eq_false c34
        clear c34
        (first | rw [c34b0] | (simp only [i64_w, i32_w]; rw [c34b0]) | skip)
        have H' := Aside0.mk H
        clear H
        go_wp2
        go_meet
        case rel => exact ⟨_, (decide (a1 > 64)), eS, H', ⟨by have := HJ12.out; first | omega | exact Nat.le_refl _⟩, ⟨bk BK224⟩, ⟨bel⟩⟩
      case rest =>
       clear HC33
       (try clear c4); (try clear c27); (try clear c28); (try clear c28b0); (try clear c28b1); (try clear hcz15_0); (try clear hcz15_1); (try clear hcz15_2); (try clear hcz15_3); (try clear hcz15_4); (try clear hcz15_5); (try clear hcz17_0); (try clear hcz17_1); (try clear hcz17_2); (try clear hcz17_3); (try clear hcz17_4); (try clear hcz17_5); (try clear hcz19_0); (try clear hcz19_1); (try clear hcz19_2); (try clear hcz19_3); (try clear hcz19_4); (try clear hcz19_5); (try clear hcz21_0); (try clear hcz21_1); (try clear hcz21_2); (try clear hcz21_3); (try clear hcz21_4); (try clear hcz21_5); (try clear hfz15_0); (try clear hfz15_1); (try clear hfz15_2); (try clear hfz15_3); (try clear hfz15_4); (try clear hfz15_5); (try clear hfz17_0); (try clear hfz17_1); (try clear hfz17_2); (try clear hfz17_3); (try clear hfz17_4); (try clear hfz17_5); (try clear hfz19_0); (try clear hfz19_1); (try clear hfz19_2); (try clear hfz19_3); (try clear hfz19_4); (try clear hfz19_5); (try clear hfz21_0); (try clear hfz21_1); (try clear hfz21_2); (try clear hfz21_3); (try clear hfz21_4); (try clear hfz21_5)
       obtain ⟨kq, x51_32, rfl, HA, HJ32, BK224, HB⟩ := hcut
       cases kq with
       | zero => exact absurd HA.out (by simp [paraphrastlaw18_GuessRelations.j1])
       | succ kj32 =>
        have H := HA.out
        clear HA
        simp only [paraphrastlaw18_GuessRelations.j1] at H
        by_cases c35 : x51_32 = true
        ·subst c35
         have H1 : (if t236 = 2 then (if t235 = 0 then ((paraphrastlaw18_Awake.f kj32).bind fun t239 => (some t239)) else (some false)) else (some false)) = some r := by rw [if_pos rfl] at H; exact H
         clear H
         have H := H1
         clear H1
         by_cases c36 : t236 = 2
         ·rw [if_pos c36] at H
          have c36b0 : (t236 == 2) = true := beq_iff_eq.mpr c36
          have c36b1 : (t236 != 2) = false := bne_eq_false_iff_eq.mpr c36
          clear c36
          by_cases c37 : t235 = 0
          ·rw [if_pos c37] at H
           have c37b0 : (t235 == 0) = true := beq_iff_eq.mpr c37
           have c37b1 : (t235 != 0) = false := bne_eq_false_iff_eq.mpr c37
           clear c37
           replace H := Option.bind_eq_some_iff.mp H
           obtain ⟨t239, A380, H⟩ := H
           replace H : (some t239) = some r := H
           have A38 := Aside0.mk A380
           clear A380
           obtain rfl := Option.some.inj H
           go_wp2_with (first | (go_at_call 5; (with_reducible refine (paraphrastlaw18_Awake.calls kj32  t239 _ ?side1 A38.out).mono ?_); (case side1 => first | exact HG.out | exact Glob.below HG.out bel); rintro e w39 ⟨rfl, hb⟩; replace BK224 := blB BK224 hb; replace HB := Aside0.mk (below_step bel hb); (try clear hb); (try clear hb2); (try clear hk); (try clear hi)))
           go_ret
           exact ⟨eN, bel⟩
          ·rw [if_neg c37] at H
           have c37b0 : (t235 == 0) = false := beq_eq_false_iff_ne.mpr c37
           have c37b1 : (t235 != 0) = true := bne_iff_ne.mpr c37
           obtain rfl := Option.some.inj H
           go_wp2
           go_ret
           exact ⟨eN, bel⟩
         ·rw [if_neg c36] at H
          have c36b0 : (t236 == 2) = false := beq_eq_false_iff_ne.mpr c36
          have c36b1 : (t236 != 2) = true := bne_iff_ne.mpr c36
          obtain rfl := Option.some.inj H
          go_wp2
          go_ret
          exact ⟨eN, bel⟩
        ·replace c35 := Bool.eq_false_iff.mpr c35
         subst c35
         have H1 : ((paraphrastref01_Pow.f kj32 a1 a0_2).bind fun t240 => (if t240 > 4096 then (paraphrastlaw18_GuessRelations.j2 kj32 a1 t235 t236 true a0_0 a0_1 a0_2 a0_3 l0_4 l0_5) else ((paraphrastref01_Pow.f kj32 a1 a0_3).bind fun t241 => (paraphrastlaw18_GuessRelations.j2 kj32 a1 t235 t236 (decide (t241 > 4096)) a0_0 a0_1 a0_2 a0_3 l0_4 l0_5)))) = some r := by rw [if_neg (show ¬ (false = true) by decide)] at H; exact H
         clear H
         have H := H1
         clear H1
         have HC40 := Aside0.mk H
         clear H
         go_upto_region 12 with (fail)
         go_cut [67] (fun v67 wc => ∃ (kq : Nat) (x67_39 : Bool), v67 = .bool x67_39 ∧ Aside0 (paraphrastlaw18_GuessRelations.j2 kq a1 t235 t236 x67_39 a0_0 a0_1 a0_2 a0_3 l0_4 l0_5 = some r) ∧ Aside0 (kq ≤ kj32) ∧ Aside0 (wc.heap[gb224]? = some (.cells #[.int .i64 a0_0, .int .i64 a0_1, .int .i64 a0_2, .int .i64 a0_3, (.slice A0_4 l0_4.length c0_4), (.slice A0_5 l0_5.length c0_5)] 25 (0, 0))) ∧ Aside0 (Below w.heap.size w wc))
         case first =>
          have H := HC40.out
          clear HC40
          replace H := Option.bind_eq_some_iff.mp H
          obtain ⟨t240, A410, H⟩ := H
          replace H : (if t240 > 4096 then (paraphrastlaw18_GuessRelations.j2 kj32 a1 t235 t236 true a0_0 a0_1 a0_2 a0_3 l0_4 l0_5) else ((paraphrastref01_Pow.f kj32 a1 a0_3).bind fun t241 => (paraphrastlaw18_GuessRelations.j2 kj32 a1 t235 t236 (decide (t241 > 4096)) a0_0 a0_1 a0_2 a0_3 l0_4 l0_5))) = some r := H
          have A41 := Aside0.mk A410
          clear A410
          by_cases c42 : t240 > 4096
          ·rw [if_pos c42] at H
           have c42b0 : decide (4096 < t240) = true := decide_eq_true c42
           clear c42
           (first | rw [c42b0] | (simp only [i64_w, i32_w]; rw [c42b0]) | skip)
           have H' := Aside0.mk H
           clear H
           have hcz43_0 : wc.cell? ⟨gb224, 0, none⟩ = some (.int .i64 a0_0) := (blk_cell BK224.out 0).trans rfl
           have hcz43_1 : wc.cell? ⟨gb224, 1, none⟩ = some (.int .i64 a0_1) := (blk_cell BK224.out 1).trans rfl
           have hcz43_2 : wc.cell? ⟨gb224, 2, none⟩ = some (.int .i64 a0_2) := (blk_cell BK224.out 2).trans rfl
           have hcz43_3 : wc.cell? ⟨gb224, 3, none⟩ = some (.int .i64 a0_3) := (blk_cell BK224.out 3).trans rfl
           have hcz43_4 : wc.cell? ⟨gb224, 4, none⟩ = some (.slice A0_4 l0_4.length c0_4) := (blk_cell BK224.out 4).trans rfl
           have hcz43_5 : wc.cell? ⟨gb224, 5, none⟩ = some (.slice A0_5 l0_5.length c0_5) := (blk_cell BK224.out 5).trans rfl
           have hfz43_0 := blk_frozen BK224.out 0
           have hfz43_1 := blk_frozen BK224.out 1
           have hfz43_2 := blk_frozen BK224.out 2
           have hfz43_3 := blk_frozen BK224.out 3
           have hfz43_4 := blk_frozen BK224.out 4
           have hfz43_5 := blk_frozen BK224.out 5
           go_wp2_with (first | ((with_reducible refine gate_callee (f := 10) rfl ?_); refine gL (some 71) Tryz.func10 #[.int .i64 a1, .int .i64 a0_2] ?_; (with_reducible refine (paraphrastref01_Pow.calls kj32 a1 a0_2 t240 _ A41.out).mono ?_); rintro e w' ⟨rfl, ⟨nd, rfl⟩⟩; refine ⟨_, rfl, ?_⟩))
           go_meet
           case rel => exact ⟨_, (true), eS, H', ⟨by have := HJ12.out; have := HJ32.out; first | omega | exact Nat.le_refl _⟩, ⟨bk BK224⟩, ⟨bel⟩⟩
          ·rw [if_neg c42] at H
           have c42b0 : decide (4096 < t240) = false := decide_eq_false c42
           clear c42
           (first | rw [c42b0] | (simp only [i64_w, i32_w]; rw [c42b0]) | skip)
           replace H := Option.bind_eq_some_iff.mp H
           obtain ⟨t241, A440, H⟩ := H
           replace H : (paraphrastlaw18_GuessRelations.j2 kj32 a1 t235 t236 (decide (t241 > 4096)) a0_0 a0_1 a0_2 a0_3 l0_4 l0_5) = some r := H
           have A44 := Aside0.mk A440
           clear A440
           have H' := Aside0.mk H
           clear H
           have hcz45_0 : wc.cell? ⟨gb224, 0, none⟩ = some (.int .i64 a0_0) := (blk_cell BK224.out 0).trans rfl
           have hcz45_1 : wc.cell? ⟨gb224, 1, none⟩ = some (.int .i64 a0_1) := (blk_cell BK224.out 1).trans rfl
           have hcz45_2 : wc.cell? ⟨gb224, 2, none⟩ = some (.int .i64 a0_2) := (blk_cell BK224.out 2).trans rfl
           have hcz45_3 : wc.cell? ⟨gb224, 3, none⟩ = some (.int .i64 a0_3) := (blk_cell BK224.out 3).trans rfl
           have hcz45_4 : wc.cell? ⟨gb224, 4, none⟩ = some (.slice A0_4 l0_4.length c0_4) := (blk_cell BK224.out 4).trans rfl
           have hcz45_5 : wc.cell? ⟨gb224, 5, none⟩ = some (.slice A0_5 l0_5.length c0_5) := (blk_cell BK224.out 5).trans rfl
           have hfz45_0 := blk_frozen BK224.out 0
           have hfz45_1 := blk_frozen BK224.out 1
           have hfz45_2 := blk_frozen BK224.out 2
           have hfz45_3 := blk_frozen BK224.out 3
           have hfz45_4 := blk_frozen BK224.out 4
           have hfz45_5 := blk_frozen BK224.out 5
           go_wp2_with (first | ((with_reducible refine gate_callee (f := 10) rfl ?_); refine gL (some 71) Tryz.func10 #[.int .i64 a1, .int .i64 a0_2] ?_; (with_reducible refine (paraphrastref01_Pow.calls kj32 a1 a0_2 t240 _ A41.out).mono ?_); rintro e w' ⟨rfl, ⟨nd, rfl⟩⟩; refine ⟨_, rfl, ?_⟩) | (go_at_call 10; (with_reducible refine (paraphrastref01_Pow.calls kj32 a1 a0_3 t241 _ A44.out).mono ?_); rintro e w' ⟨rfl, ⟨nd, rfl⟩⟩))
           go_meet
           case rel => exact ⟨_, (decide (t241 > 4096)), eS, H', ⟨by have := HJ12.out; have := HJ32.out; first | omega | exact Nat.le_refl _⟩, ⟨bk BK224⟩, ⟨bel⟩⟩
         case rest =>
          clear HC40
          (try clear c4); (try clear c27); (try clear c28); (try clear c28b0); (try clear c28b1); (try clear c35); (try clear hcz15_0); (try clear hcz15_1); (try clear hcz15_2); (try clear hcz15_3); (try clear hcz15_4); (try clear hcz15_5); (try clear hcz17_0); (try clear hcz17_1); (try clear hcz17_2); (try clear hcz17_3); (try clear hcz17_4); (try clear hcz17_5); (try clear hcz19_0); (try clear hcz19_1); (try clear hcz19_2); (try clear hcz19_3); (try clear hcz19_4); (try clear hcz19_5); (try clear hcz21_0); (try clear hcz21_1); (try clear hcz21_2); (try clear hcz21_3); (try clear hcz21_4); (try clear hcz21_5); (try clear hfz15_0); (try clear hfz15_1); (try clear hfz15_2); (try clear hfz15_3); (try clear hfz15_4); (try clear hfz15_5); (try clear hfz17_0); (try clear hfz17_1); (try clear hfz17_2); (try clear hfz17_3); (try clear hfz17_4); (try clear hfz17_5); (try clear hfz19_0); (try clear hfz19_1); (try clear hfz19_2); (try clear hfz19_3); (try clear hfz19_4); (try clear hfz19_5); (try clear hfz21_0); (try clear hfz21_1); (try clear hfz21_2); (try clear hfz21_3); (try clear hfz21_4); (try clear hfz21_5)
          obtain ⟨kq, x67_39, rfl, HA, HJ39, BK224, HB⟩ := hcut
          cases kq with
          | zero => exact absurd HA.out (by simp [paraphrastlaw18_GuessRelations.j2])
          | succ kj39 =>
           have H := HA.out
           clear HA
           simp only [paraphrastlaw18_GuessRelations.j2] at H
           by_cases c46 : x67_39 = true
           ·subst c46
            have H1 : (if t236 = 5 then (if t235 = 0 then ((paraphrastlaw18_Awake.f kj39).bind fun t242 => (some t242)) else (some false)) else (some false)) = some r := by rw [if_pos rfl] at H; exact H
            clear H
            have H := H1
            clear H1
            by_cases c47 : t236 = 5
            ·rw [if_pos c47] at H
             have c47b0 : (t236 == 5) = true := beq_iff_eq.mpr c47
             have c47b1 : (t236 != 5) = false := bne_eq_false_iff_eq.mpr c47
             clear c47
             by_cases c48 : t235 = 0
             ·rw [if_pos c48] at H
              have c48b0 : (t235 == 0) = true := beq_iff_eq.mpr c48
              have c48b1 : (t235 != 0) = false := bne_eq_false_iff_eq.mpr c48
              clear c48
              replace H := Option.bind_eq_some_iff.mp H
              obtain ⟨t242, A490, H⟩ := H
              replace H : (some t242) = some r := H
              have A49 := Aside0.mk A490
              clear A490
              obtain rfl := Option.some.inj H
              go_wp2_with (first | (go_at_call 5; (with_reducible refine (paraphrastlaw18_Awake.calls kj39  t242 _ ?side1 A49.out).mono ?_); (case side1 => first | exact HG.out | exact Glob.below HG.out bel); rintro e w50 ⟨rfl, hb⟩; replace BK224 := blB BK224 hb; replace HB := Aside0.mk (below_step bel hb); (try clear hb); (try clear hb2); (try clear hk); (try clear hi)))
              go_ret
              exact ⟨eN, bel⟩
             ·rw [if_neg c48] at H
              have c48b0 : (t235 == 0) = false := beq_eq_false_iff_ne.mpr c48
              have c48b1 : (t235 != 0) = true := bne_iff_ne.mpr c48
              obtain rfl := Option.some.inj H
              go_wp2
              go_ret
              exact ⟨eN, bel⟩
            ·rw [if_neg c47] at H
             have c47b0 : (t236 == 5) = false := beq_eq_false_iff_ne.mpr c47
             have c47b1 : (t236 != 5) = true := bne_iff_ne.mpr c47
             obtain rfl := Option.some.inj H
             go_wp2
             go_ret
             exact ⟨eN, bel⟩
           ·replace c46 := Bool.eq_false_iff.mpr c46
            subst c46
            have H1 : (if t236 = 0 then ((paraphrastref18_Guesses.f kj39 a0_0 a0_1 a0_2 a0_3 l0_4 l0_5 a1).bind fun t243 => (if t235 = t243 then ((paraphrastlaw18_Awake.f kj39).bind fun t244 => (some t244)) else (some false))) else (some false)) = some r := by rw [if_neg (show ¬ (false = true) by decide)] at H; exact H
            clear H
            have H := H1
            clear H1
            by_cases c51 : t236 = 0
            ·rw [if_pos c51] at H
             have c51b0 : (t236 == 0) = true := beq_iff_eq.mpr c51
             have c51b1 : (t236 != 0) = false := bne_eq_false_iff_eq.mpr c51
             clear c51
             replace H := Option.bind_eq_some_iff.mp H
             obtain ⟨t243, A520, H⟩ := H
             replace H : (if t235 = t243 then ((paraphrastlaw18_Awake.f kj39).bind fun t244 => (some t244)) else (some false)) = some r := H
             have A52 := Aside0.mk A520
             clear A520
             by_cases c53 : t235 = t243
             ·rw [if_pos c53] at H
              have c53b0 : (t235 == t243) = true := beq_iff_eq.mpr c53
              have c53b1 : (t235 != t243) = false := bne_eq_false_iff_eq.mpr c53
              clear c53
              replace H := Option.bind_eq_some_iff.mp H
              obtain ⟨t244, A540, H⟩ := H
              replace H : (some t244) = some r := H
              have A54 := Aside0.mk A540
              clear A540
              obtain rfl := Option.some.inj H
              have hcz55_0 : wc.cell? ⟨gb224, 0, none⟩ = some (.int .i64 a0_0) := (blk_cell BK224.out 0).trans rfl
              have hcz55_1 : wc.cell? ⟨gb224, 1, none⟩ = some (.int .i64 a0_1) := (blk_cell BK224.out 1).trans rfl
              have hcz55_2 : wc.cell? ⟨gb224, 2, none⟩ = some (.int .i64 a0_2) := (blk_cell BK224.out 2).trans rfl
              have hcz55_3 : wc.cell? ⟨gb224, 3, none⟩ = some (.int .i64 a0_3) := (blk_cell BK224.out 3).trans rfl
              have hcz55_4 : wc.cell? ⟨gb224, 4, none⟩ = some (.slice A0_4 l0_4.length c0_4) := (blk_cell BK224.out 4).trans rfl
              have hcz55_5 : wc.cell? ⟨gb224, 5, none⟩ = some (.slice A0_5 l0_5.length c0_5) := (blk_cell BK224.out 5).trans rfl
              have hfz55_0 := blk_frozen BK224.out 0
              have hfz55_1 := blk_frozen BK224.out 1
              have hfz55_2 := blk_frozen BK224.out 2
              have hfz55_3 := blk_frozen BK224.out 3
              have hfz55_4 := blk_frozen BK224.out 4
              have hfz55_5 := blk_frozen BK224.out 5
              go_wp2_with (first | (go_at_call 11; (with_reducible refine (paraphrastref18_Guesses.calls kj39 a0_0 a0_1 a0_2 a0_3 _ _ l0_4 _ _ l0_5 a1 t243 _ ?side1 ?side2 ?side3 ?side4 A52.out).mono ?_); (case side1 => exact cS (Kd.C_below HR0_4.out HB.out)); (case side2 => exact HC0_4.out); (case side3 => exact cS (Kd.C_below HR0_5.out HB.out)); (case side4 => exact HC0_5.out); rintro e w56 ⟨rfl, hb⟩; replace BK224 := blB BK224 hb; replace HB := Aside0.mk (below_step bel hb); (try clear hb); (try clear hb2); (try clear hk); (try clear hi)) | (go_at_call 5; (with_reducible refine (paraphrastlaw18_Awake.calls kj39  t244 _ ?side1 A54.out).mono ?_); (case side1 => first | exact HG.out | exact Glob.below HG.out bel); rintro e w57 ⟨rfl, hb⟩; replace BK224 := blB BK224 hb; replace HB := Aside0.mk (below_step bel hb); (try clear hb); (try clear hb2); (try clear hk); (try clear hi)))
              go_ret
              exact ⟨eN, bel⟩
             ·rw [if_neg c53] at H
              have c53b0 : (t235 == t243) = false := beq_eq_false_iff_ne.mpr c53
              have c53b1 : (t235 != t243) = true := bne_iff_ne.mpr c53
              obtain rfl := Option.some.inj H
              have hcz58_0 : wc.cell? ⟨gb224, 0, none⟩ = some (.int .i64 a0_0) := (blk_cell BK224.out 0).trans rfl
              have hcz58_1 : wc.cell? ⟨gb224, 1, none⟩ = some (.int .i64 a0_1) := (blk_cell BK224.out 1).trans rfl
              have hcz58_2 : wc.cell? ⟨gb224, 2, none⟩ = some (.int .i64 a0_2) := (blk_cell BK224.out 2).trans rfl
              have hcz58_3 : wc.cell? ⟨gb224, 3, none⟩ = some (.int .i64 a0_3) := (blk_cell BK224.out 3).trans rfl
              have hcz58_4 : wc.cell? ⟨gb224, 4, none⟩ = some (.slice A0_4 l0_4.length c0_4) := (blk_cell BK224.out 4).trans rfl
              have hcz58_5 : wc.cell? ⟨gb224, 5, none⟩ = some (.slice A0_5 l0_5.length c0_5) := (blk_cell BK224.out 5).trans rfl
              have hfz58_0 := blk_frozen BK224.out 0
              have hfz58_1 := blk_frozen BK224.out 1
              have hfz58_2 := blk_frozen BK224.out 2
              have hfz58_3 := blk_frozen BK224.out 3
              have hfz58_4 := blk_frozen BK224.out 4
              have hfz58_5 := blk_frozen BK224.out 5
              go_wp2_with (first | (go_at_call 11; (with_reducible refine (paraphrastref18_Guesses.calls kj39 a0_0 a0_1 a0_2 a0_3 _ _ l0_4 _ _ l0_5 a1 t243 _ ?side1 ?side2 ?side3 ?side4 A52.out).mono ?_); (case side1 => exact cS (Kd.C_below HR0_4.out HB.out)); (case side2 => exact HC0_4.out); (case side3 => exact cS (Kd.C_below HR0_5.out HB.out)); (case side4 => exact HC0_5.out); rintro e w59 ⟨rfl, hb⟩; replace BK224 := blB BK224 hb; replace HB := Aside0.mk (below_step bel hb); (try clear hb); (try clear hb2); (try clear hk); (try clear hi)))
              go_ret
              exact ⟨eN, bel⟩
            ·rw [if_neg c51] at H
             have c51b0 : (t236 == 0) = false := beq_eq_false_iff_ne.mpr c51
             have c51b1 : (t236 != 0) = true := bne_iff_ne.mpr c51
             obtain rfl := Option.some.inj H
             go_wp2
             go_ret
             exact ⟨eN, bel⟩
end Go.Proofs.YtailpfcbdopfeaaGreatDoor.F
/- GuessRelations, the plain law. -/
namespace Go.Proofs.YtailpfcbdopfeaaGreatDoor.F
open Go.RowKit Go.Proofs.YtailpfcbdopfeaaGreatDoorW.PrintWords Go.Proofs.YtailpfcbdopfeaaGreatDoorW.PrintLast Go.Proofs.YtailpfcbdopfeaaGreatDoorW.PrintMore
set_option linter.unusedVariables false
set_option linter.unusedSimpArgs false
def powB (n p : Int) : Int := (paraphrastref01_Pow.f 20 n p).getD 0
theorem pow_fin : ((List.range 65).all fun n => (List.range 4).all fun p => n == 0 || p == 0 || (decide (paraphrastref01_Pow.f 20 (n : Int) (p : Int) = some (powB (n : Int) (p : Int))) && decide (shape_Power.f 20 (n : Int) (p : Int) = some (if powB (n : Int) (p : Int) > 4096 then (0, 5) else (powB (n : Int) (p : Int), 0))))) = true := by kernel_rfl
theorem pow_eq {n p : Int} (hn : 1 ≤ n ∧ n ≤ 64) (hp : 1 ≤ p ∧ p ≤ 3) (k : Nat) (hk : 20 ≤ k) : paraphrastref01_Pow.f k n p = some (powB n p) ∧ shape_Power.f k n p = some (if powB n p > 4096 then (0, 5) else (powB n p, 0)) := by
  have h := List.all_eq_true.1 (List.all_eq_true.1 pow_fin n.toNat (by rw [List.mem_range]; omega)) p.toNat (by rw [List.mem_range]; omega)
  have e1 : ((n.toNat : Nat) : Int) = n := by omega
  have e2 : ((p.toNat : Nat) : Int) = p := by omega
  have z1 : (n.toNat == 0) = false := by simp; omega
  have z2 : (p.toNat == 0) = false := by simp; omega
  rw [e1, e2, z1, z2, Bool.false_or, Bool.false_or, Bool.and_eq_true] at h
  exact ⟨up_ (fun k => paraphrastref01_Pow.f k n p) (paraphrastref01_Pow.mono n p) hk (of_decide_eq_true h.1), up_ (fun k => shape_Power.f k n p) (shape_Power.mono n p) hk (of_decide_eq_true h.2)⟩
theorem pow_arg {n p : Int} (hn : n < 1 ∨ n > 64) (k : Nat) (hk : 20 ≤ k) : shape_Power.f k n p = some (0, 2) := by
  obtain ⟨k, rfl⟩ : ∃ k', k = k' + 1 := ⟨k - 1, by omega⟩
  have hj : shape_Power.j0 (k + 1) n p true = some (0, 2) := by
    unfold shape_Power.j0
    dsimp only
    rw [if_pos rfl]
  unfold shape_Power.f
  by_cases h : n < 1
  · rw [if_pos h, hj]
  · rw [if_neg h, if_pos (by omega), hj]
theorem number_eq (n0 n1 n2 n3 : Int) (ls : List S42) (ss : List S69) (hst : ∀ x ∈ ss, stepW x) (n p : Int) (k : Nat) : tape_number.f k n0 n1 n2 n3 ls ss n p = if TapeOk n0 n1 n2 n3 ls ss then (shape_Power.f k n p).bind (fun b => some (b.1, b.2)) else some (0, 1) := by
  unfold tape_number.f tape_Valid.f
  rw [if_pos hst, Option.bind_some]
  by_cases h : TapeOk n0 n1 n2 n3 ls ss
  · rw [decide_eq_true h, if_pos rfl, if_pos h]
  · rw [decide_eq_false h, if_neg (by simp), if_neg h]
theorem wide_some (n0 n1 n2 n3 : Int) (ls : List S42) (ss : List S69) : ∀ (d i k : Nat) (x : Int), i + d = 100 → d + 1 ≤ k → ∃ b, paraphrastlaw16_Wide.l0 k x (i : Int) n0 n1 n2 n3 ls ss = some b
  | 0, i, k + 1, x, h, hk => by
    unfold paraphrastlaw16_Wide.l0
    rw [if_neg (show ¬ (i : Int) < 100 by omega)]
    split <;> exact ⟨_, rfl⟩
  | d + 1, i, k + 1, x, h, hk => by
    unfold paraphrastlaw16_Wide.l0
    by_cases hi : (i : Int) < (ls.length : Int)
    · rw [if_pos hi, if_pos (by omega), if_pos (by omega), w1 (by omega)]
      exact wide_some n0 n1 n2 n3 ls ss d (i + 1) k _ (by omega) (by omega)
    · rw [if_neg hi]
      exact ⟨_, rfl⟩
theorem awake_up (k : Nat) (hk : 20 ≤ k) : paraphrastlaw18_Awake.f k = some true := up_ (fun k => paraphrastlaw18_Awake.f k) paraphrastlaw18_Awake.mono hk awake_eq
/-- GUESSRELATIONS, the plain law. -/
theorem guessRelations_law (n0 n1 n2 n3 : Int) (ls : List S42) (ss : List S69) (n : Int) (hst : ∀ x ∈ ss, stepW x) : ∃ k, paraphrastlaw18_GuessRelations.f k n0 n1 n2 n3 ls ss n = some true := by
  obtain ⟨k, hk⟩ : ∃ k, 13000000 ≤ k := ⟨13000000, Nat.le_refl _⟩
  obtain ⟨bw, hw⟩ := wide_some n0 n1 n2 n3 ls ss 100 0 (k + 1 + 1 + 1) (wrap64 ((ss.length : Int) + (ls.length : Int))) (by omega) (by omega)
  have hA := fun k hk => awake_up k hk
  refine ⟨k + 1 + 1 + 1, ?_⟩
  have hw' : paraphrastlaw16_Wide.f (k + 1 + 1 + 1) n0 n1 n2 n3 ls ss = some bw := hw
  unfold paraphrastlaw18_GuessRelations.f
  rw [hw', Option.bind_some]
  cases bw with
  | true => rw [if_pos rfl, hA _ (by omega)]; rfl
  | false =>
    have hG : guess_Relations.f (k + 1 + 1 + 1) n0 n1 n2 n3 ls ss = some (relsE n0 n1 n2 n3 ls ss) := if_pos hst
    rw [if_neg (by simp), code_eq n0 n1 n2 n3 ls ss _ (by omega), Option.bind_some, hG, Option.bind_some]
    have hj0 : ∀ (b : Int × Int), (if (relsE n0 n1 n2 n3 ls ss).2 = (relsE n0 n1 n2 n3 ls ss).2 then (paraphrastref12_SameSymbols.f (k + 1 + 1 + 1) (relsE n0 n1 n2 n3 ls ss).1 (relsE n0 n1 n2 n3 ls ss).1).bind (fun t => paraphrastlaw18_GuessRelations.j0 (k + 1 + 1 + 1) n (relsE n0 n1 n2 n3 ls ss).2 b.1 b.2 (!t) n0 n1 n2 n3 ls ss) else paraphrastlaw18_GuessRelations.j0 (k + 1 + 1 + 1) n (relsE n0 n1 n2 n3 ls ss).2 b.1 b.2 true n0 n1 n2 n3 ls ss) = paraphrastlaw18_GuessRelations.j0 (k + 1 + 1 + 1) n (relsE n0 n1 n2 n3 ls ss).2 b.1 b.2 false n0 n1 n2 n3 ls ss := fun b => by
      rw [if_pos rfl, sym_same _ (relsE_len n0 n1 n2 n3 ls ss) _ (by omega)]
      rfl
    suffices hs : ∃ b, guess_Guesses.f (k + 1 + 1 + 1) n0 n1 n2 n3 ls ss n = some b ∧ paraphrastlaw18_GuessRelations.j0 (k + 1 + 1 + 1) n (relsE n0 n1 n2 n3 ls ss).2 b.1 b.2 false n0 n1 n2 n3 ls ss = some true by
      obtain ⟨b, h1, h2⟩ := hs
      rw [h1, Option.bind_some]
      exact (hj0 b).trans h2
    by_cases hok : TapeOk n0 n1 n2 n3 ls ss
    · have b0 : 2 ≤ n0 ∧ n0 ≤ 400 := by simpa [wi] using hok.h0
      have b1 : 1 ≤ n1 ∧ n1 ≤ 16 := by simpa [wi] using hok.h1
      have b2 : 1 ≤ n2 ∧ n2 ≤ 3 := by simpa [wi] using hok.h2
      have b3 : 1 ≤ n3 ∧ n3 ≤ 3 := by simpa [wi] using hok.h3
      have he : ¬ (relsE n0 n1 n2 n3 ls ss).2 = 1 := by
        unfold relsE
        rw [if_pos hok]
        split <;> simp
      have hC : ∀ k, tape_Cells.f k n0 n1 n2 n3 ls ss n = shape_Power.f k n n2 := fun k => by
        unfold tape_Cells.f
        rw [number_eq n0 n1 n2 n3 ls ss hst n n2 k, if_pos hok]
        cases shape_Power.f k n n2 <;> rfl
      have hT : ∀ k, tape_Times.f k n0 n1 n2 n3 ls ss n = shape_Power.f k n n3 := fun k => by
        unfold tape_Times.f
        rw [number_eq n0 n1 n2 n3 ls ss hst n n3 k, if_pos hok]
        cases shape_Power.f k n n3 <;> rfl
      by_cases hn : n < 1 ∨ n > 64
      · refine ⟨(0, 2), ?_, ?_⟩
        · unfold guess_Guesses.f
          rw [hC, pow_arg hn _ (by omega)]
          rfl
        · have hj1 : paraphrastlaw18_GuessRelations.j1 (k + 1 + 1) n 0 2 true n0 n1 n2 n3 ls ss = some true := by
            unfold paraphrastlaw18_GuessRelations.j1
            dsimp only
            rw [if_pos rfl, if_pos rfl, if_pos rfl, hA _ (by omega)]
            rfl
          unfold paraphrastlaw18_GuessRelations.j0
          dsimp only
          rw [if_neg (by simp), if_neg he]
          by_cases h1 : n < 1
          · rw [if_pos h1]
            exact hj1
          · rw [if_neg h1, decide_eq_true (show n > 64 by omega)]
            exact hj1
      · have hp2 := fun k hk => pow_eq (n := n) (p := n2) (by omega) b2 k hk
        have hp3 := fun k hk => pow_eq (n := n) (p := n3) (by omega) b3 k hk
        have hj0' : ∀ (x y : Int), paraphrastlaw18_GuessRelations.j0 (k + 1 + 1 + 1) n (relsE n0 n1 n2 n3 ls ss).2 x y false n0 n1 n2 n3 ls ss = (if powB n n2 > 4096 then paraphrastlaw18_GuessRelations.j2 (k + 1) n x y true n0 n1 n2 n3 ls ss else paraphrastlaw18_GuessRelations.j2 (k + 1) n x y (decide (powB n n3 > 4096)) n0 n1 n2 n3 ls ss) := fun x y => by
          conv => lhs; unfold paraphrastlaw18_GuessRelations.j0
          dsimp only
          rw [if_neg (by simp), if_neg he, if_neg (by omega), decide_eq_false (by omega)]
          conv => lhs; unfold paraphrastlaw18_GuessRelations.j1
          dsimp only
          rw [if_neg (by simp), (hp2 _ (by omega)).1, Option.bind_some, (hp3 _ (by omega)).1, Option.bind_some]
        have hj2 : paraphrastlaw18_GuessRelations.j2 (k + 1) n 0 5 true n0 n1 n2 n3 ls ss = some true := by
          unfold paraphrastlaw18_GuessRelations.j2
          dsimp only
          rw [if_pos rfl, if_pos rfl, if_pos rfl, hA _ (by omega)]
          rfl
        by_cases h2 : powB n n2 > 4096
        · refine ⟨(0, 5), ?_, ?_⟩
          · unfold guess_Guesses.f
            rw [hC, (hp2 _ (by omega)).2, if_pos h2]
            rfl
          · rw [hj0', if_pos h2]
            exact hj2
        · by_cases h3 : powB n n3 > 4096
          · refine ⟨(0, 5), ?_, ?_⟩
            · unfold guess_Guesses.f
              rw [hC, (hp2 _ (by omega)).2, if_neg h2, Option.bind_some, if_pos rfl, hT, (hp3 _ (by omega)).2, if_pos h3]
              rfl
            · rw [hj0', if_neg h2, decide_eq_true h3]
              exact hj2
          · refine ⟨(wrap64 (wrap64 (wrap64 (wrap64 ((bitB n1 : Nat) + 1 : Int) * powB n n2) * powB n n3) + wrap64 ((bitB n0 : Nat) * powB n n3 : Int)), 0), ?_, ?_⟩
            · unfold guess_Guesses.f
              rw [hC, (hp2 _ (by omega)).2, if_neg h2, Option.bind_some, if_pos rfl, hT, (hp3 _ (by omega)).2, if_neg h3, Option.bind_some, if_pos rfl, up_ (fun k => logic_Bits.f k n1) (logic_Bits.mono n1) (show 20 ≤ k + 1 + 1 + 1 by omega) (bit_eq (by omega) (by omega)).1, Option.bind_some, up_ (fun k => logic_Bits.f k n0) (logic_Bits.mono n0) (show 20 ≤ k + 1 + 1 + 1 by omega) (bit_eq (by omega) (by omega)).1, Option.bind_some]
            · rw [hj0', if_neg h2, decide_eq_false h3]
              unfold paraphrastlaw18_GuessRelations.j2
              dsimp only
              rw [if_neg (by simp), if_pos rfl]
              unfold paraphrastref18_Guesses.f
              rw [(hp2 _ (by omega)).1, Option.bind_some, (hp3 _ (by omega)).1, Option.bind_some, up_ (fun k => paraphrastref13_Bits.f k n1) (paraphrastref13_Bits.mono n1) (show 20 ≤ k by omega) (bitr_eq (by omega) (by omega)), Option.bind_some, up_ (fun k => paraphrastref13_Bits.f k n0) (paraphrastref13_Bits.mono n0) (show 20 ≤ k by omega) (bitr_eq (by omega) (by omega)), Option.bind_some, Option.bind_some, if_pos rfl, hA _ (by omega)]
              rfl
    · have he : (relsE n0 n1 n2 n3 ls ss).2 = 1 := by
        unfold relsE
        rw [if_neg hok]
      refine ⟨(0, 1), ?_, ?_⟩
      · unfold guess_Guesses.f tape_Cells.f
        rw [number_eq n0 n1 n2 n3 ls ss hst n n2 _, if_neg hok]
        rfl
      · unfold paraphrastlaw18_GuessRelations.j0
        dsimp only
        rw [if_neg (by simp), if_pos he, if_pos rfl, if_pos rfl, hA _ (by omega)]
        rfl
end Go.Proofs.YtailpfcbdopfeaaGreatDoor.F
/- GuessRelations: the row and its card. -/
namespace Go.Proofs.YtailpfcbdopfeaaGreatDoor.F
open Go.RowKit Go.WideShapes Go.ChangeShapes Go.ChangeAt Go.Proofs.YtailpfcbdopfeaaGreatDoorW.PrintWords Go.Proofs.YtailpfcbdopfeaaGreatDoorW.PrintLast Go.Proofs.YtailpfcbdopfeaaGreatDoorW.PrintMore
open Go.ChangeMaps (open_string shut_string)
set_option linter.unusedVariables false
set_option linter.unusedSimpArgs false
set_option maxHeartbeats 1000000 in
set_option maxRecDepth 100000 in
theorem guessRelations_lifted (os : Os) (started : os.Started) (H : Type) (enc : TypeId × Value → H) :
    ReturnsInHanded {} Tryz.checked os 3 .any (fun w args => (Rows.guessRelationsSpec.pre enc Tryz.prog Tryz.f3 Rows.guessRelationsRow.domain false w args ∧ laidMetH Tryz.prog laidL w) ∧ sizedMet enc Tryz.prog Tryz.f3 (OpenSpec.ofChange Rows.guessRelationsSpec) false w args)
      (Rows.guessRelationsSpec.post enc Tryz.prog Tryz.f3 false true false false) := by
  refine returns_and_shaped (C := Tryz.checked) (X := fun w _ => laidMetH Tryz.prog laidL w) (fun _ _ _ hh h => h.of_heap hh) own started (by kernel_rfl) Tryz.func3
    (ChangeSpec.witness_shaped (enc := enc) (C := Tryz.checked) (os := os) (X := fun w _ => laidMetH Tryz.prog laidL w) false (World.laidAll Tryz.prog os laidL) #[.agg #[.int .i64 0, .int .i64 0, .int .i64 0, .int .i64 0, .slice none 0 0, .slice none 0 0], .int .i64 0] 8 (World.laidAll_os _ _ _)
      (World.shaped_of_ZipB (by kernel_rfl) (by kernel_rfl)) (by kernel_rfl) (by kernel_rfl) (by kernel_rfl)
      (by rw [MakeChecks.laidMetH_plain _ _ _ (by kernel_rfl)]; exact laidMet_laidAll _ (by kernel_rfl) (by kernel_rfl))) ?_
  intro W base args ds gs before hval0 hW hsh hL
  have hval : ∀ (j : Nat) t v, Tryz.f3.params[j]? = some t → args[j]? = some v → Value.okWide Tryz.prog W .any base t v := hval0
  have hW' := hW
  obtain ⟨p, q, hA0, hV, rfl, hfz, hnd⟩ := hW
  have hA : DataW.TrodAll enc Tryz.prog W 0 (fun _ => true) true Tryz.f3.params.toList args.toList ds p := hA0
  rw [Tryz.params3] at hA hval
  obtain ⟨v0, vs0, d0, ds0, p0, q0, hargs, rfl, rfl, h0, r0⟩ := trodAll_cons hA
  obtain ⟨v1, vs1, d1, ds1, p1, q1, rfl, rfl, rfl, h1, r1⟩ := trodAll_cons r0
  obtain ⟨rfl, rfl, rfl⟩ := trodAll_nil r1
  obtain rfl : args = #[v0, v1] := by cases args; simp_all
  obtain ⟨rfl, rfl⟩ := trodVars_none hV
  have k0 := h0
  have lt0 : ∀ x ∈ p0, x.block < W.heap.size := by obtain ⟨m, hm⟩ := k0; exact DataW.trod_lt m _ _ _ hm
  obtain ⟨cs0, rfl, _⟩ := okWide_struct Tryz.underlying25 (hval 0 25 v0 rfl rfl)
  obtain ⟨m0, e0⟩ := h0
  obtain ⟨n00, n01, n02, n03, l0, A0, c0, s0, B0, b0, ec0, hlc0, hbc0, hC0, hD0, hst0⟩ := opens_tape enc _ _ _ e0
  obtain rfl : cs0 = #[.int .i64 n00, .int .i64 n01, .int .i64 n02, .int .i64 n03, .slice A0 l0.length c0, .slice B0 s0.length b0] := Array.ext' (by simpa [Value.cells] using ec0)
  obtain ⟨a1, rfl, rfl, rfl, w1⟩ := open_int Tryz.underlying3 (hval 1 3 v1 rfl rfl) h1
  obtain ⟨k, hk⟩ := guessRelations_law n00 n01 n02 n03 l0 s0 a1 hst0
  refine (paraphrastlaw18_GuessRelations.calls k n00 n01 n02 n03 A0 c0 l0 B0 b0 s0 a1 true W (glob_of_laid hsh hL) hC0 hlc0 hD0 hbc0 hk).mono fun e W' he => ?_
  obtain ⟨he, bel⟩ := he
  subst he
  exact ⟨_, rfl, _, _, _, [], _, [], hW', trodAll_mk1 (shut_bool Tryz.underlying4 _), (trodAll_cons_mk (Below.trod laidOut (by kernel_rfl) (of_decide_eq_true (by kernel_rfl)) k0 bel lt0) (trodAll_cons_mk (shut_int Tryz.underlying3 w1) trodAll_mk0)), rfl, bel.frame _, fun h => by cases h⟩
theorem guessRelations_holds : Rows.GuessRelationsSaid :=
  OpenClaim.holds_of_wide 3 Tryz.f3 rfl rfl rfl rfl rfl rfl rfl ⟨rfl, rfl, rfl, rfl, rfl⟩ rfl rfl rfl rfl rfl (by kernel_rfl) Tryz.func3 (by kernel_rfl)
    (of_decide_eq_true (by kernel_rfl)) (by unfold Func.isWrapper; first | (rw [if_pos (by decide +kernel)]; kernel_rfl) | (rw [if_neg (by decide +kernel)]; exact ⟨rfl, rfl⟩))
    (fun os started H enc _ => guessRelations_lifted os started H enc)
end Go.Proofs.YtailpfcbdopfeaaGreatDoor.F
namespace Go.Proofs.YtailpfcbdopfeaaGreatDoor
open F
theorem guessRelations_card : Rows.GuessRelationsCardSaid :=
  Claim7.holds_tied_plain_at .later [] [.data, .data, .data, .data, .sentinel, .sentinel, .listed, .data, .pinned] true (true, "928c7f466221220e713126d9729b46ac9212f438a3bd0e748b28df74784eb421") true guessRelations_holds (fun _ h => by cases h) (by kernel_rfl) (fun _ h => by cases h) guessRelations_row_tie rfl ⟨rfl, rfl⟩ (by kernel_rfl) rfl
    (fun f fn hf hfn => by
      obtain rfl : f = 3 := Option.some.inj ((show Tryz.prog.funcNamed "paraphrast/paraphrastlaw18.GuessRelations" = some 3 by kernel_rfl).symm.trans hf) |>.symm
      obtain rfl : fn = Tryz.f3 := (Option.some.inj (Tryz.func3.symm.trans hfn)).symm
      exact ⟨by kernel_rfl, fun j t ht => by
        rw [Tryz.params3] at ht
        have hm : t ∈ [25, 3] := by simpa using Array.mem_of_getElem? ht
        have hall : ([25, 3].all fun u => !Tryz.prog.wantsStandIn u) = true := by kernel_rfl
        exact (show Tryz.prog.wantsStandIn t = false by simpa using List.all_eq_true.1 hall t hm)⟩)
    (by kernel_rfl)
#print axioms guessRelations_card
end Go.Proofs.YtailpfcbdopfeaaGreatDoor
