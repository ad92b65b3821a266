/- ShapeOwn: no function modifies its arguments, and results share memory neither with arguments nor with other results; for every structure, change, list of numbers and list of symbols. -/
import Derived.Test.YtfmpaofbnjlniaaGreatDoorOwn5
import Derived.Test.YtfmpaofbnjlniaaGreatDoorCards
import Derived.Test.YtfmpaofbnjlniaaGreatDoorTie
import Derived.SevenTiedAt
namespace Go.Proofs.YtfmpaofbnjlniaaGreatDoor.F
open Go.RowKit Go.Proofs.YtfmpaofbnjlniaaGreatDoorW.PrintWords Go.Proofs.YtfmpaofbnjlniaaGreatDoorW.PrintLast Go.Proofs.YtfmpaofbnjlniaaGreatDoorW.PrintMore
attribute [local go_sem] max2_int min2_int max_two min_two max_three min_three max_four min_four
set_option linter.unusedVariables false
set_option linter.unusedSimpArgs false
/-! ### paraphrastlaw01_SpoilSymbols: function 39 -/
def paraphrastlaw01_SpoilSymbols.l0 : Nat → List (S96) → Int → Option (Unit)
 | 0, _, _ => none
 | k + 1, x0, x2 => if x2 < (x0.length : Int) then (if 0 ≤ x2 then (paraphrastlaw01_SpoilSymbols.l0 k (x0.set (x2 : Int).toNat (⟨(⟨#[115, 112, 111, 105, 108, 116]⟩ : ByteArray), (-7)⟩ : S96)) (wrap64 (x2 + 1))) else (none)) else (if x0.length < 5864062014805 then (if 0 < ((x0 ++ [(⟨(⟨#[]⟩ : ByteArray), 0⟩ : S96)]).length : Int) then (some ()) else (none)) else (none))
def paraphrastlaw01_SpoilSymbols.f (k : Nat) (l0 : List (S96)) : Option (Unit) := paraphrastlaw01_SpoilSymbols.l0 k l0 0
set_option maxHeartbeats 8000000 in
set_option maxRecDepth 100000 in
theorem paraphrastlaw01_SpoilSymbols.calls (k : Nat) (P0_ : Nat → Prop) (u9000_ : Value) (l0 : List (S96)) (w0 w : World) (hB : Below w0.heap.size w0 w) (ho0 : Kd.R k96 96 w w0.heap.size P0_ u9000_ l0) (h : paraphrastlaw01_SpoilSymbols.f k l0 = some ()) :
  Calls Tryz.prog 39 #[u9000_] w fun e w' => e = .returned (.tuple #[]) ∧ Below w0.heap.size w0 w' ∧ Kept w w' (fun k_ => P0_ k_) := by
 have hu96 := Tryz.underlying96
 have HO0 := Aside0.mk (show Kd.R k96 96 w w0.heap.size (fun k_ => (P0_ k_ ∨ w.heap.size ≤ k_)) u9000_ l0 from Kd.R_mono ho0 (fun k_ hk => (.inl hk)))
 have HK := Aside0.mk (Kept.refl w (fun k_ => P0_ k_))
 have HW0 := Aside0.mk hB.size
 have HB := Aside0.mk hB
 clear hB
 have H : (paraphrastlaw01_SpoilSymbols.l0 k l0 0) = some () := h
 clear h
 have H' := Aside0.mk H
 clear H
 go_enter Tryz.func39, Tryz.ntmps39
 go_wp2
 go_loopg [2] k (fun kq v2 w' => ∃ (x0_1 : List (S96)) (x2_1 : Int), v2 = .int .i64 x2_1 ∧ Aside0 (paraphrastlaw01_SpoilSymbols.l0 kq x0_1 x2_1 = some ()) ∧ Aside0 (kq ≤ k) ∧ Aside0 (Kd.R k96 96 w' w0.heap.size (fun k_ => (P0_ k_ ∨ w.heap.size ≤ k_)) u9000_ x0_1) ∧ Aside0 (Kept w w' (fun k_ => P0_ k_)) ∧ Aside0 (Below w0.heap.size w0 w'))
 case atStart => exact ⟨(l0), (0), eS, H', ⟨Nat.le_refl _⟩, ⟨by (with_reducible repeat (first | apply Kd.R_alloc | apply Kd.R_drewN | apply Kd.R_drew)); exact HO0.out⟩, ⟨by repeat (first | (with_reducible first | exact HK.out | apply Kept.alloc | apply Kept.drewN | apply Kept.drew) | exact HK.out)⟩, ⟨bel⟩⟩
 case round =>
  clear H'
  obtain ⟨x0_1, x2_1, rfl, HA, HK1, HO_0, HK, HB⟩ := hrel
  cases gk with
  | zero => exact absurd HA.out (by simp [paraphrastlaw01_SpoilSymbols.l0])
  | succ k1 =>
   have H := HA.out
   clear HA
   simp only [paraphrastlaw01_SpoilSymbols.l0] at H
   by_cases c2 : x2_1 < (x0_1.length : Int)
   ·rw [if_pos c2] at H
    have c2b0 : decide (x2_1 < (x0_1.length : Int)) = true := decide_eq_true c2
    clear c2
    by_cases c3 : 0 ≤ x2_1
    ·rw [if_pos c3] at H
     have c3b0 : decide (0 ≤ x2_1) = true := decide_eq_true c3
     clear c3
     obtain ⟨y594, hy594⟩ : ∃ y_ : List (S96), y_ = (x0_1.set (x2_1 : Int).toNat (⟨(⟨#[115, 112, 111, 105, 108, 116]⟩ : ByteArray), (-7)⟩ : S96)) := ⟨_, rfl⟩
     replace H : (paraphrastlaw01_SpoilSymbols.l0 k1 y594 (wrap64 (x2_1 + 1))) = some () := by first | (rw [hy594]; with_reducible exact H) | (have H2_ := (Option.bind_some _ _).symm.trans H; rw [hy594]; with_reducible exact H2_) | (have H2_ := (Option.bind_some _ _).symm.trans H; with_reducible exact H2_) | with_reducible exact H | (rw [hy594]; exact H) | exact H
     have Ny594 := Aside0.mk hy594
     clear hy594
     have H' := Aside0.mk H
     clear H
     obtain ⟨Ao5, co5, eo5⟩ := Kd.R_slice HO_0.out
     subst eo5
     have p4 : 0 ≤ (x2_1 : Int) := dtr
     have q4 : (x2_1 : Int) < ((x0_1.length : Int) : Int) := dtr
     obtain ⟨go4, co4, eo4, gb4, gl4, cl4, HG4⟩ := Kd.R_form HO_0.out (by omega)
     (first | cases eo4 | (injection eo4 with ea_ en_ ec_; (first | subst ea_ | (injection ea_ with ea_; subst ea_)); subst ec_; clear en_))
     have GB4 := Aside0.mk gb4
     have GG4 := Aside0.mk HG4
     clear gb4 gl4 HG4
     have HMgo4 := Aside0.mk (show (P0_ go4 ∨ w.heap.size ≤ go4) from (HO_0.out.1 _ rfl))
     obtain ⟨ce4, hcl4, hM4, hcc4, hfr4⟩ := Kd.R_elem HO_0.out z96 (x2_1 : Int) p4 q4
     obtain rfl := k96_openM hM4
     have hx4_0 : wr.cell? ⟨go4, (x2_1 : Int).toNat * 2, none⟩ = some (.string ((rd_T96 x0_1 x2_1).f0)) := hcc4 0 _ rfl
     have hx4_1 : wr.cell? ⟨go4, (x2_1 : Int).toNat * 2 + 1, none⟩ = some (.int .i64 ((rd_T96 x0_1 x2_1).f1)) := hcc4 1 _ rfl
     have hf4_0 : wr.frozen? ⟨go4, (x2_1 : Int).toNat * 2, none⟩ = false := hfr4 0
     have hf4_1 : wr.frozen? ⟨go4, (x2_1 : Int).toNat * 2 + 1, none⟩ = false := hfr4 1
     clear hcl4 hcc4 hfr4 hM4
     replace p4 := eq_true p4
     replace q4 := eq_true q4
     have HX6 := Aside0.mk (show Kd.R k96 96 wr w0.heap.size (fun k_ => (P0_ k_ ∨ w.heap.size ≤ k_)) (.slice (some ⟨go4, 0, none⟩) x0_1.length co5) x0_1 from (tw HO_0.out))
     obtain ⟨ce6, hcl6, hM6, hcc6, hfr6⟩ := Kd.R_elem HX6.out z96 (x2_1 : Int) (dtr) (by have h_ : (x2_1 : Int) < ((x0_1.length : Int) : Int) := dtr; first | exact h_ | (have e_ := (Kd.R_reads' HO_0.out).1; omega) | simpa using h_)
     obtain rfl := k96_openM hM6
     have HP6 := Kd.R_seg HX6.out (x2_1 : Int) (dtr) (by have h_ : (x2_1 : Int) < ((x0_1.length : Int) : Int) := dtr; first | exact h_ | (have e_ := (Kd.R_reads' HO_0.out).1; omega) | simpa using h_) (seg := [.string (⟨#[115, 112, 111, 105, 108, 116]⟩ : ByteArray), .int .i64 (-7)]) (j := 0) hcl6 hcc6 (show 2 ≤ 2 from by decide) (x' := (⟨(⟨#[115, 112, 111, 105, 108, 116]⟩ : ByteArray), (-7)⟩ : S96)) (k96_mkM _ _ _ (⟨(⟨#[115, 112, 111, 105, 108, 116]⟩ : ByteArray), (-7)⟩ : S96) ) (fun _ hk => hk)
     have hx6_0 := hcc6 0 _ rfl
     (try simp only [show (k96).sz = 2 from rfl, Nat.mul_one, Nat.add_zero] at hx6_0)
     have hf6_0 := hfr6 0
     (try simp only [show (k96).sz = 2 from rfl, Nat.mul_one, Nat.add_zero] at hf6_0)
     have hx6_1 := hcc6 1 _ rfl
     (try simp only [show (k96).sz = 2 from rfl, Nat.mul_one, Nat.add_zero] at hx6_1)
     have hf6_1 := hfr6 1
     (try simp only [show (k96).sz = 2 from rfl, Nat.mul_one, Nat.add_zero] at hf6_1)
     clear hcl6 hcc6 hfr6 hM6
     go_wp2_with (first | ((with_reducible refine gate_store (t := 96) (p := 12) rfl ?_); refine store_event (t := 96) (p := 12) (v := ?vo_w7) (w1 := ((wr.setCell ⟨go4, (x2_1 : Int).toNat * 2, none⟩ (.string (⟨#[115, 112, 111, 105, 108, 116]⟩ : ByteArray))).setCell ⟨go4, (x2_1 : Int).toNat * 2 + 1, none⟩ (.int .i64 (-7)))) ?hg ?ho ?hn ?hr ?_; (case ho => rfl); (case hg => rfl); (case hn => rfl); (case hr => first | (go_simp; done) | (go_simp; rfl)); intro w7 hw; have hg : wr.grownBy w7 (some go4) := (by rw [hw]; exact HP6.2); have hp_ : Kd.R k96 96 w7 w0.heap.size (fun k_ => (P0_ k_ ∨ w.heap.size ≤ k_)) (.slice (some ⟨go4, 0, none⟩) x0_1.length co5) y594 := (by rw [hw, Ny594.out]; exact HP6.1); clear HP6; replace HB := Aside0.mk ((by rw [hw]; exact below_set (below_set (HB.out) GB4.out) GB4.out : Below w0.heap.size w0 w7)); replace HK := Aside0.mk (Kept.of_grown (S := (fun k_ => P0_ k_)) hg (by repeat (first | (with_reducible first | exact HK.out | apply Kept.alloc | apply Kept.drewN | apply Kept.drew) | exact HK.out)) (fun k_ e_ => (HO_0.out.1 k_ e_))); replace HO_0 := Aside0.mk (hp_); clear hg hw hp_))
     go_roundg k1
     case measure => have := HK1.out; omega
     case rel => exact ⟨(y594), (wrap64 (x2_1 + 1)), eS, H', ⟨by have := HK1.out; omega⟩, ⟨by (with_reducible repeat (first | apply Kd.R_alloc | apply Kd.R_drewN | apply Kd.R_drew)); exact HO_0.out⟩, ⟨by repeat (first | (with_reducible first | exact HK.out | apply Kept.alloc | apply Kept.drewN | apply Kept.drew) | exact HK.out)⟩, ⟨bel⟩⟩
    ·rw [if_neg c3] at H
     exact absurd H (by simp)
   ·rw [if_neg c2] at H
    have c2b0 : decide (x2_1 < (x0_1.length : Int)) = false := decide_eq_false c2
    clear c2
    by_cases c8 : x0_1.length < 5864062014805
    ·rw [if_pos c8] at H
     have LMc8 := Aside0.mk c8
     clear c8
     obtain ⟨y595, hy595⟩ : ∃ y_ : List (S96), y_ = (x0_1 ++ [(⟨(⟨#[]⟩ : ByteArray), 0⟩ : S96)]) := ⟨_, rfl⟩
     replace H : (if 0 < (y595.length : Int) then (some ()) else (none)) = some () := by first | (rw [hy595]; with_reducible exact H) | (have H2_ := (Option.bind_some _ _).symm.trans H; rw [hy595]; with_reducible exact H2_) | (have H2_ := (Option.bind_some _ _).symm.trans H; with_reducible exact H2_) | with_reducible exact H | (rw [hy595]; exact H) | exact H
     have Ny595 := Aside0.mk hy595
     clear hy595
     by_cases c9 : 0 < (y595.length : Int)
     ·rw [if_pos c9] at H
      have c9b0 : decide (0 < (y595.length : Int)) = true := decide_eq_true c9
      have c9b1 : decide (0 < y595.length) = true := decide_eq_true (by omega)
      clear c9
      obtain ⟨y598, hy598⟩ : ∃ y_ : List (S96), y_ = (y595.set (0 : Int).toNat (⟨(⟨#[115, 112, 111, 105, 108, 116]⟩ : ByteArray), 0⟩ : S96)) := ⟨_, rfl⟩
      replace H : (some ()) = some () := by first | (rw [hy598]; with_reducible exact H) | (have H2_ := (Option.bind_some _ _).symm.trans H; rw [hy598]; with_reducible exact H2_) | (have H2_ := (Option.bind_some _ _).symm.trans H; with_reducible exact H2_) | with_reducible exact H | (rw [hy598]; exact H) | exact H
      have Ny598 := Aside0.mk hy598
      clear hy598
      obtain ⟨Ao11, co11, eo11⟩ := Kd.R_slice HO_0.out
      subst eo11
      go_wp2_with (first | ((with_reducible refine gate_builtin (b := .append) (xs := #[.tmp 13, .tmp 15]) rfl ?_); at_builtin; refine Kd.R_append k96 (w0 := w0) w0.heap.size rfl (.tmp 13) (.tmp 15) 38 96 (.agg #[(.string ⟨#[]⟩), (.int .i64 0)]) 24 rfl Tryz.underlying38 info96 rfl (by decide) (by omega) (.slice Ao11 x0_1.length co11) x0_1 (⟨(⟨#[]⟩ : ByteArray), 0⟩ : S96) [.string (⟨#[]⟩ : ByteArray), .int .i64 0] (fun k_ => (P0_ k_ ∨ w.heap.size ≤ k_)) (fun _ => False) rfl rfl ?aP (fun _ hk => hk.elim) ?aF ?aO ?aB ?aS ?aL ?_; (case aP => exact k96_mkM _ _ _ (⟨(⟨#[]⟩ : ByteArray), 0⟩ : S96)); (case aB => exact bel); (case aF => exact (fun k_ hk => (.inr (Nat.le_trans (by first | exact HK.out.1 | exact (show Kept w _ (fun k_ => P0_ k_) from by repeat (first | (with_reducible first | exact HK.out | apply Kept.alloc | apply Kept.drewN | apply Kept.drew) | exact HK.out)).1) hk)))); (case aO => exact (tw HO_0.out)); (case aS => exact (below_size bel)); (case aL => have := LMc8.out; omega); intro v596 w12 ho hb hg hat; rw [← Ny595.out] at ho; have HO597 := Aside0.mk (ho); replace HB := Aside0.mk (hb); replace HK := Aside0.mk (Kept.of_grown (S := (fun k_ => P0_ k_)) hg (by repeat (first | (with_reducible first | exact HK.out | apply Kept.alloc | apply Kept.drewN | apply Kept.drew) | exact HK.out)) (fun k_ e_ => (HO_0.out.1 k_ e_))); clear HO_0; clear ho hb hg hat; have p10 : 0 ≤ (0 : Int) := (by omega); have q10 : (0 : Int) < ((y595.length : Int) : Int) := dtr; have qi10 : (0 < y595.length) = True := eq_true (by omega); obtain ⟨go10, co10, eo10, gb10, gl10, cl10, HG10⟩ := Kd.R_form HO597.out (by omega); (first | cases eo10 | (injection eo10 with ea_ en_ ec_; (first | subst ea_ | (injection ea_ with ea_; subst ea_)); subst ec_; clear en_)); have GB10 := Aside0.mk gb10; have GG10 := Aside0.mk HG10; clear gb10 gl10 HG10; have HMgo10 := Aside0.mk (show (P0_ go10 ∨ w.heap.size ≤ go10) from (HO597.out.1 _ rfl)); obtain ⟨ce10, hcl10, hM10, hcc10, hfr10⟩ := Kd.R_elem HO597.out z96 (0 : Int) p10 q10; obtain rfl := k96_openM hM10; have hx10_0 : w12.cell? ⟨go10, (0 : Int).toNat * 2, none⟩ = some (.string ((rd_T96 y595 0).f0)) := hcc10 0 _ rfl; have hx10_1 : w12.cell? ⟨go10, (0 : Int).toNat * 2 + 1, none⟩ = some (.int .i64 ((rd_T96 y595 0).f1)) := hcc10 1 _ rfl; have hf10_0 : w12.frozen? ⟨go10, (0 : Int).toNat * 2, none⟩ = false := hfr10 0; have hf10_1 : w12.frozen? ⟨go10, (0 : Int).toNat * 2 + 1, none⟩ = false := hfr10 1; clear hcl10 hcc10 hfr10 hM10; (try rw [show ((0 : Int)).toNat = 0 from rfl] at hx10_0); (try simp only [Nat.reduceMul, Nat.zero_mul, Nat.zero_add, Nat.reduceAdd] at hx10_0); (try rw [show ((0 : Int)).toNat = 0 from rfl] at hf10_0); (try simp only [Nat.reduceMul, Nat.zero_mul, Nat.zero_add, Nat.reduceAdd] at hf10_0); (try rw [show ((0 : Int)).toNat = 0 from rfl] at hx10_1); (try simp only [Nat.reduceMul, Nat.zero_mul, Nat.zero_add, Nat.reduceAdd] at hx10_1); (try rw [show ((0 : Int)).toNat = 0 from rfl] at hf10_1); (try simp only [Nat.reduceMul, Nat.zero_mul, Nat.zero_add, Nat.reduceAdd] at hf10_1); replace p10 := eq_true p10; replace q10 := eq_true q10; have HX13 := Aside0.mk (show Kd.R k96 96 w12 w0.heap.size (fun k_ => (P0_ k_ ∨ w.heap.size ≤ k_)) (.slice (some ⟨go10, 0, none⟩) y595.length co10) y595 from (tw HO597.out)); obtain ⟨ce13, hcl13, hM13, hcc13, hfr13⟩ := Kd.R_elem HX13.out z96 (0 : Int) (by omega) (by have h_ : (0 : Int) < ((y595.length : Int) : Int) := dtr; first | exact h_ | (have e_ := (Kd.R_reads' HO597.out).1; omega) | simpa using h_); obtain rfl := k96_openM hM13; have HP13 := Kd.R_seg HX13.out (0 : Int) (by omega) (by have h_ : (0 : Int) < ((y595.length : Int) : Int) := dtr; first | exact h_ | (have e_ := (Kd.R_reads' HO597.out).1; omega) | simpa using h_) (seg := [.string (⟨#[115, 112, 111, 105, 108, 116]⟩ : ByteArray), .int .i64 0]) (j := 0) hcl13 hcc13 (show 2 ≤ 2 from by decide) (x' := (⟨(⟨#[115, 112, 111, 105, 108, 116]⟩ : ByteArray), 0⟩ : S96)) (k96_mkM _ _ _ (⟨(⟨#[115, 112, 111, 105, 108, 116]⟩ : ByteArray), 0⟩ : S96) ) (fun _ hk => hk); have hx13_0 := hcc13 0 _ rfl; (try simp only [show (k96).sz = 2 from rfl, Nat.mul_one, Nat.add_zero] at hx13_0); (try rw [show ((0 : Int)).toNat = 0 from rfl] at hx13_0); (try simp only [Nat.reduceMul, Nat.zero_mul, Nat.zero_add, Nat.reduceAdd] at hx13_0); have hf13_0 := hfr13 0; (try simp only [show (k96).sz = 2 from rfl, Nat.mul_one, Nat.add_zero] at hf13_0); (try rw [show ((0 : Int)).toNat = 0 from rfl] at hf13_0); (try simp only [Nat.reduceMul, Nat.zero_mul, Nat.zero_add, Nat.reduceAdd] at hf13_0); have hx13_1 := hcc13 1 _ rfl; (try simp only [show (k96).sz = 2 from rfl, Nat.mul_one, Nat.add_zero] at hx13_1); (try rw [show ((0 : Int)).toNat = 0 from rfl] at hx13_1); (try simp only [Nat.reduceMul, Nat.zero_mul, Nat.zero_add, Nat.reduceAdd] at hx13_1); have hf13_1 := hfr13 1; (try simp only [show (k96).sz = 2 from rfl, Nat.mul_one, Nat.add_zero] at hf13_1); (try rw [show ((0 : Int)).toNat = 0 from rfl] at hf13_1); (try simp only [Nat.reduceMul, Nat.zero_mul, Nat.zero_add, Nat.reduceAdd] at hf13_1); clear hcl13 hcc13 hfr13 hM13) | ((with_reducible refine gate_store (t := 96) (p := 19) rfl ?_); refine store_event (t := 96) (p := 19) (v := ?vo_w14) (w1 := ((w12.setCell ⟨go10, 0, none⟩ (.string (⟨#[115, 112, 111, 105, 108, 116]⟩ : ByteArray))).setCell ⟨go10, 1, none⟩ (.int .i64 0))) ?hg ?ho ?hn ?hr ?_; (case ho => rfl); (case hg => rfl); (case hn => rfl); (case hr => first | (go_simp; done) | (go_simp; rfl)); intro w14 hw; have hg : w12.grownBy w14 (some go10) := (by rw [hw]; exact HP13.2); have hp_ : Kd.R k96 96 w14 w0.heap.size (fun k_ => (P0_ k_ ∨ w.heap.size ≤ k_)) (.slice (some ⟨go10, 0, none⟩) y595.length co10) y598 := (by rw [hw, Ny598.out]; exact HP13.1); clear HP13; replace HB := Aside0.mk ((by rw [hw]; exact below_set (below_set (HB.out) GB10.out) GB10.out : Below w0.heap.size w0 w14)); replace HK := Aside0.mk (Kept.of_grown (S := (fun k_ => P0_ k_)) hg (by repeat (first | (with_reducible first | exact HK.out | apply Kept.alloc | apply Kept.drewN | apply Kept.drew) | exact HK.out)) (fun k_ e_ => (HO597.out.1 k_ e_))); replace HO597 := Aside0.mk (hp_); clear hg hw hp_))
      first | go_end0 | ((try simp only [Exit.inBlock, Exit.then]); refine bodyPost_ret (results_none rfl _ _ _) rfl ?_)
      exact ⟨eN, bel, by repeat (first | (with_reducible first | exact HK.out | apply Kept.alloc | apply Kept.drewN | apply Kept.drew) | exact HK.out)⟩
     ·rw [if_neg c9] at H
      exact absurd H (by simp)
    ·rw [if_neg c8] at H
     exact absurd H (by simp)
end Go.Proofs.YtfmpaofbnjlniaaGreatDoor.F
/- ShapeOwn: what its walk keeps: the arrays of structures, the results, what is read. -/
namespace Go.Proofs.YtfmpaofbnjlniaaGreatDoor.F
open Go.RowKit Go.Proofs.YtfmpaofbnjlniaaGreatDoorW.PrintWords Go.Proofs.YtfmpaofbnjlniaaGreatDoorW.PrintLast Go.Proofs.YtfmpaofbnjlniaaGreatDoorW.PrintMore
set_option linter.unusedVariables false
set_option linter.unusedSimpArgs false
/-- A slice that reads xs. -/
def CV {α : Type} (d : Kd α) (w : World) (v : Value) (xs : List α) : Prop := ∃ A c, v = .slice A xs.length c ∧ xs.length ≤ c ∧ d.C w A xs.length xs
theorem CV.of_R {α : Type} {d : Kd α} {e base : Nat} {ok : Nat → Prop} {w : World} {v : Value} {xs : List α} (h : d.R e w base ok v xs) : CV d w v xs := by
  obtain ⟨A, c, rfl⟩ := Kd.R_slice h
  have := Kd.R_reads' h
  exact ⟨A, c, rfl, this.2.1, this.2.2⟩
theorem CV.below {α : Type} {d : Kd α} {w w1 : World} {v : Value} {xs : List α} (h : CV d w v xs) (hb : Below w.heap.size w w1) : CV d w1 v xs := by
  obtain ⟨A, c, rfl, h1, h2⟩ := h
  exact ⟨A, c, rfl, h1, Kd.C_below h2 hb⟩
/-- An array of four structures. -/
def arrC (X : Nat → Int) (vs : Nat → Value) : Array Value := #[.int .i64 (X 0), vs 0, .int .i64 (X 1), vs 1, .int .i64 (X 2), vs 2, .int .i64 (X 3), vs 3]
def upd {α : Type} (f : Nat → α) (i : Nat) (x : α) : Nat → α := fun j => if j = i then x else f j
theorem arrC_get (X : Nat → Int) (vs : Nat → Value) (i : Nat) (hi : i < 4) : (arrC X vs)[i * 2]? = some (.int .i64 (X i)) ∧ (arrC X vs)[i * 2 + 1]? = some (vs i) := by
  obtain rfl | rfl | rfl | rfl : i = 0 ∨ i = 1 ∨ i = 2 ∨ i = 3 := by omega
  all_goals exact ⟨rfl, rfl⟩
theorem arrC_set (X : Nat → Int) (vs : Nat → Value) (i : Nat) (hi : i < 4) (x : Int) (v : Value) : ((arrC X vs).setIfInBounds (i * 2) (.int .i64 x)).setIfInBounds (i * 2 + 1) v = arrC (upd X i x) (upd vs i v) := by
  obtain rfl | rfl | rfl | rfl : i = 0 ∨ i = 1 ∨ i = 2 ∨ i = 3 := by omega
  all_goals rfl
/-- Block g holds such an array. -/
def ArrB (w : World) (g : Nat) (X : Nat → Int) (vs : Nat → Value) : Prop := w.heap[g]? = some (.cells (arrC X vs) 70 (0, 0))
theorem ArrB.lt {w : World} {g : Nat} {X : Nat → Int} {vs : Nat → Value} (h : ArrB w g X vs) : g < w.heap.size := (Array.getElem?_eq_some_iff.1 h).1
theorem ArrB.cells {w : World} {g : Nat} {X : Nat → Int} {vs : Nat → Value} (h : ArrB w g X vs) (i : Nat) (hi : i < 4) :
    w.cell? ⟨g, i * 2, none⟩ = some (.int .i64 (X i)) ∧ w.cell? ⟨g, i * 2 + 1, none⟩ = some (vs i) ∧ w.frozen? ⟨g, i * 2, none⟩ = false ∧ w.frozen? ⟨g, i * 2 + 1, none⟩ = false :=
  ⟨(blk_cell h _).trans (arrC_get X vs i hi).1, (blk_cell h _).trans (arrC_get X vs i hi).2, blk_frozen h _, blk_frozen h _⟩
theorem ArrB.same {w w1 : World} {g : Nat} {X : Nat → Int} {vs : Nat → Value} (h : ArrB w g X vs) (e : w1.heap[g]? = w.heap[g]?) : ArrB w1 g X vs := e.trans h
theorem ArrB.below {w w1 : World} {g : Nat} {X : Nat → Int} {vs : Nat → Value} (h : ArrB w g X vs) (hb : Below w.heap.size w w1) : ArrB w1 g X vs := blk_below h hb
theorem ArrB.set {w : World} {g : Nat} {X : Nat → Int} {vs : Nat → Value} (h : ArrB w g X vs) (i : Nat) (hi : i < 4) (x : Int) (v : Value) : ArrB ((w.setCell ⟨g, i * 2, none⟩ (.int .i64 x)).setCell ⟨g, i * 2 + 1, none⟩ v) g (upd X i x) (upd vs i v) := by
  have h1 : (w.setCell ⟨g, i * 2, none⟩ (.int .i64 x)).heap[g]? = some (.cells ((arrC X vs).setIfInBounds (i * 2) (.int .i64 x)) 70 (0, 0)) := by
    rw [setCell_eq_setRow w g _ _ _ _ _ h]; exact setRow_heap w g _ _ _ _ h
  unfold ArrB
  rw [setCell_eq_setRow _ g _ _ _ _ _ h1, setRow_heap _ g _ _ _ _ h1, arrC_set X vs i hi]
/-- Two stores into block g leave the others. -/
theorem two_far (w : World) (g i j : Nat) (a b : Value) (k : Nat) (hk : k ≠ g) : ((w.setCell ⟨g, i, none⟩ a).setCell ⟨g, j, none⟩ b).heap[k]? = w.heap[k]? :=
  (Below.heap_setCell _ _ _ _ hk).trans (Below.heap_setCell _ _ _ _ hk)
theorem two_size (w : World) (g i j : Nat) (a b : Value) : ((w.setCell ⟨g, i, none⟩ a).setCell ⟨g, j, none⟩ b).heap.size = w.heap.size := by simp [World.setCell]
/-- A result: its rows lie in the blocks b .. e - 1. -/
def Rs {α : Type} (d : Kd α) (t : Nat) (w : World) (b e : Nat) (v : Value) (xs : List α) : Prop := Kd.R d t w b (fun k => b ≤ k ∧ k < e) v xs ∧ e ≤ w.heap.size
theorem Rs.mk {α : Type} {d : Kd α} {t : Nat} {w : World} {b : Nat} {v : Value} {xs : List α} (h : Kd.R d t w b (fun _ => True) v xs) : Rs d t w b w.heap.size v xs :=
  ⟨Kd.R_mono (Kd.R_bound h) fun k hk => ⟨hk.2.1, hk.2.2.1⟩, Nat.le_refl _⟩
theorem Rs.step {α : Type} {d : Kd α} {t : Nat} {w w1 : World} {b e : Nat} {v : Value} {xs : List α} (h : Rs d t w b e v xs) (hs : w.heap.size ≤ w1.heap.size) (hk : ∀ k, b ≤ k → k < e → w1.heap[k]? = w.heap[k]?) : Rs d t w1 b e v xs :=
  ⟨Kd.R_step h.1 fun k ho _ => hk k ho.1 ho.2, Nat.le_trans h.2 hs⟩
theorem Rs.below {α : Type} {d : Kd α} {t : Nat} {w w1 : World} {b e : Nat} {v : Value} {xs : List α} (h : Rs d t w b e v xs) (hb : Below w.heap.size w w1) : Rs d t w1 b e v xs := h.step hb.size fun k _ hk => hb.block k (by have := h.2; omega)
theorem Rs.two {α : Type} {d : Kd α} {t : Nat} {w : World} {b e : Nat} {v : Value} {xs : List α} (h : Rs d t w b e v xs) {g : Nat} (hg : g < b ∨ e ≤ g) (i j : Nat) (x y : Value) : Rs d t ((w.setCell ⟨g, i, none⟩ x).setCell ⟨g, j, none⟩ y) b e v xs :=
  h.step (by rw [two_size]; exact Nat.le_refl _) fun k h1 h2 => two_far _ _ _ _ _ _ _ (by omega)
theorem Rs.kept {α : Type} {d : Kd α} {t : Nat} {w w1 : World} {b e : Nat} {v : Value} {xs : List α} {S : Nat → Prop} (h : Rs d t w b e v xs) (hk : Kept w w1 S) (hS : ∀ k, S k → k < b ∨ e ≤ k) : Rs d t w1 b e v xs :=
  h.step hk.1 fun k h1 h2 => hk.2 k (by have := h.2; omega) (fun hs => by have := hS k hs; omega)
theorem Rs.cv {α : Type} {d : Kd α} {t : Nat} {w : World} {b e : Nat} {v : Value} {xs : List α} (h : Rs d t w b e v xs) : CV d w v xs := CV.of_R h.1
/-- What Spoil may be handed. -/
theorem Rs.g3 {w : World} {b e : Nat} {v : Value} {xs : List S52} (h : Rs k52 52 w b e v xs) (hl : xs.length ≤ 1000000) (hb : ∀ r ∈ xs, r.f2.length ≤ 1000000 ∧ ∀ x ∈ r.f2, x.length ≤ 1000000) : G3 (fun k => b ≤ k ∧ k < e) w v := by
  obtain ⟨⟨hok, inner, ⟨hlen, ho⟩, hr⟩, _⟩ := h
  have hsz : k52.sz = 3 := rfl
  rcases ho with ⟨rfl, h0⟩ | ⟨g, cap, cur, rfl, hbg, hg, hnc, hcm, hcs, htake⟩
  · exact ⟨.inl rfl, fun g n c e => by cases e⟩
  · have hSg := hok g rfl
    refine ⟨.inr ⟨g, xs.length, cap, rfl, hSg, hnc, hcm, hl, cur, hg, by rw [hcs, hsz]⟩, fun g' n' c' e' j u hj hu => ?_⟩
    injection e' with e1 e2 e3
    injection e1 with e1
    injection e1 with e1
    subst e1; subst e2; subst e3
    obtain ⟨p, hp⟩ : ∃ p, xs[j]? = some p := ⟨xs[j], List.getElem?_eq_getElem hj⟩
    have hM := hr.2 j p hp
    rw [hsz] at hM
    obtain ⟨v2, hc2, hR2⟩ := k52_openM hM
    have hin : inner[j * 3 + 2]? = some v2 := by
      have := congrArg (fun q => q[2]?) hc2
      simpa [List.getElem?_take, List.getElem?_drop] using this
    have huv : u = v2 := by
      have hi : cur.toList[j * 3 + 2]? = some v2 := by
        rw [← htake, List.getElem?_take] at hin
        split at hin
        · exact hin
        · cases hin
      have : cur[3 * j + 2]? = some u := by simpa [World.cell?, hg] using hu
      rw [Nat.mul_comm, ← Array.getElem?_toList, hi] at this
      exact (Option.some.inj this).symm
    subst huv
    obtain ⟨hrl, hrt⟩ := hb p (List.mem_of_getElem? hp)
    obtain ⟨hok2, inner2, ⟨hlen2, ho2⟩, hr2⟩ := hR2
    rcases ho2 with ⟨rfl, h0⟩ | ⟨g2, cap2, cur2, rfl, hbg2, hg2, hnc2, hcm2, hcs2, htake2⟩
    · exact ⟨.inl rfl, fun g n c e => by cases e⟩
    · have hS2 := (hok2 g2 rfl).1
      refine ⟨.inr ⟨g2, p.f2.length, cap2, rfl, hS2, hnc2, hcm2, hrl, cur2, hg2, by rw [hcs2]; rfl⟩, fun g' n' c' e' j2 u2 hj2 hu2 => ?_⟩
      injection e' with e1 e2 e3
      injection e1 with e1
      injection e1 with e1
      subst e1; subst e2; subst e3
      obtain ⟨q, hq⟩ : ∃ q, p.f2[j2]? = some q := ⟨p.f2[j2], List.getElem?_eq_getElem hj2⟩
      obtain ⟨v3, hv3, hR3⟩ := hr2.2 j2 q hq
      have hin2 : inner2[j2]? = some v3 := by
        have := congrArg (fun q => q[0]?) hv3
        simpa [Kd.slice, List.getElem?_take, List.getElem?_drop] using this
      have huv2 : u2 = v3 := by
        have hi : cur2.toList[j2]? = some v3 := by
          rw [← htake2, List.getElem?_take] at hin2
          split at hin2
          · exact hin2
          · cases hin2
        have : cur2[j2]? = some u2 := by simpa [World.cell?, hg2] using hu2
        rw [← Array.getElem?_toList, hi] at this
        exact (Option.some.inj this).symm
      subst huv2
      obtain ⟨hok3, inner3, ⟨hlen3, ho3⟩, hr3⟩ := hR3
      rcases ho3 with ⟨rfl, h0⟩ | ⟨g3, cap3, cur3, rfl, hbg3, hg3, hnc3, hcm3, hcs3, htake3⟩
      · exact .inl rfl
      · exact .inr ⟨g3, q.length, cap3, rfl, (hok3 g3 rfl).1.1, hnc3, hcm3, hrt q (List.mem_of_getElem? hq), cur3, hg3, by rw [hcs3]; rfl⟩
/-- The round's first half: nothing that was there at the round's head has turned; l and kept lie in blocks gl, gk. -/
structure St (wr W : World) (gl gk : Nat) (XL : Nat → Int) (vL : Nat → Value) (XK : Nat → Int) (vK : Nat → Value) : Prop where
  r : Below wr.heap.size wr W
  l : ArrB W gl XL vL
  k : ArrB W gk XK vK
  gl_ge : wr.heap.size ≤ gl
  gk_ge : wr.heap.size ≤ gk
  ne : gl ≠ gk
section
variable {wr W W1 : World} {gl gk : Nat} {XL XK : Nat → Int} {vL vK : Nat → Value}
theorem St.below (s : St wr W gl gk XL vL XK vK) (hb : Below W.heap.size W W1) : St wr W1 gl gk XL vL XK vK := ⟨below_step s.r hb, s.l.below hb, s.k.below hb, s.gl_ge, s.gk_ge, s.ne⟩
theorem St.setL (s : St wr W gl gk XL vL XK vK) (i : Nat) (hi : i < 4) (x : Int) (v : Value) : St wr ((W.setCell ⟨gl, i * 2, none⟩ (.int .i64 x)).setCell ⟨gl, i * 2 + 1, none⟩ v) gl gk (upd XL i x) (upd vL i v) XK vK :=
  ⟨(s.r.setCell s.gl_ge _).setCell s.gl_ge _, s.l.set i hi x v, s.k.same (two_far _ _ _ _ _ _ _ (Ne.symm s.ne)), s.gl_ge, s.gk_ge, s.ne⟩
theorem St.setK (s : St wr W gl gk XL vL XK vK) (i : Nat) (hi : i < 4) (x : Int) (v : Value) : St wr ((W.setCell ⟨gk, i * 2, none⟩ (.int .i64 x)).setCell ⟨gk, i * 2 + 1, none⟩ v) gl gk XL vL (upd XK i x) (upd vK i v) :=
  ⟨(s.r.setCell s.gk_ge _).setCell s.gk_ge _, s.l.same (two_far _ _ _ _ _ _ _ s.ne), s.k.set i hi x v, s.gl_ge, s.gk_ge, s.ne⟩
end
/-- The round's second half: first is kept's copy; the copies (us, vy) lie in the blocks bc .. ec - 1. -/
structure St2 (wc W : World) (gf gl gk b0 bc ec : Nat) (X : Nat → Int) (us vL : Nat → Value) (R : Nat → List S52) (vy : Value) (ys : List S96) : Prop where
  c : Below wc.heap.size wc W
  f : ArrB W gf X us
  l : ArrB W gl X vL
  k : ArrB W gk X us
  cp : ∀ i, i < 4 → Rs k52 52 W bc ec (us i) (R i)
  y : Rs k96 96 W bc ec vy ys
  lt : gf < b0 ∧ gl < b0 ∧ gk < b0 ∧ wc.heap.size ≤ b0 ∧ b0 ≤ W.heap.size
theorem St2.kept {wc W W1 : World} {gf gl gk b0 bc ec : Nat} {X : Nat → Int} {us vL : Nat → Value} {R : Nat → List S52} {vy : Value} {ys : List S96} {S : Nat → Prop} (s : St2 wc W gf gl gk b0 bc ec X us vL R vy ys) (hk : Kept W W1 S) (hc : Below wc.heap.size wc W1) (hS : ∀ k, S k → b0 ≤ k ∧ k < bc) : St2 wc W1 gf gl gk b0 bc ec X us vL R vy ys :=
  ⟨hc, s.f.same (hk.2 _ s.f.lt fun h => by have := hS _ h; have := s.lt; omega), s.l.same (hk.2 _ s.l.lt fun h => by have := hS _ h; have := s.lt; omega), s.k.same (hk.2 _ s.k.lt fun h => by have := hS _ h; have := s.lt; omega),
    fun i hi => (s.cp i hi).kept hk fun k h => .inl (hS k h).2, s.y.kept hk fun k h => .inl (hS k h).2, ⟨s.lt.1, s.lt.2.1, s.lt.2.2.1, s.lt.2.2.2.1, Nat.le_trans s.lt.2.2.2.2 hk.1⟩⟩
theorem St2.below {wc W W1 : World} {gf gl gk b0 bc ec : Nat} {X : Nat → Int} {us vL : Nat → Value} {R : Nat → List S52} {vy : Value} {ys : List S96} (s : St2 wc W gf gl gk b0 bc ec X us vL R vy ys) (hb : Below W.heap.size W W1) : St2 wc W1 gf gl gk b0 bc ec X us vL R vy ys :=
  s.kept (Kept.of_below hb (fun _ => False)) (below_step s.c hb) (fun _ h => h.elim)
end Go.Proofs.YtfmpaofbnjlniaaGreatDoor.F
/- ShapeOwn: 'first, listed = kept, append([]api.Symbol{}, own...)' (a region that draws its order). -/
namespace Go.Proofs.YtfmpaofbnjlniaaGreatDoor.F
open Go.RowKit Go.Proofs.YtfmpaofbnjlniaaGreatDoorW.PrintWords Go.Proofs.YtfmpaofbnjlniaaGreatDoorW.PrintLast Go.Proofs.YtfmpaofbnjlniaaGreatDoorW.PrintMore
set_option linter.unusedVariables false
set_option linter.unusedSimpArgs false
structure F5 (W : World) (gf : Nat) (X : Nat → Int) (us : Nat → Value) (vo : Value) (ys : List S96) (d : Nat → Prop) (x135 x136 x137 x138 x12 : Value) (w' : World) : Prop where
  kept : Kept W w' (fun k => k = gf)
  os : w'.os = W.os ∧ w'.tape = W.tape ∧ w'.output = W.output
  any : ∃ Y vs, ArrB w' gf Y vs
  h0 : d 0 → x135 = .agg (arrC X us)
  h1 : d 1 → ∃ g, x136 = .slice (some ⟨g, 0, none⟩) 0 0 ∧ W.heap.size ≤ g ∧ w'.heap[g]? = some (.cells #[] 96 (0, 0))
  h2 : d 2 → x137 = vo
  h3 : d 3 → Kd.R k96 96 w' W.heap.size (fun _ => True) x138 ys
  h4 : d 4 → ArrB w' gf X us
  h5 : d 5 → d 3 ∧ x12 = x138
def I5 (a0 : Act) (W : World) (gf : Nat) (X : Nat → Int) (us : Nat → Value) (vo : Value) (ys : List S96) (d : Nat → Prop) (a : Act) (w' : World) : Prop := ∃ x135 x136 x137 x138 x12 : Value, a = putAll a0 [(135, x135), (136, x136), (137, x137), (138, x138), (12, x12)] ∧ F5 W gf X us vo ys d x135 x136 x137 x138 x12 w'
theorem I5.mk {a0 : Act} {W : World} {gf : Nat} {X : Nat → Int} {us : Nat → Value} {vo : Value} {ys : List S96} {d : Nat → Prop} {w1 w2 : World} {a : Act} (x135 x136 x137 x138 x12 : Value) (ha : a = putAll a0 [(135, x135), (136, x136), (137, x137), (138, x138), (12, x12)]) (S : F5 W gf X us vo ys d x135 x136 x137 x138 x12 w1) : I5 a0 W gf X us vo ys d a w1 := ⟨x135, x136, x137, x138, x12, ha, S⟩
section
variable {W : World} {gf : Nat} {X : Nat → Int} {us : Nat → Value} {vo : Value} {ys : List S96} {d : Nat → Prop} {x135 x136 x137 x138 x12 : Value} {w1 w2 : World}
theorem F5.start (hk : Kept W w1 (fun k => k = gf)) (ho : w1.os = W.os ∧ w1.tape = W.tape ∧ w1.output = W.output) (ha : ∃ Y vs, ArrB w1 gf Y vs) : F5 W gf X us vo ys (fun _ => False) x135 x136 x137 x138 x12 w1 := by
  constructor
  · exact hk
  · exact ho
  · exact ha
  all_goals exact fun h => h.elim
theorem F5.grow (S : F5 W gf X us vo ys d x135 x136 x137 x138 x12 w1) (hb : Below w1.heap.size w1 w2) : F5 W gf X us vo ys d x135 x136 x137 x138 x12 w2 where
  kept := S.kept.below hb
  os := ⟨hb.os.trans S.os.1, hb.tape.trans S.os.2.1, hb.output.trans S.os.2.2⟩
  any := let ⟨Y, vs, h⟩ := S.any; ⟨Y, vs, h.below hb⟩
  h0 := S.h0
  h1 := fun h => let ⟨g, q1, q2, q3⟩ := S.h1 h; ⟨g, q1, q2, blk_below q3 hb⟩
  h2 := S.h2
  h3 := fun h => Kd.R_below (S.h3 h) hb
  h4 := fun h => (S.h4 h).below hb
  h5 := S.h5
theorem F5.n0 (S : F5 W gf X us vo ys d x135 x136 x137 x138 x12 w1) (hd : ¬ d 0) {y : Value} (hy : y = .agg (arrC X us)) : F5 W gf X us vo ys (fun j => d j ∨ j = 0) y x136 x137 x138 x12 w1 where
  kept := S.kept
  os := S.os
  any := S.any
  h0 := fun _ => hy
  h1 := fun h => S.h1 (h.resolve_right (by decide))
  h2 := fun h => S.h2 (h.resolve_right (by decide))
  h3 := fun h => S.h3 (h.resolve_right (by decide))
  h4 := fun h => S.h4 (h.resolve_right (by decide))
  h5 := fun h => ⟨.inl (S.h5 (h.resolve_right (by decide))).1, (S.h5 (h.resolve_right (by decide))).2⟩
theorem F5.n1 (S : F5 W gf X us vo ys d x135 x136 x137 x138 x12 w1) (hd : ¬ d 1) {y : Value} (hy : ∃ g, y = .slice (some ⟨g, 0, none⟩) 0 0 ∧ W.heap.size ≤ g ∧ w1.heap[g]? = some (.cells #[] 96 (0, 0))) : F5 W gf X us vo ys (fun j => d j ∨ j = 1) x135 y x137 x138 x12 w1 where
  kept := S.kept
  os := S.os
  any := S.any
  h0 := fun h => S.h0 (h.resolve_right (by decide))
  h1 := fun _ => hy
  h2 := fun h => S.h2 (h.resolve_right (by decide))
  h3 := fun h => S.h3 (h.resolve_right (by decide))
  h4 := fun h => S.h4 (h.resolve_right (by decide))
  h5 := fun h => ⟨.inl (S.h5 (h.resolve_right (by decide))).1, (S.h5 (h.resolve_right (by decide))).2⟩
theorem F5.n2 (S : F5 W gf X us vo ys d x135 x136 x137 x138 x12 w1) (hd : ¬ d 2) {y : Value} (hy : y = vo) : F5 W gf X us vo ys (fun j => d j ∨ j = 2) x135 x136 y x138 x12 w1 where
  kept := S.kept
  os := S.os
  any := S.any
  h0 := fun h => S.h0 (h.resolve_right (by decide))
  h1 := fun h => S.h1 (h.resolve_right (by decide))
  h2 := fun _ => hy
  h3 := fun h => S.h3 (h.resolve_right (by decide))
  h4 := fun h => S.h4 (h.resolve_right (by decide))
  h5 := fun h => ⟨.inl (S.h5 (h.resolve_right (by decide))).1, (S.h5 (h.resolve_right (by decide))).2⟩
theorem F5.n3 (S : F5 W gf X us vo ys d x135 x136 x137 x138 x12 w1) (hd : ¬ d 3) {y : Value} (hy : Kd.R k96 96 w1 W.heap.size (fun _ => True) y ys) : F5 W gf X us vo ys (fun j => d j ∨ j = 3) x135 x136 x137 y x12 w1 where
  kept := S.kept
  os := S.os
  any := S.any
  h0 := fun h => S.h0 (h.resolve_right (by decide))
  h1 := fun h => S.h1 (h.resolve_right (by decide))
  h2 := fun h => S.h2 (h.resolve_right (by decide))
  h3 := fun _ => hy
  h4 := fun h => S.h4 (h.resolve_right (by decide))
  h5 := fun h => absurd (S.h5 (h.resolve_right (by decide))).1 hd
theorem F5.n5 (S : F5 W gf X us vo ys d x135 x136 x137 x138 x12 w1) (hd : ¬ d 5) {y : Value} (hy : d 3 ∧ y = x138) : F5 W gf X us vo ys (fun j => d j ∨ j = 5) x135 x136 x137 x138 y w1 where
  kept := S.kept
  os := S.os
  any := S.any
  h0 := fun h => S.h0 (h.resolve_right (by decide))
  h1 := fun h => S.h1 (h.resolve_right (by decide))
  h2 := fun h => S.h2 (h.resolve_right (by decide))
  h3 := fun h => S.h3 (h.resolve_right (by decide))
  h4 := fun h => S.h4 (h.resolve_right (by decide))
  h5 := fun _ => ⟨.inl hy.1, hy.2⟩
theorem F5.n4 (S : F5 W gf X us vo ys d x135 x136 x137 x138 x12 w1) (hgf : gf < W.heap.size) : F5 W gf X us vo ys (fun j => d j ∨ j = 4) x135 x136 x137 x138 x12 ((((((((w1.setCell ⟨gf, 0, none⟩ (.int .i64 (X 0))).setCell ⟨gf, 1, none⟩ (us 0)).setCell ⟨gf, 2, none⟩ (.int .i64 (X 1))).setCell ⟨gf, 3, none⟩ (us 1)).setCell ⟨gf, 4, none⟩ (.int .i64 (X 2))).setCell ⟨gf, 5, none⟩ (us 2)).setCell ⟨gf, 6, none⟩ (.int .i64 (X 3))).setCell ⟨gf, 7, none⟩ (us 3)) := by
  obtain ⟨Y, vs, hA⟩ := S.any
  have k0 := hA.set 0 (by decide) (X 0) (us 0)
  have k1 := k0.set 1 (by decide) (X 1) (us 1)
  have k2 := k1.set 2 (by decide) (X 2) (us 2)
  have k3 := k2.set 3 (by decide) (X 3) (us 3)
  have k4 : ArrB ((((((((w1.setCell ⟨gf, 0, none⟩ (.int .i64 (X 0))).setCell ⟨gf, 1, none⟩ (us 0)).setCell ⟨gf, 2, none⟩ (.int .i64 (X 1))).setCell ⟨gf, 3, none⟩ (us 1)).setCell ⟨gf, 4, none⟩ (.int .i64 (X 2))).setCell ⟨gf, 5, none⟩ (us 2)).setCell ⟨gf, 6, none⟩ (.int .i64 (X 3))).setCell ⟨gf, 7, none⟩ (us 3)) gf X us := k3
  have far : ∀ k, k ≠ gf → ((((((((w1.setCell ⟨gf, 0, none⟩ (.int .i64 (X 0))).setCell ⟨gf, 1, none⟩ (us 0)).setCell ⟨gf, 2, none⟩ (.int .i64 (X 1))).setCell ⟨gf, 3, none⟩ (us 1)).setCell ⟨gf, 4, none⟩ (.int .i64 (X 2))).setCell ⟨gf, 5, none⟩ (us 2)).setCell ⟨gf, 6, none⟩ (.int .i64 (X 3))).setCell ⟨gf, 7, none⟩ (us 3)).heap[k]? = w1.heap[k]? := fun k hk => (two_far _ _ _ _ _ _ _ hk).trans ((two_far _ _ _ _ _ _ _ hk).trans ((two_far _ _ _ _ _ _ _ hk).trans (two_far _ _ _ _ _ _ _ hk)))
  have hsz : ((((((((w1.setCell ⟨gf, 0, none⟩ (.int .i64 (X 0))).setCell ⟨gf, 1, none⟩ (us 0)).setCell ⟨gf, 2, none⟩ (.int .i64 (X 1))).setCell ⟨gf, 3, none⟩ (us 1)).setCell ⟨gf, 4, none⟩ (.int .i64 (X 2))).setCell ⟨gf, 5, none⟩ (us 2)).setCell ⟨gf, 6, none⟩ (.int .i64 (X 3))).setCell ⟨gf, 7, none⟩ (us 3)).heap.size = w1.heap.size := by simp [World.setCell]
  have hos : ((((((((w1.setCell ⟨gf, 0, none⟩ (.int .i64 (X 0))).setCell ⟨gf, 1, none⟩ (us 0)).setCell ⟨gf, 2, none⟩ (.int .i64 (X 1))).setCell ⟨gf, 3, none⟩ (us 1)).setCell ⟨gf, 4, none⟩ (.int .i64 (X 2))).setCell ⟨gf, 5, none⟩ (us 2)).setCell ⟨gf, 6, none⟩ (.int .i64 (X 3))).setCell ⟨gf, 7, none⟩ (us 3)).os = w1.os ∧ ((((((((w1.setCell ⟨gf, 0, none⟩ (.int .i64 (X 0))).setCell ⟨gf, 1, none⟩ (us 0)).setCell ⟨gf, 2, none⟩ (.int .i64 (X 1))).setCell ⟨gf, 3, none⟩ (us 1)).setCell ⟨gf, 4, none⟩ (.int .i64 (X 2))).setCell ⟨gf, 5, none⟩ (us 2)).setCell ⟨gf, 6, none⟩ (.int .i64 (X 3))).setCell ⟨gf, 7, none⟩ (us 3)).tape = w1.tape ∧ ((((((((w1.setCell ⟨gf, 0, none⟩ (.int .i64 (X 0))).setCell ⟨gf, 1, none⟩ (us 0)).setCell ⟨gf, 2, none⟩ (.int .i64 (X 1))).setCell ⟨gf, 3, none⟩ (us 1)).setCell ⟨gf, 4, none⟩ (.int .i64 (X 2))).setCell ⟨gf, 5, none⟩ (us 2)).setCell ⟨gf, 6, none⟩ (.int .i64 (X 3))).setCell ⟨gf, 7, none⟩ (us 3)).output = w1.output := by refine ⟨?_, ?_, ?_⟩ <;> simp only [World.setCell]
  generalize ((((((((w1.setCell ⟨gf, 0, none⟩ (.int .i64 (X 0))).setCell ⟨gf, 1, none⟩ (us 0)).setCell ⟨gf, 2, none⟩ (.int .i64 (X 1))).setCell ⟨gf, 3, none⟩ (us 1)).setCell ⟨gf, 4, none⟩ (.int .i64 (X 2))).setCell ⟨gf, 5, none⟩ (us 2)).setCell ⟨gf, 6, none⟩ (.int .i64 (X 3))).setCell ⟨gf, 7, none⟩ (us 3)) = w2 at *
  exact {
    kept := ⟨by rw [hsz]; exact S.kept.1, fun k hk hn => (far k hn).trans (S.kept.2 k hk hn)⟩
    os := ⟨hos.1.trans S.os.1, hos.2.1.trans S.os.2.1, hos.2.2.trans S.os.2.2⟩
    any := ⟨_, _, k4⟩
    h0 := fun h => S.h0 (h.resolve_right (by decide))
    h1 := fun h => let ⟨g, q1, q2, q3⟩ := S.h1 (h.resolve_right (by decide)); ⟨g, q1, q2, (far g (by omega)).trans q3⟩
    h2 := fun h => S.h2 (h.resolve_right (by decide))
    h3 := fun h => Kd.R_mono (Kd.R_step (Kd.R_bound (S.h3 (h.resolve_right (by decide)))) fun k hk _ => far k (by have := hk.2.1; omega)) (fun _ _ => trivial)
    h4 := fun _ => k4
    h5 := fun h => ⟨.inl (S.h5 (h.resolve_right (by decide))).1, (S.h5 (h.resolve_right (by decide))).2⟩ }
theorem I5.start {a0 : Act} (S : F5 W gf X us vo ys d (a0.tmps.getD 135 undef) (a0.tmps.getD 136 undef) (a0.tmps.getD 137 undef) (a0.tmps.getD 138 undef) (a0.tmps.getD 12 undef) w1) : I5 a0 W gf X us vo ys d a0 w1 := ⟨_, _, _, _, _, by simp only [putAll, put_self], S⟩
end
end Go.Proofs.YtfmpaofbnjlniaaGreatDoor.F
/- ShapeOwn: the first half of a round; a region whose operations only read, beside calls that make. -/
namespace Go.Proofs.YtfmpaofbnjlniaaGreatDoor.F
open Go.RowKit Go.Proofs.YtfmpaofbnjlniaaGreatDoorW.PrintWords Go.Proofs.YtfmpaofbnjlniaaGreatDoorW.PrintLast Go.Proofs.YtfmpaofbnjlniaaGreatDoorW.PrintMore
set_option linter.unusedVariables false
set_option linter.unusedSimpArgs false
/-- Operation j's slot holds the j-th of vals, once it is done; the world grows. -/
def IV (W : World) (sl : List Nat) (val : List Value) (a0 : Act) (d : Nat → Prop) (a : Act) (w' : World) : Prop := ∃ xs : List Value, xs.length = sl.length ∧ a = putAll a0 (sl.zip xs) ∧ (∀ j, d j → xs[j]? = val[j]?) ∧ Below W.heap.size W w'
theorem IV.step {d : Nat → Prop} {xs val : List Value} (hv : ∀ j, d j → xs[j]? = val[j]?) (j : Nat) (y : Value) (hj : j < xs.length) (h : val[j]? = some y) : ∀ q, d q ∨ q = j → (xs.set j y)[q]? = val[q]? := by
  intro q hq
  by_cases hqj : j = q
  · subst hqj; rw [List.getElem?_set_self hj, h]
  · rw [List.getElem?_set_ne hqj]; exact hv q (hq.resolve_right (fun e => hqj e.symm))
theorem IV.start {W : World} {sl : List Nat} {val : List Value} {a0 : Act} : IV W sl val a0 (fun _ => False) a0 W.drew := by
  refine ⟨sl.map (fun s => a0.tmps.getD s undef), by simp, ?_, fun j h => h.elim, (Below.refl _ _).drew⟩
  induction sl with
  | nil => rfl
  | cons x r ih => simp only [List.map_cons, List.zip_cons_cons, putAll, put_self]; exact ih
theorem list8 {α : Type} {xs : List α} (h : xs.length = 8) : ∃ a b c d e f g i, xs = [a, b, c, d, e, f, g, i] := match xs, h with | [a, b, c, d, e, f, g, i], _ => ⟨a, b, c, d, e, f, g, i, rfl⟩
theorem list12 {α : Type} {xs : List α} (h : xs.length = 12) : ∃ a b c d e f g i j k l m, xs = [a, b, c, d, e, f, g, i, j, k, l, m] := match xs, h with | [a, b, c, d, e, f, g, i, j, k, l, m], _ => ⟨a, b, c, d, e, f, g, i, j, k, l, m, rfl⟩
/-- The first half of a round: l's first m structures are made; m-th's rows lie in the blocks b m .. e m - 1. -/
structure Hf (wr W : World) (gl gk : Nat) (XL : Nat → Int) (vL : Nat → Value) (XK : Nat → Int) (vK : Nat → Value) (b e : Nat → Nat) (X : Nat → Int) (R : Nat → List S52) (m : Nat) : Prop where
  st : St wr W gl gk XL vL XK vK
  rs : ∀ i, i < m → XL i = X i ∧ gl < b i ∧ gk < b i ∧ Rs k52 52 W (b i) (e i) (vL i) (R i)
  ord : ∀ i j, i < j → j < m → e i ≤ b j
def HFp (wr W : World) (gl gk : Nat) (X : Nat → Int) (R : Nat → List S52) (m : Nat) : Prop := ∃ XL vL XK vK b e, Hf wr W gl gk XL vL XK vK b e X R m
section
variable {wr W W1 : World} {gl gk : Nat} {X : Nat → Int} {R : Nat → List S52} {m : Nat}
theorem HFp.init (wr : World) : HFp wr ((wr.alloc (.cells #[.int .i64 0, .slice none 0 0, .int .i64 0, .slice none 0 0, .int .i64 0, .slice none 0 0, .int .i64 0, .slice none 0 0] 70)).alloc (.cells #[.int .i64 0, .slice none 0 0, .int .i64 0, .slice none 0 0, .int .i64 0, .slice none 0 0, .int .i64 0, .slice none 0 0] 70)) wr.heap.size (wr.heap.size + 1) X R 0 :=
  ⟨fun _ => 0, fun _ => .slice none 0 0, fun _ => 0, fun _ => .slice none 0 0, fun _ => 0, fun _ => 0,
    ⟨⟨below_alloc (below_alloc (Below.refl _ _) _) _, (heap_alloc_old _ _ (by simp)).trans (heap_alloc_new _ _), by
        have := heap_alloc_new (wr.alloc (.cells #[.int .i64 0, .slice none 0 0, .int .i64 0, .slice none 0 0, .int .i64 0, .slice none 0 0, .int .i64 0, .slice none 0 0] 70)) (.cells #[.int .i64 0, .slice none 0 0, .int .i64 0, .slice none 0 0, .int .i64 0, .slice none 0 0, .int .i64 0, .slice none 0 0] 70)
        have e : (wr.alloc (.cells #[.int .i64 0, .slice none 0 0, .int .i64 0, .slice none 0 0, .int .i64 0, .slice none 0 0, .int .i64 0, .slice none 0 0] 70)).heap.size = wr.heap.size + 1 := by simp
        rw [e] at this; exact this, Nat.le_refl _, by omega, by omega⟩, fun i h => absurd h (by omega), fun i j _ h => absurd h (by omega)⟩⟩
theorem HFp.r (h : HFp wr W gl gk X R m) : Below wr.heap.size wr W := let ⟨_, _, _, _, _, _, h⟩ := h; h.st.r
theorem HFp.below (h : HFp wr W gl gk X R m) (hb : Below W.heap.size W W1) : HFp wr W1 gl gk X R m := by
  obtain ⟨XL, vL, XK, vK, b, e, h⟩ := h
  exact ⟨XL, vL, XK, vK, b, e, h.st.below hb, fun i hi => let ⟨q1, q2, q3, q4⟩ := h.rs i hi; ⟨q1, q2, q3, q4.below hb⟩, h.ord⟩
/-- The cells that a store into l's m-th needs. -/
theorem HFp.cells (h : HFp wr W gl gk X R m) (i : Nat) (hi : i < 4) : ∃ u v, W.cell? ⟨gl, i * 2, none⟩ = some u ∧ W.cell? ⟨gl, i * 2 + 1, none⟩ = some v ∧ W.frozen? ⟨gl, i * 2, none⟩ = false ∧ W.frozen? ⟨gl, i * 2 + 1, none⟩ = false := by
  obtain ⟨XL, vL, XK, vK, b, e, h⟩ := h
  exact ⟨_, _, h.st.l.cells i hi⟩
/-- A call that makes the m-th, and its store. -/
theorem HFp.step (h : HFp wr W gl gk X R m) (hm : m < 4) {v : Value} (hR : Kd.R k52 52 W1 W.heap.size (fun _ => True) v (R m)) (hb : Below W.heap.size W W1) :
    HFp wr ((W1.setCell ⟨gl, m * 2, none⟩ (.int .i64 (X m))).setCell ⟨gl, m * 2 + 1, none⟩ v) gl gk X R (m + 1) := by
  obtain ⟨XL, vL, XK, vK, b, e, h⟩ := h
  have hgl : gl < W.heap.size := h.st.l.lt
  have hgk : gk < W.heap.size := h.st.k.lt
  refine ⟨upd XL m (X m), upd vL m v, XK, vK, upd b m W.heap.size, upd e m W1.heap.size, (h.st.below hb).setL m hm (X m) v, fun i hi => ?_, fun i j hij hj => ?_⟩
  · by_cases him : i = m
    · subst him
      simp only [upd, if_pos]
      exact ⟨trivial, hgl, hgk, (Rs.mk hR).two (.inl hgl) _ _ _ _⟩
    · simp only [upd, if_neg him]
      obtain ⟨q1, q2, q3, q4⟩ := h.rs i (by omega)
      exact ⟨q1, q2, q3, (q4.below hb).two (.inl q2) _ _ _ _⟩
  · by_cases hjm : j = m
    · subst hjm
      have hne : i ≠ j := by omega
      simp only [upd, if_neg hne, if_pos]
      exact (h.rs i hij).2.2.2.2
    · have hne : i ≠ m := by omega
      simp only [upd, if_neg hne, if_neg hjm]
      exact h.ord i j hij (by omega)
/-- The first half of a round, behind the four calls: l's rows, the symbols vy (blocks b2 .. e2 - 1), kept's first m copies (blocks bc ..). -/
structure Hc (wr W : World) (gl gk : Nat) (XL : Nat → Int) (vL : Nat → Value) (XK : Nat → Int) (vK : Nat → Value) (b e : Nat → Nat) (b2 e2 bc : Nat) (X : Nat → Int) (R : Nat → List S52) (vy : Value) (ys : List S96) (m : Nat) : Prop where
  hf : Hf wr W gl gk XL vL XK vK b e X R 4
  y : Rs k96 96 W b2 e2 vy ys
  lt : gl < b2 ∧ gk < b2 ∧ e2 ≤ bc ∧ bc ≤ W.heap.size ∧ b2 ≤ e2
  le : ∀ i, i < 4 → e i ≤ b2
  cp : ∀ j, j < m → XK j = X j ∧ Rs k52 52 W bc W.heap.size (vK j) (R j)
def HCp (wr W : World) (gl gk : Nat) (X : Nat → Int) (R : Nat → List S52) (vy : Value) (ys : List S96) (m : Nat) : Prop := ∃ XL vL XK vK b e b2 e2 bc, Hc wr W gl gk XL vL XK vK b e b2 e2 bc X R vy ys m
variable {vy : Value} {ys : List S96}
theorem Rs.widen {α : Type} {d : Kd α} {t : Nat} {w : World} {b e e' : Nat} {v : Value} {xs : List α} (h : Rs d t w b e v xs) (h1 : e ≤ e') (h2 : e' ≤ w.heap.size) : Rs d t w b e' v xs := ⟨Kd.R_mono h.1 fun k hk => ⟨hk.1, by omega⟩, h2⟩
theorem HCp.init (h : HFp wr W gl gk X R 4) (hR : Kd.R k96 96 W1 W.heap.size (fun _ => True) vy ys) (hb : Below W.heap.size W W1) : HCp wr W1 gl gk X R vy ys 0 := by
  obtain ⟨XL, vL, XK, vK, b, e, h⟩ := h
  exact ⟨XL, vL, XK, vK, b, e, W.heap.size, W1.heap.size, W1.heap.size, ⟨h.st.below hb, fun i hi => let ⟨q1, q2, q3, q4⟩ := h.rs i hi; ⟨q1, q2, q3, q4.below hb⟩, h.ord⟩, Rs.mk hR, ⟨h.st.l.lt, h.st.k.lt, Nat.le_refl _, Nat.le_refl _, hb.size⟩, fun i hi => (h.rs i hi).2.2.2.2, fun j hj => absurd hj (by omega)⟩
theorem HCp.r (h : HCp wr W gl gk X R vy ys m) : Below wr.heap.size wr W := let ⟨_, _, _, _, _, _, _, _, _, h⟩ := h; h.hf.st.r
theorem HCp.below (h : HCp wr W gl gk X R vy ys m) (hb : Below W.heap.size W W1) : HCp wr W1 gl gk X R vy ys m := by
  obtain ⟨XL, vL, XK, vK, b, e, b2, e2, bc, h⟩ := h
  exact ⟨XL, vL, XK, vK, b, e, b2, e2, bc, ⟨h.hf.st.below hb, fun i hi => let ⟨q1, q2, q3, q4⟩ := h.hf.rs i hi; ⟨q1, q2, q3, q4.below hb⟩, h.hf.ord⟩, h.y.below hb, ⟨h.lt.1, h.lt.2.1, h.lt.2.2.1, Nat.le_trans h.lt.2.2.2.1 hb.size, h.lt.2.2.2.2⟩, h.le, fun j hj => ⟨(h.cp j hj).1, ((h.cp j hj).2.below hb).widen hb.size (Nat.le_refl _)⟩⟩
theorem HCp.y (h : HCp wr W gl gk X R vy ys m) : CV k96 W vy ys := let ⟨_, _, _, _, _, _, _, _, _, h⟩ := h; h.y.cv
theorem HCp.getL (h : HCp wr W gl gk X R vy ys m) (i : Nat) (hi : i < 4) : ∃ A c, W.cell? ⟨gl, i * 2, none⟩ = some (.int .i64 (X i)) ∧ W.cell? ⟨gl, i * 2 + 1, none⟩ = some (.slice A (R i).length c) ∧ (R i).length ≤ c ∧ Kd.C k52 W A (R i).length (R i) ∧ gl < W.heap.size ∧ gk < W.heap.size := by
  obtain ⟨XL, vL, XK, vK, b, e, b2, e2, bc, h⟩ := h
  obtain ⟨q1, q2, q3, q4⟩ := h.hf.rs i hi
  obtain ⟨A, c, e1, h1, h2⟩ := q4.cv
  obtain ⟨k0, k1, _, _⟩ := h.hf.st.l.cells i hi
  exact ⟨A, c, by rw [k0, q1], by rw [k1, e1], h1, h2, h.hf.st.l.lt, h.hf.st.k.lt⟩
theorem HCp.cells (h : HCp wr W gl gk X R vy ys m) (i : Nat) (hi : i < 4) : ∃ u v, W.cell? ⟨gk, i * 2, none⟩ = some u ∧ W.cell? ⟨gk, i * 2 + 1, none⟩ = some v ∧ W.frozen? ⟨gk, i * 2, none⟩ = false ∧ W.frozen? ⟨gk, i * 2 + 1, none⟩ = false := by
  obtain ⟨XL, vL, XK, vK, b, e, b2, e2, bc, h⟩ := h
  exact ⟨_, _, h.hf.st.k.cells i hi⟩
theorem HCp.step (h : HCp wr W gl gk X R vy ys m) (hm : m < 4) {v : Value} (hR : Kd.R k52 52 W1 W.heap.size (fun _ => True) v (R m)) (hb : Below W.heap.size W W1) :
    HCp wr ((W1.setCell ⟨gk, m * 2, none⟩ (.int .i64 (X m))).setCell ⟨gk, m * 2 + 1, none⟩ v) gl gk X R vy ys (m + 1) := by
  obtain ⟨XL, vL, XK, vK, b, e, b2, e2, bc, h⟩ := h
  have hlt := h.lt
  have hsz : ((W1.setCell ⟨gk, m * 2, none⟩ (.int .i64 (X m))).setCell ⟨gk, m * 2 + 1, none⟩ v).heap.size = W1.heap.size := two_size _ _ _ _ _ _
  refine ⟨XL, vL, upd XK m (X m), upd vK m v, b, e, b2, e2, bc, ⟨(h.hf.st.below hb).setK m hm (X m) v, fun i hi => ?_, h.hf.ord⟩, (h.y.below hb).two (.inl hlt.2.1) _ _ _ _, ⟨hlt.1, hlt.2.1, hlt.2.2.1, by rw [hsz]; exact Nat.le_trans hlt.2.2.2.1 hb.size, hlt.2.2.2.2⟩, h.le, fun j hj => ?_⟩
  · obtain ⟨q1, q2, q3, q4⟩ := h.hf.rs i hi
    exact ⟨q1, q2, q3, (q4.below hb).two (.inl q3) _ _ _ _⟩
  · rw [hsz]
    by_cases hjm : j = m
    · subst hjm
      simp only [upd, if_pos]
      exact ⟨trivial, (Rs.mk (Kd.R_lower hR hlt.2.2.2.1)).two (.inl (by omega)) _ _ _ _⟩
    · simp only [upd, if_neg hjm]
      exact ⟨(h.cp j (by omega)).1, (((h.cp j (by omega)).2.below hb).widen hb.size (Nat.le_refl _)).two (.inl (by omega)) _ _ _ _⟩
end
end Go.Proofs.YtfmpaofbnjlniaaGreatDoor.F
/- ShapeOwn: the second half of a round. -/
namespace Go.Proofs.YtfmpaofbnjlniaaGreatDoor.F
open Go.RowKit Go.Proofs.YtfmpaofbnjlniaaGreatDoorW.PrintWords Go.Proofs.YtfmpaofbnjlniaaGreatDoorW.PrintLast Go.Proofs.YtfmpaofbnjlniaaGreatDoorW.PrintMore
set_option linter.unusedVariables false
set_option linter.unusedSimpArgs false
theorem ArrB.congr {w : World} {g : Nat} {X Y : Nat → Int} {vs : Nat → Value} (h : ArrB w g X vs) (e : ∀ i, i < 4 → X i = Y i) : ArrB w g Y vs := by
  have : arrC X vs = arrC Y vs := by unfold arrC; rw [e 0 (by omega), e 1 (by omega), e 2 (by omega), e 3 (by omega)]
  unfold ArrB at *
  rw [← this]
  exact h
/-- The second half: l's rows from the m-th on are whole; the copies are safe. -/
def S3 (wo W : World) (gl gk gf : Nat) (X : Nat → Int) (us : Nat → Value) (R : Nat → List S52) (vy : Value) (ys : List S96) (m : Nat) : Prop :=
  ∃ (vL : Nat → Value) (b0 bc ec : Nat) (b e : Nat → Nat), St2 wo W gf gl gk b0 bc ec X us vL R vy ys ∧ (∀ i, m ≤ i → i < 4 → b0 ≤ b i ∧ e i ≤ bc ∧ Rs k52 52 W (b i) (e i) (vL i) (R i)) ∧ (∀ i j, i < j → j < 4 → e i ≤ b j)
section
variable {wq wo W W1 : World} {gl gk gf : Nat} {X : Nat → Int} {us : Nat → Value} {R : Nat → List S52} {vy : Value} {ys : List S96} {m : Nat}
theorem HCp.open (h : HCp wq W gl gk X R vy ys 4) (hq : Below wo.heap.size wo wq) (hqf : wo.heap.size < wq.heap.size) : ∃ us b2 e2, ArrB W gk X us ∧ Rs k96 96 W b2 e2 vy ys ∧ wo.heap.size < b2 ∧ gk ≠ wo.heap.size ∧ wo.heap.size < W.heap.size ∧ (∀ i, i < 4 → ∃ A c, us i = .slice A (R i).length c)
    ∧ ∀ (w1 : World) (vl : Value), Kept W w1 (fun k => k = wo.heap.size) → (w1.os = W.os ∧ w1.tape = W.tape ∧ w1.output = W.output) → ArrB w1 wo.heap.size X us → Kd.R k96 96 w1 W.heap.size (fun _ => True) vl ys →
      ∃ P0 : Nat → Prop, Kd.R k96 96 w1 wo.heap.size P0 vy ys ∧ Below wo.heap.size wo w1 ∧ ∀ w', Kept w1 w' P0 → Below wo.heap.size wo w' → S3 wo w' gl gk wo.heap.size X us R vl ys 0 := by
  obtain ⟨XL, vL, XK, vK, b, e, b2, e2, bc, h⟩ := h
  have hlt := h.lt
  have hgl := h.hf.st.gl_ge
  have hgk := h.hf.st.gk_ge
  have hWb := h.hf.st.r
  have hlW := h.hf.st.l.lt
  have hkW := h.hf.st.k.lt
  refine ⟨vK, b2, e2, h.hf.st.k.congr (fun i hi => (h.cp i hi).1), h.y, by omega, by omega, by omega, fun i hi => (let ⟨A, c, e, _⟩ := (h.cp i hi).2.cv; ⟨A, c, e⟩), fun w1 vl hK hO hA hR => ?_⟩
  have hc : Below wo.heap.size wo w1 := by
    have hw := below_step hq hWb
    exact ⟨hO.1.trans hw.os, hO.2.1.trans hw.tape, hO.2.2.trans hw.output, Nat.le_trans hw.size hK.1, fun k hk => (hK.2 k (by have := hw.size; omega) (by omega)).trans (hw.block k hk)⟩
  have hy1 : Rs k96 96 w1 b2 e2 vy ys := h.y.kept hK (fun k hk => by subst hk; left; omega)
  refine ⟨fun k => b2 ≤ k ∧ k < e2, Kd.R_lower hy1.1 (by omega), hc, fun w' hk hb => ?_⟩
  have hbi : ∀ i, i < 4 → gl < b i ∧ gk < b i := fun i hi => ⟨(h.hf.rs i hi).2.1, (h.hf.rs i hi).2.2.1⟩
  have s : St2 wo w1 wo.heap.size gl gk (max gl gk + 1) bc w1.heap.size X vK vL R vl ys :=
    ⟨hc, hA, (h.hf.st.l.congr (fun i hi => (h.hf.rs i hi).1)).same (hK.2 _ hlW (by omega)), (h.hf.st.k.congr (fun i hi => (h.cp i hi).1)).same (hK.2 _ hkW (by omega)),
      fun i hi => ((h.cp i hi).2.kept hK (fun k hk => by subst hk; left; omega)).widen hK.1 (Nat.le_refl _), Rs.mk (Kd.R_lower hR hlt.2.2.2.1), by have := hK.1; omega⟩
  refine ⟨vL, max gl gk + 1, bc, w1.heap.size, b, e, s.kept hk hb (fun k hk => by have := hk; omega), fun i _ hi => ⟨by have := hbi i hi; omega, by have := h.le i hi; omega, ?_⟩, h.hf.ord⟩
  exact (((h.hf.rs i hi).2.2.2.kept hK (fun k hk => by subst hk; left; have := hbi i hi; omega))).kept hk (fun k hk => by have := h.le i hi; have := hk.1; right; omega)
theorem S3.c (h : S3 wo W gl gk gf X us R vy ys m) : Below wo.heap.size wo W := let ⟨_, _, _, _, _, _, s, _, _⟩ := h; s.c
theorem S3.f (h : S3 wo W gl gk gf X us R vy ys m) : ArrB W gf X us := let ⟨_, _, _, _, _, _, s, _, _⟩ := h; s.f
theorem S3.cp (h : S3 wo W gl gk gf X us R vy ys m) : ∀ i, i < 4 → CV k52 W (us i) (R i) := let ⟨_, _, _, _, _, _, s, _, _⟩ := h; fun i hi => (s.cp i hi).cv
theorem S3.y (h : S3 wo W gl gk gf X us R vy ys m) : CV k96 W vy ys := let ⟨_, _, _, _, _, _, s, _, _⟩ := h; s.y.cv
theorem S3.below (h : S3 wo W gl gk gf X us R vy ys m) (hb : Below W.heap.size W W1) : S3 wo W1 gl gk gf X us R vy ys m := by
  obtain ⟨vL, b0, bc, ec, b, e, s, hr, ho⟩ := h
  exact ⟨vL, b0, bc, ec, b, e, s.below hb, fun i h1 h2 => ⟨(hr i h1 h2).1, (hr i h1 h2).2.1, (hr i h1 h2).2.2.below hb⟩, ho⟩
theorem S3.get (h : S3 wo W gl gk gf X us R vy ys m) (i : Nat) (hm : m ≤ i) (hi : i < 4) : ∃ A c B d, W.cell? ⟨gl, i * 2, none⟩ = some (.int .i64 (X i)) ∧ W.cell? ⟨gl, i * 2 + 1, none⟩ = some (.slice A (R i).length c) ∧ W.cell? ⟨gk, i * 2, none⟩ = some (.int .i64 (X i)) ∧ W.cell? ⟨gk, i * 2 + 1, none⟩ = some (.slice B (R i).length d)
    ∧ (R i).length ≤ c ∧ Kd.C k52 W A (R i).length (R i) ∧ (R i).length ≤ d ∧ Kd.C k52 W B (R i).length (R i) := by
  obtain ⟨vL, b0, bc, ec, b, e, s, hr, ho⟩ := h
  obtain ⟨A, c, e1, h1, h2⟩ := (hr i hm hi).2.2.cv
  obtain ⟨B, d, e2, h3, h4⟩ := (s.cp i hi).cv
  obtain ⟨k0, k1, _, _⟩ := s.l.cells i hi
  obtain ⟨m0, m1, _, _⟩ := s.k.cells i hi
  exact ⟨A, c, B, d, k0, by rw [k1, e1], m0, by rw [m1, e2], h1, h2, h3, h4⟩
theorem S3.spoil (h : S3 wo W gl gk gf X us R vy ys m) (hm : m < 4) (hbd : (R m).length ≤ 1000000 ∧ ∀ r ∈ R m, r.f2.length ≤ 1000000 ∧ ∀ x ∈ r.f2, x.length ≤ 1000000) {v : Value} (hv : W.cell? ⟨gl, m * 2 + 1, none⟩ = some v) :
    ∃ S : Nat → Prop, G3 S W v ∧ (∀ k, S k → k < W.heap.size) ∧ ∀ w', Sp S W w' → S3 wo w' gl gk gf X us R vy ys (m + 1) := by
  obtain ⟨vL, b0, bc, ec, b, e, s, hr, ho⟩ := h
  obtain ⟨h1, h2, h3⟩ := hr m (Nat.le_refl _) hm
  have hvv : v = vL m := by rw [(s.l.cells m hm).2.1] at hv; exact (Option.some.inj hv).symm
  subst hvv
  have hlt := s.lt
  refine ⟨fun k => b m ≤ k ∧ k < e m, h3.g3 hbd.1 hbd.2, fun k hk => by have := h3.2; omega, fun w' hs => ?_⟩
  refine ⟨vL, b0, bc, ec, b, e, s.kept hs.kept (s.c.trans (hs.below (fun k hk => by omega) s.c.size)) (fun k hk => by omega), fun i hmi hi => ⟨(hr i (by omega) hi).1, (hr i (by omega) hi).2.1, (hr i (by omega) hi).2.2.kept hs.kept (fun k hk => by have := ho m i (by omega) hi; left; omega)⟩, ho⟩
end
end Go.Proofs.YtfmpaofbnjlniaaGreatDoor.F
/- ShapeOwn, by hand. -/
namespace Go.Proofs.YtfmpaofbnjlniaaGreatDoor.F
open Go.RowKit Go.Proofs.YtfmpaofbnjlniaaGreatDoorW.PrintWords Go.Proofs.YtfmpaofbnjlniaaGreatDoorW.PrintLast Go.Proofs.YtfmpaofbnjlniaaGreatDoorW.PrintMore
set_option linter.unusedVariables false
set_option linter.unusedSimpArgs false
/-- What the law's calls answer (X, R, E: the four structures and errors). -/
structure OwnH (k : Nat) (n : Int) (l : List S52) (nm : ByteArray) (t : List Int) (is : Bool) (pm : List Int) (sy : List S96) (X : Nat → Int) (R : Nat → List S52) (E : Nat → Int) (ys : List S96) : Prop where
  put : shape_Put.f k n l nm t is = some (X 0, R 0, E 0)
  per : shape_Permute.f k n l pm = some (X 1, R 1, E 1)
  keep : shape_Keep.f k n l sy = some (X 2, R 2, E 2)
  make : shape_Make.f k n sy = some (X 3, R 3, E 3)
  syms : shape_Symbols.f k n l = some ys
  copyS : paraphrastref01_Copy.f k n l = some (n, l)
  copy : ∀ i, i < 4 → paraphrastref01_Copy.f k (X i) (R i) = some (X i, R i)
  sameS : paraphrastref01_Same.f k n l n l = some true
  same : ∀ i, i < 4 → paraphrastref01_Same.f k (X i) (R i) (X i) (R i) = some true
  sameY : paraphrastlaw01_SameSymbols.f k ys ys = some true
  sameSy : paraphrastlaw01_SameSymbols.f k sy sy = some true
  eqT : paraphrastref01_Equal.f k t t = some true
  eqP : paraphrastref01_Equal.f k pm pm = some true
  spoil : paraphrastlaw01_SpoilSymbols.f k ys = some ()
  bd : ∀ i, i < 4 → (R i).length ≤ 1000000 ∧ ∀ r ∈ R i, r.f2.length ≤ 1000000 ∧ ∀ x ∈ r.f2, x.length ≤ 1000000
  lens : t.length ≤ 60 ∧ pm.length ≤ 200 ∧ sy.length ≤ 40 ∧ ys.length ≤ 1000000
theorem one_struct (W : World) (n : Int) (l : List S52) (A : Option Addr) (c : Nat) (hC : Kd.C k52 W A l.length l) (hlc : l.length ≤ c) :
    Kd.C k24 (W.alloc (.cells #[.int .i64 n, .slice A l.length c] 24)) (some ⟨W.heap.size, 0, none⟩) [(⟨n, l⟩ : S24)].length [(⟨n, l⟩ : S24)] := by
  refine ⟨rfl, by simp, fun _ => ⟨_, rfl, fun j p hp => ?_⟩⟩
  obtain ⟨hj, rfl⟩ := List.getElem?_eq_some_iff.1 hp
  have : j = 0 := by simp at hj; exact hj
  subst this
  refine ⟨_, rfl, k24_mk _ ⟨n, l⟩ hlc (Kd.C_alloc hC _), fun i u hu => ?_⟩
  obtain ⟨hi, rfl⟩ := List.getElem?_eq_some_iff.1 hu
  rw [Go.Proofs.YtfmpaofbnjlniaaGreatDoorW.PrintWords.add_plain]
  simp only [List.length_cons, List.length_nil] at hi
  obtain rfl | rfl : i = 0 ∨ i = 1 := by omega
  all_goals simp
set_option maxHeartbeats 4000000 in
set_option maxRecDepth 100000 in
theorem own_calls (k : Nat) (n : Int) (A0 : Option Addr) (c0 : Nat) (l : List S52) (nm : ByteArray) (A1 : Option Addr) (c1 : Nat) (t : List Int) (is : Bool) (A2 : Option Addr) (c2 : Nat) (pm : List Int) (A3 : Option Addr) (c3 : Nat) (sy : List S96) (w : World) (hG : Glob w)
    (hr0 : Kd.C k52 w A0 l.length l) (hc0 : l.length ≤ c0) (hr1 : Kd.C (Kd.int .i64) w A1 t.length t) (hc1 : t.length ≤ c1) (hr2 : Kd.C (Kd.int .i64) w A2 pm.length pm) (hc2 : pm.length ≤ c2) (hr3 : Kd.C k96 w A3 sy.length sy) (hc3 : sy.length ≤ c3)
    (b1 b2 : Bool) (hF : paraphrastlaw01_Few.f k [⟨n, l⟩] = some b1) (hFS : paraphrastlaw01_FewSymbols.f k sy = some b2) (hal : paraphrastlaw01_alive.f k = some true)
    (h : b1 = true → b2 = true → nm.size ≤ 1000 → t.length ≤ 60 → pm.length ≤ 200 → ∃ X R E ys, OwnH k n l nm t is pm sy X R E ys) :
    Calls Tryz.prog 8 #[.agg #[.int .i64 n, .slice A0 l.length c0], .agg #[.string nm, .slice A1 t.length c1, .bool is], .agg #[.slice A2 pm.length c2, .slice A3 sy.length c3]] w fun e w' => e = .returned (.bool true) ∧ Below w.heap.size w w' := by
  have HG := Aside0.mk hG
  have HR0 := Aside0.mk hr0
  have HR1 := Aside0.mk hr1
  have HR2 := Aside0.mk hr2
  have HR3 := Aside0.mk hr3
  have HC := Aside0.mk (And.intro hc0 (And.intro hc1 (And.intro hc2 hc3)))
  have HF := Aside0.mk hF
  have HFS := Aside0.mk hFS
  have HAL := Aside0.mk hal
  have HH := Aside0.mk h
  have hm1 := Kd.C_max hr1
  have hm2 := Kd.C_max hr2
  clear hG hr0 hc0 hr1 hc1 hr2 hc2 hr3 hc3 hF hFS hal h
  go_enter Tryz.func8, Tryz.ntmps8
  go_upto_region 1 with (fail)
  have HB := Aside0.mk (below_alloc (below_alloc (below_alloc (Below.refl w.heap.size w) (.cells #[.int .i64 n, .slice A0 l.length c0] 24)) (.cells #[.string nm, .slice A1 t.length c1, .bool is] 48)) (.cells #[.slice A2 pm.length c2, .slice A3 sy.length c3] 68))
  have X3 := Aside0.mk (show (((w.alloc (.cells #[.int .i64 n, .slice A0 l.length c0] 24)).alloc (.cells #[.string nm, .slice A1 t.length c1, .bool is] 48)).alloc (.cells #[.slice A2 pm.length c2, .slice A3 sy.length c3] 68)).heap[w.heap.size]? = some (.cells #[.int .i64 n, .slice A0 l.length c0] 24 (0, 0)) from (heap_alloc_old _ _ (by simp; omega)).trans ((heap_alloc_old _ _ (by simp)).trans (heap_alloc_new _ _)))
  have X4 := Aside0.mk (show (((w.alloc (.cells #[.int .i64 n, .slice A0 l.length c0] 24)).alloc (.cells #[.string nm, .slice A1 t.length c1, .bool is] 48)).alloc (.cells #[.slice A2 pm.length c2, .slice A3 sy.length c3] 68)).heap[w.heap.size + 1]? = some (.cells #[.string nm, .slice A1 t.length c1, .bool is] 48 (0, 0)) from (heap_alloc_old _ _ (by simp)).trans (by have := heap_alloc_new (w.alloc (.cells #[.int .i64 n, .slice A0 l.length c0] 24)) (.cells #[.string nm, .slice A1 t.length c1, .bool is] 48); simpa using this))
  have X5 := Aside0.mk (show (((w.alloc (.cells #[.int .i64 n, .slice A0 l.length c0] 24)).alloc (.cells #[.string nm, .slice A1 t.length c1, .bool is] 48)).alloc (.cells #[.slice A2 pm.length c2, .slice A3 sy.length c3] 68)).heap[w.heap.size + 1 + 1]? = some (.cells #[.slice A2 pm.length c2, .slice A3 sy.length c3] 68 (0, 0)) from by have := heap_alloc_new ((w.alloc (.cells #[.int .i64 n, .slice A0 l.length c0] 24)).alloc (.cells #[.string nm, .slice A1 t.length c1, .bool is] 48)) (.cells #[.slice A2 pm.length c2, .slice A3 sy.length c3] 68); simpa using this)
  generalize ((w.alloc (.cells #[.int .i64 n, .slice A0 l.length c0] 24)).alloc (.cells #[.string nm, .slice A1 t.length c1, .bool is] 48)).alloc (.cells #[.slice A2 pm.length c2, .slice A3 sy.length c3] 68) = W3 at *
  generalize w.heap.size + 1 + 1 = g5 at *
  generalize w.heap.size + 1 = g4 at *
  go_cut [46] (fun v46 wc => ∃ bad : Bool, v46 = .bool bad ∧ Aside0 (bad = false → b1 = true ∧ b2 = true ∧ nm.size ≤ 1000 ∧ t.length ≤ 60 ∧ pm.length ≤ 200) ∧ Aside0 (Below w.heap.size w wc) ∧ Aside0 (wc.heap[w.heap.size]? = some (.cells #[.int .i64 n, .slice A0 l.length c0] 24 (0, 0))) ∧ Aside0 (wc.heap[g4]? = some (.cells #[.string nm, .slice A1 t.length c1, .bool is] 48 (0, 0))) ∧ Aside0 (wc.heap[g5]? = some (.cells #[.slice A2 pm.length c2, .slice A3 sy.length c3] 68 (0, 0))))
  case first =>
    have C0 := Aside0.mk (Kd.C_below HR0.out HB.out : Kd.C k52 W3 A0 l.length l)
    have C3 := Aside0.mk (Kd.C_below HR3.out HB.out : Kd.C k96 W3 A3 sy.length sy)
    obtain ⟨p30, p31, f30, f31⟩ := bq2 X3
    obtain ⟨p40, p41, p42, f40, f41, f42⟩ := bq3 X4
    obtain ⟨p50, p51, f50, f51⟩ := bq2 X5
    have z3 := blk_lt X3.out
    have z4 := blk_lt X4.out
    have z5 := blk_lt X5.out
    cases b1 with
    | false =>
      go_wp2_with (first | (go_at_call 9; refine (paraphrastlaw01_Few.calls k _ 1 [⟨n, l⟩] false _ (one_struct W3 n l A0 c0 C0.out HC.out.1) (by simp) HF.out).mono ?_; rintro e w' ⟨rfl, ⟨nd, rfl⟩⟩))
      go_meet
      case rel => exact ⟨true, rfl, ⟨fun h => by cases h⟩, ⟨bel⟩, ⟨bk X3⟩, ⟨bk X4⟩, ⟨bk X5⟩⟩
    | true =>
      cases b2 with
      | false =>
        go_wp2_with (first | (go_at_call 9; refine (paraphrastlaw01_Few.calls k _ 1 [⟨n, l⟩] true _ (one_struct W3 n l A0 c0 C0.out HC.out.1) (by simp) HF.out).mono ?_; rintro e w' ⟨rfl, ⟨nd, rfl⟩⟩) | (go_at_call 17; refine (paraphrastlaw01_FewSymbols.calls k A3 c3 sy false _ ?s1 HC.out.2.2.2 HFS.out).mono ?_; (case s1 => exact cS C3.out); rintro e w' ⟨rfl, ⟨nd2, rfl⟩⟩))
        go_meet
        case rel => exact ⟨true, rfl, ⟨fun h => by cases h⟩, ⟨bel⟩, ⟨bk X3⟩, ⟨bk X4⟩, ⟨bk X5⟩⟩
      | true =>
        by_cases q1 : 1000 < nm.size
        · have q1a : decide ((1000 : Int) < (nm.size : Int)) = true := decide_eq_true (by omega)
          have q1b : decide (1000 < nm.size) = true := decide_eq_true q1
          clear q1
          go_wp2_with (first | (go_at_call 9; refine (paraphrastlaw01_Few.calls k _ 1 [⟨n, l⟩] true _ (one_struct W3 n l A0 c0 C0.out HC.out.1) (by simp) HF.out).mono ?_; rintro e w' ⟨rfl, ⟨nd, rfl⟩⟩) | (go_at_call 17; refine (paraphrastlaw01_FewSymbols.calls k A3 c3 sy true _ ?s1 HC.out.2.2.2 HFS.out).mono ?_; (case s1 => exact cS C3.out); rintro e w' ⟨rfl, ⟨nd2, rfl⟩⟩))
          go_meet
          case rel => exact ⟨true, rfl, ⟨fun h => by cases h⟩, ⟨bel⟩, ⟨bk X3⟩, ⟨bk X4⟩, ⟨bk X5⟩⟩
        · have q1a : decide ((1000 : Int) < (nm.size : Int)) = false := decide_eq_false (by omega)
          have q1b : decide (1000 < nm.size) = false := decide_eq_false q1
          by_cases q2 : 60 < t.length
          · have q2a : decide ((60 : Int) < (t.length : Int)) = true := decide_eq_true (by omega)
            have q2b : decide (60 < t.length) = true := decide_eq_true q2
            clear q2
            go_wp2_with (first | (go_at_call 9; refine (paraphrastlaw01_Few.calls k _ 1 [⟨n, l⟩] true _ (one_struct W3 n l A0 c0 C0.out HC.out.1) (by simp) HF.out).mono ?_; rintro e w' ⟨rfl, ⟨nd, rfl⟩⟩) | (go_at_call 17; refine (paraphrastlaw01_FewSymbols.calls k A3 c3 sy true _ ?s1 HC.out.2.2.2 HFS.out).mono ?_; (case s1 => exact cS C3.out); rintro e w' ⟨rfl, ⟨nd2, rfl⟩⟩))
            go_meet
            case rel => exact ⟨true, rfl, ⟨fun h => by cases h⟩, ⟨bel⟩, ⟨bk X3⟩, ⟨bk X4⟩, ⟨bk X5⟩⟩
          · have q2a : decide ((60 : Int) < (t.length : Int)) = false := decide_eq_false (by omega)
            have q2b : decide (60 < t.length) = false := decide_eq_false q2
            by_cases q3 : 200 < pm.length
            · have q3a : decide ((200 : Int) < (pm.length : Int)) = true := decide_eq_true (by omega)
              have q3b : decide (200 < pm.length) = true := decide_eq_true q3
              clear q3
              go_wp2_with (first | (go_at_call 9; refine (paraphrastlaw01_Few.calls k _ 1 [⟨n, l⟩] true _ (one_struct W3 n l A0 c0 C0.out HC.out.1) (by simp) HF.out).mono ?_; rintro e w' ⟨rfl, ⟨nd, rfl⟩⟩) | (go_at_call 17; refine (paraphrastlaw01_FewSymbols.calls k A3 c3 sy true _ ?s1 HC.out.2.2.2 HFS.out).mono ?_; (case s1 => exact cS C3.out); rintro e w' ⟨rfl, ⟨nd2, rfl⟩⟩))
              go_meet
              case rel => exact ⟨true, rfl, ⟨fun h => by cases h⟩, ⟨bel⟩, ⟨bk X3⟩, ⟨bk X4⟩, ⟨bk X5⟩⟩
            · have q3a : decide ((200 : Int) < (pm.length : Int)) = false := decide_eq_false (by omega)
              have q3b : decide (200 < pm.length) = false := decide_eq_false q3
              go_wp2_with (first | (go_at_call 9; refine (paraphrastlaw01_Few.calls k _ 1 [⟨n, l⟩] true _ (one_struct W3 n l A0 c0 C0.out HC.out.1) (by simp) HF.out).mono ?_; rintro e w' ⟨rfl, ⟨nd, rfl⟩⟩) | (go_at_call 17; refine (paraphrastlaw01_FewSymbols.calls k A3 c3 sy true _ ?s1 HC.out.2.2.2 HFS.out).mono ?_; (case s1 => exact cS C3.out); rintro e w' ⟨rfl, ⟨nd2, rfl⟩⟩))
              go_meet
              case rel => exact ⟨false, rfl, ⟨fun _ => ⟨by trivial, by trivial, by omega, by omega, by omega⟩⟩, ⟨bel⟩, ⟨bk X3⟩, ⟨bk X4⟩, ⟨bk X5⟩⟩
  case rest =>
    obtain ⟨bad, rfl, HBAD, HB, X3, X4, X5⟩ := hcut
    cases bad with
    | true =>
      go_wp2_with (go_at_call 10; refine (paraphrastlaw01_alive.calls k true _ (Glob.below HG.out HB.out) HAL.out).mono ?_; rintro e w' ⟨rfl, hb⟩)
      go_ret
      exact ⟨rfl, below_step HB.out hb⟩
    | false =>
      obtain ⟨hb1, hb2, hb3, hb4, hb5⟩ := HBAD.out rfl
      obtain ⟨X, R, E, ys, H0⟩ := HH.out hb1 hb2 hb3 hb4 hb5
      have H := Aside0.mk H0
      clear H0 hb1 hb2 hb3 hb4 hb5 HBAD HH HF HFS
      obtain ⟨p30, p31, f30, f31⟩ := bq2 X3
      obtain ⟨p40, p41, p42, f40, f41, f42⟩ := bq3 X4
      obtain ⟨p50, p51, f50, f51⟩ := bq2 X5
      go_upto_region 3 with (fail)
      go_cut [7, 8, 9, 10] (fun v7 v8 v9 v10 wc => ∃ (g7 : Nat) (vs : Value), v7 = .pointer (some ⟨g7, 0, none⟩) ∧ Aside0 (wc.heap[g7]? = some (.cells #[.int .i64 n, vs] 24 (0, 0))) ∧ Aside0 (Kd.R k52 52 wc w.heap.size (fun _ => True) vs l) ∧ Aside0 (Kd.R (Kd.int .i64) 3 wc w.heap.size (fun _ => True) v8 t) ∧ Aside0 (Kd.R (Kd.int .i64) 3 wc w.heap.size (fun _ => True) v9 pm) ∧ Aside0 (Kd.R k96 96 wc w.heap.size (fun _ => True) v10 sy) ∧ Aside0 (Below w.heap.size w wc) ∧ Aside0 (wc.heap[w.heap.size]? = some (.cells #[.int .i64 n, .slice A0 l.length c0] 24 (0, 0))) ∧ Aside0 (wc.heap[g4]? = some (.cells #[.string nm, .slice A1 t.length c1, .bool is] 48 (0, 0))) ∧ Aside0 (wc.heap[g5]? = some (.cells #[.slice A2 pm.length c2, .slice A3 sy.length c3] 68 (0, 0))))
      case first =>
        have C0 := Aside0.mk (Kd.C_below HR0.out HB.out : Kd.C k52 wc A0 l.length l)
        have C1 := Aside0.mk (Kd.C_below HR1.out HB.out : Kd.C (Kd.int .i64) wc A1 t.length t)
        have C2 := Aside0.mk (Kd.C_below HR2.out HB.out : Kd.C (Kd.int .i64) wc A2 pm.length pm)
        have C3 := Aside0.mk (Kd.C_below HR3.out HB.out : Kd.C k96 wc A3 sy.length sy)
        clear p30 p31 f30 f31 p40 p41 p42 f40 f41 f42 p50 p51 f50 f51
        refine wp_region_inv0 rfl (by kernel_rfl) (fun a0 => I3 a0 wc n l t pm sy A0 A1 A2 A3 c0 c1 c2 c3 g4 g5) ?_ ?_ ?_
        · exact I3.start (F3.start _ (Below.refl _ _).drew)
        · intro i o d a w1 hI ho hnd hdep
          obtain ⟨x48, x49, x50, x51, x52, x53, x54, x55, x56, x57, x58, x59, x60, x61, x7, x8, x9, x10, rfl, S⟩ := hI
          have hi : i < 19 := (Array.getElem?_eq_some_iff.1 ho).1
          have Y3 := Aside0.mk (blk_below X3.out S.below)
          have Y4 := Aside0.mk (blk_below X4.out S.below)
          have Y5 := Aside0.mk (blk_below X5.out S.below)
          obtain ⟨p30, p31, f30, f31⟩ := bq2 Y3
          obtain ⟨p40, p41, p42, f40, f41, f42⟩ := bq3 Y4
          obtain ⟨p50, p51, f50, f51⟩ := bq2 Y5
          have HS := Aside0.mk S
          have HND := Aside0.mk hnd
          have HD := Aside0.mk hdep
          clear S hnd hdep
          simp only [putAll, Act.put, List.setIfInBounds_toArray, List.set_cons_zero, List.set_cons_succ]
          obtain rfl | rfl | rfl | rfl | rfl | rfl | rfl | rfl | rfl | rfl | rfl | rfl | rfl | rfl | rfl | rfl | rfl | rfl | rfl : i = 0 ∨ i = 1 ∨ i = 2 ∨ i = 3 ∨ i = 4 ∨ i = 5 ∨ i = 6 ∨ i = 7 ∨ i = 8 ∨ i = 9 ∨ i = 10 ∨ i = 11 ∨ i = 12 ∨ i = 13 ∨ i = 14 ∨ i = 15 ∨ i = 16 ∨ i = 17 ∨ i = 18 := by omega
          · obtain rfl := Option.some.inj ho
            go_wp2
            exact I3.mk _ x49 x50 x51 x52 x53 x54 x55 x56 x57 x58 x59 x60 x61 x7 x8 x9 x10 (by simp only [putAll, Act.put, List.setIfInBounds_toArray, List.set_cons_zero, List.set_cons_succ]) (HS.out.n0 HND.out rfl)
          · obtain rfl := Option.some.inj ho
            have d0 := HD.out ⟨0, .data⟩ (by simp) rfl
            obtain rfl := HS.out.h0 d0
            go_wp2_with (go_at_call 36; refine (paraphrastref01_Copy.calls k n A0 c0 l n l _ (Kd.C_below C0.out HS.out.below) HC.out.1 H.out.copyS).mono ?_; rintro e w' ⟨v, rfl, hR, hb⟩)
            exact I3.mk _ _ x50 x51 x52 x53 x54 x55 x56 x57 x58 x59 x60 x61 x7 x8 x9 x10 (by simp only [putAll, Act.put, List.setIfInBounds_toArray, List.set_cons_zero, List.set_cons_succ]) ((HS.out.grow hb).n1 HND.out ⟨v, rfl, Kd.R_lower hR HS.out.below.size⟩)
          · obtain rfl := Option.some.inj ho
            go_wp2
            exact I3.mk x48 x49 _ x51 x52 x53 x54 x55 x56 x57 x58 x59 x60 x61 x7 x8 x9 x10 (by simp only [putAll, Act.put, List.setIfInBounds_toArray, List.set_cons_zero, List.set_cons_succ]) ((HS.out.grow ((Below.refl _ _).alloc (Nat.le_refl _) (.cells #[] 3))).n2 HND.out ⟨_, rfl, HS.out.below.size, heap_alloc_new _ _⟩)
          · obtain rfl := Option.some.inj ho
            go_wp2
            exact I3.mk x48 x49 x50 _ x52 x53 x54 x55 x56 x57 x58 x59 x60 x61 x7 x8 x9 x10 (by simp only [putAll, Act.put, List.setIfInBounds_toArray, List.set_cons_zero, List.set_cons_succ]) (HS.out.n3 HND.out rfl)
          · obtain rfl := Option.some.inj ho
            have d3 := HD.out ⟨3, .data⟩ (by simp) rfl
            obtain rfl := HS.out.h3 d3
            go_wp2
            exact I3.mk x48 x49 x50 _ _ x53 x54 x55 x56 x57 x58 x59 x60 x61 x7 x8 x9 x10 (by simp only [putAll, Act.put, List.setIfInBounds_toArray, List.set_cons_zero, List.set_cons_succ]) (HS.out.n4 HND.out rfl)
          · obtain rfl := Option.some.inj ho
            have d2 := HD.out ⟨2, .data⟩ (by simp) rfl
            have d4 := HD.out ⟨4, .data⟩ (by simp) rfl
            obtain ⟨ge, rfl, hge, hgc⟩ := HS.out.h2 d2
            obtain rfl := HS.out.h4 d4
            refine ap_copy (Kd.int .i64) wc.heap.size rfl 46 3 8 (.int .i64 0) rfl Tryz.underlying46 infoI rfl (by decide) (by decide) (by decide) rfl rfl hgc hge HS.out.below.size (Kd.C_below C1.out HS.out.below) (by have := H.out.lens; omega) (fun _ _ _ _ h => h) ?_
            intro v' w' hR hb
            go_wp2
            exact I3.mk x48 x49 _ x51 _ _ x54 x55 x56 x57 x58 x59 x60 x61 x7 x8 x9 x10 (by simp only [putAll, Act.put, List.setIfInBounds_toArray, List.set_cons_zero, List.set_cons_succ]) ((HS.out.grow hb).n5 HND.out hR)
          · obtain rfl := Option.some.inj ho
            go_wp2
            exact I3.mk x48 x49 x50 x51 x52 x53 _ x55 x56 x57 x58 x59 x60 x61 x7 x8 x9 x10 (by simp only [putAll, Act.put, List.setIfInBounds_toArray, List.set_cons_zero, List.set_cons_succ]) ((HS.out.grow ((Below.refl _ _).alloc (Nat.le_refl _) (.cells #[] 3))).n6 HND.out ⟨_, rfl, HS.out.below.size, heap_alloc_new _ _⟩)
          · obtain rfl := Option.some.inj ho
            go_wp2
            exact I3.mk x48 x49 x50 x51 x52 x53 x54 _ x56 x57 x58 x59 x60 x61 x7 x8 x9 x10 (by simp only [putAll, Act.put, List.setIfInBounds_toArray, List.set_cons_zero, List.set_cons_succ]) (HS.out.n7 HND.out rfl)
          · obtain rfl := Option.some.inj ho
            have d7 := HD.out ⟨7, .data⟩ (by simp) rfl
            obtain rfl := HS.out.h7 d7
            go_wp2
            exact I3.mk x48 x49 x50 x51 x52 x53 x54 _ _ x57 x58 x59 x60 x61 x7 x8 x9 x10 (by simp only [putAll, Act.put, List.setIfInBounds_toArray, List.set_cons_zero, List.set_cons_succ]) (HS.out.n8 HND.out rfl)
          · obtain rfl := Option.some.inj ho
            have d6 := HD.out ⟨6, .data⟩ (by simp) rfl
            have d8 := HD.out ⟨8, .data⟩ (by simp) rfl
            obtain ⟨ge, rfl, hge, hgc⟩ := HS.out.h6 d6
            obtain rfl := HS.out.h8 d8
            refine ap_copy (Kd.int .i64) wc.heap.size rfl 46 3 8 (.int .i64 0) rfl Tryz.underlying46 infoI rfl (by decide) (by decide) (by decide) rfl rfl hgc hge HS.out.below.size (Kd.C_below C2.out HS.out.below) (by have := H.out.lens; omega) (fun _ _ _ _ h => h) ?_
            intro v' w' hR hb
            go_wp2
            exact I3.mk x48 x49 x50 x51 x52 x53 _ x55 _ _ x58 x59 x60 x61 x7 x8 x9 x10 (by simp only [putAll, Act.put, List.setIfInBounds_toArray, List.set_cons_zero, List.set_cons_succ]) ((HS.out.grow hb).n9 HND.out hR)
          · obtain rfl := Option.some.inj ho
            go_wp2
            exact I3.mk x48 x49 x50 x51 x52 x53 x54 x55 x56 x57 _ x59 x60 x61 x7 x8 x9 x10 (by simp only [putAll, Act.put, List.setIfInBounds_toArray, List.set_cons_zero, List.set_cons_succ]) ((HS.out.grow ((Below.refl _ _).alloc (Nat.le_refl _) (.cells #[] 96))).n10 HND.out ⟨_, rfl, HS.out.below.size, heap_alloc_new _ _⟩)
          · obtain rfl := Option.some.inj ho
            go_wp2
            exact I3.mk x48 x49 x50 x51 x52 x53 x54 x55 x56 x57 x58 _ x60 x61 x7 x8 x9 x10 (by simp only [putAll, Act.put, List.setIfInBounds_toArray, List.set_cons_zero, List.set_cons_succ]) (HS.out.n11 HND.out rfl)
          · obtain rfl := Option.some.inj ho
            have d11 := HD.out ⟨11, .data⟩ (by simp) rfl
            obtain rfl := HS.out.h11 d11
            go_wp2
            exact I3.mk x48 x49 x50 x51 x52 x53 x54 x55 x56 x57 x58 _ _ x61 x7 x8 x9 x10 (by simp only [putAll, Act.put, List.setIfInBounds_toArray, List.set_cons_zero, List.set_cons_succ]) (HS.out.n12 HND.out rfl)
          · obtain rfl := Option.some.inj ho
            have d10 := HD.out ⟨10, .data⟩ (by simp) rfl
            have d12 := HD.out ⟨12, .data⟩ (by simp) rfl
            obtain ⟨ge, rfl, hge, hgc⟩ := HS.out.h10 d10
            obtain rfl := HS.out.h12 d12
            refine ap_copy k96 wc.heap.size rfl 38 96 24 (.agg #[.string ⟨#[]⟩, .int .i64 0]) rfl Tryz.underlying38 infoY rfl (by decide) (by decide) (by decide) rfl rfl hgc hge HS.out.below.size (Kd.C_below C3.out HS.out.below) (by have := H.out.lens; omega) (fun _ _ _ _ h => h) ?_
            intro v' w' hR hb
            go_wp2
            exact I3.mk x48 x49 x50 x51 x52 x53 x54 x55 x56 x57 _ x59 _ _ x7 x8 x9 x10 (by simp only [putAll, Act.put, List.setIfInBounds_toArray, List.set_cons_zero, List.set_cons_succ]) ((HS.out.grow hb).n13 HND.out hR)
          · obtain rfl := Option.some.inj ho
            go_wp2
            exact I3.mk x48 x49 x50 x51 x52 x53 x54 x55 x56 x57 x58 x59 x60 x61 _ x8 x9 x10 (by simp only [putAll, Act.put, List.setIfInBounds_toArray, List.set_cons_zero, List.set_cons_succ]) ((HS.out.grow ((Below.refl _ _).alloc (Nat.le_refl _) (.cells #[.int .i64 0, .slice none 0 0] 24))).n14 HND.out ⟨_, _, _, rfl, HS.out.below.size, heap_alloc_new _ _⟩)
          · obtain rfl := Option.some.inj ho
            have d14 := HD.out ⟨14, .data⟩ (by simp) rfl
            have d1 := HD.out ⟨1, .data⟩ (by simp) rfl
            obtain ⟨gs, u0, u1, rfl, hgW, hgc⟩ := HS.out.h14 d14
            obtain ⟨vs, rfl, hRs⟩ := HS.out.h1 d1
            obtain ⟨As, cs, rfl⟩ := Kd.R_slice hRs
            obtain ⟨s0, s1, fs0, fs1⟩ := bq2 (Aside0.mk hgc)
            go_wp2
            exact I3.mk x48 (.agg #[.int .i64 n, .slice As l.length cs]) x50 x51 x52 x53 x54 x55 x56 x57 x58 x59 x60 x61 (.pointer (some ⟨gs, 0, none⟩)) x8 x9 x10 (by simp only [putAll, Act.put, List.setIfInBounds_toArray, List.set_cons_zero, List.set_cons_succ]) (HS.out.n15 d1 d14 rfl rfl ⟨_, _, hgc⟩ hgW)
          · obtain rfl := Option.some.inj ho
            have d5 := HD.out ⟨5, .data⟩ (by simp) rfl
            go_wp2
            exact I3.mk x48 x49 x50 x51 x52 x53 x54 x55 x56 x57 x58 x59 x60 x61 x7 _ x9 x10 (by simp only [putAll, Act.put, List.setIfInBounds_toArray, List.set_cons_zero, List.set_cons_succ]) (HS.out.n16 HND.out ⟨d5, rfl⟩)
          · obtain rfl := Option.some.inj ho
            have d9 := HD.out ⟨9, .data⟩ (by simp) rfl
            go_wp2
            exact I3.mk x48 x49 x50 x51 x52 x53 x54 x55 x56 x57 x58 x59 x60 x61 x7 x8 _ x10 (by simp only [putAll, Act.put, List.setIfInBounds_toArray, List.set_cons_zero, List.set_cons_succ]) (HS.out.n17 HND.out ⟨d9, rfl⟩)
          · obtain rfl := Option.some.inj ho
            have d13 := HD.out ⟨13, .data⟩ (by simp) rfl
            go_wp2
            exact I3.mk x48 x49 x50 x51 x52 x53 x54 x55 x56 x57 x58 x59 x60 x61 x7 x8 x9 _ (by simp only [putAll, Act.put, List.setIfInBounds_toArray, List.set_cons_zero, List.set_cons_succ]) (HS.out.n18 HND.out ⟨d13, rfl⟩)
        · intro d a w1 hI hall
          obtain ⟨x48, x49, x50, x51, x52, x53, x54, x55, x56, x57, x58, x59, x60, x61, x7, x8, x9, x10, rfl, S⟩ := hI
          obtain ⟨_, _, g7, vs, rfl, rfl, hg7⟩ := S.h15 (hall 15 (by decide))
          obtain ⟨v1, e1, hR1⟩ := S.h1 (hall 1 (by decide))
          obtain rfl : vs = v1 := by injection e1 with e1; simpa using e1
          obtain ⟨q5, rfl⟩ := S.h16 (hall 16 (by decide))
          obtain ⟨q9, rfl⟩ := S.h17 (hall 17 (by decide))
          obtain ⟨q13, rfl⟩ := S.h18 (hall 18 (by decide))
          have HS := Aside0.mk S
          have HR1' := Aside0.mk hR1
          have HG7 := Aside0.mk hg7
          clear S hR1 hg7 e1 hall
          simp only [putAll, Act.put, List.setIfInBounds_toArray, List.set_cons_zero, List.set_cons_succ]
          go_wp2
          go_meet
          case rel => exact ⟨g7, vs, rfl, HG7, ⟨Kd.R_lower HR1'.out HB.out.size⟩, ⟨Kd.R_lower (HS.out.h5 q5) HB.out.size⟩, ⟨Kd.R_lower (HS.out.h9 q9) HB.out.size⟩, ⟨Kd.R_lower (HS.out.h13 q13) HB.out.size⟩, ⟨below_step HB.out HS.out.below⟩, ⟨blk_below X3.out HS.out.below⟩, ⟨blk_below X4.out HS.out.below⟩, ⟨blk_below X5.out HS.out.below⟩⟩
      case rest =>
        clear p30 p31 f30 f31 p40 p41 p42 f40 f41 f42 p50 p51 f50 f51
        obtain ⟨g7, vs, rfl, X7, K7, KT, KP, KS, HB, X3, X4, X5⟩ := hcut
        obtain ⟨A7, c7, rfl⟩ := Kd.R_slice K7.out
        obtain ⟨A8, c8, rfl⟩ := Kd.R_slice KT.out
        obtain ⟨A9, c9, rfl⟩ := Kd.R_slice KP.out
        obtain ⟨A10, c10, rfl⟩ := Kd.R_slice KS.out
        have CC := Aside0.mk (And.intro (Kd.R_reads' K7.out).2 (And.intro (Kd.R_reads' KT.out).2 (And.intro (Kd.R_reads' KP.out).2 (Kd.R_reads' KS.out).2)))
        clear K7 KT KP KS
        generalize wc = wo at *
        go_wp2
        have HBR := Aside0.mk (below_alloc (Below.refl wo.heap.size wo) (.cells #[.int .i64 0, .slice none 0 0, .int .i64 0, .slice none 0 0, .int .i64 0, .slice none 0 0, .int .i64 0, .slice none 0 0] 70))
        have AF := Aside0.mk (show ArrB (wo.alloc (.cells #[.int .i64 0, .slice none 0 0, .int .i64 0, .slice none 0 0, .int .i64 0, .slice none 0 0, .int .i64 0, .slice none 0 0] 70)) wo.heap.size (fun _ => 0) (fun _ => .slice none 0 0) from heap_alloc_new _ _)
        go_loopw [12, 13] (fun v12 v13 wr => ∃ (r : Nat) (Y : Nat → Int) (us : Nat → Value), v13 = .int .i64 r ∧ r ≤ 2 ∧ Aside0 (Below wo.heap.size wo wr) ∧ Aside0 (ArrB wr wo.heap.size Y us) ∧ Aside0 (0 < r → Y = X ∧ (∀ i, i < 4 → CV k52 wr (us i) (R i)) ∧ CV k96 wr v12 ys)) (fun _ v13 _ => 2 - (intOf v13).toNat)
        case atStart => exact ⟨0, _, _, rfl, by omega, HBR, AF, ⟨fun h => absurd h (by omega)⟩⟩
        case round =>
          clear HBR AF
          obtain ⟨r, Y, us, rfl, hr2, HBR, AF, HK⟩ := hrel
          generalize wr = wq at *
          by_cases hlt : r < 2
          · have X3r := Aside0.mk (blk_below X3.out HBR.out)
            have X4r := Aside0.mk (blk_below X4.out HBR.out)
            have X5r := Aside0.mk (blk_below X5.out HBR.out)
            have HBW := Aside0.mk (below_step HB.out HBR.out)
            go_upto_region 10 with (fail)
            have S0 := Aside0.mk (HFp.init (X := X) (R := R) wq)
            generalize (wq.alloc (.cells #[.int .i64 0, .slice none 0 0, .int .i64 0, .slice none 0 0, .int .i64 0, .slice none 0 0, .int .i64 0, .slice none 0 0] 70)).alloc (.cells #[.int .i64 0, .slice none 0 0, .int .i64 0, .slice none 0 0, .int .i64 0, .slice none 0 0, .int .i64 0, .slice none 0 0] 70) = W0 at *
            generalize hgl : wq.heap.size = gl at *
            generalize hgk : gl + 1 = gk at *
            have Y3 := Aside0.mk (blk_below X3r.out S0.out.r)
            have Y4 := Aside0.mk (blk_below X4r.out S0.out.r)
            have Y5 := Aside0.mk (blk_below X5r.out S0.out.r)
            obtain ⟨p30, p31, f30, f31⟩ := bq2 Y3
            obtain ⟨p40, p41, p42, f40, f41, f42⟩ := bq3 Y4
            obtain ⟨p50, p51, f50, f51⟩ := bq2 Y5
            have HBW0 := Aside0.mk (below_step HBW.out S0.out.r)
            go_upto_region 11 with (go_at_call 28; refine (shape_Put.calls k n A0 c0 l nm A1 c1 t is (X 0) (R 0) (E 0) _ (Kd.C_below HR0.out HBW0.out) HC.out.1 (Kd.C_below HR1.out HBW0.out) HC.out.2.1 H.out.put).mono ?_; rintro e w' ⟨v1, rfl, hR, hb⟩; obtain ⟨B1, d1, rfl⟩ := Kd.R_slice hR; have T0 := Aside0.mk (S0.out.below hb); obtain ⟨u0, u1, k0, m0, e0, e1⟩ := T0.out.cells 0 (by decide); simp only [Nat.reduceMul, Nat.reduceAdd] at k0 m0 e0 e1; have HRn := Aside0.mk hR; have HBn := Aside0.mk hb; clear hR hb)
            have S1 := Aside0.mk (show HFp wq ((w'.setCell ⟨gl, 0, none⟩ (.int .i64 (X 0))).setCell ⟨gl, 1, none⟩ (.slice B1 (R 0).length d1)) gl gk X R 1 from S0.out.step (by decide) HRn.out HBn.out)
            generalize (w'.setCell ⟨gl, 0, none⟩ (.int .i64 (X 0))).setCell ⟨gl, 1, none⟩ (.slice B1 (R 0).length d1) = W1 at *
            clear k0 m0 e0 e1 HRn HBn T0 S0 HBW0 Y3 Y4 Y5 p30 p31 f30 f31 p40 p41 p42 f40 f41 f42 p50 p51 f50 f51
            have Y3 := Aside0.mk (blk_below X3r.out S1.out.r)
            have Y4 := Aside0.mk (blk_below X4r.out S1.out.r)
            have Y5 := Aside0.mk (blk_below X5r.out S1.out.r)
            obtain ⟨p30, p31, f30, f31⟩ := bq2 Y3
            obtain ⟨p40, p41, p42, f40, f41, f42⟩ := bq3 Y4
            obtain ⟨p50, p51, f50, f51⟩ := bq2 Y5
            have HBW1 := Aside0.mk (below_step HBW.out S1.out.r)
            go_upto_region 12 with (go_at_call 32; refine (shape_Permute.calls k n A0 c0 l A2 c2 pm (X 1) (R 1) (E 1) _ (Kd.C_below HR0.out HBW1.out) HC.out.1 (Kd.C_below HR2.out HBW1.out) HC.out.2.2.1 H.out.per).mono ?_; rintro e w' ⟨v1, rfl, hR, hb⟩; obtain ⟨B1, d1, rfl⟩ := Kd.R_slice hR; have T1 := Aside0.mk (S1.out.below hb); obtain ⟨u0, u1, k0, m0, e0, e1⟩ := T1.out.cells 1 (by decide); simp only [Nat.reduceMul, Nat.reduceAdd] at k0 m0 e0 e1; have HRn := Aside0.mk hR; have HBn := Aside0.mk hb; clear hR hb)
            have S2 := Aside0.mk (show HFp wq ((w'.setCell ⟨gl, 2, none⟩ (.int .i64 (X 1))).setCell ⟨gl, 3, none⟩ (.slice B1 (R 1).length d1)) gl gk X R 2 from S1.out.step (by decide) HRn.out HBn.out)
            generalize (w'.setCell ⟨gl, 2, none⟩ (.int .i64 (X 1))).setCell ⟨gl, 3, none⟩ (.slice B1 (R 1).length d1) = W2 at *
            clear k0 m0 e0 e1 HRn HBn T1 S1 HBW1 Y3 Y4 Y5 p30 p31 f30 f31 p40 p41 p42 f40 f41 f42 p50 p51 f50 f51
            have Y3 := Aside0.mk (blk_below X3r.out S2.out.r)
            have Y4 := Aside0.mk (blk_below X4r.out S2.out.r)
            have Y5 := Aside0.mk (blk_below X5r.out S2.out.r)
            obtain ⟨p30, p31, f30, f31⟩ := bq2 Y3
            obtain ⟨p40, p41, p42, f40, f41, f42⟩ := bq3 Y4
            obtain ⟨p50, p51, f50, f51⟩ := bq2 Y5
            have HBW2 := Aside0.mk (below_step HBW.out S2.out.r)
            go_upto_region 13 with (go_at_call 23; refine (shape_Keep.calls k n A0 c0 l A3 c3 sy (X 2) (R 2) (E 2) _ (Kd.C_below HR0.out HBW2.out) HC.out.1 (Kd.C_below HR3.out HBW2.out) HC.out.2.2.2 H.out.keep).mono ?_; rintro e w' ⟨v1, rfl, hR, hb⟩; obtain ⟨B1, d1, rfl⟩ := Kd.R_slice hR; have T2 := Aside0.mk (S2.out.below hb); obtain ⟨u0, u1, k0, m0, e0, e1⟩ := T2.out.cells 2 (by decide); simp only [Nat.reduceMul, Nat.reduceAdd] at k0 m0 e0 e1; have HRn := Aside0.mk hR; have HBn := Aside0.mk hb; clear hR hb)
            have S3 := Aside0.mk (show HFp wq ((w'.setCell ⟨gl, 4, none⟩ (.int .i64 (X 2))).setCell ⟨gl, 5, none⟩ (.slice B1 (R 2).length d1)) gl gk X R 3 from S2.out.step (by decide) HRn.out HBn.out)
            generalize (w'.setCell ⟨gl, 4, none⟩ (.int .i64 (X 2))).setCell ⟨gl, 5, none⟩ (.slice B1 (R 2).length d1) = W3 at *
            clear k0 m0 e0 e1 HRn HBn T2 S2 HBW2 Y3 Y4 Y5 p30 p31 f30 f31 p40 p41 p42 f40 f41 f42 p50 p51 f50 f51
            have Y3 := Aside0.mk (blk_below X3r.out S3.out.r)
            have Y4 := Aside0.mk (blk_below X4r.out S3.out.r)
            have Y5 := Aside0.mk (blk_below X5r.out S3.out.r)
            obtain ⟨p30, p31, f30, f31⟩ := bq2 Y3
            obtain ⟨p40, p41, p42, f40, f41, f42⟩ := bq3 Y4
            obtain ⟨p50, p51, f50, f51⟩ := bq2 Y5
            have HBW3 := Aside0.mk (below_step HBW.out S3.out.r)
            go_upto_region 14 with (go_at_call 18; refine (shape_Make.calls k n A3 c3 sy (X 3) (R 3) (E 3) _ (Kd.C_below HR3.out HBW3.out) HC.out.2.2.2 H.out.make).mono ?_; rintro e w' ⟨v1, rfl, hR, hb⟩; obtain ⟨B1, d1, rfl⟩ := Kd.R_slice hR; have T3 := Aside0.mk (S3.out.below hb); obtain ⟨u0, u1, k0, m0, e0, e1⟩ := T3.out.cells 3 (by decide); simp only [Nat.reduceMul, Nat.reduceAdd] at k0 m0 e0 e1; have HRn := Aside0.mk hR; have HBn := Aside0.mk hb; clear hR hb)
            have S4 := Aside0.mk (show HFp wq ((w'.setCell ⟨gl, 6, none⟩ (.int .i64 (X 3))).setCell ⟨gl, 7, none⟩ (.slice B1 (R 3).length d1)) gl gk X R 4 from S3.out.step (by decide) HRn.out HBn.out)
            generalize (w'.setCell ⟨gl, 6, none⟩ (.int .i64 (X 3))).setCell ⟨gl, 7, none⟩ (.slice B1 (R 3).length d1) = W4 at *
            clear k0 m0 e0 e1 HRn HBn T3 S3 HBW3 Y3 Y4 Y5 p30 p31 f30 f31 p40 p41 p42 f40 f41 f42 p50 p51 f50 f51
            have Y3 := Aside0.mk (blk_below X3r.out S4.out.r)
            obtain ⟨p30, p31, f30, f31⟩ := bq2 Y3
            have HBW4 := Aside0.mk (below_step HBW.out S4.out.r)
            go_wp2_with (go_at_call 37; refine (shape_Symbols.calls k n A0 c0 l ys _ (Kd.C_below HR0.out HBW4.out) HC.out.1 H.out.syms).mono ?_; rintro e w' ⟨v1, rfl, hR, hb⟩; obtain ⟨By, dy, rfl⟩ := Kd.R_slice hR; have HC0 := Aside0.mk (HCp.init S4.out hR hb); clear hR hb)
            clear S4 HBW4 Y3 p30 p31 f30 f31
            go_loopw [17] (fun v17 wl => ∃ i : Nat, v17 = .int .i64 i ∧ i ≤ 4 ∧ Aside0 (HCp wq wl gl gk X R (.slice By ys.length dy) ys i)) (fun v17 _ => 4 - (intOf v17).toNat)
            case atStart => exact ⟨0, rfl, by omega, HC0⟩
            case round =>
              clear HC0
              obtain ⟨i, rfl, hi4, HC0⟩ := hrel
              by_cases hlt2 : i < 4
              · have hi0 : (0 : Int) ≤ (i : Int) := by omega
                have hi1 : (i : Int) < 4 := by omega
                obtain ⟨AL, cL, l0, l1, hLc, hLC, hgl2, hgk2⟩ := HC0.out.getL i hlt2
                have HL := Aside0.mk (And.intro hLc hLC)
                clear hLc hLC
                go_upto_region 19 with (go_at_call 36; refine (paraphrastref01_Copy.calls k (X i) AL cL (R i) (X i) (R i) _ HL.out.2 HL.out.1 (H.out.copy i hlt2)).mono ?_; rintro e w' ⟨v1, rfl, hR, hb⟩; obtain ⟨B1, d1, rfl⟩ := Kd.R_slice hR; have T0 := Aside0.mk (HC0.out.below hb); obtain ⟨u0, u1, k0, m0, e0, e1⟩ := T0.out.cells i hlt2; have HRn := Aside0.mk hR; have HBn := Aside0.mk hb; clear hR hb)
                have S1 := Aside0.mk (show HCp wq ((w'.setCell ⟨gk, i * 2, none⟩ (.int .i64 (X i))).setCell ⟨gk, i * 2 + 1, none⟩ (.slice B1 (R i).length d1)) gl gk X R (.slice By ys.length dy) ys (i + 1) from HC0.out.step hlt2 HRn.out HBn.out)
                generalize (w'.setCell ⟨gk, i * 2, none⟩ (.int .i64 (X i))).setCell ⟨gk, i * 2 + 1, none⟩ (.slice B1 (R i).length d1) = wm at *
                clear k0 m0 e0 e1 HRn HBn T0 HC0 HL l0 l1 hgl2 hgk2
                by_cases hr0 : 0 < r
                · have q1 : decide ((0 : Int) < (r : Int)) = true := decide_eq_true (by omega)
                  have q2 : decide (0 < r) = true := decide_eq_true hr0
                  obtain ⟨hYX, hus, _⟩ := HK.out hr0
                  obtain ⟨AF1, cF, husi, hF⟩ := hus i hlt2
                  have HF1 := Aside0.mk hF
                  obtain ⟨AL, cL, l0, l1, hLc, hLC, _, _⟩ := S1.out.getL i hlt2
                  have HL := Aside0.mk (And.intro hLc hLC)
                  obtain ⟨f0, f1, _, _⟩ := ((show ArrB wq wo.heap.size X us from hYX ▸ AF.out).below S1.out.r).cells i hlt2
                  rw [husi] at f1
                  clear hLc hLC hF hus hYX hr0
                  refine wp_region_inv0 rfl (by kernel_rfl) (IV wm [115, 116, 117, 118, 119, 120, 121, 122, 123, 124, 125, 126] [.int .i64 (r : Int), .bool true, .bool true, .int .i64 (i : Int), .pointer (some ⟨gl, i * 2, none⟩), .agg #[.int .i64 (X i), .slice AL (R i).length cL], .int .i64 (i : Int), .pointer (some ⟨wo.heap.size, i * 2, none⟩), .agg #[.int .i64 (X i), .slice AF1 (R i).length cF], .bool true, .bool false, .bool false]) IV.start ?_ ?_
                  · intro i_ o_ d_ a_ w1 hI ho hnd hdep
                    obtain ⟨xs, hl, rfl, hv, hb1⟩ := hI
                    obtain ⟨x0, x1, x2, x3, x4, x5, x6, x7, x8, x9, x10, x11, rfl⟩ := list12 hl
                    have hi_ : i_ < 12 := (Array.getElem?_eq_some_iff.1 ho).1
                    have HV := Aside0.mk hv
                    have HB1 := Aside0.mk hb1
                    have HD := Aside0.mk hdep
                    clear hv hb1 hnd hdep hl
                    have y0 := oc l0 HB1.out
                    have y1 := oc l1 HB1.out
                    have y2 := oc f0 HB1.out
                    have y3 := oc f1 HB1.out
                    clear l0 l1 f0 f1
                    simp only [List.zip_cons_cons, List.zip_nil_left, List.zip_nil_right, putAll, Act.put, List.setIfInBounds_toArray, List.set_cons_zero, List.set_cons_succ]
                    obtain rfl | rfl | rfl | rfl | rfl | rfl | rfl | rfl | rfl | rfl | rfl | rfl : i_ = 0 ∨ i_ = 1 ∨ i_ = 2 ∨ i_ = 3 ∨ i_ = 4 ∨ i_ = 5 ∨ i_ = 6 ∨ i_ = 7 ∨ i_ = 8 ∨ i_ = 9 ∨ i_ = 10 ∨ i_ = 11 := by omega
                    · obtain rfl := Option.some.inj ho
                      go_wp2
                      exact ⟨[_, x1, x2, x3, x4, x5, x6, x7, x8, x9, x10, x11], rfl, by simp only [List.zip_cons_cons, List.zip_nil_left, List.zip_nil_right, putAll, Act.put, List.setIfInBounds_toArray, List.set_cons_zero, List.set_cons_succ], IV.step HV.out 0 _ (by simp) rfl, HB1.out⟩
                    · obtain rfl := Option.some.inj ho
                      obtain rfl : x0 = .int .i64 (r : Int) := by have := HV.out 0 (HD.out ⟨0, .data⟩ (by simp) rfl); simpa using this
                      go_wp2
                      exact ⟨[_, _, x2, x3, x4, x5, x6, x7, x8, x9, x10, x11], rfl, by simp only [List.zip_cons_cons, List.zip_nil_left, List.zip_nil_right, putAll, Act.put, List.setIfInBounds_toArray, List.set_cons_zero, List.set_cons_succ], IV.step HV.out 1 _ (by simp) rfl, HB1.out⟩
                    · obtain rfl := Option.some.inj ho
                      obtain rfl : x1 = .bool true := by have := HV.out 1 (HD.out ⟨1, .data⟩ (by simp) rfl); simpa using this
                      go_wp2
                      exact ⟨[x0, _, _, x3, x4, x5, x6, x7, x8, x9, x10, x11], rfl, by simp only [List.zip_cons_cons, List.zip_nil_left, List.zip_nil_right, putAll, Act.put, List.setIfInBounds_toArray, List.set_cons_zero, List.set_cons_succ], IV.step HV.out 2 _ (by simp) rfl, HB1.out⟩
                    · obtain rfl := Option.some.inj ho
                      obtain rfl : x2 = .bool true := by have := HV.out 2 (HD.out ⟨2, .guard⟩ (by simp) rfl); simpa using this
                      go_wp2
                      exact ⟨[x0, x1, _, _, x4, x5, x6, x7, x8, x9, x10, x11], rfl, by simp only [List.zip_cons_cons, List.zip_nil_left, List.zip_nil_right, putAll, Act.put, List.setIfInBounds_toArray, List.set_cons_zero, List.set_cons_succ], IV.step HV.out 3 _ (by simp) rfl, HB1.out⟩
                    · obtain rfl := Option.some.inj ho
                      obtain rfl : x3 = .int .i64 (i : Int) := by have := HV.out 3 (HD.out ⟨3, .data⟩ (by simp) rfl); simpa using this
                      obtain rfl : x2 = .bool true := by have := HV.out 2 (HD.out ⟨2, .guard⟩ (by simp) rfl); simpa using this
                      go_wp2
                      exact ⟨[x0, x1, _, _, _, x5, x6, x7, x8, x9, x10, x11], rfl, by simp only [List.zip_cons_cons, List.zip_nil_left, List.zip_nil_right, putAll, Act.put, List.setIfInBounds_toArray, List.set_cons_zero, List.set_cons_succ], IV.step HV.out 4 _ (by simp) rfl, HB1.out⟩
                    · obtain rfl := Option.some.inj ho
                      obtain rfl : x4 = .pointer (some ⟨gl, i * 2, none⟩) := by have := HV.out 4 (HD.out ⟨4, .data⟩ (by simp) rfl); simpa using this
                      obtain rfl : x2 = .bool true := by have := HV.out 2 (HD.out ⟨2, .guard⟩ (by simp) rfl); simpa using this
                      go_wp2
                      exact ⟨[x0, x1, _, x3, _, _, x6, x7, x8, x9, x10, x11], rfl, by simp only [List.zip_cons_cons, List.zip_nil_left, List.zip_nil_right, putAll, Act.put, List.setIfInBounds_toArray, List.set_cons_zero, List.set_cons_succ], IV.step HV.out 5 _ (by simp) rfl, HB1.out⟩
                    · obtain rfl := Option.some.inj ho
                      obtain rfl : x2 = .bool true := by have := HV.out 2 (HD.out ⟨2, .guard⟩ (by simp) rfl); simpa using this
                      go_wp2
                      exact ⟨[x0, x1, _, x3, x4, x5, _, x7, x8, x9, x10, x11], rfl, by simp only [List.zip_cons_cons, List.zip_nil_left, List.zip_nil_right, putAll, Act.put, List.setIfInBounds_toArray, List.set_cons_zero, List.set_cons_succ], IV.step HV.out 6 _ (by simp) rfl, HB1.out⟩
                    · obtain rfl := Option.some.inj ho
                      obtain rfl : x6 = .int .i64 (i : Int) := by have := HV.out 6 (HD.out ⟨6, .data⟩ (by simp) rfl); simpa using this
                      obtain rfl : x2 = .bool true := by have := HV.out 2 (HD.out ⟨2, .guard⟩ (by simp) rfl); simpa using this
                      go_wp2
                      exact ⟨[x0, x1, _, x3, x4, x5, _, _, x8, x9, x10, x11], rfl, by simp only [List.zip_cons_cons, List.zip_nil_left, List.zip_nil_right, putAll, Act.put, List.setIfInBounds_toArray, List.set_cons_zero, List.set_cons_succ], IV.step HV.out 7 _ (by simp) rfl, HB1.out⟩
                    · obtain rfl := Option.some.inj ho
                      obtain rfl : x7 = .pointer (some ⟨wo.heap.size, i * 2, none⟩) := by have := HV.out 7 (HD.out ⟨7, .data⟩ (by simp) rfl); simpa using this
                      obtain rfl : x2 = .bool true := by have := HV.out 2 (HD.out ⟨2, .guard⟩ (by simp) rfl); simpa using this
                      go_wp2
                      exact ⟨[x0, x1, _, x3, x4, x5, x6, _, _, x9, x10, x11], rfl, by simp only [List.zip_cons_cons, List.zip_nil_left, List.zip_nil_right, putAll, Act.put, List.setIfInBounds_toArray, List.set_cons_zero, List.set_cons_succ], IV.step HV.out 8 _ (by simp) rfl, HB1.out⟩
                    · obtain rfl := Option.some.inj ho
                      obtain rfl : x5 = .agg #[.int .i64 (X i), .slice AL (R i).length cL] := by have := HV.out 5 (HD.out ⟨5, .data⟩ (by simp) rfl); simpa using this
                      obtain rfl : x8 = .agg #[.int .i64 (X i), .slice AF1 (R i).length cF] := by have := HV.out 8 (HD.out ⟨8, .data⟩ (by simp) rfl); simpa using this
                      obtain rfl : x2 = .bool true := by have := HV.out 2 (HD.out ⟨2, .guard⟩ (by simp) rfl); simpa using this
                      go_wp2_with (go_at_call 34; refine (paraphrastref01_Same.calls k (X i) AL cL (R i) (X i) AF1 cF (R i) true _ (Kd.C_below HL.out.2 HB1.out) HL.out.1 (Kd.C_below HF1.out.2 (below_step S1.out.r HB1.out)) HF1.out.1 (H.out.same i hlt2)).mono ?_; rintro e w' ⟨rfl, hb⟩)
                      exact ⟨[x0, x1, _, x3, x4, _, x6, x7, _, _, x10, x11], rfl, by simp only [List.zip_cons_cons, List.zip_nil_left, List.zip_nil_right, putAll, Act.put, List.setIfInBounds_toArray, List.set_cons_zero, List.set_cons_succ], IV.step HV.out 9 _ (by simp) rfl, below_step HB1.out hb⟩
                    · obtain rfl := Option.some.inj ho
                      obtain rfl : x9 = .bool true := by have := HV.out 9 (HD.out ⟨9, .data⟩ (by simp) rfl); simpa using this
                      obtain rfl : x2 = .bool true := by have := HV.out 2 (HD.out ⟨2, .guard⟩ (by simp) rfl); simpa using this
                      go_wp2
                      exact ⟨[x0, x1, _, x3, x4, x5, x6, x7, x8, _, _, x11], rfl, by simp only [List.zip_cons_cons, List.zip_nil_left, List.zip_nil_right, putAll, Act.put, List.setIfInBounds_toArray, List.set_cons_zero, List.set_cons_succ], IV.step HV.out 10 _ (by simp) rfl, HB1.out⟩
                    · obtain rfl := Option.some.inj ho
                      obtain rfl : x2 = .bool true := by have := HV.out 2 (HD.out ⟨2, .data⟩ (by simp) rfl); simpa using this
                      obtain rfl : x10 = .bool false := by have := HV.out 10 (HD.out ⟨10, .data⟩ (by simp) rfl); simpa using this
                      go_wp2
                      exact ⟨[x0, x1, _, x3, x4, x5, x6, x7, x8, x9, _, _], rfl, by simp only [List.zip_cons_cons, List.zip_nil_left, List.zip_nil_right, putAll, Act.put, List.setIfInBounds_toArray, List.set_cons_zero, List.set_cons_succ], IV.step HV.out 11 _ (by simp) rfl, HB1.out⟩
                  · intro d_ a_ w1 hI hall
                    obtain ⟨xs, hl, rfl, hv, hb1⟩ := hI
                    obtain ⟨x0, x1, x2, x3, x4, x5, x6, x7, x8, x9, x10, x11, rfl⟩ := list12 hl
                    obtain rfl : x11 = .bool false := by have := hv 11 (hall 11 (by decide)); simpa using this
                    have HB1 := Aside0.mk hb1
                    clear hv hb1 hall hl
                    simp only [List.zip_cons_cons, List.zip_nil_left, List.zip_nil_right, putAll, Act.put, List.setIfInBounds_toArray, List.set_cons_zero, List.set_cons_succ]
                    have S2 := Aside0.mk (S1.out.below HB1.out)
                    clear S1 HB1
                    go_wp2
                    go_roundw
                    case rel => exact ⟨i + 1, by go_num, by omega, S2⟩
                    case measure => simp [intOf]; omega
                · have q1 : decide ((0 : Int) < (r : Int)) = false := decide_eq_false (by omega)
                  have q2 : decide (0 < r) = false := decide_eq_false hr0
                  clear hr0
                  refine wp_region_inv0 rfl (by kernel_rfl) (IV wm [115, 116, 117, 118, 119, 120, 121, 122, 123, 124, 125, 126] [.int .i64 (r : Int), .bool false, .bool false, undef, undef, undef, undef, undef, undef, undef, undef, .bool false]) IV.start ?_ ?_
                  · intro i_ o_ d_ a_ w1 hI ho hnd hdep
                    obtain ⟨xs, hl, rfl, hv, hb1⟩ := hI
                    obtain ⟨x0, x1, x2, x3, x4, x5, x6, x7, x8, x9, x10, x11, rfl⟩ := list12 hl
                    have hi_ : i_ < 12 := (Array.getElem?_eq_some_iff.1 ho).1
                    have HV := Aside0.mk hv
                    have HB1 := Aside0.mk hb1
                    have HD := Aside0.mk hdep
                    clear hv hb1 hnd hdep hl
                    simp only [List.zip_cons_cons, List.zip_nil_left, List.zip_nil_right, putAll, Act.put, List.setIfInBounds_toArray, List.set_cons_zero, List.set_cons_succ]
                    obtain rfl | rfl | rfl | rfl | rfl | rfl | rfl | rfl | rfl | rfl | rfl | rfl : i_ = 0 ∨ i_ = 1 ∨ i_ = 2 ∨ i_ = 3 ∨ i_ = 4 ∨ i_ = 5 ∨ i_ = 6 ∨ i_ = 7 ∨ i_ = 8 ∨ i_ = 9 ∨ i_ = 10 ∨ i_ = 11 := by omega
                    · obtain rfl := Option.some.inj ho
                      go_wp2
                      exact ⟨[_, x1, x2, x3, x4, x5, x6, x7, x8, x9, x10, x11], rfl, by simp only [List.zip_cons_cons, List.zip_nil_left, List.zip_nil_right, putAll, Act.put, List.setIfInBounds_toArray, List.set_cons_zero, List.set_cons_succ], IV.step HV.out 0 _ (by simp) rfl, HB1.out⟩
                    · obtain rfl := Option.some.inj ho
                      obtain rfl : x0 = .int .i64 (r : Int) := by have := HV.out 0 (HD.out ⟨0, .data⟩ (by simp) rfl); simpa using this
                      go_wp2
                      exact ⟨[_, _, x2, x3, x4, x5, x6, x7, x8, x9, x10, x11], rfl, by simp only [List.zip_cons_cons, List.zip_nil_left, List.zip_nil_right, putAll, Act.put, List.setIfInBounds_toArray, List.set_cons_zero, List.set_cons_succ], IV.step HV.out 1 _ (by simp) rfl, HB1.out⟩
                    · obtain rfl := Option.some.inj ho
                      obtain rfl : x1 = .bool false := by have := HV.out 1 (HD.out ⟨1, .data⟩ (by simp) rfl); simpa using this
                      go_wp2
                      exact ⟨[x0, _, _, x3, x4, x5, x6, x7, x8, x9, x10, x11], rfl, by simp only [List.zip_cons_cons, List.zip_nil_left, List.zip_nil_right, putAll, Act.put, List.setIfInBounds_toArray, List.set_cons_zero, List.set_cons_succ], IV.step HV.out 2 _ (by simp) rfl, HB1.out⟩
                    · obtain rfl := Option.some.inj ho
                      obtain rfl : x2 = .bool false := by have := HV.out 2 (HD.out ⟨2, .guard⟩ (by simp) rfl); simpa using this
                      go_wp2
                      exact ⟨[x0, x1, _, _, x4, x5, x6, x7, x8, x9, x10, x11], rfl, by simp only [List.zip_cons_cons, List.zip_nil_left, List.zip_nil_right, putAll, Act.put, List.setIfInBounds_toArray, List.set_cons_zero, List.set_cons_succ], IV.step HV.out 3 _ (by simp) rfl, HB1.out⟩
                    · obtain rfl := Option.some.inj ho
                      obtain rfl : x2 = .bool false := by have := HV.out 2 (HD.out ⟨2, .guard⟩ (by simp) rfl); simpa using this
                      go_wp2
                      exact ⟨[x0, x1, _, x3, _, x5, x6, x7, x8, x9, x10, x11], rfl, by simp only [List.zip_cons_cons, List.zip_nil_left, List.zip_nil_right, putAll, Act.put, List.setIfInBounds_toArray, List.set_cons_zero, List.set_cons_succ], IV.step HV.out 4 _ (by simp) rfl, HB1.out⟩
                    · obtain rfl := Option.some.inj ho
                      obtain rfl : x2 = .bool false := by have := HV.out 2 (HD.out ⟨2, .guard⟩ (by simp) rfl); simpa using this
                      go_wp2
                      exact ⟨[x0, x1, _, x3, x4, _, x6, x7, x8, x9, x10, x11], rfl, by simp only [List.zip_cons_cons, List.zip_nil_left, List.zip_nil_right, putAll, Act.put, List.setIfInBounds_toArray, List.set_cons_zero, List.set_cons_succ], IV.step HV.out 5 _ (by simp) rfl, HB1.out⟩
                    · obtain rfl := Option.some.inj ho
                      obtain rfl : x2 = .bool false := by have := HV.out 2 (HD.out ⟨2, .guard⟩ (by simp) rfl); simpa using this
                      go_wp2
                      exact ⟨[x0, x1, _, x3, x4, x5, _, x7, x8, x9, x10, x11], rfl, by simp only [List.zip_cons_cons, List.zip_nil_left, List.zip_nil_right, putAll, Act.put, List.setIfInBounds_toArray, List.set_cons_zero, List.set_cons_succ], IV.step HV.out 6 _ (by simp) rfl, HB1.out⟩
                    · obtain rfl := Option.some.inj ho
                      obtain rfl : x2 = .bool false := by have := HV.out 2 (HD.out ⟨2, .guard⟩ (by simp) rfl); simpa using this
                      go_wp2
                      exact ⟨[x0, x1, _, x3, x4, x5, x6, _, x8, x9, x10, x11], rfl, by simp only [List.zip_cons_cons, List.zip_nil_left, List.zip_nil_right, putAll, Act.put, List.setIfInBounds_toArray, List.set_cons_zero, List.set_cons_succ], IV.step HV.out 7 _ (by simp) rfl, HB1.out⟩
                    · obtain rfl := Option.some.inj ho
                      obtain rfl : x2 = .bool false := by have := HV.out 2 (HD.out ⟨2, .guard⟩ (by simp) rfl); simpa using this
                      go_wp2
                      exact ⟨[x0, x1, _, x3, x4, x5, x6, x7, _, x9, x10, x11], rfl, by simp only [List.zip_cons_cons, List.zip_nil_left, List.zip_nil_right, putAll, Act.put, List.setIfInBounds_toArray, List.set_cons_zero, List.set_cons_succ], IV.step HV.out 8 _ (by simp) rfl, HB1.out⟩
                    · obtain rfl := Option.some.inj ho
                      obtain rfl : x2 = .bool false := by have := HV.out 2 (HD.out ⟨2, .guard⟩ (by simp) rfl); simpa using this
                      go_wp2
                      exact ⟨[x0, x1, _, x3, x4, x5, x6, x7, x8, _, x10, x11], rfl, by simp only [List.zip_cons_cons, List.zip_nil_left, List.zip_nil_right, putAll, Act.put, List.setIfInBounds_toArray, List.set_cons_zero, List.set_cons_succ], IV.step HV.out 9 _ (by simp) rfl, HB1.out⟩
                    · obtain rfl := Option.some.inj ho
                      obtain rfl : x2 = .bool false := by have := HV.out 2 (HD.out ⟨2, .guard⟩ (by simp) rfl); simpa using this
                      go_wp2
                      exact ⟨[x0, x1, _, x3, x4, x5, x6, x7, x8, x9, _, x11], rfl, by simp only [List.zip_cons_cons, List.zip_nil_left, List.zip_nil_right, putAll, Act.put, List.setIfInBounds_toArray, List.set_cons_zero, List.set_cons_succ], IV.step HV.out 10 _ (by simp) rfl, HB1.out⟩
                    · obtain rfl := Option.some.inj ho
                      obtain rfl : x2 = .bool false := by have := HV.out 2 (HD.out ⟨2, .data⟩ (by simp) rfl); simpa using this
                      go_wp2
                      exact ⟨[x0, x1, _, x3, x4, x5, x6, x7, x8, x9, x10, _], rfl, by simp only [List.zip_cons_cons, List.zip_nil_left, List.zip_nil_right, putAll, Act.put, List.setIfInBounds_toArray, List.set_cons_zero, List.set_cons_succ], IV.step HV.out 11 _ (by simp) rfl, HB1.out⟩
                  · intro d_ a_ w1 hI hall
                    obtain ⟨xs, hl, rfl, hv, hb1⟩ := hI
                    obtain ⟨x0, x1, x2, x3, x4, x5, x6, x7, x8, x9, x10, x11, rfl⟩ := list12 hl
                    obtain rfl : x11 = .bool false := by have := hv 11 (hall 11 (by decide)); simpa using this
                    have HB1 := Aside0.mk hb1
                    clear hv hb1 hall hl
                    simp only [List.zip_cons_cons, List.zip_nil_left, List.zip_nil_right, putAll, Act.put, List.setIfInBounds_toArray, List.set_cons_zero, List.set_cons_succ]
                    have S2 := Aside0.mk (S1.out.below HB1.out)
                    clear S1 HB1
                    go_wp2
                    go_roundw
                    case rel => exact ⟨i + 1, by go_num, by omega, S2⟩
                    case measure => simp [intOf]; omega
              · have hi4' : i = 4 := by omega
                subst hi4'
                clear hi4 hlt2
                go_upto_region 21 with (fail)
                go_cut [17, 134] (fun v17 v134 wz => v134 = .bool false ∧ Aside0 (HCp wq wz gl gk X R (.slice By ys.length dy) ys 4))
                case first =>
                  by_cases hr0 : 0 < r
                  · have q1 : decide ((0 : Int) < (r : Int)) = true := decide_eq_true (by omega)
                    have q2 : decide (0 < r) = true := decide_eq_true hr0
                    obtain ⟨_, _, A12, c12, rfl, hc12⟩ := HK.out hr0
                    have H12 := Aside0.mk hc12
                    obtain ⟨A13, c13, e13, hc13⟩ := HC0.out.y
                    have H13 := Aside0.mk hc13
                    injection e13 with e1 e2 e3
                    subst e1; subst e3
                    clear hc12 hc13 e2
                    go_wp2_with (go_at_call 38; go_loud (refine (paraphrastlaw01_SameSymbols.calls k By dy ys A12 c12 ys true _ H13.out.2 H13.out.1 (Kd.C_below H12.out.2 HC0.out.r) H12.out.1 H.out.sameY).mono ?_; rintro e w' ⟨rfl, ⟨nd, rfl⟩⟩))
                    go_meet
                    case rel => exact ⟨rfl, ⟨HC0.out.below (below_drewN (Below.refl _ _) _)⟩⟩
                  · have q1 : decide ((0 : Int) < (r : Int)) = false := decide_eq_false (by omega)
                    have q2 : decide (0 < r) = false := decide_eq_false hr0
                    go_wp2
                    go_meet
                    case rel => exact ⟨rfl, HC0⟩
                case rest =>
                  clear HC0
                  obtain ⟨rfl, HC0⟩ := hcut
                  generalize wc = W5 at *
                  obtain ⟨ux, b2, e2, hAK, hRY, hgfy, hgkf, hgfW, hsl, hop⟩ := HC0.out.open HBR.out AF.out.lt
                  obtain ⟨B0, d0, hu0⟩ := hsl 0 (by decide)
                  obtain ⟨B1, d1, hu1⟩ := hsl 1 (by decide)
                  obtain ⟨B2, d2, hu2⟩ := hsl 2 (by decide)
                  obtain ⟨B3, d3, hu3⟩ := hsl 3 (by decide)
                  have HU := Aside0.mk (And.intro hu0 (And.intro hu1 (And.intro hu2 hu3)))
                  have HN := Aside0.mk (And.intro hgfy (And.intro hgkf hgfW))
                  clear hu0 hu1 hu2 hu3 hgfy hgkf hgfW
                  have AKA := Aside0.mk hAK
                  have RY := Aside0.mk hRY
                  have HOP := Aside0.mk hop
                  have AF5 := Aside0.mk (AF.out.below HC0.out.r)
                  clear hAK hRY hop hsl
                  go_upto_region 23 with (fail)
                  refine wp_region_inv0 rfl (by kernel_rfl) (fun a0 => I5 a0 W5 wo.heap.size X ux (.slice By ys.length dy) ys) ?_ ?_ ?_
                  · exact I5.start (F5.start (Kept.of_below (Below.refl _ _).drew _) ⟨rfl, rfl, rfl⟩ ⟨_, _, AF5.out⟩)
                  · intro i o d a w1 hI ho hnd hdep
                    obtain ⟨x135, x136, x137, x138, x12, rfl, S⟩ := hI
                    have hi : i < 6 := (Array.getElem?_eq_some_iff.1 ho).1
                    have HS := Aside0.mk S
                    have HND := Aside0.mk hnd
                    have HD := Aside0.mk hdep
                    clear S hnd hdep
                    have hgk_ := HS.out.kept.2 gk AKA.out.lt HN.out.2.1
                    have AK := Aside0.mk (AKA.out.same hgk_)
                    clear hgk_
                    simp only [putAll, Act.put, List.setIfInBounds_toArray, List.set_cons_zero, List.set_cons_succ]
                    obtain rfl | rfl | rfl | rfl | rfl | rfl : i = 0 ∨ i = 1 ∨ i = 2 ∨ i = 3 ∨ i = 4 ∨ i = 5 := by omega
                    · obtain rfl := Option.some.inj ho
                      obtain ⟨k0, m0, _, _⟩ := AK.out.cells 0 (by decide)
                      obtain ⟨k1, m1, _, _⟩ := AK.out.cells 1 (by decide)
                      obtain ⟨k2, m2, _, _⟩ := AK.out.cells 2 (by decide)
                      obtain ⟨k3, m3, _, _⟩ := AK.out.cells 3 (by decide)
                      simp only [Nat.reduceMul, Nat.reduceAdd] at k0 m0 k1 m1 k2 m2 k3 m3
                      go_wp2
                      try simp only [← HU.out.1, ← HU.out.2.1, ← HU.out.2.2.1, ← HU.out.2.2.2]
                      exact ⟨_, x136, x137, x138, x12, by simp only [arrC, putAll, Act.put, List.setIfInBounds_toArray, List.set_cons_zero, List.set_cons_succ], HS.out.n0 HND.out rfl⟩
                    · obtain rfl := Option.some.inj ho
                      go_wp2
                      exact ⟨x135, _, x137, x138, x12, by simp only [putAll, Act.put, List.setIfInBounds_toArray, List.set_cons_zero, List.set_cons_succ], (HS.out.grow ((Below.refl _ _).alloc (Nat.le_refl _) (.cells #[] 96))).n1 HND.out ⟨_, rfl, HS.out.kept.1, heap_alloc_new _ _⟩⟩
                    · obtain rfl := Option.some.inj ho
                      go_wp2
                      exact ⟨x135, x136, _, x138, x12, by simp only [putAll, Act.put, List.setIfInBounds_toArray, List.set_cons_zero, List.set_cons_succ], HS.out.n2 HND.out rfl⟩
                    · obtain rfl := Option.some.inj ho
                      have d1 := HD.out ⟨1, .data⟩ (by simp) rfl
                      have d2 := HD.out ⟨2, .data⟩ (by simp) rfl
                      obtain ⟨ge, rfl, hge, hgc⟩ := HS.out.h1 d1
                      obtain rfl := HS.out.h2 d2
                      obtain ⟨Ay, cy, hvo, hly, hCy⟩ := (RY.out.kept HS.out.kept (fun k hk => by subst hk; exact .inl HN.out.1)).cv
                      injection hvo with h1 h2 h3
                      subst h1
                      subst h3
                      clear h2
                      refine ap_copy k96 W5.heap.size rfl 38 96 24 (.agg #[.string ⟨#[]⟩, .int .i64 0]) rfl Tryz.underlying38 infoY rfl (by decide) (by decide) (by decide) rfl rfl hgc hge HS.out.kept.1 hCy (by have := H.out.lens; omega) (fun _ _ _ _ h => h) ?_
                      intro v' w' hR hb
                      go_wp2
                      exact ⟨x135, _, _, _, x12, by simp only [putAll, Act.put, List.setIfInBounds_toArray, List.set_cons_zero, List.set_cons_succ], (HS.out.grow hb).n3 HND.out hR⟩
                    · obtain rfl := Option.some.inj ho
                      have d0 := HD.out ⟨0, .data⟩ (by simp) rfl
                      obtain rfl := HS.out.h0 d0
                      obtain ⟨Y', vs', hA⟩ := HS.out.any
                      obtain ⟨k0, m0, e0, f0⟩ := hA.cells 0 (by decide)
                      obtain ⟨k1, m1, e1, f1⟩ := hA.cells 1 (by decide)
                      obtain ⟨k2, m2, e2, f2⟩ := hA.cells 2 (by decide)
                      obtain ⟨k3, m3, e3, f3⟩ := hA.cells 3 (by decide)
                      simp only [Nat.reduceMul, Nat.reduceAdd] at k0 m0 k1 m1 k2 m2 k3 m3 e0 e1 e2 e3 f0 f1 f2 f3
                      clear hA
                      unfold arrC
                      simp only [HU.out.1, HU.out.2.1, HU.out.2.2.1, HU.out.2.2.2]
                      go_wp2
                      try simp only [← HU.out.1, ← HU.out.2.1, ← HU.out.2.2.1, ← HU.out.2.2.2]
                      exact ⟨_, x136, x137, x138, x12, by simp only [arrC, putAll, Act.put, List.setIfInBounds_toArray, List.set_cons_zero, List.set_cons_succ], HS.out.n4 HN.out.2.2⟩
                    · obtain rfl := Option.some.inj ho
                      have d3 := HD.out ⟨3, .data⟩ (by simp) rfl
                      go_wp2
                      exact ⟨x135, x136, x137, x138, _, by simp only [putAll, Act.put, List.setIfInBounds_toArray, List.set_cons_zero, List.set_cons_succ], HS.out.n5 HND.out ⟨d3, rfl⟩⟩
                  · intro d a w1 hI hall
                    obtain ⟨x135, x136, x137, x138, x12, rfl, S⟩ := hI
                    obtain ⟨_, rfl⟩ := S.h5 (hall 5 (by decide))
                    obtain ⟨P0, hP, hcw, hcl⟩ := HOP.out w1 _ S.kept S.os (S.h4 (hall 4 (by decide))) (S.h3 (hall 3 (by decide)))
                    have HP := Aside0.mk hP
                    have HCW := Aside0.mk hcw
                    have HCL := Aside0.mk hcl
                    clear S hall hP hcw hcl HOP AKA RY AF5 HU HN
                    simp only [putAll, Act.put, List.setIfInBounds_toArray, List.set_cons_zero, List.set_cons_succ]
                    go_wp2_with (go_at_call 39; go_loud (refine (paraphrastlaw01_SpoilSymbols.calls k P0 _ ys wo _ HCW.out HP.out H.out.spoil).mono ?_; rintro e w' ⟨rfl, hb, hk⟩; have T3 := Aside0.mk (HCL.out w' hk hb); clear hb hk))
                    clear HP HCW HCL
                    go_loopw [18] (fun v18 wl => ∃ i : Nat, v18 = .int .i64 i ∧ i ≤ 4 ∧ Aside0 (S3 wo wl gl gk wo.heap.size X ux R x12 ys i)) (fun v18 _ => 4 - (intOf v18).toNat)
                    case atStart => exact ⟨0, rfl, by omega, T3⟩
                    case round =>
                      clear T3
                      obtain ⟨i, rfl, hi4, T3⟩ := hrel
                      by_cases hlt3 : i < 4
                      · have hi0 : (0 : Int) ≤ (i : Int) := by omega
                        have hi1 : (i : Int) < 4 := by omega
                        obtain ⟨AL, cL, BK, dK, l0, l1, m0, m1, hL⟩ := T3.out.get i (Nat.le_refl _) hlt3
                        have HL := Aside0.mk hL
                        clear hL
                        go_upto_region 28 with (fail)
                        refine wp_region_inv0 rfl (by kernel_rfl) (IV wr [145, 146, 147, 148, 149, 150, 151, 152] [.int .i64 (i : Int), .pointer (some ⟨gl, i * 2, none⟩), .agg #[.int .i64 (X i), .slice AL (R i).length cL], .int .i64 (i : Int), .pointer (some ⟨gk, i * 2, none⟩), .agg #[.int .i64 (X i), .slice BK (R i).length dK], .bool true, .bool false]) IV.start ?_ ?_
                        · intro i_ o_ d_ a_ w1 hI ho hnd hdep
                          obtain ⟨xs, hl, rfl, hv, hb1⟩ := hI
                          obtain ⟨x0, x1, x2, x3, x4, x5, x6, x7, rfl⟩ := list8 hl
                          have hi_ : i_ < 8 := (Array.getElem?_eq_some_iff.1 ho).1
                          have HV := Aside0.mk hv
                          have HB1 := Aside0.mk hb1
                          have HD := Aside0.mk hdep
                          clear hv hb1 hnd hdep hl
                          have y0 := oc l0 HB1.out
                          have y1 := oc l1 HB1.out
                          have y2 := oc m0 HB1.out
                          have y3 := oc m1 HB1.out
                          clear l0 l1 m0 m1
                          simp only [List.zip_cons_cons, List.zip_nil_left, List.zip_nil_right, putAll, Act.put, List.setIfInBounds_toArray, List.set_cons_zero, List.set_cons_succ]
                          obtain rfl | rfl | rfl | rfl | rfl | rfl | rfl | rfl : i_ = 0 ∨ i_ = 1 ∨ i_ = 2 ∨ i_ = 3 ∨ i_ = 4 ∨ i_ = 5 ∨ i_ = 6 ∨ i_ = 7 := by omega
                          · obtain rfl := Option.some.inj ho
                            go_wp2
                            exact ⟨[_, x1, x2, x3, x4, x5, x6, x7], rfl, by simp only [List.zip_cons_cons, List.zip_nil_left, List.zip_nil_right, putAll, Act.put, List.setIfInBounds_toArray, List.set_cons_zero, List.set_cons_succ], IV.step HV.out 0 _ (by simp) rfl, HB1.out⟩
                          · obtain rfl := Option.some.inj ho
                            obtain rfl : x0 = .int .i64 (i : Int) := by have := HV.out 0 (HD.out ⟨0, .data⟩ (by simp) rfl); simpa using this
                            go_wp2
                            exact ⟨[_, _, x2, x3, x4, x5, x6, x7], rfl, by simp only [List.zip_cons_cons, List.zip_nil_left, List.zip_nil_right, putAll, Act.put, List.setIfInBounds_toArray, List.set_cons_zero, List.set_cons_succ], IV.step HV.out 1 _ (by simp) rfl, HB1.out⟩
                          · obtain rfl := Option.some.inj ho
                            obtain rfl : x1 = .pointer (some ⟨gl, i * 2, none⟩) := by have := HV.out 1 (HD.out ⟨1, .data⟩ (by simp) rfl); simpa using this
                            go_wp2
                            exact ⟨[x0, _, _, x3, x4, x5, x6, x7], rfl, by simp only [List.zip_cons_cons, List.zip_nil_left, List.zip_nil_right, putAll, Act.put, List.setIfInBounds_toArray, List.set_cons_zero, List.set_cons_succ], IV.step HV.out 2 _ (by simp) rfl, HB1.out⟩
                          · obtain rfl := Option.some.inj ho
                            go_wp2
                            exact ⟨[x0, x1, x2, _, x4, x5, x6, x7], rfl, by simp only [List.zip_cons_cons, List.zip_nil_left, List.zip_nil_right, putAll, Act.put, List.setIfInBounds_toArray, List.set_cons_zero, List.set_cons_succ], IV.step HV.out 3 _ (by simp) rfl, HB1.out⟩
                          · obtain rfl := Option.some.inj ho
                            obtain rfl : x3 = .int .i64 (i : Int) := by have := HV.out 3 (HD.out ⟨3, .data⟩ (by simp) rfl); simpa using this
                            go_wp2
                            exact ⟨[x0, x1, x2, _, _, x5, x6, x7], rfl, by simp only [List.zip_cons_cons, List.zip_nil_left, List.zip_nil_right, putAll, Act.put, List.setIfInBounds_toArray, List.set_cons_zero, List.set_cons_succ], IV.step HV.out 4 _ (by simp) rfl, HB1.out⟩
                          · obtain rfl := Option.some.inj ho
                            obtain rfl : x4 = .pointer (some ⟨gk, i * 2, none⟩) := by have := HV.out 4 (HD.out ⟨4, .data⟩ (by simp) rfl); simpa using this
                            go_wp2
                            exact ⟨[x0, x1, x2, x3, _, _, x6, x7], rfl, by simp only [List.zip_cons_cons, List.zip_nil_left, List.zip_nil_right, putAll, Act.put, List.setIfInBounds_toArray, List.set_cons_zero, List.set_cons_succ], IV.step HV.out 5 _ (by simp) rfl, HB1.out⟩
                          · obtain rfl := Option.some.inj ho
                            obtain rfl : x2 = .agg #[.int .i64 (X i), .slice AL (R i).length cL] := by have := HV.out 2 (HD.out ⟨2, .data⟩ (by simp) rfl); simpa using this
                            obtain rfl : x5 = .agg #[.int .i64 (X i), .slice BK (R i).length dK] := by have := HV.out 5 (HD.out ⟨5, .data⟩ (by simp) rfl); simpa using this
                            go_wp2_with (go_at_call 34; refine (paraphrastref01_Same.calls k (X i) AL cL (R i) (X i) BK dK (R i) true _ (Kd.C_below HL.out.2.1 HB1.out) HL.out.1 (Kd.C_below HL.out.2.2.2 HB1.out) HL.out.2.2.1 (H.out.same i hlt3)).mono ?_; rintro e w' ⟨rfl, hb⟩)
                            exact ⟨[x0, x1, _, x3, x4, _, _, x7], rfl, by simp only [List.zip_cons_cons, List.zip_nil_left, List.zip_nil_right, putAll, Act.put, List.setIfInBounds_toArray, List.set_cons_zero, List.set_cons_succ], IV.step HV.out 6 _ (by simp) rfl, below_step HB1.out hb⟩
                          · obtain rfl := Option.some.inj ho
                            obtain rfl : x6 = .bool true := by have := HV.out 6 (HD.out ⟨6, .data⟩ (by simp) rfl); simpa using this
                            go_wp2
                            exact ⟨[x0, x1, x2, x3, x4, x5, _, _], rfl, by simp only [List.zip_cons_cons, List.zip_nil_left, List.zip_nil_right, putAll, Act.put, List.setIfInBounds_toArray, List.set_cons_zero, List.set_cons_succ], IV.step HV.out 7 _ (by simp) rfl, HB1.out⟩
                        · intro d_ a_ w1 hI hall
                          obtain ⟨xs, hl, rfl, hv, hb1⟩ := hI
                          obtain ⟨x0, x1, x2, x3, x4, x5, x6, x7, rfl⟩ := list8 hl
                          obtain rfl : x7 = .bool false := by have := hv 7 (hall 7 (by decide)); simpa using this
                          have HB1 := Aside0.mk hb1
                          clear hv hb1 hall hl
                          simp only [List.zip_cons_cons, List.zip_nil_left, List.zip_nil_right, putAll, Act.put, List.setIfInBounds_toArray, List.set_cons_zero, List.set_cons_succ]
                          have y0 := oc l0 HB1.out
                          have y1 := oc l1 HB1.out
                          obtain ⟨S, hG3, hlow, hcl⟩ := (T3.out.below HB1.out).spoil hlt3 (H.out.bd i hlt3) y1
                          have HS3 := Aside0.mk (And.intro hG3 (And.intro hlow hcl))
                          clear hG3 hlow hcl T3 HB1 l0 l1 m0 m1 HL
                          go_wp2_with (go_at_call 40; go_loud (refine (spoil_calls S (X i) _ _ HS3.out.1 HS3.out.2.1).mono ?_; rintro e w' ⟨rfl, hs⟩; have T5 := Aside0.mk (HS3.out.2.2 w' hs); clear hs))
                          go_roundw
                          case rel => exact ⟨i + 1, by go_num, by omega, T5⟩
                          case measure => simp [intOf]; omega
                      · have hi4' : i = 4 := by omega
                        clear hi4
                        have hi4i : ¬ (i : Int) < 4 := by omega
                        have X3z := Aside0.mk (blk_below X3.out T3.out.c)
                        have X4z := Aside0.mk (blk_below X4.out T3.out.c)
                        have X5z := Aside0.mk (blk_below X5.out T3.out.c)
                        have X7z := Aside0.mk (blk_below X7.out T3.out.c)
                        obtain ⟨p30, p31, f30, f31⟩ := bq2 X3z
                        obtain ⟨p70, p71, f70, f71⟩ := bq2 X7z
                        have HBz := Aside0.mk (below_step HB.out T3.out.c)
                        go_wp2_with (first | (go_at_call 34; go_loud (refine (paraphrastref01_Same.calls k n A0 c0 l n A7 c7 l true _ (Kd.C_below HR0.out HBz.out) HC.out.1 (Kd.C_below CC.out.1.2 T3.out.c) CC.out.1.1 H.out.sameS).mono ?_; rintro e w' ⟨rfl, hb⟩; have E4 := Aside0.mk (blk_below X4z.out hb); have E5 := Aside0.mk (blk_below X5z.out hb); obtain ⟨p40, p41, p42, f40, f41, f42⟩ := bq3 E4; obtain ⟨p50, p51, f50, f51⟩ := bq2 E5; have HBy := Aside0.mk (below_step HBz.out hb); have T6 := Aside0.mk (T3.out.below hb); have D1 := Aside0.mk (Kd.C_below HR1.out HBy.out); have D2 := Aside0.mk (Kd.C_below HR2.out HBy.out); have D3 := Aside0.mk (Kd.C_below HR3.out HBy.out); have D8 := Aside0.mk (Kd.C_below CC.out.2.1.2 T6.out.c); have D9 := Aside0.mk (Kd.C_below CC.out.2.2.1.2 T6.out.c); have D10 := Aside0.mk (Kd.C_below CC.out.2.2.2.2 T6.out.c); clear hb)) | (go_at_call 41; with_reducible refine (paraphrastref01_Equal.calls k A1 c1 t A8 c8 t true _ ?s1 HC.out.2.1 ?s2 CC.out.2.1.1 H.out.eqT).mono ?_; (case s1 => exact cS D1.out); (case s2 => exact cS D8.out); rintro e w' ⟨rfl, ⟨nd1, rfl⟩⟩) | (go_at_call 41; with_reducible refine (paraphrastref01_Equal.calls k A2 c2 pm A9 c9 pm true _ ?s1 HC.out.2.2.1 ?s2 CC.out.2.2.1.1 H.out.eqP).mono ?_; (case s1 => exact cS D2.out); (case s2 => exact cS D9.out); rintro e w' ⟨rfl, ⟨nd2, rfl⟩⟩) | (go_at_call 38; refine (paraphrastlaw01_SameSymbols.calls k A3 c3 sy A10 c10 sy true _ ?s1 HC.out.2.2.2 ?s2 CC.out.2.2.2.1 H.out.sameSy).mono ?_; (case s1 => exact cS D3.out); (case s2 => exact cS D10.out); rintro e w' ⟨rfl, ⟨nd3, rfl⟩⟩))
                        go_roundw
                        case rel =>
                          have T7 := T6.out.below (W1 := w'.drewN (nd1 + nd2 + nd3)) (below_drewN (Below.refl _ _) _)
                          exact ⟨r + 1, X, ux, by go_num, by omega, ⟨T7.c⟩, ⟨T7.f⟩, ⟨fun _ => ⟨rfl, T7.cp, T7.y⟩⟩⟩
                        case measure => simp [intOf]; omega
          · have hr2' : r = 2 := by omega
            subst hr2'
            go_wp2_with (go_at_call 10; refine (paraphrastlaw01_alive.calls k true _ (Glob.below HG.out (below_step HB.out HBR.out)) HAL.out).mono ?_; rintro e w' ⟨rfl, hb⟩)
            go_ret
            exact ⟨rfl, below_step (below_step HB.out HBR.out) hb⟩
end Go.Proofs.YtfmpaofbnjlniaaGreatDoor.F
/- ShapeOwn, the plain law: what the law's calls answer. -/
namespace Go.Proofs.YtfmpaofbnjlniaaGreatDoor.F
open Go.RowKit Go.Proofs.YtfmpaofbnjlniaaGreatDoorW.PrintWords Go.Proofs.YtfmpaofbnjlniaaGreatDoorW.PrintLast Go.Proofs.YtfmpaofbnjlniaaGreatDoorW.PrintMore
set_option linter.unusedVariables false
def symOf (r : S52) : S96 := ⟨r.f0, r.f1⟩
theorem syms_loop (l : List S52) (hl : l.length ≤ 8) : ∀ (d i k : Nat) (acc : List S96), i + d = l.length → d + 1 ≤ k → acc.length + d ≤ 100 → shape_Symbols.l0 k acc l (l.length : Int) (i : Int) = some (acc ++ (l.drop i).map symOf)
  | 0, i, k + 1, acc, h, hk, ha => by unfold shape_Symbols.l0; rw [if_neg (by omega), List.drop_eq_nil_of_le (by omega)]; simp
  | d + 1, i, k + 1, acc, h, hk, ha => by
    have hi : i < l.length := by omega
    have ih := syms_loop l hl d (i + 1) k (acc ++ [symOf l[i]]) (by omega) (by omega) (by simp; omega)
    unfold shape_Symbols.l0
    rw [if_pos (by omega), if_pos (by omega), if_pos (by omega), if_pos (by omega), w64 (by omega) (by omega), rdT_nat l i hi, show (i : Int) + 1 = ((i + 1 : Nat) : Int) by omega]
    refine ih.trans ?_
    rw [List.drop_eq_getElem_cons hi, List.map_cons, List.append_assoc]; rfl
theorem same_syms (t : List S96) (ht : t.length ≤ 100) : ∀ (d i k : Nat), i + d = t.length → d + 1 ≤ k → paraphrastlaw01_SameSymbols.l0 k t t (i : Int) = some true
  | 0, i, k + 1, h, hk => by unfold paraphrastlaw01_SameSymbols.l0; rw [if_neg (by omega)]
  | d + 1, i, k + 1, h, hk => by
    unfold paraphrastlaw01_SameSymbols.l0
    rw [if_pos (by omega), if_pos (by omega), if_pos (by omega), w64 (by omega) (by omega), show (i : Int) + 1 = ((i + 1 : Nat) : Int) by omega, same_syms t ht d (i + 1) k (by omega) (by omega)]
    simp
theorem few_l2t (n : Int) (l : List S52) (i : Nat) (hi : i < l.length) (h12 : l.length ≤ 12) (c : Int) (Q : Prop) (B : Int) (hB : B ≤ 26388279066624000) (hT : (rd_T52 l (i : Int)).f2.length ≤ 17592186044416) (ht : ∀ t ∈ (rd_T52 l (i : Int)).f2, t.length ≤ 17592186044416)
    (H : ∀ k (x4 : Int), 0 ≤ x4 → x4 ≤ B → paraphrastlaw01_Few.l1 k [⟨n, l⟩] c x4 0 ((i : Int) + 1) = some true → Q ∧ x4 ≤ 20000) :
    ∀ (m j k : Nat) (x4 : Int), j + m = (rd_T52 l (i : Int)).f2.length → 0 ≤ x4 → x4 + (m : Int) * 17592186044416 ≤ B → paraphrastlaw01_Few.l2 k [⟨n, l⟩] c x4 0 (i : Int) (j : Int) = some true → Q ∧ x4 ≤ 20000 ∧ ∀ t ∈ (rd_T52 l (i : Int)).f2.drop j, t.length ≤ 20000
  | 0, j, k, x4, h, h0, hb, hk => by
    cases k with
    | zero => exact absurd hk (by simp [paraphrastlaw01_Few.l2])
    | succ k =>
      unfold paraphrastlaw01_Few.l2 at hk
      rw [if_pos (by omega), if_pos (by simp), if_pos (by omega), if_pos (show (i : Int) < ((rd_T24 [⟨n, l⟩] 0).f1.length : Int) from by show (i : Int) < (l.length : Int); omega), if_neg (show ¬ (j : Int) < ((rd_T52 (rd_T24 [⟨n, l⟩] 0).f1 (i : Int)).f2.length : Int) from by show ¬ (j : Int) < ((rd_T52 l (i : Int)).f2.length : Int); omega), w64 (by omega) (by omega)] at hk
      obtain ⟨q1, q2⟩ := H k x4 h0 (by omega) hk
      exact ⟨q1, q2, fun t h2 => by rw [List.drop_eq_nil_of_le (by omega)] at h2; cases h2⟩
  | m + 1, j, k, x4, h, h0, hb, hk => by
    cases k with
    | zero => exact absurd hk (by simp [paraphrastlaw01_Few.l2])
    | succ k =>
      have hj : j < (rd_T52 l (i : Int)).f2.length := by omega
      have hl := ht _ (List.getElem_mem hj)
      unfold paraphrastlaw01_Few.l2 at hk
      rw [if_pos (by omega), if_pos (by simp), if_pos (by omega), if_pos (show (i : Int) < ((rd_T24 [⟨n, l⟩] 0).f1.length : Int) from by show (i : Int) < (l.length : Int); omega), if_pos (show (j : Int) < ((rd_T52 (rd_T24 [⟨n, l⟩] 0).f1 (i : Int)).f2.length : Int) from by show (j : Int) < ((rd_T52 l (i : Int)).f2.length : Int); omega), if_pos (by omega), w64 (x := (j : Int) + 1) (by omega) (by omega)] at hk
      have hk' : paraphrastlaw01_Few.l2 k [⟨n, l⟩] c (wrap64 (x4 + ((rd_L2 (rd_T52 l (i : Int)).f2 (j : Int)).length : Int))) 0 (i : Int) (((j + 1 : Nat)) : Int) = some true := hk
      rw [rdL2_nat _ j hj, w64 (by omega) (by omega)] at hk'
      obtain ⟨q1, q2, q3⟩ := few_l2t n l i hi h12 c Q B hB hT ht H m (j + 1) k _ (by omega) (by omega) (by omega) hk'
      refine ⟨q1, by omega, fun t h2 => ?_⟩
      rw [List.drop_eq_getElem_cons hj] at h2
      rcases List.mem_cons.1 h2 with rfl | h2
      · omega
      · exact q3 t h2
theorem few_l1t (n : Int) (l : List S52) (h12 : l.length ≤ 12) (hM : ∀ r ∈ l, r.f2.length ≤ 17592186044416 ∧ ∀ t ∈ r.f2, t.length ≤ 17592186044416) : ∀ (d i k : Nat) (x3 x4 : Int), i + d = l.length → 0 ≤ x3 → x3 ≤ 1500 → 0 ≤ x4 → x4 ≤ x3 * 17592186044416 → paraphrastlaw01_Few.l1 k [⟨n, l⟩] x3 x4 0 (i : Int) = some true → (∀ r ∈ l.drop i, r.f2.length ≤ 1500 ∧ ∀ t ∈ r.f2, t.length ≤ 20000) ∧ x4 ≤ 20000
  | 0, i, k, x3, x4, h, a0, a1, b0, b1, hk => by
    cases k with
    | zero => exact absurd hk (by simp [paraphrastlaw01_Few.l1])
    | succ k =>
      refine ⟨fun r hr => (by rw [List.drop_eq_nil_of_le (by omega)] at hr; cases hr), ?_⟩
      unfold paraphrastlaw01_Few.l1 at hk
      rw [if_pos (by omega), if_pos (by simp), if_neg (show ¬ (i : Int) < ((rd_T24 [⟨n, l⟩] 0).f1.length : Int) from by show ¬ (i : Int) < (l.length : Int); omega), show wrap64 (0 + 1) = 1 from by unfold wrap64; omega] at hk
      cases k with
      | zero => exact absurd hk (by simp [paraphrastlaw01_Few.l0])
      | succ k =>
        unfold paraphrastlaw01_Few.l0 at hk
        rw [if_neg (by simp)] at hk
        simpa using hk
  | d + 1, i, k, x3, x4, h, a0, a1, b0, b1, hk => by
    cases k with
    | zero => exact absurd hk (by simp [paraphrastlaw01_Few.l1])
    | succ k =>
      have hi : i < l.length := by omega
      obtain ⟨hr, ht⟩ := hM _ (List.getElem_mem hi)
      rw [← rdT_nat l i hi] at hr ht
      have step : paraphrastlaw01_Few.l1 (k + 1) [⟨n, l⟩] x3 x4 0 (i : Int) = if wrap64 (x3 + ((rd_T52 l (i : Int)).f2.length : Int)) > 1500 then paraphrastlaw01_Few.j2 k [⟨n, l⟩] (wrap64 (x3 + ((rd_T52 l (i : Int)).f2.length : Int))) x4 0 (i : Int) true else paraphrastlaw01_Few.j2 k [⟨n, l⟩] (wrap64 (x3 + ((rd_T52 l (i : Int)).f2.length : Int))) x4 0 (i : Int) (decide (((rd_T52 l (i : Int)).f0.size : Int) > 1000)) := by
        conv => lhs; unfold paraphrastlaw01_Few.l1
        rw [if_pos (by omega), if_pos (by simp), if_pos (show (i : Int) < ((rd_T24 [⟨n, l⟩] 0).f1.length : Int) from by show (i : Int) < (l.length : Int); omega), if_pos (by omega)]
        rfl
      rw [step, w64 (by omega) (by omega)] at hk
      have jt : ∀ X, paraphrastlaw01_Few.j2 k [⟨n, l⟩] X x4 0 (i : Int) true ≠ some true := fun X => by cases k <;> simp [paraphrastlaw01_Few.j2]
      by_cases h1 : x3 + ((rd_T52 l (i : Int)).f2.length : Int) > 1500
      · rw [if_pos h1] at hk; exact absurd hk (jt _)
      · rw [if_neg h1] at hk
        by_cases h2 : ((rd_T52 l (i : Int)).f0.size : Int) > 1000
        · rw [decide_eq_true h2] at hk; exact absurd hk (jt _)
        · rw [decide_eq_false h2] at hk
          cases k with
          | zero => exact absurd hk (by simp [paraphrastlaw01_Few.j2])
          | succ k =>
            have hk' : paraphrastlaw01_Few.l2 k [⟨n, l⟩] (x3 + ((rd_T52 l (i : Int)).f2.length : Int)) x4 0 (i : Int) ((0 : Nat) : Int) = some true := hk
            obtain ⟨q1, q2, q3⟩ := few_l2t n l i hi h12 (x3 + ((rd_T52 l (i : Int)).f2.length : Int)) (∀ r ∈ l.drop (i + 1), r.f2.length ≤ 1500 ∧ ∀ t ∈ r.f2, t.length ≤ 20000) ((x3 + ((rd_T52 l (i : Int)).f2.length : Int)) * 17592186044416) (by omega) hr ht (fun k' y c0 c1 hk2 => by
              have hk3 : paraphrastlaw01_Few.l1 k' [⟨n, l⟩] (x3 + ((rd_T52 l (i : Int)).f2.length : Int)) y 0 ((i + 1 : Nat) : Int) = some true := hk2
              exact few_l1t n l h12 hM d (i + 1) k' _ y (by omega) (by omega) (by omega) c0 (by omega) hk3) (rd_T52 l (i : Int)).f2.length 0 k x4 (by omega) b0 (by omega) hk'
            refine ⟨fun r hr2 => ?_, q2⟩
            rw [List.drop_eq_getElem_cons hi] at hr2
            rcases List.mem_cons.1 hr2 with rfl | hr2
            · rw [← rdT_nat l i hi]
              exact ⟨by omega, fun t h3 => q3 t (by rw [List.drop_zero]; exact h3)⟩
            · exact q1 r hr2
theorem few_facts (n : Int) (l : List S52) (hL : l.length ≤ 9223372036854775807) (hM : ∀ r ∈ l, r.f2.length ≤ 17592186044416 ∧ ∀ t ∈ r.f2, t.length ≤ 17592186044416) (k : Nat) (hk : paraphrastlaw01_Few.f k [⟨n, l⟩] = some true) : l.length ≤ 12 ∧ ∀ r ∈ l, r.f2.length ≤ 1500 ∧ ∀ t ∈ r.f2, t.length ≤ 20000 := by
  unfold paraphrastlaw01_Few.f at hk
  cases k with
  | zero => exact absurd hk (by simp [paraphrastlaw01_Few.l0])
  | succ k =>
    unfold paraphrastlaw01_Few.l0 at hk
    rw [if_pos (by simp), if_pos (by omega)] at hk
    by_cases h : (l.length : Int) > 12
    · rw [if_pos (show ((rd_T24 [(⟨n, l⟩ : S24)] 0).f1.length : Int) > 12 from h)] at hk
      simp at hk
    · rw [if_neg (show ¬ ((rd_T24 [(⟨n, l⟩ : S24)] 0).f1.length : Int) > 12 from h)] at hk
      have hk' : paraphrastlaw01_Few.l1 k [⟨n, l⟩] 0 0 0 ((0 : Nat) : Int) = some true := hk
      have := (few_l1t n l (by omega) hM l.length 0 k 0 0 (by omega) (by omega) (by omega) (by omega) (by omega) hk').1
      exact ⟨by omega, this⟩
/-! ### copies, equality -/
theorem take_snocO {α : Type} (l : List α) (i : Nat) (h : i < l.length) : l.take i ++ [l[i]] = l.take (i + 1) := (List.take_succ_eq_append_getElem h).symm
theorem copied_fromO (l : List (List Int)) (hl : l.length ≤ 100000) (ht : ∀ t ∈ l, t.length ≤ 100000) : ∀ (d i k : Nat), i + d = l.length → d + 1 ≤ k → paraphrastref01_copied.l0 k l (l.take i) (i : Int) = some l
  | 0, i, k + 1, h, hk => by
    unfold paraphrastref01_copied.l0
    rw [if_neg (by omega), List.take_of_length_le (by omega)]
  | d + 1, i, k + 1, h, hk => by
    have hi : i < l.length := by omega
    have hti := ht _ (List.getElem_mem hi)
    unfold paraphrastref01_copied.l0
    rw [if_pos (by omega), Option.bind_some, if_pos (by omega), rdL2_nat l i hi, if_pos (by rw [List.length_nil]; omega), if_pos (by rw [List.length_take]; omega), List.nil_append, take_snocO l i hi, w64 (by omega) (by omega), show (i : Int) + 1 = ((i + 1 : Nat) : Int) by omega]
    exact copied_fromO l hl ht d (i + 1) k (by omega) (by omega)
theorem copied_eqO (l : List (List Int)) (hl : l.length ≤ 100000) (ht : ∀ t ∈ l, t.length ≤ 100000) (k : Nat) (hk : 100001 ≤ k) : paraphrastref01_copied.f k l = some l := by
  have := copied_fromO l hl ht l.length 0 k (by omega) (by omega)
  rw [List.take_zero] at this
  exact this
def okS (R : List S52) : Prop := R.length ≤ 1000 ∧ ∀ r ∈ R, r.f2.length ≤ 100000 ∧ ∀ t ∈ r.f2, t.length ≤ 100000
theorem copy_fromO (n : Int) (l : List S52) (h0 : okS l) : ∀ (d i k : Nat), i + d = l.length → d + 100002 ≤ k → paraphrastref01_Copy.l0 k (i : Int) n l n (l.take i) = some (n, l)
  | 0, i, k + 1, h, hk => by
    unfold paraphrastref01_Copy.l0
    rw [if_neg (by omega), List.take_of_length_le (by omega)]
  | d + 1, i, k + 1, h, hk => by
    have hi : i < l.length := by omega
    have hl := h0.1
    obtain ⟨h1, h2⟩ := h0.2 _ (List.getElem_mem hi)
    unfold paraphrastref01_Copy.l0
    rw [if_pos (by omega), if_pos (by omega), rdT_nat l i hi, copied_eqO _ h1 h2 k (by omega), Option.bind_some, if_pos (by rw [List.length_take]; omega), take_snocO l i hi, w64 (by omega) (by omega), show (i : Int) + 1 = ((i + 1 : Nat) : Int) by omega]
    exact copy_fromO n l h0 d (i + 1) k (by omega) (by omega)
theorem copy_eqO (n : Int) (l : List S52) (h0 : okS l) (k : Nat) (hk : 200000 ≤ k) : paraphrastref01_Copy.f k n l = some (n, l) := by
  have hl := h0.1
  have := copy_fromO n l h0 l.length 0 k (by omega) (by omega)
  rw [List.take_zero] at this
  exact this
theorem equal_same2 (l : List Int) (hl : l.length ≤ 100000) (k : Nat) (hk : 100100 ≤ k) : paraphrastref01_Equal.f k l l = some true := by
  unfold paraphrastref01_Equal.f
  rw [if_pos rfl]
  exact equal_refl l (by omega) l.length 0 k (by omega) (by omega)
theorem sameTuples_loop2 (l : List (List Int)) (hl : l.length ≤ 100000) (ht : ∀ t ∈ l, t.length ≤ 100000) : ∀ (d i k : Nat), i + d = l.length → d + 100101 ≤ k → paraphrastref01_SameTuples.l0 k l l (i : Int) = some true
  | 0, i, k + 1, h, hk => by unfold paraphrastref01_SameTuples.l0; rw [if_neg (by omega)]
  | d + 1, i, k + 1, h, hk => by
    have hi : i < l.length := by omega
    unfold paraphrastref01_SameTuples.l0
    rw [if_pos (by omega), if_pos (by omega), if_pos (by omega), rdL2_nat l i hi, equal_same2 _ (ht _ (List.getElem_mem hi)) k (by omega), w64 (by omega) (by omega), show (i : Int) + 1 = ((i + 1 : Nat) : Int) by omega, sameTuples_loop2 l hl ht d (i + 1) k (by omega) (by omega)]
    simp
theorem sameTuples_refl2 (l : List (List Int)) (hl : l.length ≤ 100000) (ht : ∀ t ∈ l, t.length ≤ 100000) (k : Nat) (hk : 200200 ≤ k) : paraphrastref01_SameTuples.f k l l = some true := by
  unfold paraphrastref01_SameTuples.f
  rw [if_pos rfl]
  exact sameTuples_loop2 l hl ht l.length 0 k (by omega) (by omega)
theorem same_loop2 (n : Int) (l : List S52) (h0 : okS l) : ∀ (d i k : Nat), i + d = l.length → d + 200201 ≤ k → paraphrastref01_Same.l0 k (i : Int) n l n l = some true
  | 0, i, k + 1, h, hk => by unfold paraphrastref01_Same.l0; rw [if_neg (by omega)]
  | d + 1, i, k + 1, h, hk => by
    have hi : i < l.length := by omega
    have hl := h0.1
    obtain ⟨h1, h2⟩ := h0.2 _ (List.getElem_mem hi)
    unfold paraphrastref01_Same.l0
    rw [if_pos (by omega), if_pos (by omega), if_pos (by omega), if_pos rfl, if_pos rfl, rdT_nat l i hi, sameTuples_refl2 _ h1 h2 k (by omega), w64 (by omega) (by omega), show (i : Int) + 1 = ((i + 1 : Nat) : Int) by omega, same_loop2 n l h0 d (i + 1) k (by omega) (by omega)]
    simp
theorem same_refl2 (n : Int) (l : List S52) (h0 : okS l) (k : Nat) (hk : 202300 ≤ k) : paraphrastref01_Same.f k n l n l = some true := by
  obtain ⟨k, rfl⟩ : ∃ k', k = k' + 1 := ⟨k - 1, by omega⟩
  have hl := h0.1
  unfold paraphrastref01_Same.f
  rw [if_pos rfl, bne_self_eq_false]
  unfold paraphrastref01_Same.j0
  dsimp only
  rw [if_neg (by simp)]
  exact same_loop2 n l h0 l.length 0 k (by omega) (by omega)
theorem sameSyms_refl (t : List S96) (ht : t.length ≤ 100) (k : Nat) (hk : 102 ≤ k) : paraphrastlaw01_SameSymbols.f k t t = some true := by
  unfold paraphrastlaw01_SameSymbols.f
  rw [if_pos rfl]
  exact same_syms t ht t.length 0 k (by omega) (by omega)
theorem spoil_from (N : Nat) (hN : N ≤ 100) : ∀ (d i k : Nat) (xs : List S96), xs.length = N → i + d = N → d + 1 ≤ k → paraphrastlaw01_SpoilSymbols.l0 k xs (i : Int) = some ()
  | 0, i, k + 1, xs, hx, h, hk => by
    unfold paraphrastlaw01_SpoilSymbols.l0
    rw [if_neg (by omega), if_pos (by omega), if_pos (by simp)]
  | d + 1, i, k + 1, xs, hx, h, hk => by
    unfold paraphrastlaw01_SpoilSymbols.l0
    rw [if_pos (by omega), if_pos (by omega), w64 (by omega) (by omega), show (i : Int) + 1 = ((i + 1 : Nat) : Int) by omega]
    exact spoil_from N hN d (i + 1) k _ (by rw [List.length_set]; exact hx) (by omega) (by omega)
/-! ### what the four calls answer -/
theorem copyOk_ok (n : Int) (l : List S52) (hv : validB n l = true) : copyOk l := by
  obtain ⟨v1, v2, v3, v4⟩ := valid_facts n l hv
  refine ⟨by omega, fun r hr => ?_⟩
  obtain ⟨_, g1, g2, g3⟩ := v4 r hr
  exact ⟨by omega, fun t ht => by have := (g2 t ht).1; omega⟩
theorem okS_nil : okS [] := ⟨by simp, fun r hr => by cases hr⟩
theorem okS_valid (n : Int) (l : List S52) (h : validB n l = true) : okS l := by
  obtain ⟨h1, h2, h3, h4⟩ := valid_facts n l h
  refine ⟨by omega, fun r hr => ?_⟩
  obtain ⟨_, g1, g2, g3⟩ := h4 r hr
  exact ⟨by omega, fun t ht => by have := (g2 t ht).1; omega⟩
theorem put_any (n : Int) (l : List S52) (hl : l.length ≤ 12) (hall : ∀ r ∈ l, r.f2.length ≤ 1500) (nm : ByteArray) (t : List Int) (b : Bool) : ∃ m R e, okS R ∧ ∀ k, 7000 ≤ k → shape_Put.f k n l nm t b = some (m, R, e) := by
  cases hv : validB n l with
  | false =>
    refine ⟨0, [], 1, okS_nil, fun k hk => ?_⟩
    unfold shape_Put.f
    rw [has_bad n l 1500 (by omega) hall hv nm t k (by omega), Option.bind_some]
    rfl
  | true =>
    obtain ⟨v1, v2, v3, v4⟩ := valid_facts n l hv
    by_cases hn : ∀ r ∈ l, symIs nm t.length r = false
    · refine ⟨0, [], 4, okS_nil, fun k hk => ?_⟩
      unfold shape_Put.f
      rw [has_none n l hv nm t hn k (by omega), Option.bind_some]
      rfl
    · obtain ⟨r, hr⟩ := Classical.not_forall.1 hn
      obtain ⟨hr, hs⟩ := Classical.not_imp.1 hr
      rw [Bool.not_eq_false] at hs
      obtain ⟨q, hq, rfl⟩ := List.getElem_of_mem hr
      unfold symIs at hs
      simp only [Bool.and_eq_true, beq_iff_eq] at hs
      obtain rfl : l[q].f0 = nm := toList_inj hs.1
      have hlen : (t.length : Int) = l[q].f1 := hs.2.symm
      cases ho : t.any (outB n) with
      | true =>
        obtain ⟨q0, b0, hp, hb, hh, hs2⟩ := has_at n l hv q hq t hlen
        refine ⟨0, [], 2, okS_nil, fun k hk => ?_⟩
        unfold shape_Put.f
        rw [hh k (by omega), Option.bind_some]
        simp only [if_true]
        rw [elements_eq, ho, Option.bind_some]
        rfl
      | false =>
        obtain ⟨ts, t1, t2, t3, t4, t5, hput⟩ := put_at n l hv q hq t hlen ho b
        exact ⟨n, _, 0, okS_valid n _ (valid_set n l hv q hq ts t1 t2), hput⟩
theorem permute_any (n : Int) (l : List S52) (hl : l.length ≤ 12) (hall : ∀ r ∈ l, r.f2.length ≤ 1500) (sy : List Int) (hs : sy.length ≤ 1000) (hR : ∀ x ∈ sy, -9223372036854775808 ≤ x ∧ x ≤ 9223372036854775807) : ∃ m R e, okS R ∧ ∀ k, 7000 ≤ k → shape_Permute.f k n l sy = some (m, R, e) := by
  cases hv : validB n l with
  | false =>
    refine ⟨0, [], 1, okS_nil, fun k hk => ?_⟩
    unfold shape_Permute.f
    rw [valid_eq n l 1500 (by omega) hall k (by omega), hv]; rfl
  | true =>
    cases hy : permYes n sy with
    | false =>
      refine ⟨0, [], 2, okS_nil, fun k hk => ?_⟩
      unfold shape_Permute.f
      rw [valid_eq n l 1500 (by omega) hall k (by omega), hv, Option.bind_some, if_pos rfl, if_pos ⟨copyOk_ok n l hv, hs, hR⟩, hy]; rfl
    | true =>
      have hyy := hy
      unfold permYes at hyy
      rw [Bool.and_eq_true, Bool.and_eq_true, decide_eq_true_eq, decide_eq_true_eq, Bool.not_eq_true'] at hyy
      obtain ⟨hn, hc, hel⟩ := hyy
      have hnd : sy.Nodup := (count_nodupI sy).1 (by omega)
      refine ⟨n, l.map (renR sy), 0, ⟨by rw [List.length_map]; have := (valid_facts n l hv).2.2.1; omega, fun r hr => ?_⟩, fun k hk => ?_⟩
      · obtain ⟨g1, g2⟩ := renR_ok n l hv sy r hr
        exact ⟨g1, fun t ht => by have := g2 t ht; omega⟩
      · unfold shape_Permute.f
        rw [valid_eq n l 1500 (by omega) hall k (by omega), hv, Option.bind_some, if_pos rfl, if_pos ⟨copyOk_ok n l hv, hs, hR⟩, hy, if_pos rfl, if_pos (permFit_of n l hv sy hn hnd)]
theorem keep_any (n : Int) (l : List S52) (hl : l.length ≤ 12) (hall : ∀ r ∈ l, r.f2.length ≤ 1500) (sy : List S96) (hs : keepOk sy) : ∃ m R e, okS R ∧ ∀ k, 7000 ≤ k → shape_Keep.f k n l sy = some (m, R, e) := by
  cases hv : validB n l with
  | false =>
    refine ⟨0, [], 1, okS_nil, fun k hk => ?_⟩
    unfold shape_Keep.f
    rw [valid_eq n l 1500 (by omega) hall k (by omega), hv]; rfl
  | true =>
    have hkp : ∀ k, 7000 ≤ k → shape_Keep.f k n l sy = some (keepRes n l sy) := fun k hk => by
      unfold shape_Keep.f
      rw [valid_eq n l 1500 (by omega) hall k (by omega), hv, Option.bind_some, if_pos rfl, if_pos ⟨copyOk_ok n l hv, hs⟩]
    cases hfit : (sy.all fun x => decide (0 ≤ keepAt l x)) with
    | false =>
      have hr : keepRes n l sy = (0, [], 4) := if_neg (by rw [hfit]; simp)
      exact ⟨0, [], 4, okS_nil, fun k hk => by rw [hkp k hk, hr]⟩
    | true =>
      have hge : ∀ x ∈ sy, 0 ≤ keepAt l x := fun x hx => by simpa using List.all_eq_true.1 hfit x hx
      by_cases hnd : (sy.map nameS).Nodup
      · have hr : keepRes n l sy = (n, keepRels l sy, 0) := (if_pos hfit).trans (if_pos ((count_nodup sy).2 hnd))
        refine ⟨n, keepRels l sy, 0, ⟨by unfold keepRels; rw [List.length_map]; exact hs.1, fun r hr2 => ?_⟩, fun k hk => by rw [hkp k hk, hr]⟩
        obtain ⟨g1, g2⟩ := keepRels_ok n l hv sy hge r hr2
        exact ⟨g1, fun t ht => by have := g2 t ht; omega⟩
      · have hr : keepRes n l sy = (0, [], 2) := (if_pos hfit).trans (if_neg (fun e => hnd ((count_nodup sy).1 e)))
        exact ⟨0, [], 2, okS_nil, fun k hk => by rw [hkp k hk, hr]⟩
theorem make_any (n : Int) (sy : List S96) (hs : sy.length ≤ 1000) : ∃ m R e, okS R ∧ ∀ k, 7000 ≤ k → shape_Make.f k n sy = some (m, R, e) := by
  have hm : okS (madeL sy) := ⟨by unfold madeL; rw [List.length_map]; exact hs, fun r hr => by
    unfold madeL at hr
    obtain ⟨x, _, rfl⟩ := List.mem_map.1 hr
    exact ⟨Nat.zero_le _, fun t ht => by cases ht⟩⟩
  cases hv : validB n (madeL sy) with
  | true => exact ⟨n, madeL sy, 0, hm, fun k hk => by rw [make_eq n sy hs k (by omega), hv, if_pos rfl]⟩
  | false => exact ⟨0, [], 1, okS_nil, fun k hk => by rw [make_eq n sy hs k (by omega), hv]; rfl⟩
theorem symbols_any (n : Int) (l : List S52) (hl : l.length ≤ 12) (hall : ∀ r ∈ l, r.f2.length ≤ 1500) : ∃ ys, ys.length ≤ 8 ∧ ∀ k, 7000 ≤ k → shape_Symbols.f k n l = some ys := by
  cases hv : validB n l with
  | false =>
    refine ⟨[], by simp, fun k hk => ?_⟩
    unfold shape_Symbols.f
    rw [valid_eq n l 1500 (by omega) hall k (by omega), hv, Option.bind_some]
    rfl
  | true =>
    have h8 := (valid_facts n l hv).2.2.1
    refine ⟨[] ++ (l.drop 0).map symOf, by simp; omega, fun k hk => ?_⟩
    unfold shape_Symbols.f
    rw [valid_eq n l 1500 (by omega) hall k (by omega), hv, Option.bind_some, if_pos rfl]
    exact syms_loop l h8 l.length 0 k [] (by omega) (by omega) (by simp; omega)
def pick4 {α : Type} (a b c d : α) : Nat → α
  | 0 => a
  | 1 => b
  | 2 => c
  | _ => d
theorem pick4_all {α : Type} {P : α → Prop} {a b c d : α} (ha : P a) (hb : P b) (hc : P c) (hd : P d) : ∀ i, P (pick4 a b c d i)
  | 0 => ha
  | 1 => hb
  | 2 => hc
  | _ + 3 => hd
theorem own_law (n : Int) (l : List S52) (nm : ByteArray) (t : List Int) (b : Bool) (pm : List Int) (sy : List S96) (hM : ∀ r ∈ l, r.f2.length ≤ 17592186044416 ∧ ∀ t ∈ r.f2, t.length ≤ 17592186044416) (hL : l.length ≤ 9223372036854775807) (hS : sy.length ≤ 9223372036854775807) (hR : ∀ x ∈ pm, -9223372036854775808 ≤ x ∧ x ≤ 9223372036854775807) :
    ∃ k b1 b2, paraphrastlaw01_Few.f k [⟨n, l⟩] = some b1 ∧ paraphrastlaw01_FewSymbols.f k sy = some b2 ∧ paraphrastlaw01_alive.f k = some true ∧ (b1 = true → b2 = true → nm.size ≤ 1000 → t.length ≤ 60 → pm.length ≤ 200 → ∃ X R E ys, OwnH k n l nm t b pm sy X R E ys) := by
  obtain ⟨K, hA⟩ := alive_true
  obtain ⟨kf, bf, hf⟩ := few_ex n l (fun r hr => by have := (hM r hr).1; omega)
  obtain ⟨bs, hfs, hbs⟩ := fews_ex sy hS
  have hf' : paraphrastlaw01_Few.f (kf + K + 300000) [⟨n, l⟩] = some bf := at_rounds (paraphrastlaw01_Few.mono _) (by omega) hf
  refine ⟨kf + K + 300000, bf, bs, hf', hfs _ (by omega), hA _ (by omega), fun e1 e2 q1 q2 q3 => ?_⟩
  subst e1
  obtain ⟨hl, hfew⟩ := few_facts n l hL hM _ hf'
  obtain ⟨hko, hs40⟩ := hbs e2
  have hall : ∀ r ∈ l, r.f2.length ≤ 1500 := fun r hr => (hfew r hr).1
  have hokl : okS l := ⟨by omega, fun r hr => by
    obtain ⟨g1, g2⟩ := hfew r hr
    exact ⟨by omega, fun t ht => by have := g2 t ht; omega⟩⟩
  obtain ⟨m0, R0, e0, o0, h0⟩ := put_any n l hl hall nm t b
  obtain ⟨m1, R1, e1', o1, h1⟩ := permute_any n l hl hall pm (by omega) hR
  obtain ⟨m2, R2, e2', o2, h2⟩ := keep_any n l hl hall sy hko
  obtain ⟨m3, R3, e3, o3, h3⟩ := make_any n sy (by omega)
  obtain ⟨ys, hy8, h4⟩ := symbols_any n l hl hall
  have hk : 300000 ≤ kf + K + 300000 := by omega
  generalize kf + K + 300000 = k at hk
  have hoR : ∀ i, okS (pick4 R0 R1 R2 R3 i) := pick4_all o0 o1 o2 o3
  refine ⟨pick4 m0 m1 m2 m3, pick4 R0 R1 R2 R3, pick4 e0 e1' e2' e3, ys, ⟨h0 k (by omega), h1 k (by omega), h2 k (by omega), h3 k (by omega), h4 k (by omega), copy_eqO n l hokl k (by omega), fun i _ => copy_eqO _ _ (hoR i) k (by omega), same_refl2 n l hokl k (by omega), fun i _ => same_refl2 _ _ (hoR i) k (by omega), sameSyms_refl ys (by omega) k (by omega), sameSyms_refl sy (by omega) k (by omega), equal_same2 t (by omega) k (by omega), equal_same2 pm (by omega) k (by omega), ?_, fun i _ => ?_, by omega, by omega, by omega, by omega⟩⟩
  · exact spoil_from ys.length (by omega) ys.length 0 k ys rfl (by omega) (by omega)
  · obtain ⟨g0, g1⟩ := hoR i
    exact ⟨by omega, fun r hr => ⟨by have := (g1 r hr).1; omega, fun x hx => by have := (g1 r hr).2 x hx; omega⟩⟩
end Go.Proofs.YtfmpaofbnjlniaaGreatDoor.F
/- ShapeOwn: the row and its card. -/
namespace Go.Proofs.YtfmpaofbnjlniaaGreatDoor.F
open Go.RowKit Go.WideShapes Go.ChangeShapes Go.ChangeAt Go.Proofs.YtfmpaofbnjlniaaGreatDoorW.PrintWords Go.Proofs.YtfmpaofbnjlniaaGreatDoorW.PrintLast Go.Proofs.YtfmpaofbnjlniaaGreatDoorW.PrintMore
open Go.ChangeMaps (open_string shut_string)
set_option linter.unusedVariables false
set_option linter.unusedSimpArgs false
set_option maxHeartbeats 1000000 in
set_option maxRecDepth 100000 in
theorem shapeOwn_lifted (os : Os) (started : os.Started) (H : Type) (enc : TypeId × Value → H) :
    ReturnsInHanded {} Tryz.checked os 8 .any (fun w args => (Rows.shapeOwnSpec.pre enc Tryz.prog Tryz.f8 Rows.shapeOwnRow.domain false w args ∧ laidMetH Tryz.prog laidL w) ∧ sizedMet enc Tryz.prog Tryz.f8 (OpenSpec.ofChange Rows.shapeOwnSpec) false w args)
      (Rows.shapeOwnSpec.post enc Tryz.prog Tryz.f8 false true false false) := by
  refine returns_and_sized (C := Tryz.checked) (X := fun w _ => laidMetH Tryz.prog laidL w) (fun _ _ _ hh h => h.of_heap hh) own started (by kernel_rfl) Tryz.func8
    (ChangeSpec.witness_shaped (enc := enc) (C := Tryz.checked) (os := os) (X := fun w _ => laidMetH Tryz.prog laidL w) false (World.laidAll Tryz.prog os laidL) #[.agg #[.int .i64 0, .slice none 0 0], .agg #[.string ByteArray.empty, .slice none 0 0, .bool false], .agg #[.slice none 0 0, .slice none 0 0]] 8 (World.laidAll_os _ _ _)
      (World.shaped_of_ZipB (by kernel_rfl) (by kernel_rfl)) (by kernel_rfl) (by kernel_rfl) (by kernel_rfl)
      (by rw [MakeChecks.laidMetH_plain _ _ _ (by kernel_rfl)]; exact laidMet_laidAll _ (by kernel_rfl) (by kernel_rfl))) ?_
  intro W base args ds gs before hval0 hW hsz0 hsh hL
  have hval : ∀ (j : Nat) t v, Tryz.f8.params[j]? = some t → args[j]? = some v → Value.okWide Tryz.prog W .any base t v := hval0
  have hsz : (DataW.weightsEach Tryz.prog (Tryz.f8.params.toList ++ Rows.shapeOwnSpec.plain.varTypes Tryz.prog) (ds ++ gs)).all (· ≤ reachBytes) = true := hsz0
  have hW' := hW
  obtain ⟨p, q, hA0, hV, rfl, hfz, hnd⟩ := hW
  have hA : DataW.TrodAll enc Tryz.prog W 0 (fun _ => true) true Tryz.f8.params.toList args.toList ds p := hA0
  rw [Tryz.params8] at hA hval
  obtain ⟨v0, vs0, d0, ds0, p0, q0, hargs, rfl, rfl, h0, r0⟩ := trodAll_cons hA
  obtain ⟨v1, vs1, d1, ds1, p1, q1, rfl, rfl, rfl, h1, r1⟩ := trodAll_cons r0
  obtain ⟨v2, vs2, d2, ds2, p2, q2, rfl, rfl, rfl, h2, r2⟩ := trodAll_cons r1
  obtain ⟨rfl, rfl, rfl⟩ := trodAll_nil r2
  obtain rfl : args = #[v0, v1, v2] := by cases args; simp_all
  obtain ⟨rfl, rfl⟩ := trodVars_none hV
  have k0 := h0
  have lt0 : ∀ x ∈ p0, x.block < W.heap.size := by obtain ⟨m, hm⟩ := k0; exact DataW.trod_lt m _ _ _ hm
  obtain ⟨cs0, rfl, _⟩ := okWide_struct Tryz.underlying24 (hval 0 24 v0 rfl rfl)
  obtain ⟨m0, e0⟩ := h0
  rw [Tryz.params8] at hsz
  obtain ⟨⟨x0, l0⟩, hK0, hb0⟩ := opensB_structure enc _ _ _ e0 (fun n hn => by have := List.all_eq_true.1 hsz n (DataW.weights_mem_each (j := 0) (t := 24) rfl rfl n hn); simpa using this)
  obtain ⟨A0, c0, ec0, hlc0, hC0⟩ := k24_open hK0
  obtain rfl : cs0 = #[.int .i64 x0, .slice A0 l0.length c0] := Array.ext' (by simpa [Value.cells] using ec0)
  have k1 := h1
  have lt1 : ∀ x ∈ p1, x.block < W.heap.size := by obtain ⟨m, hm⟩ := k1; exact DataW.trod_lt m _ _ _ hm
  obtain ⟨cs1, rfl, _⟩ := okWide_struct Tryz.underlying48 (hval 1 48 v1 rfl rfl)
  obtain ⟨m1, e1⟩ := h1
  obtain ⟨s1, l1, A1, c1, b1, ec1, hlc1, hC1⟩ := opens_change enc _ _ _ e1
  obtain rfl : cs1 = #[.string s1, .slice A1 l1.length c1, .bool b1] := Array.ext' (by simpa [Value.cells] using ec1)
  have k2 := h2
  have lt2 : ∀ x ∈ p2, x.block < W.heap.size := by obtain ⟨m, hm⟩ := k2; exact DataW.trod_lt m _ _ _ hm
  obtain ⟨cs2, rfl, _⟩ := okWide_struct Tryz.underlying68 (hval 2 68 v2 rfl rfl)
  obtain ⟨m2, e2⟩ := h2
  obtain ⟨l2, A2, c2, y2, B2, u2, ec2, hlc2, hC2, hR2, hld2, hD2⟩ := opens_own enc _ _ _ e2
  obtain rfl : cs2 = #[.slice A2 l2.length c2, .slice B2 y2.length u2] := Array.ext' (by simpa [Value.cells] using ec2)
  obtain ⟨k, f1, f2, hf1, hf2, hal, hk⟩ := own_law x0 l0 s1 l1 b1 l2 y2 hb0 (Kd.C_max hC0) (Kd.C_max hD2) hR2
  refine (own_calls k x0 A0 c0 l0 s1 A1 c1 l1 b1 A2 c2 l2 B2 u2 y2 W (glob_of_laid hsh hL) hC0 hlc0 hC1 hlc1 hC2 hlc2 hD2 hld2 f1 f2 hf1 hf2 hal hk).mono fun e W' he => ?_
  obtain ⟨he, bel⟩ := he
  subst he
  exact ⟨_, rfl, _, _, _, [], _, [], hW', trodAll_mk1 (shut_bool Tryz.underlying4 _), (trodAll_cons_mk (Below.trod laidOut (by kernel_rfl) (of_decide_eq_true (by kernel_rfl)) k0 bel lt0) (trodAll_cons_mk (Below.trod laidOut (by kernel_rfl) (of_decide_eq_true (by kernel_rfl)) k1 bel lt1) (trodAll_cons_mk (Below.trod laidOut (by kernel_rfl) (of_decide_eq_true (by kernel_rfl)) k2 bel lt2) trodAll_mk0))), rfl, bel.frame _, fun h => by cases h⟩
theorem shapeOwn_holds : Rows.ShapeOwnSaid :=
  OpenClaim.holds_of_wide 8 Tryz.f8 rfl rfl rfl rfl rfl rfl rfl ⟨rfl, rfl, rfl, rfl, rfl⟩ rfl rfl rfl rfl rfl (by kernel_rfl) Tryz.func8 (by kernel_rfl)
    (of_decide_eq_true (by kernel_rfl)) (by unfold Func.isWrapper; first | (rw [if_pos (by decide +kernel)]; kernel_rfl) | (rw [if_neg (by decide +kernel)]; exact ⟨rfl, rfl⟩))
    (fun os started H enc _ => shapeOwn_lifted os started H enc)
end Go.Proofs.YtfmpaofbnjlniaaGreatDoor.F
namespace Go.Proofs.YtfmpaofbnjlniaaGreatDoor
open F
theorem shapeOwn_card : Rows.ShapeOwnCardSaid :=
  Claim7.holds_tied_plain_at .later [] [.data, .data, .data, .data, .sentinel, .sentinel, .pinned] true (true, "0b2e56867fdebc6e4a4706954466a18a4e5a5153ee6e2b3ed723d8acf71f299f") true shapeOwn_holds (fun _ h => by cases h) (by kernel_rfl) (fun _ h => by cases h) shapeOwn_row_tie rfl ⟨rfl, rfl⟩ (by kernel_rfl) rfl
    (fun f fn hf hfn => by
      obtain rfl : f = 8 := Option.some.inj ((show Tryz.prog.funcNamed "paraphrast/paraphrastlaw01.ShapeOwn" = some 8 by kernel_rfl).symm.trans hf) |>.symm
      obtain rfl : fn = Tryz.f8 := (Option.some.inj (Tryz.func8.symm.trans hfn)).symm
      exact ⟨by kernel_rfl, fun j t ht => by
        rw [Tryz.params8] at ht
        have hm : t ∈ [24, 48, 68] := by simpa using Array.mem_of_getElem? ht
        have hall : ([24, 48, 68].all fun u => !Tryz.prog.wantsStandIn u) = true := by kernel_rfl
        exact (show Tryz.prog.wantsStandIn t = false by simpa using List.all_eq_true.1 hall t hm)⟩)
    (by kernel_rfl)
#print axioms shapeOwn_card
end Go.Proofs.YtfmpaofbnjlniaaGreatDoor
