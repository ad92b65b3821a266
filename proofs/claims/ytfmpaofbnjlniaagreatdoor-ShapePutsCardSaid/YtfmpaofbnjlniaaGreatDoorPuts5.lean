/- Part 5 of the proof: ShapePuts: Has and Put answer as the reference says, for every structure, name and tuple. -/
import Derived.Test.YtfmpaofbnjlniaaGreatDoorPuts4
/- shape.Put, by hand. -/
namespace Go.Proofs.YtfmpaofbnjlniaaGreatDoor.F
open Go.RowKit Go.Proofs.YtfmpaofbnjlniaaGreatDoorW.PrintWords Go.Proofs.YtfmpaofbnjlniaaGreatDoorW.PrintLast Go.Proofs.YtfmpaofbnjlniaaGreatDoorW.PrintMore
set_option linter.unusedVariables false
set_option linter.unusedSimpArgs false
instance (l : List S52) : Decidable (copyOk l) := by unfold copyOk; infer_instance
def putRel (r : S52) (ts : List (List Int)) : S52 := ⟨r.f0, r.f1, ts⟩
/-- What Put answers once the place has been found. -/
def putEnd (n : Int) (l : List S52) (x q : Int) (t : List Int) (b there : Bool) : Option (Int × List S52 × Int) :=
  if 0 ≤ x ∧ x < (l.length : Int) then
    if (b && !there) = true then (if 0 ≤ q ∧ q ≤ ((rd_T52 l x).f2.length : Int) then some (n, l.set x.toNat (putRel (rd_T52 l x) (insAt (rd_T52 l x).f2 q.toNat t)), 0) else none)
    else if (!b && there) = true then (if 0 ≤ q ∧ q < ((rd_T52 l x).f2.length : Int) then some (n, l.set x.toNat (putRel (rd_T52 l x) (delAt (rd_T52 l x).f2 q.toNat)), 0) else none)
    else some (n, l, 0)
  else none
def shape_Put.f (k : Nat) (n : Int) (l : List S52) (nm : ByteArray) (t : List Int) (b : Bool) : Option (Int × List S52 × Int) :=
  (shape_Has.f k n l nm t).bind fun p => if p.2 = 0 then (shape_elements.f n t).bind fun e => if e = true then (if copyOk l ∧ t.length ≤ 100000 then (shape_Find.f n l nm (t.length : Int)).bind fun x => (slices_BinarySearchFunc_int_int_int.f k (rd_T52 l x).f2 t).bind fun q => putEnd n l x q.1 t b p.1 else none) else some (0, [], 2) else some (0, [], p.2)
theorem results_put (tmps : Array Value) (W : World) (g8 : Nat) (a b : Int) (v : Value) (hp8 : tmps.getD 8 undef = .pointer (some ⟨g8, 0, none⟩)) (hp9 : tmps.getD 9 undef = .int .i64 b)
    (h8 : W.heap[g8]? = some (.cells #[.int .i64 a, v] 24 (0, 0))) :
    (results Tryz.f28 tmps).run Tryz.prog W = .ok (.tuple #[.agg #[.int .i64 a, v], .int .i64 b]) W := by
  have hp8' : tmps[8]?.getD undef = .pointer (some ⟨g8, 0, none⟩) := by simpa using hp8
  have hp9' : tmps[9]?.getD undef = .int .i64 b := by simpa using hp9
  have hr := run_loadVar_row (P := Tryz.prog) W g8 24 24 #[.int .i64 a, v] (0, 0) _ h8 Tryz.underlying24 rfl (by kernel_rfl)
  simp [results, Tryz.results28, hp8', hp9', asAddr, hr]
def PutEnds (w : World) (r : Int × List S52 × Int) (e : Ending) (w' : World) : Prop := ∃ v : Value, e = .returned (.tuple #[.agg #[.int .i64 r.1, v], .int .i64 r.2.2]) ∧ Kd.R k52 52 w' w.heap.size (fun _ => True) v r.2.1 ∧ Below w.heap.size w w'
set_option maxHeartbeats 4000000 in
set_option maxRecDepth 100000 in
theorem put_calls (k : Nat) (n : Int) (A : Option Addr) (c : Nat) (l : List S52) (nm : ByteArray) (A2 : Option Addr) (c2 : Nat) (t : List Int) (b : Bool) (r : Int × List S52 × Int) (w : World)
    (hC : Kd.C k52 w A l.length l) (hlc : l.length ≤ c) (hC2 : Kd.C (Kd.int .i64) w A2 t.length t) (hlc2 : t.length ≤ c2) (h : shape_Put.f k n l nm t b = some r) :
    Calls Tryz.prog 28 #[.agg #[.int .i64 n, .slice A l.length c], .string nm, .slice A2 t.length c2, .bool b] w (PutEnds w r) := by
  have hu38 := Tryz.underlying24
  have hu54 := Tryz.underlying52
  unfold shape_Put.f at h
  obtain ⟨⟨there, e1⟩, hh, h⟩ := Option.bind_eq_some_iff.1 h
  simp only at h
  have hB1 := below_alloc (below_alloc (Below.refl w.heap.size w) (.cells #[.int .i64 n, .slice A l.length c] 24)) (.cells #[.int .i64 0, .slice none 0 0] 24)
  have HC1 := Aside0.mk (Kd.C_below hC hB1)
  have HT1 := Aside0.mk (Kd.C_below hC2 hB1)
  have HB1 := Aside0.mk hB1
  have HLC := Aside0.mk hlc
  have HLC2 := Aside0.mk hlc2
  have HH := Aside0.mk hh
  have H := Aside0.mk h
  have K4 := Aside0.mk (show ((w.alloc (.cells #[.int .i64 n, .slice A l.length c] 24)).alloc (.cells #[.int .i64 0, .slice none 0 0] 24)).heap[w.heap.size]? = some (.cells #[.int .i64 n, .slice A l.length c] 24 (0, 0)) from (heap_alloc_old _ _ (by simp)).trans (heap_alloc_new w _))
  have K8 := Aside0.mk (show ((w.alloc (.cells #[.int .i64 n, .slice A l.length c] 24)).alloc (.cells #[.int .i64 0, .slice none 0 0] 24)).heap[w.heap.size + 1]? = some (.cells #[.int .i64 0, .slice none 0 0] 24 (0, 0)) from by have := heap_alloc_new (w.alloc (.cells #[.int .i64 n, .slice A l.length c] 24)) (.cells #[.int .i64 0, .slice none 0 0] 24); simpa using this)
  clear hB1 hC hlc hC2 hlc2 hh h
  go_enter Tryz.func28, Tryz.ntmps28
  go_wp2_with (fail)
  refine (shape_Has.calls k n A c l nm A2 c2 t there e1 _ HC1.out HLC.out HT1.out HLC2.out HH.out).mono ?_
  rintro e w1 ⟨rfl, hb1⟩
  generalize hg8 : w.heap.size + 1 = g8 at *
  have hg8w : w.heap.size ≤ g8 := by omega
  have K4' := Aside0.mk ((hb1.block w.heap.size (Array.getElem?_eq_some_iff.1 K4.out).1).trans K4.out)
  have K8' := Aside0.mk ((hb1.block g8 (Array.getElem?_eq_some_iff.1 K8.out).1).trans K8.out)
  have HB2 := Aside0.mk (below_step HB1.out hb1)
  have HC2 := Aside0.mk (Kd.C_below HC1.out hb1)
  have HT2 := Aside0.mk (Kd.C_below HT1.out hb1)
  clear hb1 K4 K8 HB1 HC1 HT1
  have c8_0 : w1.cell? ⟨g8, 0, none⟩ = some (.int .i64 0) := (blk_cell K8'.out 0).trans rfl
  have c8_1 : w1.cell? ⟨g8, 1, none⟩ = some (.slice none 0 0) := (blk_cell K8'.out 1).trans rfl
  have f8_0 := blk_frozen K8'.out 0
  have f8_1 := blk_frozen K8'.out 1
  have c4_0 : w1.cell? ⟨w.heap.size, 0, none⟩ = some (.int .i64 n) := (blk_cell K4'.out 0).trans rfl
  have c4_1 : w1.cell? ⟨w.heap.size, 1, none⟩ = some (.slice A l.length c) := (blk_cell K4'.out 1).trans rfl
  by_cases he : e1 = 0
  · subst he
    have h2 := H.out
    rw [if_pos rfl] at h2
    obtain ⟨el, hel, h3⟩ := Option.bind_eq_some_iff.1 h2
    clear H h2
    have HEL := Aside0.mk hel
    have H := Aside0.mk h3
    clear hel h3
    go_wp2_with (fail)
    refine (shape_elements.calls n A2 c2 t el _ HT2.out HLC2.out HEL.out).mono ?_
    rintro e w2 ⟨rfl, hb2⟩
    have K4 := Aside0.mk ((hb2.block w.heap.size (Array.getElem?_eq_some_iff.1 K4'.out).1).trans K4'.out)
    have K8 := Aside0.mk ((hb2.block g8 (Array.getElem?_eq_some_iff.1 K8'.out).1).trans K8'.out)
    have HB3 := Aside0.mk (below_step HB2.out hb2)
    have HC3 := Aside0.mk (Kd.C_below HC2.out hb2)
    have HT3 := Aside0.mk (Kd.C_below HT2.out hb2)
    clear hb2 K4' K8' HB2 HC2 HT2 c8_0 c8_1 f8_0 f8_1 c4_0 c4_1
    have c8_0 : w2.cell? ⟨g8, 0, none⟩ = some (.int .i64 0) := (blk_cell K8.out 0).trans rfl
    have c8_1 : w2.cell? ⟨g8, 1, none⟩ = some (.slice none 0 0) := (blk_cell K8.out 1).trans rfl
    have f8_0 := blk_frozen K8.out 0
    have f8_1 := blk_frozen K8.out 1
    have c4_0 : w2.cell? ⟨w.heap.size, 0, none⟩ = some (.int .i64 n) := (blk_cell K4.out 0).trans rfl
    have c4_1 : w2.cell? ⟨w.heap.size, 1, none⟩ = some (.slice A l.length c) := (blk_cell K4.out 1).trans rfl
    cases el with
    | false =>
      have h2 := H.out
      rw [if_neg (by simp)] at h2
      obtain rfl := Option.some.inj h2
      clear h2 H
      go_wp2
      have HX := blk_put (cs' := #[.int .i64 0, .slice none 0 0]) (blk_put (cs' := #[.int .i64 0, .slice none 0 0]) K8.out 0 (.int .i64 0) rfl) 1 (.slice none 0 0) rfl
      have HBX := below_set (j := 1) (v := .slice none 0 0) (below_set (j := 0) (v := .int .i64 0) HB3.out hg8w) hg8w
      refine bodyPost_ret (results_put _ _ g8 0 2 _ rfl rfl HX) rfl ?_
      exact ⟨_, rfl, Kd.R_nil _ _ _ _ _, HBX⟩
    | true =>
      have h2 := H.out
      rw [if_pos rfl] at h2
      by_cases hcp : copyOk l ∧ t.length ≤ 100000
      case neg => rw [if_neg hcp] at h2; cases h2
      rw [if_pos hcp] at h2
      obtain ⟨x, hx, h3⟩ := Option.bind_eq_some_iff.1 h2
      obtain ⟨⟨q, q2⟩, hq, h4⟩ := Option.bind_eq_some_iff.1 h3
      have HCP := Aside0.mk hcp.1
      have HTL := Aside0.mk hcp.2
      have HX := Aside0.mk hx
      have HQ := Aside0.mk hq
      clear H h2 h3 hx hq hcp
      have H := Aside0.mk h4
      clear h4
      go_wp2_with (fail)
      refine (copy_calls n A c l _ HC3.out HLC.out HCP.out).mono ?_
      rintro e w3 ⟨v3, rfl, hS, hb3⟩
      have K4' := Aside0.mk ((hb3.block w.heap.size (Array.getElem?_eq_some_iff.1 K4.out).1).trans K4.out)
      have K8' := Aside0.mk ((hb3.block g8 (Array.getElem?_eq_some_iff.1 K8.out).1).trans K8.out)
      have HB4 := Aside0.mk (below_step HB3.out hb3)
      have HC4 := Aside0.mk (Kd.C_below HC3.out hb3)
      have HT4 := Aside0.mk (Kd.C_below HT3.out hb3)
      have HS4 := Aside0.mk (Kd.S_lower hS HB3.out.size)
      obtain ⟨A3, c3, hv3⟩ := Kd.S_slice hS
      subst hv3
      clear hb3 hS K4 K8 HB3 HC3 HT3 c8_0 c8_1 f8_0 f8_1 c4_0 c4_1
      go_wp2
      have hxb : 0 ≤ x ∧ x < (l.length : Int) := by
        have h2 := H.out
        unfold putEnd at h2
        by_cases hb : 0 ≤ x ∧ x < (l.length : Int)
        · exact hb
        · rw [if_neg hb] at h2; cases h2
      obtain ⟨g, cap, eA, hbg, hglt, cells3, hcell3⟩ := Kd.S_form HS4.out (by omega)
      obtain ⟨rfl, rfl⟩ : A3 = some ⟨g, 0, none⟩ ∧ c3 = cap := by injection eA with h2 h3 h4; exact ⟨h2, h4⟩
      have K12 := Aside0.mk (heap_alloc_new w3 (.cells #[.int .i64 n, .slice (some ⟨g, 0, none⟩) l.length c3] 24))
      have hba := below_alloc (Below.refl w3.heap.size w3) (.cells #[.int .i64 n, .slice (some ⟨g, 0, none⟩) l.length c3] 24)
      have K4 := Aside0.mk ((hba.block w.heap.size (Array.getElem?_eq_some_iff.1 K4'.out).1).trans K4'.out)
      have K8 := Aside0.mk ((hba.block g8 (Array.getElem?_eq_some_iff.1 K8'.out).1).trans K8'.out)
      have HC5 := Aside0.mk (Kd.C_below HC4.out hba)
      have HT5 := Aside0.mk (Kd.C_below HT4.out hba)
      have HS5 := Aside0.mk (Kd.S_below HS4.out hba)
      have HB5 := Aside0.mk (below_step HB4.out hba)
      have hg12 := HB4.out.size
      generalize w3.alloc (.cells #[.int .i64 n, .slice (some ⟨g, 0, none⟩) l.length c3] 24) = w4 at *
      generalize w3.heap.size = g12 at *
      clear hba K4' K8' HC4 HT4 HS4 HB4 eA hglt hcell3
      have c12 : w4.cell? ⟨g12, 1, none⟩ = some (.slice (some ⟨g, 0, none⟩) l.length c3) := (blk_cell K12.out 1).trans rfl
      have c4_0 : w4.cell? ⟨w.heap.size, 0, none⟩ = some (.int .i64 n) := (blk_cell K4.out 0).trans rfl
      have c4_1 : w4.cell? ⟨w.heap.size, 1, none⟩ = some (.slice A l.length c) := (blk_cell K4.out 1).trans rfl
      refine wp_region_noPanic ?_
      refine start_ (n := 9) (S := fun w' => w'.cell? ⟨g12, 1, none⟩ = some (.slice (some ⟨g, 0, none⟩) l.length c3) ∧ w'.cell? ⟨w.heap.size, 0, none⟩ = some (.int .i64 n) ∧ w'.cell? ⟨w.heap.size, 1, none⟩ = some (.slice A l.length c)) (ds := []) #[false, false, false, false, false, false, false, false, false] (by kernel_rfl) rfl rfl ⟨c12, c4_0, c4_1⟩ (fun hHeld => ?_)
      have HC6 := Aside0.mk (Kd.C_drew HC5.out)
      have HT6 := Aside0.mk (Kd.C_drew HT5.out)
      have HS6 := Aside0.mk (Kd.S_drew HS5.out)
      have HB6 := Aside0.mk (below_drew HB5.out)
      have K12' := Aside0.mk (show w4.drew.heap[g12]? = _ from K12.out)
      have K4' := Aside0.mk (show w4.drew.heap[w.heap.size]? = _ from K4.out)
      have K8' := Aside0.mk (show w4.drew.heap[g8]? = _ from K8.out)
      clear HC5 HT5 HS5 HB5 K12 K4 K8 c12 c4_0 c4_1
      generalize w4.drew = wd at *
      refine pure_ (i := 0) (N := some 37) (v := ?_) (a' := ?_) #[true, false, false, false, false, false, false, false, false] rfl rfl (by kernel_rfl) (fun _ _ _ h => h) (Or.inl ⟨by rfl, ?_⟩) ?_ ?_
      rotate_left
      · intro w'
        go_simp
        with_reducible rfl
      rotate_left
      · simp only [Act.put, List.setIfInBounds_toArray, List.set_cons_zero, List.set_cons_succ, i64_w, i32_w]
        rfl
      refine pure_ (i := 3) (N := some 40) (v := ?_) (a' := ?_) #[true, false, false, true, false, false, false, false, false] rfl rfl (by kernel_rfl) (fun _ _ _ h => h) (Or.inl ⟨by rfl, ?_⟩) ?_ ?_
      rotate_left
      · intro w'
        go_simp
        with_reducible rfl
      rotate_left
      · simp only [Act.put, List.setIfInBounds_toArray, List.set_cons_zero, List.set_cons_succ, i64_w, i32_w]
        rfl
      refine pure_ (i := 4) (N := some 41) (v := ?_) (a' := ?_) #[true, false, false, true, true, false, false, false, false] rfl rfl (by kernel_rfl) (fun _ _ _ h => h) (Or.inl ⟨by rfl, ?_⟩) ?_ ?_
      rotate_left
      · intro w'
        go_simp
        with_reducible rfl
      rotate_left
      · simp only [Act.put, List.setIfInBounds_toArray, List.set_cons_zero, List.set_cons_succ, i64_w, i32_w]
        rfl
      refine pure_ (i := 5) (N := some 42) (v := ?_) (a' := ?_) #[true, false, false, true, true, true, false, false, false] rfl rfl (by kernel_rfl) (fun _ _ _ h => h) (Or.inl ⟨by rfl, ?_⟩) ?_ ?_
      rotate_left
      · intro w'
        go_simp
        with_reducible rfl
      rotate_left
      · simp only [Act.put, List.setIfInBounds_toArray, List.set_cons_zero, List.set_cons_succ, i64_w, i32_w]
        rfl
      refine take_ (i := 1) (N := some 38) (v := ?_) (a' := ?_) #[true, true, false, true, true, true, false, false, false] rfl rfl (by kernel_rfl) (fun _ _ _ h => h) (Or.inl ⟨by rfl, ?_⟩) hHeld ?_ ?_
      rotate_left
      · rintro w' ⟨s1, s2, s3⟩
        go_simp
        with_reducible rfl
      rotate_left
      · simp only [Act.put, List.setIfInBounds_toArray, List.set_cons_zero, List.set_cons_succ, i64_w, i32_w]
        rfl
      refine take_ (i := 2) (N := some 39) (v := ?_) (a' := ?_) #[true, true, true, true, true, true, false, false, false] rfl rfl (by kernel_rfl) (fun _ _ _ h => h) (Or.inl ⟨by rfl, ?_⟩) hHeld ?_ ?_
      rotate_left
      · rintro w' ⟨s1, s2, s3⟩
        go_simp
        with_reducible rfl
      rotate_left
      · simp only [Act.put, List.setIfInBounds_toArray, List.set_cons_zero, List.set_cons_succ, i64_w, i32_w]
        rfl
      refine one_ (i := 6) (N := some 43) #[true, true, true, true, true, true, true, false, false] rfl rfl (by kernel_rfl) (by decide) (fun K hK => ?_)
      refine callE_ 55 #[.agg #[.int .i64 n, .slice A l.length c], .string nm, .int .i64 t.length] (by rfl) rfl (by go_simp) ?_
      refine (shape_Find.calls n A c l nm (t.length : Int) x _ HC6.out HLC.out HX.out).mono ?_
      rintro e w5 ⟨rfl, hb5⟩
      left
      refine ⟨_, rfl, ?_⟩
      have HB7 := Aside0.mk (below_step HB6.out hb5)
      have HC7 := Aside0.mk (Kd.C_below HC6.out hb5)
      have HT7 := Aside0.mk (Kd.C_below HT6.out hb5)
      have HS7 := Aside0.mk (Kd.S_below HS6.out hb5)
      have K12 := Aside0.mk ((hb5.block g12 (Array.getElem?_eq_some_iff.1 K12'.out).1).trans K12'.out)
      have K4 := Aside0.mk ((hb5.block w.heap.size (Array.getElem?_eq_some_iff.1 K4'.out).1).trans K4'.out)
      have K8 := Aside0.mk ((hb5.block g8 (Array.getElem?_eq_some_iff.1 K8'.out).1).trans K8'.out)
      refine hK.out _ _ ⟨(blk_cell K12.out 1).trans rfl, (blk_cell K4.out 0).trans rfl, (blk_cell K4.out 1).trans rfl⟩ (fun hHeld2 => ?_)
      clear hK K hb5 HB6 HC6 HT6 HS6 K12' K4' K8' HX
      refine norm_ (a' := ?_) ?_ ?_
      rotate_left
      · show Act.put _ (some 43) _ = _
        simp only [Act.put, List.setIfInBounds_toArray, List.set_cons_zero, List.set_cons_succ, i64_w, i32_w]
        rfl
      have hx0 := eq_true hxb.1
      have hx1 := eq_true hxb.2
      refine pure_ (i := 7) (N := some 44) (v := ?_) (a' := ?_) #[true, true, true, true, true, true, true, true, false] rfl rfl (by kernel_rfl) (fun _ _ _ h => h) (Or.inl ⟨by rfl, ?_⟩) ?_ ?_
      rotate_left
      · intro w'
        go_simp
        with_reducible rfl
      rotate_left
      · simp only [Act.put, List.setIfInBounds_toArray, List.set_cons_zero, List.set_cons_succ, i64_w, i32_w]
        rfl
      refine pure_ (i := 8) (N := some 13) (v := ?_) (a' := ?_) #[true, true, true, true, true, true, true, true, true] rfl rfl (by kernel_rfl) (fun _ _ _ h => h) (Or.inl ⟨by rfl, ?_⟩) ?_ ?_
      rotate_left
      · intro w'
        go_simp
        with_reducible rfl
      rotate_left
      · simp only [Act.put, List.setIfInBounds_toArray, List.set_cons_zero, List.set_cons_succ, i64_w, i32_w]
        rfl
      refine done_ (by kernel_rfl) ?_
      refine NoPanic.normal ?_
      -- behind region 7
      obtain ⟨oki, cc, hcl, hM, hcells, hoki, hH⟩ := Kd.S_lend HS7.out z52 x hxb.1 hxb.2
      have h2 := H.out
      unfold putEnd at h2
      rw [if_pos hxb] at h2
      have hQ := HQ.out
      have hM2 : k52.M w5 w.heap.size oki (rd_T52 l x) cc := hM
      have hcrl : (rd_T52 l x).f2.length ≤ 100000 := by
        have hr0 : rd_T52 l x ∈ l := by
          unfold rd_T52
          rw [List.getD_eq_getElem?_getD, List.getElem?_eq_getElem (by omega)]
          exact List.getElem_mem _
        exact (HCP.out.2 _ hr0).1
      generalize rd_T52 l x = r0 at h2 hQ hM2 hcrl
      clear hM HQ H
      obtain ⟨v2, rfl, hR2⟩ := k52_openM hM2
      obtain ⟨A5, c5, hv2⟩ := Kd.R_slice hR2
      subst hv2
      have hy2 : w5.cell? ⟨g, x.toNat * 3 + 2, none⟩ = some (.slice A5 r0.f2.length c5) := hcells 2 _ rfl
      obtain ⟨g', cap', eA', hbg', hglt', cells5, HG5⟩ := Kd.S_form HS7.out (by omega)
      obtain rfl : g = g' := by injection eA' with h3; injection h3 with h3; injection h3 with h3
      have HQ := Aside0.mk hQ
      have H := Aside0.mk h2
      have HH := Aside0.mk hH
      have HR2 := Aside0.mk hR2
      have HG := Aside0.mk HG5
      have HK := Aside0.mk hoki
      clear hQ h2 hH hR2 HG5 hM2 hcells eA' hcl hoki HC7
      go_wp2_with (fail)
      refine (slices_BinarySearchFunc_int_int_int.calls k A5 c5 r0.f2 A2 c2 t q q2 _ (Kd.R_reads' HR2.out).2.2 (Kd.R_reads' HR2.out).2.1 HT7.out HLC2.out HQ.out).mono ?_
      rintro e w6 ⟨rfl, hd⟩
      have hb := hd.below
      have hlt5 : g < w5.heap.size := hglt'
      have HB8 := Aside0.mk (below_step HB7.out hb)
      have HT8 := Aside0.mk (Kd.C_below HT7.out hb)
      have HS8 := Aside0.mk (Kd.S_below HS7.out hb)
      have HH8 := Aside0.mk (Kd.H_below HH.out hb)
      have HR8 := Aside0.mk (Kd.R_below HR2.out hb)
      have HG8 := Aside0.mk ((hb.block g hlt5).trans HG.out)
      have K12' := Aside0.mk ((hb.block g12 (Array.getElem?_eq_some_iff.1 K12.out).1).trans K12.out)
      have K8' := Aside0.mk ((hb.block g8 (Array.getElem?_eq_some_iff.1 K8.out).1).trans K8.out)
      have hy := pw_cell_below hb hy2
      have hg6 : g < w6.heap.size := (Array.getElem?_eq_some_iff.1 HG8.out).1
      clear hd hb HB7 HT7 HS7 HH HR2 HG K12 K8 K4 hy2 HQ hglt' hlt5
      have hcr0 : r0.f2.length ≤ 100000 := hcrl
      cases b with
      | true =>
        cases there with
        | true =>
          have h2 := H.out
          rw [if_neg (by simp), if_neg (by simp)] at h2
          obtain rfl := Option.some.inj h2
          clear h2 H HH8 HR8
          have Z12 := K12'
          have Z8 := K8'
          have ZB := HB8
          have ZR := Aside0.mk (Kd.S_R HS8.out)
          clear K12' K8' HB8 HS8
          have c12_0 : w6.cell? ⟨g12, 0, none⟩ = some (.int .i64 n) := (blk_cell Z12.out 0).trans rfl
          have c12_1 : w6.cell? ⟨g12, 1, none⟩ = some (.slice (some ⟨g, 0, none⟩) l.length c3) := (blk_cell Z12.out 1).trans rfl
          have c8_0 : w6.cell? ⟨g8, 0, none⟩ = some (.int .i64 0) := (blk_cell Z8.out 0).trans rfl
          have c8_1 : w6.cell? ⟨g8, 1, none⟩ = some (.slice none 0 0) := (blk_cell Z8.out 1).trans rfl
          have f8_0 := blk_frozen Z8.out 0
          have f8_1 := blk_frozen Z8.out 1
          go_wp2
          have HX := blk_put (cs' := #[.int .i64 n, .slice (some ⟨g, 0, none⟩) l.length c3]) (blk_put (cs' := #[.int .i64 n, .slice none 0 0]) Z8.out 0 (.int .i64 n) rfl) 1 (.slice (some ⟨g, 0, none⟩) l.length c3) rfl
          have HV1 := Kd.R_set ZR.out Z8.out (by decide) 0 (.int .i64 n)
          have HV2 := Kd.R_set HV1 (blk_put (cs' := #[.int .i64 n, .slice none 0 0]) Z8.out 0 (.int .i64 n) rfl) (by decide) 1 (.slice (some ⟨g, 0, none⟩) l.length c3)
          have HBX := below_set (j := 1) (v := .slice (some ⟨g, 0, none⟩) l.length c3) (below_set (j := 0) (v := .int .i64 n) ZB.out hg8w) hg8w
          refine bodyPost_ret (results_put _ _ g8 n 0 _ rfl rfl HX) rfl ?_
          exact ⟨_, rfl, HV2, HBX⟩
        | false =>
          have h2 := H.out
          rw [if_pos (by simp)] at h2
          by_cases hqb : 0 ≤ q ∧ q ≤ (r0.f2.length : Int)
          case neg => rw [if_neg hqb] at h2; cases h2
          rw [if_pos hqb] at h2
          obtain rfl := Option.some.inj h2
          clear h2 H
          have hlr : r0.f2.length ≤ 100000 := hcr0
          have fy := blk_frozen HG8.out (x.toNat * 3 + 2)
          go_upto_region 10 with (fail)
          refine wp_region_noPanic ?_
          refine start_ (n := 13) (S := fun w' => w'.cell? ⟨g, x.toNat * 3 + 2, none⟩ = some (.slice A5 r0.f2.length c5)) (ds := [12]) #[false, false, false, false, false, false, false, false, false, false, false, false, false] (by kernel_rfl) rfl rfl hy (fun hHeld => ?_)
          have HB9 := Aside0.mk (below_drew HB8.out)
          have HT9 := Aside0.mk (Kd.C_drew HT8.out)
          have HH9 := Aside0.mk (Kd.H_drew HH8.out)
          have HR9 := Aside0.mk (Kd.R_drew HR8.out)
          have HG9 := Aside0.mk (show w6.drew.heap[g]? = _ from HG8.out)
          have K12 := Aside0.mk (show w6.drew.heap[g12]? = _ from K12'.out)
          have K8 := Aside0.mk (show w6.drew.heap[g8]? = _ from K8'.out)
          have hy9 : w6.drew.cell? ⟨g, x.toNat * 3 + 2, none⟩ = some (.slice A5 r0.f2.length c5) := hy
          have hg9 : g < w6.drew.heap.size := hg6
          clear HB8 HT8 HH8 HR8 HG8 K12' K8' HS8 hy hg6 fy
          generalize w6.drew = wd at *
          refine pure_ (i := 0) (N := some 60) (v := ?_) (a' := ?_) #[true, false, false, false, false, false, false, false, false, false, false, false, false] rfl rfl (by kernel_rfl) (fun _ _ _ h => h) (Or.inl ⟨by rfl, ?_⟩) ?_ ?_
          rotate_left
          · intro w'
            go_simp
            with_reducible rfl
          rotate_left
          · simp only [Act.put, List.setIfInBounds_toArray, List.set_cons_zero, List.set_cons_succ, i64_w, i32_w]
            rfl
          refine pure_ (i := 1) (N := some 61) (v := ?_) (a' := ?_) #[true, true, false, false, false, false, false, false, false, false, false, false, false] rfl rfl (by kernel_rfl) (fun _ _ _ h => h) (Or.inl ⟨by rfl, ?_⟩) ?_ ?_
          rotate_left
          · intro w'
            go_simp
            with_reducible rfl
          rotate_left
          · simp only [Act.put, List.setIfInBounds_toArray, List.set_cons_zero, List.set_cons_succ, i64_w, i32_w]
            rfl
          refine pure_ (i := 2) (N := some 62) (v := ?_) (a' := ?_) #[true, true, true, false, false, false, false, false, false, false, false, false, false] rfl rfl (by kernel_rfl) (fun _ _ _ h => h) (Or.inl ⟨by rfl, ?_⟩) ?_ ?_
          rotate_left
          · intro w'
            go_simp
            with_reducible rfl
          rotate_left
          · simp only [Act.put, List.setIfInBounds_toArray, List.set_cons_zero, List.set_cons_succ, i64_w, i32_w]
            rfl
          refine pure_ (i := 3) (N := some 63) (v := ?_) (a' := ?_) #[true, true, true, true, false, false, false, false, false, false, false, false, false] rfl rfl (by kernel_rfl) (fun _ _ _ h => h) (Or.inl ⟨by rfl, ?_⟩) ?_ ?_
          rotate_left
          · intro w'
            go_simp
            with_reducible rfl
          rotate_left
          · simp only [Act.put, List.setIfInBounds_toArray, List.set_cons_zero, List.set_cons_succ, i64_w, i32_w]
            rfl
          refine pure_ (i := 5) (N := some 65) (v := ?_) (a' := ?_) #[true, true, true, true, false, true, false, false, false, false, false, false, false] rfl rfl (by kernel_rfl) (fun _ _ _ h => h) (Or.inl ⟨by rfl, ?_⟩) ?_ ?_
          rotate_left
          · intro w'
            go_simp
            with_reducible rfl
          rotate_left
          · simp only [Act.put, List.setIfInBounds_toArray, List.set_cons_zero, List.set_cons_succ, i64_w, i32_w]
            rfl
          refine pure_ (i := 6) (N := some 66) (v := ?_) (a' := ?_) #[true, true, true, true, false, true, true, false, false, false, false, false, false] rfl rfl (by kernel_rfl) (fun _ _ _ h => h) (Or.inl ⟨by rfl, ?_⟩) ?_ ?_
          rotate_left
          · intro w'
            go_simp
            with_reducible rfl
          rotate_left
          · simp only [Act.put, List.setIfInBounds_toArray, List.set_cons_zero, List.set_cons_succ, i64_w, i32_w]
            rfl
          refine take_ (i := 4) (N := some 64) (v := ?_) (a' := ?_) #[true, true, true, true, true, true, true, false, false, false, false, false, false] rfl rfl (by kernel_rfl) (fun _ _ _ h => h) (Or.inl ⟨by rfl, ?_⟩) hHeld ?_ ?_
          rotate_left
          · intro w' s0
            go_simp
            with_reducible rfl
          rotate_left
          · simp only [Act.put, List.setIfInBounds_toArray, List.set_cons_zero, List.set_cons_succ, i64_w, i32_w]
            rfl
          refine one_ (i := 7) (N := some 67) #[true, true, true, true, true, true, true, true, false, false, false, false, false] rfl rfl (by kernel_rfl) (by decide) (fun K hK => ?_)
          refine callE_ 60 #[.slice A2 t.length c2] (by rfl) rfl (by go_simp) ?_
          refine (slices_Clone_int_int.calls A2 c2 t t _ HT9.out HLC2.out (if_pos HTL.out)).mono ?_
          rintro e w7 ⟨va, rfl, hRa, hb7⟩
          obtain ⟨Aa, ca, ea⟩ := Kd.R_slice hRa
          subst ea
          left
          refine ⟨_, rfl, ?_⟩
          have HHW := Aside0.mk (Kd.H_below (Kd.H_widen HH9.out) hb7)
          have HB10 := Aside0.mk (below_step HB9.out hb7)
          have HR10 := Aside0.mk (Kd.R_below HR9.out hb7)
          have HRL := Aside0.mk (Kd.R_lt HR9.out)
          have HG10 := Aside0.mk ((hb7.block g hg9).trans HG9.out)
          have K12' := Aside0.mk ((hb7.block g12 (Array.getElem?_eq_some_iff.1 K12.out).1).trans K12.out)
          have K8' := Aside0.mk ((hb7.block g8 (Array.getElem?_eq_some_iff.1 K8.out).1).trans K8.out)
          have HVA := Aside0.mk (Kd.R_lower (Kd.R_mono (ok' := fun k_ => wd.heap.size ≤ k_) (Kd.R_bound hRa) (fun k_ hk => hk.2.1)) HB9.out.size)
          have hsz7 := hb7.size
          have hy10 := pw_cell_below hb7 hy9
          refine hK.out _ _ hy10 (fun hHeld2 => ?_)
          clear hK K hb7 hRa HB9 HT9 HH9 HR9 HG9 K12 K8
          refine norm_ (a' := ?_) ?_ ?_
          rotate_left
          · show Act.put _ (some 67) _ = _
            simp only [Act.put, List.setIfInBounds_toArray, List.set_cons_zero, List.set_cons_succ, i64_w, i32_w]
            rfl
          refine one_ (i := 8) (N := some 68) #[true, true, true, true, true, true, true, true, true, false, false, false, false] rfl rfl (by kernel_rfl) (by decide) (fun K hK => ?_)
          refine value_ (w1 := ?_) (v := ?_) (by rfl) rfl ?_ ?_
          rotate_left 2
          · go_simp
            constructor
            · rfl
            · rfl
          have HX14 := Aside0.mk (heap_alloc_new w7 (.cells #[.slice Aa t.length ca] 46))
          have hba := below_alloc (Below.refl w7.heap.size w7) (.cells #[.slice Aa t.length ca] 46)
          have HHW' := Aside0.mk (Kd.H_below HHW.out hba)
          have HB11 := Aside0.mk (below_step HB10.out hba)
          have HR11 := Aside0.mk (Kd.R_below HR10.out hba)
          have HG11 := Aside0.mk ((hba.block g (Array.getElem?_eq_some_iff.1 HG10.out).1).trans HG10.out)
          have K12 := Aside0.mk ((hba.block g12 (Array.getElem?_eq_some_iff.1 K12'.out).1).trans K12'.out)
          have K8 := Aside0.mk ((hba.block g8 (Array.getElem?_eq_some_iff.1 K8'.out).1).trans K8'.out)
          have HVA' := Aside0.mk (Kd.R_below HVA.out hba)
          have hsz8 := hba.size
          have hy11 := pw_cell_below hba hy10
          refine hK.out _ _ hy11 (fun hHeld3 => ?_)
          clear hK K hba HHW HB10 HR10 HG10 K12' K8' HVA
          refine norm_ (a' := ?_) ?_ ?_
          rotate_left
          · show Act.put _ (some 68) _ = _
            simp only [Act.put, List.setIfInBounds_toArray, List.set_cons_zero, List.set_cons_succ, i64_w, i32_w]
            rfl
          generalize hw8 : w7.alloc (.cells #[.slice Aa t.length ca] 46) = w8 at *
          clear hw8
          generalize hg14 : w7.heap.size = g14 at *
          refine one_ (i := 9) (N := some 69) #[true, true, true, true, true, true, true, true, true, true, false, false, false] rfl rfl (by kernel_rfl) (by decide) (fun K hK => ?_)
          refine callE_ 59 #[.slice A5 r0.f2.length c5, .int .i64 (q.toNat : Int), .slice (some ⟨g14, 0, none⟩) 1 1] (by rfl) rfl (by rw [Int.toNat_of_nonneg hqb.1]; go_simp) ?_
          have HRO := Aside0.mk (Kd.R_mono (ok' := fun k_ => oki k_ ∨ True ∧ wd.heap.size ≤ k_) HR11.out (fun k_ hk => Or.inl hk))
          refine (insert_calls A5 c5 r0.f2 q.toNat t g14 (.slice Aa t.length ca) w.heap.size (fun k_ => oki k_ ∨ True ∧ wd.heap.size ≤ k_) (fun k_ => wd.heap.size ≤ k_) w8 HRO.out (by omega) hlr HB11.out.size HX14.out HVA'.out (fun k_ hk => ⟨Or.inr ⟨trivial, hk⟩, fun e => by have := HRL.out k_ e.symm; omega⟩) (fun k_ hk => Or.inr ⟨trivial, by omega⟩) (fun e => by have := HRL.out g14 e.symm; omega)).mono ?_
          rintro e w9 ⟨v', rfl, hRn, hgr, hat⟩
          left
          refine ⟨_, rfl, ?_⟩
          have hgne : some g ≠ (Value.slice A5 r0.f2.length c5).ownBlock := fun e => (HK.out g (HR11.out.1 g e.symm)).2 rfl
          have HHG := Aside0.mk (Kd.H_grown HHW'.out hgr (fun k_ hk => HRO.out.1 k_ hk))
          have HB12 := Aside0.mk (pw_below_grown HB11.out _ HB11.out.size hgr (fun k_ hk => Kd.R_base HR11.out k_ hk))
          have HG12 := Aside0.mk (blk_grown HG11.out hgr hgne)
          have K12' := Aside0.mk (blk_grown K12.out hgr (Kd.R_ne HR11.out K12.out (by decide)))
          have K8' := Aside0.mk (blk_grown K8.out hgr (Kd.R_ne HR11.out K8.out (by decide)))
          have HRn := Aside0.mk hRn
          have hy12 := hgr.cell hy11 hgne
          refine hK.out _ _ hy12 (fun hHeld4 => ?_)
          clear hK K hgr hat hRn HHW' HB11 HR11 HG11 K12 K8 HVA' HX14 HRO hgne
          refine norm_ (a' := ?_) ?_ ?_
          rotate_left
          · show Act.put _ (some 69) _ = _
            simp only [Act.put, List.setIfInBounds_toArray, List.set_cons_zero, List.set_cons_succ, i64_w, i32_w]
            rfl
          refine pure_ (i := 10) (N := some 70) (v := ?_) (a' := ?_) #[true, true, true, true, true, true, true, true, true, true, true, false, false] rfl rfl (by kernel_rfl) (fun _ _ _ h => h) (Or.inl ⟨by rfl, ?_⟩) ?_ ?_
          rotate_left
          · intro w'
            go_simp
            with_reducible rfl
          rotate_left
          · simp only [Act.put, List.setIfInBounds_toArray, List.set_cons_zero, List.set_cons_succ, i64_w, i32_w]
            rfl
          refine pure_ (i := 11) (N := some 71) (v := ?_) (a' := ?_) #[true, true, true, true, true, true, true, true, true, true, true, true, false] rfl rfl (by kernel_rfl) (fun _ _ _ h => h) (Or.inl ⟨by rfl, ?_⟩) ?_ ?_
          rotate_left
          · intro w'
            go_simp
            with_reducible rfl
          rotate_left
          · simp only [Act.put, List.setIfInBounds_toArray, List.set_cons_zero, List.set_cons_succ, i64_w, i32_w]
            rfl
          refine last_ (i := 12) (N := none) #[true, true, true, true, true, true, true, true, true, true, true, true, true] rfl rfl (by kernel_rfl) (by decide) (fun K hK => ?_)
          have fy := blk_frozen HG12.out (x.toNat * 3 + 2)
          obtain ⟨An, cn, en⟩ := Kd.R_slice HRn.out
          subst en
          refine skip_ (w1 := ?_) (by rfl) rfl ?_ ?_
          rotate_left
          · go_simp
            rfl
          refine hK.out _ _ ?_
          clear hK K
          refine done_ (by kernel_rfl) ?_
          refine NoPanic.normal ?_
          have hko : ∀ k_, (oki k_ ∨ True ∧ wd.heap.size ≤ k_) → k_ ≠ g := fun k_ hk e => by
            rcases hk with hk | hk
            · exact (HK.out k_ hk).2 e
            · omega
          have hseg := Kd.H_seg HHG.out hxb.1 hxb.2 (seg := [.slice An (insAt r0.f2 q.toNat t).length cn]) (j := 2) (Nat.le_refl 3) (fun u hu => by rw [List.mem_singleton.1 hu]; rfl)
          have hback := Kd.H_back hseg.1 (x' := putRel r0 (insAt r0.f2 q.toNat t)) (okp := fun k_ => oki k_ ∨ True ∧ wd.heap.size ≤ k_) (k52_mkM _ _ _ (putRel r0 (insAt r0.f2 q.toNat t)) (Kd.R_far (p := ⟨g, x.toNat * 3 + 2, none⟩) HRn.out hko _)) (fun k_ hk => hk)
          have ZR := Aside0.mk (Kd.S_R hback)
          have ZB := Aside0.mk (below_set (g := g) (j := x.toNat * 3 + 2) (v := .slice An (insAt r0.f2 q.toNat t).length cn) HB12.out hbg)
          have Z12 := Aside0.mk ((Below.heap_setCell w9 ⟨g, x.toNat * 3 + 2, none⟩ (.slice An (insAt r0.f2 q.toNat t).length cn) g12 (fun e => by have e2 : g12 = g := e; rw [e2] at K12'; have := HG12.out.symm.trans K12'.out; injection this with h; injection h with h1 h2; cases h2)).trans K12'.out)
          have Z8 := Aside0.mk ((Below.heap_setCell w9 ⟨g, x.toNat * 3 + 2, none⟩ (.slice An (insAt r0.f2 q.toNat t).length cn) g8 (fun e => by have e2 : g8 = g := e; rw [e2] at K8'; have := HG12.out.symm.trans K8'.out; injection this with h; injection h with h1 h2; cases h2)).trans K8'.out)
          clear hseg hback HHG HRn HB12 HG12 K12' K8' fy hy12
          have ZR := Aside0.mk (show Kd.R k52 52 (w9.setCell ⟨g, x.toNat * 3 + 2, none⟩ (.slice An (insAt r0.f2 q.toNat t).length cn)) w.heap.size (fun _ => True) (.slice (some ⟨g, 0, none⟩) l.length c3) (l.set x.toNat (putRel r0 (insAt r0.f2 q.toNat t))) from ZR.out)
          generalize w9.setCell ⟨g, x.toNat * 3 + 2, none⟩ (.slice An (insAt r0.f2 q.toNat t).length cn) = wz at *
          have c12_0 : wz.cell? ⟨g12, 0, none⟩ = some (.int .i64 n) := (blk_cell Z12.out 0).trans rfl
          have c12_1 : wz.cell? ⟨g12, 1, none⟩ = some (.slice (some ⟨g, 0, none⟩) l.length c3) := (blk_cell Z12.out 1).trans rfl
          have c8_0 : wz.cell? ⟨g8, 0, none⟩ = some (.int .i64 0) := (blk_cell Z8.out 0).trans rfl
          have c8_1 : wz.cell? ⟨g8, 1, none⟩ = some (.slice none 0 0) := (blk_cell Z8.out 1).trans rfl
          have f8_0 := blk_frozen Z8.out 0
          have f8_1 := blk_frozen Z8.out 1
          go_wp2
          have HX := blk_put (cs' := #[.int .i64 n, .slice (some ⟨g, 0, none⟩) l.length c3]) (blk_put (cs' := #[.int .i64 n, .slice none 0 0]) Z8.out 0 (.int .i64 n) rfl) 1 (.slice (some ⟨g, 0, none⟩) l.length c3) rfl
          have HV1 := Kd.R_set ZR.out Z8.out (by decide) 0 (.int .i64 n)
          have HV2 := Kd.R_set HV1 (blk_put (cs' := #[.int .i64 n, .slice none 0 0]) Z8.out 0 (.int .i64 n) rfl) (by decide) 1 (.slice (some ⟨g, 0, none⟩) l.length c3)
          have HBX := below_set (j := 1) (v := .slice (some ⟨g, 0, none⟩) l.length c3) (below_set (j := 0) (v := .int .i64 n) ZB.out hg8w) hg8w
          refine bodyPost_ret (results_put _ _ g8 n 0 _ rfl rfl HX) rfl ?_
          exact ⟨_, rfl, HV2, HBX⟩
      | false =>
        cases there with
        | false =>
          have h2 := H.out
          rw [if_neg (by simp), if_neg (by simp)] at h2
          obtain rfl := Option.some.inj h2
          clear h2 H HH8 HR8
          have Z12 := K12'
          have Z8 := K8'
          have ZB := HB8
          have ZR := Aside0.mk (Kd.S_R HS8.out)
          clear K12' K8' HB8 HS8
          have c12_0 : w6.cell? ⟨g12, 0, none⟩ = some (.int .i64 n) := (blk_cell Z12.out 0).trans rfl
          have c12_1 : w6.cell? ⟨g12, 1, none⟩ = some (.slice (some ⟨g, 0, none⟩) l.length c3) := (blk_cell Z12.out 1).trans rfl
          have c8_0 : w6.cell? ⟨g8, 0, none⟩ = some (.int .i64 0) := (blk_cell Z8.out 0).trans rfl
          have c8_1 : w6.cell? ⟨g8, 1, none⟩ = some (.slice none 0 0) := (blk_cell Z8.out 1).trans rfl
          have f8_0 := blk_frozen Z8.out 0
          have f8_1 := blk_frozen Z8.out 1
          go_wp2
          have HX := blk_put (cs' := #[.int .i64 n, .slice (some ⟨g, 0, none⟩) l.length c3]) (blk_put (cs' := #[.int .i64 n, .slice none 0 0]) Z8.out 0 (.int .i64 n) rfl) 1 (.slice (some ⟨g, 0, none⟩) l.length c3) rfl
          have HV1 := Kd.R_set ZR.out Z8.out (by decide) 0 (.int .i64 n)
          have HV2 := Kd.R_set HV1 (blk_put (cs' := #[.int .i64 n, .slice none 0 0]) Z8.out 0 (.int .i64 n) rfl) (by decide) 1 (.slice (some ⟨g, 0, none⟩) l.length c3)
          have HBX := below_set (j := 1) (v := .slice (some ⟨g, 0, none⟩) l.length c3) (below_set (j := 0) (v := .int .i64 n) ZB.out hg8w) hg8w
          refine bodyPost_ret (results_put _ _ g8 n 0 _ rfl rfl HX) rfl ?_
          exact ⟨_, rfl, HV2, HBX⟩
        | true =>
          have h2 := H.out
          rw [if_neg (by simp), if_pos (by simp)] at h2
          by_cases hqb : 0 ≤ q ∧ q < (r0.f2.length : Int)
          case neg => rw [if_neg hqb] at h2; cases h2
          rw [if_pos hqb] at h2
          obtain rfl := Option.some.inj h2
          clear h2 H HS8 HT8
          have hlr : r0.f2.length ≤ 100000 := hcr0
          have hqw : IntKind.i64.wrap (q + 1) = q + 1 := by rw [IntKind.wrap_i64]; omega
          have hqn : ((q.toNat : Nat) : Int) = q := Int.toNat_of_nonneg hqb.1
          have fy := blk_frozen HG8.out (x.toNat * 3 + 2)
          go_wp2_with (fail)
          have HRO := Aside0.mk (Kd.R_mono (ok' := fun k_ => oki k_ ∨ True ∧ w6.heap.size ≤ k_) HR8.out (fun k_ hk => Or.inl hk))
          have hdel := delete_calls A5 c5 r0.f2 q.toNat w.heap.size (fun k_ => oki k_ ∨ True ∧ w6.heap.size ≤ k_) w6 HRO.out (by omega) (fun k_ hk => Or.inr ⟨trivial, hk⟩)
          rw [hqn] at hdel
          refine hdel.mono ?_
          rintro e w9 ⟨v', rfl, hRn, hgr, hat⟩
          have hgne : some g ≠ (Value.slice A5 r0.f2.length c5).ownBlock := fun e => (HK.out g (HR8.out.1 g e.symm)).2 rfl
          have HHG := Aside0.mk (Kd.H_grown (Kd.H_widen HH8.out) hgr (fun k_ hk => HRO.out.1 k_ hk))
          have HB12 := Aside0.mk (pw_below_grown HB8.out _ HB8.out.size hgr (fun k_ hk => Kd.R_base HR8.out k_ hk))
          have HG12 := Aside0.mk (blk_grown HG8.out hgr hgne)
          have Y12 := Aside0.mk (blk_grown K12'.out hgr (Kd.R_ne HR8.out K12'.out (by decide)))
          have Y8 := Aside0.mk (blk_grown K8'.out hgr (Kd.R_ne HR8.out K8'.out (by decide)))
          have HRn := Aside0.mk hRn
          have hy12 := hgr.cell hy hgne
          have fy := blk_frozen HG12.out (x.toNat * 3 + 2)
          clear hdel hgr hat hRn HH8 HB8 HR8 HG8 K12' K8' HRO hgne hy
          obtain ⟨An, cn, en⟩ := Kd.R_slice HRn.out
          subst en
          have hko : ∀ k_, (oki k_ ∨ True ∧ w6.heap.size ≤ k_) → k_ ≠ g := fun k_ hk e => by
            rcases hk with hk | hk
            · exact (HK.out k_ hk).2 e
            · omega
          have hseg := Kd.H_seg HHG.out hxb.1 hxb.2 (seg := [.slice An (delAt r0.f2 q.toNat).length cn]) (j := 2) (Nat.le_refl 3) (fun u hu => by rw [List.mem_singleton.1 hu]; rfl)
          have hback := Kd.H_back hseg.1 (x' := putRel r0 (delAt r0.f2 q.toNat)) (okp := fun k_ => oki k_ ∨ True ∧ w6.heap.size ≤ k_) (k52_mkM _ _ _ (putRel r0 (delAt r0.f2 q.toNat)) (Kd.R_far (p := ⟨g, x.toNat * 3 + 2, none⟩) HRn.out hko _)) (fun k_ hk => hk)
          have ZB := Aside0.mk (below_set (g := g) (j := x.toNat * 3 + 2) (v := .slice An (delAt r0.f2 q.toNat).length cn) HB12.out hbg)
          have Z12 := Aside0.mk ((Below.heap_setCell w9 ⟨g, x.toNat * 3 + 2, none⟩ (.slice An (delAt r0.f2 q.toNat).length cn) g12 (fun e => by have e2 : g12 = g := e; rw [e2] at Y12; have := HG12.out.symm.trans Y12.out; injection this with h; injection h with h1 h2; cases h2)).trans Y12.out)
          have Z8 := Aside0.mk ((Below.heap_setCell w9 ⟨g, x.toNat * 3 + 2, none⟩ (.slice An (delAt r0.f2 q.toNat).length cn) g8 (fun e => by have e2 : g8 = g := e; rw [e2] at Y8; have := HG12.out.symm.trans Y8.out; injection this with h; injection h with h1 h2; cases h2)).trans Y8.out)
          have ZR := Aside0.mk (show Kd.R k52 52 (w9.setCell ⟨g, x.toNat * 3 + 2, none⟩ (.slice An (delAt r0.f2 q.toNat).length cn)) w.heap.size (fun _ => True) (.slice (some ⟨g, 0, none⟩) l.length c3) (l.set x.toNat (putRel r0 (delAt r0.f2 q.toNat))) from Kd.S_R hback)
          clear hseg hback HHG HRn HB12 Y12 Y8
          go_upto_region 13 with (fail)
          generalize w9.setCell ⟨g, x.toNat * 3 + 2, none⟩ (.slice An (delAt r0.f2 q.toNat).length cn) = wz at *
          have c12_0 : wz.cell? ⟨g12, 0, none⟩ = some (.int .i64 n) := (blk_cell Z12.out 0).trans rfl
          have c12_1 : wz.cell? ⟨g12, 1, none⟩ = some (.slice (some ⟨g, 0, none⟩) l.length c3) := (blk_cell Z12.out 1).trans rfl
          have c8_0 : wz.cell? ⟨g8, 0, none⟩ = some (.int .i64 0) := (blk_cell Z8.out 0).trans rfl
          have c8_1 : wz.cell? ⟨g8, 1, none⟩ = some (.slice none 0 0) := (blk_cell Z8.out 1).trans rfl
          have f8_0 := blk_frozen Z8.out 0
          have f8_1 := blk_frozen Z8.out 1
          go_wp2
          have HX := blk_put (cs' := #[.int .i64 n, .slice (some ⟨g, 0, none⟩) l.length c3]) (blk_put (cs' := #[.int .i64 n, .slice none 0 0]) Z8.out 0 (.int .i64 n) rfl) 1 (.slice (some ⟨g, 0, none⟩) l.length c3) rfl
          have HV1 := Kd.R_set ZR.out Z8.out (by decide) 0 (.int .i64 n)
          have HV2 := Kd.R_set HV1 (blk_put (cs' := #[.int .i64 n, .slice none 0 0]) Z8.out 0 (.int .i64 n) rfl) (by decide) 1 (.slice (some ⟨g, 0, none⟩) l.length c3)
          have HBX := below_set (j := 1) (v := .slice (some ⟨g, 0, none⟩) l.length c3) (below_set (j := 0) (v := .int .i64 n) ZB.out hg8w) hg8w
          refine bodyPost_ret (results_put _ _ g8 n 0 _ rfl rfl HX) rfl ?_
          exact ⟨_, rfl, HV2, HBX⟩
  · have h2 := H.out
    rw [if_neg he] at h2
    obtain rfl := Option.some.inj h2
    clear h2
    have e0 : (e1 == 0) = false := beq_eq_false_iff_ne.mpr he
    have e0' : (e1 != 0) = true := bne_iff_ne.mpr he
    clear H
    go_wp2
    have HX := blk_put (cs' := #[.int .i64 0, .slice none 0 0]) (blk_put (cs' := #[.int .i64 0, .slice none 0 0]) K8'.out 0 (.int .i64 0) rfl) 1 (.slice none 0 0) rfl
    have HBX := below_set (j := 1) (v := .slice none 0 0) (below_set (j := 0) (v := .int .i64 0) HB2.out hg8w) hg8w
    refine bodyPost_ret (results_put _ _ g8 0 e1 _ rfl rfl HX) rfl ?_
    exact ⟨_, rfl, Kd.R_nil _ _ _ _ _, HBX⟩
theorem shape_Put.calls (k : Nat) (a0_0 : Int) (A0_1 : Option Addr) (c0_1 : Nat) (l0_1 : List S52) (a1 : ByteArray) (A2 : Option Addr) (c2 : Nat) (l2 : List Int) (a3 : Bool) (r1 : Int) (r2 : List S52) (r3 : Int) (w : World) (hr0_1 : Kd.C k52 w A0_1 l0_1.length l0_1) (hc0_1 : l0_1.length ≤ c0_1) (hr2 : Kd.C (Kd.int .i64) w A2 l2.length l2) (hc2 : l2.length ≤ c2) (h : shape_Put.f k a0_0 l0_1 a1 l2 a3 = some (r1, r2, r3)) :
    Calls Tryz.prog 28 #[.agg #[.int .i64 a0_0, .slice A0_1 l0_1.length c0_1], .string a1, .slice A2 l2.length c2, .bool a3] w fun e w' => ∃ v1_ : Value, e = .returned (.tuple #[.agg #[.int .i64 r1, v1_], .int .i64 r3]) ∧ Kd.R k52 52 w' w.heap.size (fun _ => True) v1_ r2 ∧ Below w.heap.size w w' :=
  put_calls k a0_0 A0_1 c0_1 l0_1 a1 A2 c2 l2 a3 (r1, r2, r3) w hr0_1 hc0_1 hr2 hc2 h
end Go.Proofs.YtfmpaofbnjlniaaGreatDoor.F
/- What Has and Put answer at valid structures; plain lemmas. -/
namespace Go.Proofs.YtfmpaofbnjlniaaGreatDoor.F
open Go.RowKit Go.Proofs.YtfmpaofbnjlniaaGreatDoorW.PrintWords Go.Proofs.YtfmpaofbnjlniaaGreatDoorW.PrintLast Go.Proofs.YtfmpaofbnjlniaaGreatDoorW.PrintMore
set_option linter.unusedVariables false
/-! ### the lexicographic order -/
theorem lex_irr : ∀ x : List Int, lexL x x = false
  | [] => rfl
  | a :: x => by unfold lexL; rw [if_pos rfl]; exact lex_irr x
theorem lex_trans : ∀ x y z : List Int, x.length = y.length → y.length = z.length → lexL x y = true → lexL y z = true → lexL x z = true
  | [], y, z, h1, h2, h, _ => by unfold lexL at h; cases h
  | a :: x, [], z, h1, h2, h, _ => by simp at h1
  | a :: x, b :: y, [], h1, h2, h, _ => by simp at h2
  | a :: x, b :: y, c :: z, h1, h2, h, h' => by
    unfold lexL at h h' ⊢
    simp only [List.length_cons] at h1 h2
    by_cases e1 : a = b
    · by_cases e2 : b = c
      · rw [if_pos e1] at h
        rw [if_pos e2] at h'
        rw [if_pos (e1.trans e2)]
        exact lex_trans x y z (by omega) (by omega) h h'
      · rw [if_neg e2, decide_eq_true_eq] at h'
        rw [if_neg (by omega), decide_eq_true_eq]; omega
    · rw [if_neg e1, decide_eq_true_eq] at h
      by_cases e2 : b = c
      · rw [if_neg (by omega), decide_eq_true_eq]; omega
      · rw [if_neg e2, decide_eq_true_eq] at h'
        rw [if_neg (by omega), decide_eq_true_eq]; omega
theorem lex_tri : ∀ x y : List Int, x.length = y.length → lexL x y = false → x ≠ y → lexL y x = true
  | [], [], _, _, h => absurd rfl h
  | [], _ :: _, h, _, _ => by simp at h
  | _ :: _, [], h, _, _ => by simp at h
  | a :: x, b :: y, h1, h, hne => by
    unfold lexL at h ⊢
    by_cases e : a = b
    · rw [if_pos e] at h
      rw [if_pos e.symm]
      exact lex_tri x y (by simpa using h1) h (fun e2 => hne (by rw [e, e2]))
    · rw [if_neg e, decide_eq_false_iff_not] at h
      rw [if_neg (fun e2 => e e2.symm), decide_eq_true_eq]; omega
theorem cmp_loop (x y : List Int) (hl : x.length = y.length) (hx : x.length ≤ 100000) : ∀ (j i k : Nat), i + j = x.length → j + 1 ≤ k → ∃ c, slices_Compare_int_int.l0 k x y x (x.length : Int) (i : Int) = some c ∧ (c < 0 ↔ lexL (x.drop i) (y.drop i) = true) ∧ (c = 0 ↔ x.drop i = y.drop i)
  | 0, i, k + 1, h, hk => by
    refine ⟨0, ?_, ?_, ?_⟩
    · unfold slices_Compare_int_int.l0; rw [if_neg (by omega), if_neg (by omega)]
    · rw [List.drop_eq_nil_of_le (by omega)]; simp [lexL]
    · rw [List.drop_eq_nil_of_le (by omega), List.drop_eq_nil_of_le (by omega)]; simp
  | j + 1, i, k + 1, h, hk => by
    have hi : i < x.length := by omega
    have hi2 : i < y.length := by omega
    unfold slices_Compare_int_int.l0
    rw [if_pos (by omega), if_pos (by omega), if_pos (by omega), if_neg (by omega), if_pos (by omega), rd_nat x i hi, rd_nat y i hi2, List.drop_eq_getElem_cons hi, List.drop_eq_getElem_cons hi2, w64 (by omega) (by omega)]
    unfold cmp_Compare_int.f cmp_isNaN_int.f lexL
    simp only [bne_self_eq_false, Option.bind_some, Bool.false_eq_true, if_false]
    rcases Int.lt_trichotomy x[i] y[i] with h1 | h1 | h1
    · exact ⟨-1, by simp [h1], by rw [if_neg (by omega)]; simp [h1], ⟨fun e => by omega, fun e => by have := (List.cons.inj e).1; omega⟩⟩
    · obtain ⟨c, hc, hd, he⟩ := cmp_loop x y hl hx j (i + 1) k (by omega) (by omega)
      rw [show ((i + 1 : Nat) : Int) = (i : Int) + 1 by omega] at hc
      exact ⟨c, by simp [h1, hc], by rw [if_pos h1]; exact hd, by rw [he]; exact ⟨fun e => by rw [h1, e], fun e => (List.cons.inj e).2⟩⟩
    · exact ⟨1, by simp [h1, show ¬ x[i] < y[i] by omega], by rw [if_neg (by omega)]; simp; omega, ⟨fun e => by omega, fun e => by have := (List.cons.inj e).1; omega⟩⟩
theorem cmp_eq (x y : List Int) (hl : x.length = y.length) (hx : x.length ≤ 100000) (k : Nat) (hk : x.length + 1 ≤ k) : ∃ c, slices_Compare_int_int.f k x y = some c ∧ (c < 0 ↔ lexL x y = true) ∧ (c = 0 ↔ x = y) :=
  cmp_loop x y hl hx x.length 0 k (by omega) (by omega)
/-! ### the binary search -/
def Sorted (ts : List (List Int)) : Prop := ts.Pairwise (fun a b => lexL a b = true)
/-- The place of t in ts. -/
def PlaceOf (ts : List (List Int)) (t : List Int) (q : Nat) (b : Bool) : Prop := q ≤ ts.length ∧ (∀ a ∈ ts.take q, lexL a t = true) ∧ (∀ a ∈ ts.drop q, lexL a t = false) ∧ (b = true ↔ ∃ h : q < ts.length, ts[q] = t)
theorem mid_eq (lo hi : Nat) (h : lo ≤ hi) (h2 : hi ≤ 100000) : wrap64 ((IntKind.u64.wrap (wrap64 ((lo : Int) + (hi : Int)))) / 2) = (((lo + hi) / 2 : Nat) : Int) := by
  rw [w64 (x := (lo : Int) + hi) (by omega) (by omega), IntKind.wrap_u64, w64 (by omega) (by omega)]
  omega
theorem search_loop (ts : List (List Int)) (t : List Int) (m : Nat) (hm : m ≤ 1000) (hlt : t.length = m) (hl : ∀ a ∈ ts, a.length = m) (hs : Sorted ts) (hn : ts.length ≤ 100000) : ∀ (d lo hi k : Nat), lo ≤ hi → hi ≤ ts.length → hi - lo ≤ d → d + m + 3 ≤ k →
    (∀ (i : Nat) (h : i < ts.length), i < lo → lexL ts[i] t = true) → (∀ (i : Nat) (h : i < ts.length), hi ≤ i → lexL ts[i] t = false) →
    ∃ (q : Nat) (b : Bool), slices_BinarySearchFunc_int_int_int.l0 k ts t (ts.length : Int) (lo : Int) (hi : Int) = some ((q : Int), b) ∧ PlaceOf ts t q b
  | 0, lo, hi, k + 1, h1, h2, h3, h4, hp, hq => by
    obtain rfl : lo = hi := by omega
    have T1 : ∀ a ∈ ts.take lo, lexL a t = true := fun a ha => by
      obtain ⟨i, hi, rfl⟩ := List.getElem_of_mem ha
      rw [List.length_take] at hi
      rw [List.getElem_take]
      exact hp i (by omega) (by omega)
    have T2 : ∀ a ∈ ts.drop lo, lexL a t = false := fun a ha => by
      obtain ⟨i, hi, rfl⟩ := List.getElem_of_mem ha
      rw [List.length_drop] at hi
      rw [List.getElem_drop]
      exact hq _ (by omega) (by omega)
    unfold slices_BinarySearchFunc_int_int_int.l0
    rw [if_neg (by omega)]
    by_cases hlo : lo < ts.length
    · obtain ⟨c, hc, _, h0⟩ := cmp_eq ts[lo] t (by rw [hl _ (List.getElem_mem hlo), hlt]) (by rw [hl _ (List.getElem_mem hlo)]; omega) k (by rw [hl _ (List.getElem_mem hlo)]; omega)
      rw [if_pos (by omega), if_pos (by omega), if_pos (by omega), rdL2_nat ts lo hlo, hc]
      exact ⟨lo, _, rfl, h2, T1, T2, by rw [beq_iff_eq, h0]; exact ⟨fun e => ⟨hlo, e⟩, fun ⟨_, e⟩ => e⟩⟩
    · rw [if_neg (by omega)]
      exact ⟨lo, false, rfl, h2, T1, T2, by simp; omega⟩
  | d + 1, lo, hi, k + 1, h1, h2, h3, h4, hp, hq => by
    by_cases hlh : lo < hi
    · have hmid := mid_eq lo hi h1 (by omega)
      have hm1 : (lo + hi) / 2 < ts.length := by omega
      unfold slices_BinarySearchFunc_int_int_int.l0
      rw [if_pos (by omega)]
      simp only [hmid]
      rw [if_pos (by omega), if_pos (by omega), rdL2_nat ts _ hm1]
      obtain ⟨c, hc, hlx, _⟩ := cmp_eq ts[(lo + hi) / 2] t (by rw [hl _ (List.getElem_mem hm1), hlt]) (by rw [hl _ (List.getElem_mem hm1)]; omega) k (by rw [hl _ (List.getElem_mem hm1)]; omega)
      rw [hc]
      simp only [Option.bind_some]
      have hpw := List.pairwise_iff_getElem.1 hs
      by_cases hc0 : c < 0
      · rw [if_pos hc0, w64 (by omega) (by omega), show (((lo + hi) / 2 : Nat) : Int) + 1 = (((lo + hi) / 2 + 1 : Nat) : Int) by omega]
        refine search_loop ts t m hm hlt hl hs hn d ((lo + hi) / 2 + 1) hi k (by omega) h2 (by omega) (by omega) (fun i h hi' => ?_) hq
        by_cases e : i = (lo + hi) / 2
        · subst e; exact hlx.1 hc0
        · exact lex_trans _ _ _ (by rw [hl _ (List.getElem_mem h), hl _ (List.getElem_mem hm1)]) (by rw [hl _ (List.getElem_mem hm1), hlt]) (hpw i _ h hm1 (by omega)) (hlx.1 hc0)
      · rw [if_neg hc0]
        refine search_loop ts t m hm hlt hl hs hn d lo ((lo + hi) / 2) k (by omega) (by omega) (by omega) (by omega) hp (fun i h hi' => ?_)
        have hf : lexL ts[(lo + hi) / 2] t = false := by
          cases hb : lexL ts[(lo + hi) / 2] t with
          | false => rfl
          | true => exact absurd (hlx.2 hb) hc0
        by_cases e : i = (lo + hi) / 2
        · subst e; exact hf
        · cases hb : lexL ts[i] t with
          | false => rfl
          | true =>
            have := lex_trans _ _ _ (by rw [hl _ (List.getElem_mem hm1), hl _ (List.getElem_mem h)]) (by rw [hl _ (List.getElem_mem h), hlt]) (hpw _ i hm1 h (by omega)) hb
            rw [hf] at this; cases this
    · exact search_loop ts t m hm hlt hl hs hn d lo hi (k + 1) h1 h2 (by omega) (by omega) hp hq
theorem search_eq (ts : List (List Int)) (t : List Int) (m : Nat) (hm : m ≤ 1000) (hlt : t.length = m) (hl : ∀ a ∈ ts, a.length = m) (hs : Sorted ts) (hn : ts.length ≤ 5000) : ∃ (q : Nat) (b : Bool), PlaceOf ts t q b ∧ ∀ k, 7000 ≤ k → slices_BinarySearchFunc_int_int_int.f k ts t = some ((q : Int), b) := by
  obtain ⟨q, b, h, hp⟩ := search_loop ts t m hm hlt hl hs (by omega) ts.length 0 ts.length 7000 (by omega) (Nat.le_refl _) (by omega) (by omega) (fun i _ h => by omega) (fun i _ h => by omega)
  exact ⟨q, b, hp, fun k hk => at_rounds (slices_BinarySearchFunc_int_int_int.mono _ _) hk h⟩
theorem place_mem {ts : List (List Int)} {t : List Int} {q : Nat} {b : Bool} (h : PlaceOf ts t q b) (hs : Sorted ts) (m : Nat) (hlt : t.length = m) (hl : ∀ a ∈ ts, a.length = m) : b = true ↔ t ∈ ts := by
  obtain ⟨h1, h2, h3, h4⟩ := h
  rw [h4]
  constructor
  · rintro ⟨hq, e⟩
    rw [← e]; exact List.getElem_mem hq
  · intro ht
    rw [← List.take_append_drop q ts, List.mem_append] at ht
    rcases ht with ht | ht
    · have := h2 t ht
      rw [lex_irr] at this; cases this
    · have hq : q < ts.length := by
        have := List.length_pos_of_mem ht
        rw [List.length_drop] at this; omega
      refine ⟨hq, ?_⟩
      rw [List.drop_eq_getElem_cons hq] at ht
      rcases List.mem_cons.1 ht with ht | ht
      · exact ht.symm
      · have hp : Sorted (ts.drop q) := List.Pairwise.sublist (List.drop_sublist q ts) hs
        rw [List.drop_eq_getElem_cons hq] at hp
        have := (List.pairwise_cons.1 hp).1 t ht
        rw [h3 _ (by rw [List.drop_eq_getElem_cons hq]; exact List.mem_cons_self)] at this
        cases this
/-! ### inserting, deleting -/
theorem ins_mem (ts : List (List Int)) (q : Nat) (t a : List Int) : a ∈ insAt ts q t ↔ a = t ∨ a ∈ ts := by
  unfold insAt
  conv => rhs; rw [← List.take_append_drop q ts]
  simp only [List.mem_append, List.mem_singleton]
  constructor
  · rintro ((h | h) | h)
    · exact Or.inr (Or.inl h)
    · exact Or.inl h
    · exact Or.inr (Or.inr h)
  · rintro (h | h | h)
    · exact Or.inl (Or.inr h)
    · exact Or.inl (Or.inl h)
    · exact Or.inr h
theorem ins_sorted {ts : List (List Int)} {t : List Int} {q : Nat} {b : Bool} (h : PlaceOf ts t q b) (hs : Sorted ts) (m : Nat) (hlt : t.length = m) (hl : ∀ a ∈ ts, a.length = m) (hn : t ∉ ts) : Sorted (insAt ts q t) := by
  obtain ⟨h1, h2, h3, h4⟩ := h
  unfold Sorted at hs ⊢
  rw [← List.take_append_drop q ts, List.pairwise_append] at hs
  obtain ⟨s1, s2, s3⟩ := hs
  have hd : ∀ a ∈ ts.drop q, lexL t a = true := fun a ha => lex_tri a t (by rw [hl a (List.mem_of_mem_drop ha), hlt]) (h3 a ha) (fun e => hn (e ▸ List.mem_of_mem_drop ha))
  unfold insAt
  rw [List.pairwise_append, List.pairwise_append]
  refine ⟨⟨s1, List.pairwise_singleton _ _, fun a ha b hb => by rw [List.mem_singleton.1 hb]; exact h2 a ha⟩, s2, fun a ha b hb => ?_⟩
  rcases List.mem_append.1 ha with ha | ha
  · exact s3 a ha b hb
  · rw [List.mem_singleton.1 ha]; exact hd b hb
theorem del_sub (ts : List (List Int)) (q : Nat) : List.Sublist (delAt ts q) ts := by
  have := List.eraseIdx_sublist ts q
  rwa [List.eraseIdx_eq_take_drop_succ] at this
theorem del_mem (ts : List (List Int)) (q : Nat) (hq : q < ts.length) (a : List Int) (ha : a ∈ ts) : a ∈ delAt ts q ∨ a = ts[q] := by
  rw [← List.take_append_drop q ts, List.mem_append, List.drop_eq_getElem_cons hq, List.mem_cons] at ha
  unfold delAt
  rw [List.mem_append]
  rcases ha with h | h | h
  · exact Or.inl (Or.inl h)
  · exact Or.inr h
  · exact Or.inl (Or.inr h)
theorem del_not {ts : List (List Int)} {q : Nat} (hq : q < ts.length) (hs : Sorted ts) : ts[q] ∉ delAt ts q := by
  intro h
  unfold Sorted at hs
  rw [← List.take_append_drop q ts, List.pairwise_append, List.drop_eq_getElem_cons hq, List.pairwise_cons] at hs
  obtain ⟨_, ⟨s2, _⟩, s3⟩ := hs
  unfold delAt at h
  rcases List.mem_append.1 h with h | h
  · have := s3 _ h _ List.mem_cons_self
    rw [lex_irr] at this; cases this
  · have := s2 _ h
    rw [lex_irr] at this; cases this
end Go.Proofs.YtfmpaofbnjlniaaGreatDoor.F
/- What Has and Put answer at valid structures. -/
namespace Go.Proofs.YtfmpaofbnjlniaaGreatDoor.F
open Go.RowKit Go.Proofs.YtfmpaofbnjlniaaGreatDoorW.PrintWords Go.Proofs.YtfmpaofbnjlniaaGreatDoorW.PrintLast Go.Proofs.YtfmpaofbnjlniaaGreatDoorW.PrintMore
set_option linter.unusedVariables false
theorem tups_sorted (n a : Int) (ts : List (List Int)) (h : tupsV n a ts ts.length 0 = true) : Sorted ts ∧ ∀ t ∈ ts, tupV n a t = true := by
  have hA := tupsV_all n a ts ts.length 0 h (by omega)
  have hT : ∀ t ∈ ts, tupV n a t = true := fun t ht => by
    obtain ⟨j, hj, rfl⟩ := List.getElem_of_mem ht
    exact (hA j hj (by omega)).1
  refine ⟨List.pairwise_iff_getElem.2 (fun i j hi hj hij => ?_), hT⟩
  have hl : ∀ (m : Nat) (hm : m < ts.length), (ts[m].length : Int) = a := fun m hm => (tupV_in n a _ (hT _ (List.getElem_mem hm))).1
  induction j with
  | zero => omega
  | succ j ih =>
    obtain ⟨_, h2⟩ := (hA (j + 1) hj (by omega)).2 (by omega)
    simp only [Nat.add_sub_cancel] at h2
    by_cases e : i = j
    · subst e; exact h2
    · have e1 := hl i hi
      have e2 := hl j (by omega)
      have e3 := hl (j + 1) hj
      exact lex_trans _ _ _ (by omega) (by omega) (ih (by omega) (by omega)) h2
theorem tupsV_mk (n a : Int) (ts : List (List Int)) (hs : Sorted ts) (hT : ∀ t ∈ ts, tupV n a t = true) : ∀ (d i : Nat), i + d = ts.length → tupsV n a ts d i = true
  | 0, i, h => rfl
  | d + 1, i, h => by
    have hi : i < ts.length := by omega
    unfold tupsV
    rw [rdL2_nat ts i hi, hT _ (List.getElem_mem hi), tupsV_mk n a ts hs hT d (i + 1) (by omega)]
    by_cases e : i = 0
    · simp [e]
    · have r2 : rd_L2 ts ((i : Int) - 1) = ts[i - 1]'(by omega) := by unfold rd_L2; rw [show ((i : Int) - 1).toNat = i - 1 by omega, List.getD_eq_getElem?_getD, List.getElem?_eq_getElem (by omega)]; rfl
      rw [r2, List.pairwise_iff_getElem.1 hs (i - 1) i (by omega) hi (by omega)]
      simp
theorem rels_names (n : Int) (l : List S52) : ∀ (d i : Nat), relsV n l d i = true → i + d = l.length → ∀ j (hj : j < l.length), i ≤ j → (l.take j).any (nameIs l[j].f0) = false
  | 0, i, _, h, j, hj, hi => by omega
  | d + 1, i, h, hl, j, hj, hi => by
    unfold relsV at h
    simp only [Bool.and_eq_true] at h
    by_cases e : j = i
    · subst e
      rw [rdT_nat l j hj] at h
      simpa using h.1.2
    · exact rels_names n l d (i + 1) h.2 (by omega) j hj (by omega)
theorem rels_mk (n : Int) (l : List S52) (h1 : ∀ j (hj : j < l.length), relV n l[j] = true) (h2 : ∀ j (hj : j < l.length), (l.take j).any (nameIs l[j].f0) = false) : ∀ (d i : Nat), i + d = l.length → relsV n l d i = true
  | 0, i, h => rfl
  | d + 1, i, h => by
    have hi : i < l.length := by omega
    unfold relsV
    rw [rdT_nat l i hi, h1 i hi, h2 i hi, rels_mk n l h1 h2 d (i + 1) (by omega)]
    rfl
theorem valid_parts (n : Int) (l : List S52) (h : validB n l = true) : (∀ j (hj : j < l.length), relV n l[j] = true) ∧ ∀ j (hj : j < l.length), (l.take j).any (nameIs l[j].f0) = false := by
  unfold validB at h
  simp only [Bool.and_eq_true] at h
  exact ⟨fun j hj => relsV_all n l l.length 0 h.2 (by omega) j hj (by omega), fun j hj => rels_names n l l.length 0 h.2 (by omega) j hj (by omega)⟩
theorem rel_sorted (n : Int) (r : S52) (h : relV n r = true) : Sorted r.f2 ∧ ∀ t ∈ r.f2, tupV n r.f1 t = true := by
  unfold relV at h
  simp only [Bool.and_eq_true] at h
  exact tups_sorted n r.f1 r.f2 h.2
theorem names_ne (n : Int) (l : List S52) (h : validB n l = true) (i j : Nat) (hij : i < j) (hj : j < l.length) : (l[i]'(by omega)).f0.toList ≠ l[j].f0.toList := by
  have := (valid_parts n l h).2 j hj
  rw [List.any_eq_false] at this
  have h2 := this (l[i]'(by omega)) (by rw [List.mem_iff_getElem]; exact ⟨i, by rw [List.length_take]; omega, by rw [List.getElem_take]⟩)
  unfold nameIs at h2
  simpa using h2
theorem find_at (n : Int) (l : List S52) (h : validB n l = true) (i : Nat) (hi : i < l.length) (m : Int) (hm : l[i].f1 = m) : shape_Find.f n l l[i].f0 m = some (i : Int) := by
  unfold shape_Find.f shape_Find_1_idx.f
  rw [Option.bind_some, fidx_at (List.getElem?_eq_getElem hi) (by unfold symIs; simp [hm]) (fun j y hj hy => by
    obtain ⟨hjl, rfl⟩ := List.getElem?_eq_some_iff.1 hy
    have := names_ne n l h j i hj hi
    unfold symIs
    rw [beq_eq_false_iff_ne.2 this]; rfl)]
theorem max_valid (n : Int) (l : List S52) (h : validB n l = true) : ∀ r ∈ l, r.f2.length ≤ 4096 := fun r hr => ((valid_facts n l h).2.2.2 r hr).2.2.2
theorem has_at (n : Int) (l : List S52) (h : validB n l = true) (i : Nat) (hi : i < l.length) (t : List Int) (ht : (t.length : Int) = l[i].f1) :
    ∃ (q : Nat) (b : Bool), PlaceOf l[i].f2 t q b ∧ (b = true ↔ t ∈ l[i].f2) ∧ (∀ k, 7000 ≤ k → shape_Has.f k n l l[i].f0 t = some (b, 0)) ∧ ∀ k, 7000 ≤ k → slices_BinarySearchFunc_int_int_int.f k l[i].f2 t = some ((q : Int), b) := by
  obtain ⟨h1, h2, h3, h4⟩ := valid_facts n l h
  obtain ⟨_, g1, g2, g3⟩ := h4 _ (List.getElem_mem hi)
  have hs := (rel_sorted n _ ((valid_parts n l h).1 i hi)).1
  have hl : ∀ a ∈ l[i].f2, a.length = t.length := fun a ha => by have := (g2 a ha).1; omega
  obtain ⟨q, b, hp, hb⟩ := search_eq l[i].f2 t t.length (by omega) rfl hl hs (by omega)
  refine ⟨q, b, hp, place_mem hp hs t.length rfl hl, fun k hk => ?_, hb⟩
  unfold shape_Has.f
  rw [valid_eq n l 4096 (by omega) (max_valid n l h) k (by omega), h, Option.bind_some, if_pos rfl, find_at n l h i hi _ ht.symm, Option.bind_some, if_neg (by omega), if_pos (by omega), if_pos (by omega), rdT_nat l i hi, hb k hk]
  rfl
theorem has_none (n : Int) (l : List S52) (h : validB n l = true) (nm : ByteArray) (t : List Int) (hn : ∀ r ∈ l, symIs nm t.length r = false) (k : Nat) (hk : 7000 ≤ k) : shape_Has.f k n l nm t = some (false, 4) := by
  unfold shape_Has.f
  rw [valid_eq n l 4096 (by omega) (max_valid n l h) k (by omega), h, Option.bind_some, if_pos rfl]
  unfold shape_Find.f shape_Find_1_idx.f
  rw [Option.bind_some, fidx_none (fun j y hj hy => hn y (List.mem_of_getElem? hy)), Option.bind_some, if_pos (by omega)]
theorem valid_set (n : Int) (l : List S52) (h : validB n l = true) (i : Nat) (hi : i < l.length) (ts : List (List Int)) (hs : Sorted ts) (hT : ∀ t ∈ ts, tupV n l[i].f1 t = true) : validB n (l.set i (putRel l[i] ts)) = true := by
  obtain ⟨p1, p2⟩ := valid_parts n l h
  have hf0 : ∀ j (hj : j < l.length), ((l.set i (putRel l[i] ts))[j]'(by simpa using hj)).f0 = l[j].f0 := fun j hj => by
    rw [List.getElem_set]; split
    · rename_i e; subst e; rfl
    · rfl
  unfold validB at h ⊢
  simp only [Bool.and_eq_true] at h ⊢
  refine ⟨by rw [List.length_set]; exact h.1, ?_⟩
  rw [List.length_set]
  refine rels_mk n _ (fun j hj => ?_) (fun j hj => ?_) l.length 0 (by simp)
  · rw [List.length_set] at hj
    rw [List.getElem_set]
    split
    · have := p1 i hi
      unfold relV at this ⊢
      simp only [Bool.and_eq_true] at this ⊢
      exact ⟨this.1, tupsV_mk n l[i].f1 ts hs hT ts.length 0 (by omega)⟩
    · exact p1 j hj
  · rw [List.length_set] at hj
    rw [hf0 j hj]
    have := p2 j hj
    rw [List.any_eq_false] at this ⊢
    intro r hr
    obtain ⟨m, hm, rfl⟩ := List.getElem_of_mem hr
    rw [List.length_take, List.length_set] at hm
    rw [List.getElem_take]
    have h2 := this (l[m]'(by omega)) (by rw [List.mem_iff_getElem]; exact ⟨m, by rw [List.length_take]; omega, by rw [List.getElem_take]⟩)
    unfold nameIs at h2 ⊢
    rw [hf0 m (by omega)]
    exact h2
theorem tup_of (n : Int) (t : List Int) (a : Int) (ha : (t.length : Int) = a) (ho : t.any (outB n) = false) : tupV n a t = true := by
  unfold tupV
  rw [decide_eq_true ha, ho]; rfl
theorem set_same (l : List S52) (i : Nat) (hi : i < l.length) : l.set i (putRel l[i] l[i].f2) = l := by
  have : putRel l[i] l[i].f2 = l[i] := rfl
  rw [this, List.set_getElem_self]
theorem put_at (n : Int) (l : List S52) (h : validB n l = true) (i : Nat) (hi : i < l.length) (t : List Int) (ht : (t.length : Int) = l[i].f1) (ho : t.any (outB n) = false) (ins : Bool) :
    ∃ ts : List (List Int), Sorted ts ∧ (∀ a ∈ ts, tupV n l[i].f1 a = true) ∧ (t ∈ ts ↔ ins = true) ∧ (∀ a ∈ ts, a ∈ l[i].f2 ∨ a = t) ∧ (∀ a ∈ l[i].f2, a ∈ ts ∨ a = t) ∧ ∀ k, 7000 ≤ k → shape_Put.f k n l l[i].f0 t ins = some (n, l.set i (putRel l[i] ts), 0) := by
  obtain ⟨q, b, hp, hb, hh, hq⟩ := has_at n l h i hi t ht
  obtain ⟨h1, h2, h3, h4⟩ := valid_facts n l h
  obtain ⟨_, g1, g2, g3⟩ := h4 _ (List.getElem_mem hi)
  obtain ⟨hs, hT⟩ := rel_sorted n _ ((valid_parts n l h).1 i hi)
  have hl : ∀ a ∈ l[i].f2, a.length = t.length := fun a ha => by have := (g2 a ha).1; omega
  have hcp : copyOk l ∧ t.length ≤ 100000 := ⟨⟨by omega, fun r hr => ⟨by have := max_valid n l h r hr; omega, fun x hx => by have := ((h4 r hr).2.2.1 x hx).1; have := (h4 r hr).2.1; omega⟩⟩, by omega⟩
  have hput : ∀ k, 7000 ≤ k → shape_Put.f k n l l[i].f0 t ins = putEnd n l (i : Int) (q : Int) t ins b := fun k hk => by
    unfold shape_Put.f
    rw [hh k hk, Option.bind_some]
    simp only [if_true]
    rw [elements_eq, ho, Option.bind_some, if_pos (show (!false) = true from rfl), if_pos hcp, find_at n l h i hi _ ht.symm, Option.bind_some, rdT_nat l i hi, hq k hk, Option.bind_some]
  have hin : (0 : Int) ≤ (i : Int) ∧ (i : Int) < (l.length : Int) := ⟨by omega, by omega⟩
  have hqn : ((q : Nat) : Int).toNat = q := Int.toNat_natCast q
  have htt := tup_of n t l[i].f1 ht ho
  unfold putEnd at hput
  rw [if_pos hin, rdT_nat l i hi, hqn, Int.toNat_natCast] at hput
  cases ins with
  | true =>
    cases b with
    | false =>
      have hnt : t ∉ l[i].f2 := fun e => by have := hb.2 e; cases this
      rw [if_pos (by rfl), if_pos ⟨by omega, by have := hp.1; omega⟩] at hput
      refine ⟨insAt l[i].f2 q t, ins_sorted hp hs t.length rfl hl hnt, fun a ha => ?_, ?_, fun a ha => ?_, fun a ha => ?_, hput⟩
      · rcases (ins_mem _ _ _ _).1 ha with rfl | ha
        · exact htt
        · exact hT a ha
      · simp [ins_mem]
      · exact ((ins_mem _ _ _ _).1 ha).elim Or.inr Or.inl
      · exact Or.inl ((ins_mem _ _ _ _).2 (Or.inr ha))
    | true =>
      rw [if_neg (by simp), if_neg (by simp)] at hput
      exact ⟨l[i].f2, hs, hT, by simp [hb.1 rfl], fun a ha => Or.inl ha, fun a ha => Or.inl ha, fun k hk => by rw [set_same l i hi]; exact hput k hk⟩
  | false =>
    cases b with
    | false =>
      have hnt : t ∉ l[i].f2 := fun e => by have := hb.2 e; cases this
      rw [if_neg (by simp), if_neg (by simp)] at hput
      exact ⟨l[i].f2, hs, hT, by simp [hnt], fun a ha => Or.inl ha, fun a ha => Or.inl ha, fun k hk => by rw [set_same l i hi]; exact hput k hk⟩
    | true =>
      obtain ⟨hql, hqe⟩ := hp.2.2.2.1 rfl
      rw [if_neg (by simp), if_pos (by rfl), if_pos ⟨by omega, by omega⟩] at hput
      refine ⟨delAt l[i].f2 q, List.Pairwise.sublist (del_sub _ _) hs, fun a ha => hT a ((del_sub _ _).subset ha), ?_, fun a ha => Or.inl ((del_sub _ _).subset ha), fun a ha => ?_, hput⟩
      · have := del_not hql hs
        rw [hqe] at this
        simp [this]
      · have := del_mem _ q hql a ha
        rwa [hqe] at this
theorem equal_eq (x y : List Int) (hx : x.length ≤ 1000) (k : Nat) (hk : 1001 ≤ k) : paraphrastref01_Equal.f k x y = some (x == y) := by
  unfold paraphrastref01_Equal.f
  by_cases h : (x.length : Int) = (y.length : Int)
  · rw [if_pos h]
    exact equal_all x y (by omega) hx x.length 0 k (by omega) (by omega)
  · rw [if_neg h, beq_eq_false_iff_ne.2 (fun e => h (by rw [e]))]
end Go.Proofs.YtfmpaofbnjlniaaGreatDoor.F
/- paraphrastref01.Sorted, by hand. -/
namespace Go.Proofs.YtfmpaofbnjlniaaGreatDoor.F
open Go.RowKit Go.Proofs.YtfmpaofbnjlniaaGreatDoorW.PrintWords Go.Proofs.YtfmpaofbnjlniaaGreatDoorW.PrintLast Go.Proofs.YtfmpaofbnjlniaaGreatDoorW.PrintMore
set_option linter.unusedVariables false
set_option linter.unusedSimpArgs false
/-- Where Sorted puts t among the first k of out. -/
def kFrom (out : List (List Int)) (t : List Int) : Nat → Nat
  | 0 => 0
  | k + 1 => if lexL t (rd_L2 out (k : Int)) = true then kFrom out t k else k + 1
def insOne (out : List (List Int)) (t : List Int) : List (List Int) :=
  if 0 < kFrom out t out.length ∧ rd_L2 out ((kFrom out t out.length : Int) - 1) = t then out else insAt out (kFrom out t out.length) t
def sortedB (l : List (List Int)) : List (List Int) := l.foldl insOne []
def sortOk (l : List (List Int)) : Prop := l.length ≤ 100000 ∧ ∀ t ∈ l, t.length = (l.headD []).length ∧ t.length ≤ 1000
instance (l : List (List Int)) : Decidable (sortOk l) := by unfold sortOk; infer_instance
def paraphrastref01_Sorted.f (l : List (List Int)) : Option (List (List Int)) := if sortOk l then some (sortedB l) else none
theorem kFrom_le (out : List (List Int)) (t : List Int) : ∀ k, kFrom out t k ≤ k
  | 0 => Nat.le_refl _
  | k + 1 => by
    unfold kFrom
    split
    · exact Nat.le_succ_of_le (kFrom_le out t k)
    · exact Nat.le_refl _
theorem insOne_mem (out : List (List Int)) (t a : List Int) (h : a ∈ insOne out t) : a ∈ out ∨ a = t := by
  unfold insOne at h
  split at h
  · exact Or.inl h
  · unfold insAt at h
    rw [List.mem_append, List.mem_append, List.mem_singleton] at h
    rcases h with (h | h) | h
    · exact Or.inl (List.mem_of_mem_take h)
    · exact Or.inr h
    · exact Or.inl (List.mem_of_mem_drop h)
theorem insOne_len (out : List (List Int)) (t : List Int) : (insOne out t).length ≤ out.length + 1 := by
  unfold insOne
  split
  · omega
  · unfold insAt; simp; omega
theorem sortedB_snoc (l : List (List Int)) (t : List Int) : sortedB (l ++ [t]) = insOne (sortedB l) t := by unfold sortedB; rw [List.foldl_append]; rfl
theorem sortedB_mem : ∀ (l : List (List Int)) (acc : List (List Int)) (a : List Int), a ∈ l.foldl insOne acc → a ∈ acc ∨ a ∈ l
  | [], acc, a, h => Or.inl h
  | t :: l, acc, a, h => by
    rcases sortedB_mem l (insOne acc t) a h with h | h
    · rcases insOne_mem acc t a h with h | h
      · exact Or.inl h
      · exact Or.inr (h ▸ List.mem_cons_self)
    · exact Or.inr (List.mem_cons_of_mem _ h)
theorem sortedB_len : ∀ (l : List (List Int)) (acc : List (List Int)), (l.foldl insOne acc).length ≤ acc.length + l.length
  | [], acc => Nat.le_refl _
  | t :: l, acc => by
    have h1 := sortedB_len l (insOne acc t)
    have h2 := insOne_len acc t
    simp only [List.foldl_cons, List.length_cons]
    omega
theorem less_eq (x y : List Int) (hl : x.length = y.length) (hx : x.length ≤ 1000) : paraphrastref01_Less.f 1001 x y = some (lexL x y) := by
  unfold paraphrastref01_Less.f
  exact less_all x y hl hx x.length 0 1001 (by omega) (by omega)
theorem equal_eq1 (x y : List Int) (hl : x.length = y.length) (hx : x.length ≤ 1000) : paraphrastref01_Equal.f 1001 x y = some (x == y) := by
  unfold paraphrastref01_Equal.f
  rw [if_pos (by omega)]
  exact equal_all x y hl hx x.length 0 1001 (by omega) (by omega)
theorem rd_mem (out : List (List Int)) (k : Nat) (h : k < out.length) : rd_L2 out (k : Int) ∈ out := by
  unfold rd_L2
  rw [Int.toNat_natCast, List.getD_eq_getElem?_getD, List.getElem?_eq_getElem h]
  exact List.getElem_mem h
/-- The row behind place q moved up by one. -/
theorem row_moved {w : World} {base g n cap q : Nat} {inner : List Value} (hown : w.ownsRow base 46 1 (.slice (some ⟨g, 0, none⟩) (n + 1) cap) (n + 1) inner) (hq : q ≤ n) :
    (w.setCells g (q + 1) ((inner.drop q).take (n - q))).ownsRow base 46 1 (.slice (some ⟨g, 0, none⟩) (n + 1) cap) (n + 1) (inner.take (q + 1) ++ (inner.drop q).take (n - q)) := by
  have hn : inner.length = n + 1 := by rw [hown.1, Nat.mul_one]
  rcases hown.2 with ⟨hv, h0⟩ | ⟨g', cap', cur, hv, hbg, hg, hnc, hcm, hcs, htake⟩
  · cases h0
  obtain ⟨rfl, rfl⟩ : g = g' ∧ cap = cap' := by injection hv with h2 h3 h4; injection h2 with h2; injection h2 with h2; exact ⟨h2, h4⟩
  rw [Nat.mul_one] at htake hcs
  have hclen : cur.toList.length = cap := by rw [Array.length_toList]; exact hcs
  have hdl : ((inner.drop q).take (n - q)).length = n - q := by rw [List.length_take, List.length_drop, hn]; omega
  have htl : (inner.take (q + 1)).length = q + 1 := by rw [List.length_take, hn]; omega
  have hlen3 : (inner.take (q + 1) ++ (inner.drop q).take (n - q)).length = (n + 1) * 1 := by rw [List.length_append, htl, hdl]; omega
  obtain ⟨c1, hc1, hz1, hl1⟩ := setCells_row ((inner.drop q).take (n - q)) (q + 1) w cur hg (by omega)
  refine ⟨hlen3, .inr ⟨g, cap, c1, rfl, hbg, hc1, hnc, hcm, by omega, ?_⟩⟩
  have e0 : cur.toList.take (q + 1) = inner.take (q + 1) := by
    have : (cur.toList.take (n + 1)).take (q + 1) = inner.take (q + 1) := by rw [htake]
    rwa [List.take_take, Nat.min_eq_left (by omega)] at this
  rw [hl1, e0, ← hlen3]
  exact List.take_left
theorem row_kept {w w1 : World} {base g m cap : Nat} {M : List Value} (hown : w.ownsRow base 46 1 (.slice (some ⟨g, 0, none⟩) m cap) m M) (hb : w1.heap[g]? = w.heap[g]?) : w1.ownsRow base 46 1 (.slice (some ⟨g, 0, none⟩) m cap) m M := by
  refine ⟨hown.1, ?_⟩
  rcases hown.2 with ⟨hv, h0⟩ | ⟨g', cap', cur, hv, hbg, hg, hr⟩
  · exact Or.inl ⟨hv, h0⟩
  · refine Or.inr ⟨g', cap', cur, hv, hbg, ?_, hr⟩
    obtain rfl : g = g' := by injection hv with h2 h3 h4; injection h2 with h2; injection h2 with h2
    exact hb.trans hg
theorem row_cell {w : World} {base g m cap q : Nat} {M : List Value} (hown : w.ownsRow base 46 1 (.slice (some ⟨g, 0, none⟩) m cap) m M) (hq : q < m) : ∃ x, w.cell? ⟨g, q, none⟩ = some x ∧ w.frozen? ⟨g, q, none⟩ = false := by
  rcases hown.2 with ⟨hv, h0⟩ | ⟨g', cap', cur, hv, hbg, hg, hnc, hcm, hcs, htake⟩
  · omega
  · obtain rfl : g = g' := by injection hv with h2 h3 h4; injection h2 with h2; injection h2 with h2
    obtain rfl : cap = cap' := by injection hv
    exact ⟨cur[q]'(by omega), by simp [World.cell?, hg], by simp [World.frozen?, hg]⟩
theorem row_put {w : World} {base g m cap q : Nat} {M : List Value} {vx : Value} (hown : w.ownsRow base 46 1 (.slice (some ⟨g, 0, none⟩) m cap) m M) (hq : q < m) :
    (w.setCell ⟨g, q, none⟩ vx).ownsRow base 46 1 (.slice (some ⟨g, 0, none⟩) m cap) m (M.take q ++ [vx] ++ M.drop (q + 1)) ∧ w.grownBy (w.setCell ⟨g, q, none⟩ vx) (some g) := by
  have hn : M.length = m := by rw [hown.1, Nat.mul_one]
  rcases hown.2 with ⟨hv, h0⟩ | ⟨g', cap', cur, hv, hbg, hg, hnc, hcm, hcs, htake⟩
  · omega
  obtain ⟨rfl, rfl⟩ : g = g' ∧ cap = cap' := by injection hv with h2 h3 h4; injection h2 with h2; injection h2 with h2; exact ⟨h2, h4⟩
  rw [Nat.mul_one] at htake hcs
  have hclen : cur.toList.length = cap := by rw [Array.length_toList]; exact hcs
  have htl : (M.take q).length = q := by rw [List.length_take, hn]; omega
  have hdl : (M.drop (q + 1)).length = m - (q + 1) := by rw [List.length_drop, hn]
  have hlen3 : (M.take q ++ [vx] ++ M.drop (q + 1)).length = m * 1 := by simp only [List.length_append, List.length_singleton, htl, hdl]; omega
  obtain ⟨c1, hc1, hz1, hl1⟩ := setCells_row [vx] q w cur hg (by simp; omega)
  obtain ⟨s1, s2, s3, s4⟩ := setCells_same g [vx] q w
  show (w.setCells g q [vx]).ownsRow base _ 1 _ _ _ ∧ w.grownBy (w.setCells g q [vx]) (some g)
  refine ⟨⟨hlen3, .inr ⟨g, cap, c1, rfl, hbg, hc1, hnc, hcm, by omega, ?_⟩⟩, ⟨s1, s2, s3, Nat.le_of_eq s4.symm, fun k hk hkr => ?_⟩⟩
  · have e0 : cur.toList.take q = M.take q := by
      have : (cur.toList.take m).take q = M.take q := by rw [htake]
      rwa [List.take_take, Nat.min_eq_left (by omega)] at this
    have e1 : (cur.toList.drop (q + 1)).take (m - (q + 1)) = M.drop (q + 1) := by
      have : (cur.toList.take m).drop (q + 1) = M.drop (q + 1) := by rw [htake]
      rwa [List.drop_take] at this
    have e2 : cur.toList.drop (q + 1) = M.drop (q + 1) ++ (cur.toList.drop (q + 1)).drop (m - (q + 1)) := by rw [← e1, List.take_append_drop]
    rw [hl1, List.length_singleton, e0, e2, ← List.append_assoc, Nat.mul_one]
    exact List.take_left' (by rw [hlen3, Nat.mul_one])
  · have hkg : k ≠ g := fun e => hkr (by rw [e])
    exact setCells_far [vx] q k hkg
set_option maxHeartbeats 4000000 in
set_option maxRecDepth 100000 in
theorem sorted_calls (A : Option Addr) (c : Nat) (l : List (List Int)) (w : World) (hC : tK.C w A l.length l) (hlc : l.length ≤ c) (hok : sortOk l) :
    Calls Tryz.prog 62 #[.slice A l.length c] w fun e w' => ∃ v, e = .returned v ∧ tK.R 46 w' w.heap.size (fun _ => True) v (sortedB l) ∧ Below w.heap.size w w' := by
  have HC := Aside0.mk hC
  have HL := Aside0.mk hlc
  have HOK := Aside0.mk hok
  have hl0 := hok.1
  clear hC hlc hok
  go_enter Tryz.func62, Tryz.ntmps62
  go_wp2
  go_loopw [3, 4] (fun v3 v4 wr => ∃ (i : Nat) (vo : Value), v4 = .int .i64 i ∧ v3 = vo ∧ i ≤ l.length ∧ Aside0 (tK.R 46 wr w.heap.size (fun _ => True) vo (sortedB (l.take i))) ∧ Aside0 (Below w.heap.size w wr)) (fun _ v4 _ => l.length - (intOf v4).toNat)
  case atStart => exact ⟨0, .slice none 0 0, rfl, rfl, Nat.zero_le _, ⟨Kd.R_nil _ _ _ _ _⟩, ⟨Below.refl _ _⟩⟩
  case round =>
    obtain ⟨i, vo, rfl, rfl, hi, HR, HB⟩ := hrel
    generalize wr = wq at *
    by_cases hlt : i < l.length
    · obtain ⟨ad, A3, c3, hA, hx, hl3, hi3⟩ := at_L2 HC.out (i : Int) (by omega) (by omega)
      subst hA
      simp only [Int.toNat_natCast] at hx
      have hri : rd_L2 l (i : Int) = l[i] := by unfold rd_L2; rw [Int.toNat_natCast, List.getD_eq_getElem?_getD, List.getElem?_eq_getElem hlt]; rfl
      rw [hri] at hx hl3 hi3
      have HTI := Aside0.mk (show l[i]? = some l[i] from List.getElem?_eq_getElem hlt)
      have htm := HOK.out.2 l[i] (List.getElem_mem hlt)
      have hout : ∀ a ∈ sortedB (l.take i), a.length = l[i].length ∧ a.length ≤ 1000 := fun a ha => by
        rcases sortedB_mem (l.take i) [] a ha with h | h
        · cases h
        · have := HOK.out.2 a (List.mem_of_mem_take h)
          exact ⟨this.1.trans htm.1.symm, this.2⟩
      have hol : (sortedB (l.take i)).length ≤ 100000 := by
        have := sortedB_len (l.take i) []
        rw [List.length_take] at this
        unfold sortedB
        simp only [List.length_nil] at this
        omega
      have hsn : sortedB (l.take (i + 1)) = insOne (sortedB (l.take i)) l[i] := by rw [take_snoc' HTI.out, sortedB_snoc]
      generalize l[i] = t at *
      generalize sortedB (l.take i) = out at *
      have HSN := Aside0.mk hsn
      have HOUT := Aside0.mk hout
      have HT := Aside0.mk hi3
      have HTM := Aside0.mk htm
      clear htm
      have HL3 := Aside0.mk hl3
      have y0 := hx
      clear hi3 hl3 hri hsn hout
      obtain ⟨Ao, co, hvo⟩ := Kd.R_slice HR.out
      subst hvo
      go_wp2
      go_loopw [5] (fun v5 wl => ∃ (k : Nat), v5 = .int .i64 k ∧ k ≤ out.length ∧ Aside0 (kFrom out t out.length = kFrom out t k) ∧ Aside0 (tK.R 46 wl w.heap.size (fun _ => True) (.slice Ao out.length co) out) ∧ Aside0 (Below w.heap.size w wl)) (fun v5 _ => (intOf v5).toNat)
      case atStart => exact ⟨out.length, rfl, Nat.le_refl _, ⟨rfl⟩, HR, HB⟩
      case round =>
        clear HR HB
        obtain ⟨k, rfl, hk, HK, HR, HB⟩ := hrel
        generalize wr = wl at *
        go_upto_region 6 with (fail)
        go_cut [27] from 14 to 29 (fun v27 wc => v27 = .bool (decide (0 < k ∧ lexL t (rd_L2 out ((k : Int) - 1)) = true)) ∧ Aside0 (tK.R 46 wc w.heap.size (fun _ => True) (.slice Ao out.length co) out) ∧ Aside0 (Below w.heap.size w wc))
        case first =>
          by_cases hk0 : k = 0
          · subst hk0
            go_quiet (fail)
            go_wp2
            go_meet
            exact ⟨by simp, ⟨Kd.R_drewN HR.out _⟩, ⟨pw_below_drewN HB.out _⟩⟩
          · obtain ⟨k', rfl⟩ : ∃ k', k = k' + 1 := ⟨k - 1, by omega⟩
            have hp : decide (0 < ((k' + 1 : Nat) : Int)) = true := by simp
            obtain ⟨ad2, A2, c2, hA2, hz, hl2, hi2⟩ := at_L2 (Kd.R_reads' HR.out).2.2 (k' : Int) (by omega) (by omega)
            subst hA2
            simp only [Int.toNat_natCast] at hz
            replace hx := (HB.out.cell (World.block_lt_of_cell? w _ y0)).trans y0
            have hless := Aside0.mk (less_eq t (rd_L2 out (k' : Int)) (HOUT.out _ (rd_mem out k' (by omega))).1.symm HTM.out.2)
            have hC3 := Kd.C_below HT.out HB.out
            go_quiet ((go_at_call 77; (with_reducible refine (paraphrastref01_Less.calls 1001 A3 c3 t A2 c2 (rd_L2 out (k' : Int)) (lexL t (rd_L2 out (k' : Int))) _ ?side1 ?side2 ?side3 ?side4 hless.out).mono ?_); (case side1 => repeat (first | exact hC3 | (with_reducible refine Kd.C_drewN ?_ _) | (with_reducible refine Kd.C_drew ?_))); (case side2 => exact HL3.out); (case side3 => repeat (first | exact hi2 | (with_reducible refine Kd.C_drewN ?_ _) | (with_reducible refine Kd.C_drew ?_))); (case side4 => exact hl2); rintro e w' ⟨rfl, ⟨nd, rfl⟩⟩; (first | exact ⟨rfl, _, World.drewN_drewN _ _ _⟩ | exact ⟨rfl, _, Eq.trans (World.drewN_drewN _ _ _) (congrArg (World.drewN _) (Nat.add_assoc _ _ _))⟩)))
            go_wp2
            go_meet
            exact ⟨by rw [show ((k' + 1 : Nat) : Int) - 1 = (k' : Int) from by omega]; simp, ⟨Kd.R_drewN HR.out _⟩, ⟨pw_below_drewN HB.out _⟩⟩
        case rest =>
          clear HR HB
          obtain ⟨rfl, HR, HB⟩ := hcut
          obtain ⟨bb, hbb⟩ : ∃ bb, decide (0 < k ∧ lexL t (rd_L2 out ((k : Int) - 1)) = true) = bb := ⟨_, rfl⟩
          rw [hbb]
          cases bb with
          | true =>
            have hgo := of_decide_eq_true hbb
            clear hbb
            obtain ⟨k', rfl⟩ : ∃ k', k = k' + 1 := ⟨k - 1, by omega⟩
            have hk1 : kFrom out t (k' + 1) = kFrom out t k' := by
              have h2 := hgo.2
              rw [show ((k' + 1 : Nat) : Int) - 1 = (k' : Int) from by omega] at h2
              show (if lexL t (rd_L2 out (k' : Int)) = true then kFrom out t k' else k' + 1) = _
              rw [if_pos h2]
            go_wp2
            go_roundw
            · exact ⟨k', by simp, by omega, ⟨HK.out.trans hk1⟩, HR, HB⟩
            · simp [intOf]
          | false =>
            have hgo := of_decide_eq_false hbb
            clear hbb
            have hkf : kFrom out t k = k := by
              cases k with
              | zero => rfl
              | succ k' =>
                show (if lexL t (rd_L2 out (k' : Int)) = true then kFrom out t k' else k' + 1) = _
                rw [if_neg (fun h2 => hgo ⟨by omega, by rw [show ((k' + 1 : Nat) : Int) - 1 = (k' : Int) from by omega]; exact h2⟩)]
            have HKF := Aside0.mk (HK.out.trans hkf)
            clear HK hgo hkf
            go_upto_region 8 with (fail)
            go_cut [43] from 6 to 63 (fun v43 wc => v43 = .bool (decide (0 < k ∧ rd_L2 out ((k : Int) - 1) = t)) ∧ Aside0 (tK.R 46 wc w.heap.size (fun _ => True) (.slice Ao out.length co) out) ∧ Aside0 (Below w.heap.size w wc))
            case first =>
              by_cases hk0 : k = 0
              · subst hk0
                go_quiet (fail)
                go_wp2
                go_meet
                exact ⟨by simp, ⟨Kd.R_drewN HR.out _⟩, ⟨pw_below_drewN HB.out _⟩⟩
              · obtain ⟨k', rfl⟩ : ∃ k', k = k' + 1 := ⟨k - 1, by omega⟩
                have hp : decide (0 < ((k' + 1 : Nat) : Int)) = true := by simp
                obtain ⟨ad2, A2, c2, hA2, hz, hl2, hi2⟩ := at_L2 (Kd.R_reads' HR.out).2.2 (k' : Int) (by omega) (by omega)
                subst hA2
                simp only [Int.toNat_natCast] at hz
                replace hx := (HB.out.cell (World.block_lt_of_cell? w _ y0)).trans y0
                have hless := Aside0.mk (equal_eq1 (rd_L2 out (k' : Int)) t (HOUT.out _ (rd_mem out k' (by omega))).1 (HOUT.out _ (rd_mem out k' (by omega))).2)
                have hC3 := Kd.C_below HT.out HB.out
                go_quiet ((go_at_call 41; (with_reducible refine (paraphrastref01_Equal.calls 1001 A2 c2 (rd_L2 out (k' : Int)) A3 c3 t (rd_L2 out (k' : Int) == t) _ ?side1 ?side2 ?side3 ?side4 hless.out).mono ?_); (case side3 => repeat (first | exact hC3 | (with_reducible refine Kd.C_drewN ?_ _) | (with_reducible refine Kd.C_drew ?_))); (case side4 => exact HL3.out); (case side1 => repeat (first | exact hi2 | (with_reducible refine Kd.C_drewN ?_ _) | (with_reducible refine Kd.C_drew ?_))); (case side2 => exact hl2); rintro e w' ⟨rfl, ⟨nd, rfl⟩⟩; (first | exact ⟨rfl, _, World.drewN_drewN _ _ _⟩ | exact ⟨rfl, _, Eq.trans (World.drewN_drewN _ _ _) (congrArg (World.drewN _) (Nat.add_assoc _ _ _))⟩)))
                go_wp2
                go_meet
                refine ⟨?_, ⟨Kd.R_drewN HR.out _⟩, ⟨pw_below_drewN HB.out _⟩⟩
                rw [show ((k' + 1 : Nat) : Int) - 1 = (k' : Int) from by omega]
                by_cases he : rd_L2 out (k' : Int) = t
                · simp [he]
                · simp [he]
            case rest =>
              clear HR HB
              obtain ⟨rfl, HR, HB⟩ := hcut
              obtain ⟨bb, hbb⟩ : ∃ bb, decide (0 < k ∧ rd_L2 out ((k : Int) - 1) = t) = bb := ⟨_, rfl⟩
              rw [hbb]
              cases bb with
              | true =>
                have hgo := of_decide_eq_true hbb
                clear hbb
                have hio : insOne out t = out := if_pos (by rw [HKF.out]; exact hgo)
                have HIO := Aside0.mk (HSN.out.trans hio)
                clear hio hgo
                go_wp2
                go_roundw
                · exact ⟨i + 1, _, by simp, rfl, hlt, ⟨by rw [HIO.out]; exact HR.out⟩, HB⟩
                · simp [intOf]; omega
              | false =>
                have hgo := of_decide_eq_false hbb
                clear hbb
                have hio : insOne out t = insAt out k t := (if_neg (by rw [HKF.out]; exact hgo)).trans (by rw [HKF.out])
                have HIO := Aside0.mk (HSN.out.trans hio)
                clear hio hgo
                go_upto_region 10 with (first | ((with_reducible refine gate_builtin (b := .append) (xs := #[.tmp 44, .tmp 45]) rfl ?_); at_builtin; refine Kd.R_append tK (w0 := w) w.heap.size rfl (.tmp 44) (.tmp 45) 50 46 (.slice none 0 0) 24 rfl Tryz.underlying50 infoInts rfl (by decide) (by omega) (.slice Ao out.length co) out [] [.slice none 0 0] (fun _ => True) (fun k_ => True ∧ some k_ ≠ (Value.slice Ao out.length co).ownBlock) rfl rfl ?aP (fun _ hk => hk) ?aF ?aO ?aB ?aS ?aL ?_; (case aP => exact Kd.M_row (Kd.R_nil _ _ _ _ _)); (case aF => exact fun _ _ => trivial); (case aO => exact HR.out); (case aB => exact HB.out); (case aS => exact HB.out.size); (case aL => omega); intro v7 w7 ho hb hg hat; have n0_ := Aside0.mk ho; have n1_ := Aside0.mk hb; clear ho hb hg hat))
                obtain ⟨g, cap, ev7, hgw, hg7, cur0, hcur0⟩ := Kd.R_form n0_.out (by simp)
                subst ev7
                have hl1 : (out ++ [[]]).length = out.length + 1 := by simp
                rw [hl1] at n0_ ⊢
                obtain ⟨h07, inner, hown, hr⟩ := n0_.out
                rw [hl1] at hown
                replace hown : w7.ownsRow w.heap.size 46 1 (.slice (some ⟨g, 0, none⟩) (out.length + 1) cap) (out.length + 1) inner := hown
                have HOWN := Aside0.mk hown
                have HREP := Aside0.mk hr
                have HB7 := Aside0.mk n1_.out
                clear hr h07 n0_ n1_ HR HB hcur0
                obtain ⟨n, hn⟩ : ∃ n, out.length = n := ⟨_, rfl⟩
                have HN := Aside0.mk hn
                rw [hn] at hk hol hown HOWN ⊢
                clear hn
                have hil : inner.length = n + 1 := by rw [hown.1, Nat.mul_one]
                rcases hown.2 with ⟨hv, h0⟩ | ⟨g', cap', cur, hv, hbg, hg, hnc, hcm, hcs, htake⟩
                · cases h0
                obtain ⟨rfl, rfl⟩ : g = g' ∧ cap = cap' := by injection hv with h2 h3 h4; injection h2 with h2; injection h2 with h2; exact ⟨h2, h4⟩
                clear hv hbg hown
                rw [Nat.mul_one] at htake hcs
                have hclen : cur.toList.length = cap := by rw [Array.length_toList]; exact hcs
                have hcell : ∀ j v, inner[j]? = some v → w7.cell? ⟨g, j, none⟩ = some v := by
                  intro j v hj
                  rw [← htake, List.getElem?_take] at hj
                  split at hj
                  · rw [Array.getElem?_toList] at hj; simp [World.cell?, hg, hj]
                  · cases hj
                have hsz : (Tryz.prog.info? 46).map (·.size) = some 1 := by
                  obtain ⟨i0, hi0, h0, h1, h2⟩ := info_parts infoInts
                  rw [hi0]; simp [h1]
                have hsome : ∀ j, j < n + 1 → (w7.cell? ⟨g, j, none⟩).isSome = true := fun j hj => by simp [World.cell?, hg]; omega
                have hfz : ∀ j, w7.frozen? ⟨g, j, none⟩ = false := fun j => by simp [World.frozen?, hg]
                obtain ⟨cs, hcsd⟩ : ∃ cs, cs = (inner.drop k).take (n - k) := ⟨_, rfl⟩
                have hcl : cs.length = n - k := by rw [hcsd, List.length_take, List.length_drop, hil]; omega
                have hone : ∀ v ∈ cs, v.oneCell' = true := fun v hv => tK_one HREP.out v (List.mem_of_mem_drop (List.mem_of_mem_take (hcsd ▸ hv)))
                have HCP := Aside0.mk (show ∀ ty db dl dc sl sc, (k < n → db = k + 1) → dl = n + 1 - (k + 1) → sl = n + 1 - k → (Builtin.copy_ #[50, 50] ty #[.slice (some ⟨g, db, none⟩) dl dc, .slice (some ⟨g, k, none⟩) sl sc]).run Tryz.prog w7.drew = .ok (goInt cs.length) (w7.drew.setCells g (k + 1) cs) from fun ty db dl dc sl sc hdb hdl hsl => by
                  subst hdl hsl
                  have hrun := run_copy_cells w7.drew 50 50 ty 46 g db (n + 1 - (k + 1)) dc ⟨g, k, none⟩ (n + 1 - k) sc cs Tryz.underlying50 hsz (by rw [hcl]; simp only [Nat.min_def]; split <;> omega)
                    (fun j v hj => by
                      rw [Addr.add_lit]
                      refine hcell (k + j) v ?_
                      rw [hcsd, List.getElem?_take, List.getElem?_drop] at hj
                      split at hj
                      · exact hj
                      · cases hj)
                    (fun j hj => by rw [hcl] at hj; rw [hdb (by omega)]; exact hsome _ (by omega)) (fun j hj => hfz _) hone
                  rw [hrun]
                  by_cases hkn : k < n
                  · rw [hdb hkn]
                  · have : cs = [] := List.eq_nil_of_length_eq_zero (by omega)
                    subst this
                    rfl)
                have HOWN2 := Aside0.mk (row_moved HOWN.out hk)
                have hw1 : IntKind.i64.wrap ((k : Int) + 1) = (k : Int) + 1 := by rw [IntKind.wrap_i64]; omega
                have hb1 : (0 : Int) ≤ (k : Int) + 1 := by omega
                have hb2 : ¬ (cap = k) := by omega
                have hb3 : (k : Int) ≤ (n : Int) + 1 := by omega
                have hb5 : (k : Int) + 1 ≤ (n : Int) + 1 := by omega
                have htn : ((k : Int) + 1).toNat = k + 1 := by omega
                clear hcell hsz hcl hone hclen htake hil hcs hg hsome hfz
                go_cut [] from 6 to 63 (fun wc => wc = w7.drew.setCells g (k + 1) cs)
                case first =>
                  by_cases hb4 : cap = k + 1
                  · obtain rfl : n = k := by omega
                    subst hb4
                    go_region_law (refine step_copy_runI rfl _ _ 50 50 rfl (.slice (some ⟨g, 0, none⟩) 0 0) (.slice (some ⟨g, n, none⟩) 1 1) (by simp [Act.eval, Act.put]) (by simp [Act.eval, Act.put]) (HCP.out _ _ _ _ _ _ (by omega) (by omega) (by omega)) ?_)
                    go_wp2
                    go_meet
                    simp [hcsd]
                  · go_region_law (refine step_copy_runI rfl _ _ 50 50 rfl (.slice (some ⟨g, k + 1, none⟩) (n + 1 - (k + 1)) (cap - (k + 1))) (.slice (some ⟨g, k, none⟩) (n + 1 - k) (cap - k)) (by simp [Act.eval, Act.put]) (by simp [Act.eval, Act.put]) (HCP.out _ _ _ _ _ _ (by omega) (by omega) (by omega)) ?_)
                    go_wp2
                    go_meet
                    rw [hcsd]
                case rest =>
                  have hW1 : ∃ W1, W1 = w7.drew.setCells g (k + 1) cs := ⟨_, rfl⟩
                  obtain ⟨W1, hW1⟩ := hW1
                  rw [← hW1] at hcut
                  subst hcut
                  obtain ⟨s1, s2, s3, s4⟩ := setCells_same g cs (k + 1) w7.drew
                  have hfar : ∀ q, q ≠ g → wc.heap[q]? = w7.heap[q]? := fun q hq => by rw [hW1]; exact setCells_far (w := w7.drew) cs (k + 1) q hq
                  have hsz : wc.heap.size = w7.heap.size := by rw [hW1]; exact s4
                  have HBW := Aside0.mk (show Below w.heap.size w wc from ⟨by rw [hW1, s1]; exact HB7.out.os, by rw [hW1, s2]; exact HB7.out.tape, by rw [hW1, s3]; exact HB7.out.output, by rw [hsz]; exact HB7.out.size, fun q hq => (hfar q (by omega)).trans (HB7.out.block q hq)⟩)
                  have HOWN3 := Aside0.mk (show wc.ownsRow w.heap.size 46 1 (.slice (some ⟨g, 0, none⟩) (n + 1) cap) (n + 1) (inner.take (k + 1) ++ (inner.drop k).take (n - k)) from by rw [hW1, hcsd]; exact row_moved (w := w7.drew) HOWN.out hk)
                  have HFAR := Aside0.mk hfar
                  have hgc : g < wc.heap.size := by omega
                  have HSZ := Aside0.mk hsz
                  clear s1 s2 s3 s4 hfar hsz hW1 HOWN2 HCP hcsd HB7
                  generalize wc = W1 at *
                  have hb6 : (k : Int) < (n : Int) + 1 := by omega
                  have hx := (HBW.out.cell (World.block_lt_of_cell? w _ y0)).trans y0
                  go_wp2_with (first | ((with_reducible refine gate_dst (N := 57) rfl ?_); refine Kd.R_lit (Kd.int .i64) _ 3 ?hg (N := 57) ?hd (xs := ([] : List Int)) (inner := []) (ok := fun _ => True) (okp := fun _ => True) ?hr ?hp (fun _ hk => hk) trivial (Below.refl _ _) (Nat.le_refl _) (by simp) ?_; (case hd => rfl); (case hg => rfl); (case hr => first | (go_simp; done) | (go_simp; rfl)); (case hp => exact (Reps.none _ _)); intro v8 w8 ho7 hb hg_ hnew_; have n0_ := Aside0.mk ho7; have n1_ := Aside0.mk hb; clear ho7 hb hg_ hnew_; replace hx := (n1_.out.cell (World.block_lt_of_cell? _ _ hx)).trans hx) | ((with_reducible refine gate_builtin (b := .append) (xs := #[.tmp 57, .tmp 61]) rfl ?_); at_builtin; refine Kd.R_append_rows (Kd.int .i64) (w0 := W1) W1.heap.size rfl (.tmp 57) (.tmp 61) 46 3 (.int .i64 0) 8 rfl Tryz.underlying46 info3 rfl (by decide) (by omega) v8 [] t A3 t.length c3 (fun _ => True) (fun _ => False) rfl rfl ?aO ?aR (fun _ _ h => h) (fun _ h => h.elim) ?aF ?aB ?aS ?aL ?_; (case aR => exact Kd.C_below HT.out (below_step HBW.out n1_.out)); (case aB => exact n1_.out); (case aF => exact (fun _ _ => trivial)); (case aO => exact n0_.out); (case aS => exact n1_.out.size); (case aL => have := HTM.out.2; simp only [List.length_nil]; omega); intro v9 w9 ho hb hg hat; have n2_ := Aside0.mk ho; have n3_ := Aside0.mk hb; clear ho hb hg hat; have n4_ := Aside0.mk (row_kept HOWN3.out (n3_.out.block g hgc)); obtain ⟨x9, hc9, hf9⟩ := row_cell n4_.out (q := k) (by omega); obtain ⟨A9, c9, e9⟩ := Kd.R_slice n2_.out; subst e9))
                  rw [List.nil_append] at n2_
                  have hwg : w.heap.size ≤ g := hgw
                  have hw1w := HBW.out.size
                  have hmv : ∀ q, q ≠ g → q < w7.heap.size → w9.heap[q]? = w7.heap[q]? := fun q hq hlt2 => (n3_.out.block q (by rw [HSZ.out]; exact hlt2)).trans (HFAR.out q hq)
                  obtain ⟨hp1, hp2⟩ := row_put (vx := .slice A9 t.length c9) n4_.out (q := k) (by omega)
                  have hrep : Reps (tK.M w9 w.heap.size (fun k_ => True ∧ some k_ ≠ (Value.slice (some ⟨g, 0, none⟩) (n + 1) cap).ownBlock)) 1 (out ++ [[]]) inner := HREP.out.imp_ (fun q c hq => Kd.M_step hq (fun k_ hk_ hlt2 => hmv k_ (fun e => hk_.2 (by rw [e]; rfl)) hlt2))
                  have hne9 : ∀ k_, W1.heap.size ≤ k_ → some k_ ≠ (Value.slice (some ⟨g, 0, none⟩) (n + 1) cap).ownBlock := fun k_ hk_ e => by injection e with e; subst e; omega
                  have r1 : Reps (tK.M w9 w.heap.size (fun k_ => True ∧ some k_ ≠ (Value.slice (some ⟨g, 0, none⟩) (n + 1) cap).ownBlock)) 1 [t] [.slice A9 t.length c9] := Reps.one (Kd.M_row (Kd.R_lower (Kd.R_mono (Kd.R_bound n2_.out) (fun k_ hk_ => ⟨trivial, hne9 k_ hk_.2.1⟩)) hw1w)) (Reps.none _ _)
                  have hil : inner.length = n + 1 := by rw [HOWN.out.1, Nat.mul_one]
                  have hon := HN.out
                  have hr' := Kd.reps_append (Kd.reps_append (Kd.reps_take (m := k) hrep (by rw [List.length_append, hon]; omega)) r1) (Kd.reps_take (m := n - k) (Kd.reps_drop (m := k) hrep) (by rw [List.length_drop, List.length_append, hon, List.length_singleton]; omega))
                  simp only [Nat.mul_one] at hr'
                  rw [List.take_append_of_le_length (by omega), List.drop_append_of_le_length (by omega), List.take_append_of_le_length (by rw [List.length_drop]; omega), List.take_of_length_le (l := out.drop k) (by rw [List.length_drop]; omega)] at hr'
                  have em : (inner.take (k + 1) ++ (inner.drop k).take (n - k)).take k ++ [.slice A9 t.length c9] ++ (inner.take (k + 1) ++ (inner.drop k).take (n - k)).drop (k + 1) = inner.take k ++ [.slice A9 t.length c9] ++ (inner.drop k).take (n - k) := by
                    rw [List.take_append_of_le_length (by rw [List.length_take]; omega), List.take_take, Nat.min_eq_left (by omega), List.drop_left' (by rw [List.length_take]; omega)]
                  rw [em] at hp1
                  have hlen : (insAt out k t).length = n + 1 := by simp [insAt]; omega
                  have HFIN := Aside0.mk (rowed (w := w9) (ok := fun _ => True) (ts' := insAt out k t) (fun _ _ => trivial) (fun _ _ => trivial) hr' (by rw [hlen]; exact hp1) hp2 (Or.inl rfl))
                  have HBF := Aside0.mk (below_set (j := k) (v := .slice A9 t.length c9) (below_step HBW.out n3_.out) hwg)
                  go_roundw
                  · exact ⟨i + 1, _, by simp, rfl, hlt, ⟨by rw [HIO.out]; exact HFIN.out⟩, HBF⟩
                  · simp [intOf]; omega
    · obtain rfl : i = l.length := by omega
      rw [List.take_length] at HR
      go_wp2
      go_ret
      exact ⟨_, rfl, HR.out, HB.out⟩
theorem paraphrastref01_Sorted.calls (A0 : Option Addr) (c0 : Nat) (l0 : List (List Int)) (r1 : List (List Int)) (w : World) (hr0 : Kd.C (Kd.slice 3 (Kd.int .i64)) w A0 l0.length l0) (hc0 : l0.length ≤ c0) (h : paraphrastref01_Sorted.f l0 = some r1) :
    Calls Tryz.prog 62 #[.slice A0 l0.length c0] w fun e w' => ∃ v0_ : Value, e = .returned v0_ ∧ Kd.R (Kd.slice 3 (Kd.int .i64)) 46 w' w.heap.size (fun _ => True) v0_ r1 ∧ Below w.heap.size w w' := by
  unfold paraphrastref01_Sorted.f at h
  split at h
  · rename_i hok
    obtain rfl := Option.some.inj h
    exact sorted_calls A0 c0 l0 w hr0 hc0 hok
  · cases h
end Go.Proofs.YtfmpaofbnjlniaaGreatDoor.F
/- Sorted: what it answers. -/
namespace Go.Proofs.YtfmpaofbnjlniaaGreatDoor.F
open Go.RowKit Go.Proofs.YtfmpaofbnjlniaaGreatDoorW.PrintWords Go.Proofs.YtfmpaofbnjlniaaGreatDoorW.PrintLast Go.Proofs.YtfmpaofbnjlniaaGreatDoorW.PrintMore
set_option linter.unusedVariables false
theorem lex_asym (x y : List Int) (hl : x.length = y.length) (h : lexL x y = true) : lexL y x = false := by
  cases h2 : lexL y x with
  | false => rfl
  | true => have := lex_trans x y x hl hl.symm h h2; rw [lex_irr] at this; cases this
theorem sorted_ext (m : Nat) : ∀ (xs ys : List (List Int)), Sorted xs → Sorted ys → (∀ a ∈ xs, a.length = m) → (∀ a ∈ ys, a.length = m) → (∀ a, a ∈ xs ↔ a ∈ ys) → xs = ys
  | [], [], _, _, _, _, _ => rfl
  | [], y :: ys, _, _, _, _, h => by have := (h y).2 List.mem_cons_self; cases this
  | x :: xs, [], _, _, _, _, h => by have := (h x).1 List.mem_cons_self; cases this
  | x :: xs, y :: ys, h1, h2, l1, l2, h => by
    have hx := List.pairwise_cons.1 h1
    have hy := List.pairwise_cons.1 h2
    have lx := l1 x List.mem_cons_self
    have ly := l2 y List.mem_cons_self
    have e : x = y := by
      rcases List.mem_cons.1 ((h x).1 List.mem_cons_self) with e | e1
      · exact e
      · rcases List.mem_cons.1 ((h y).2 List.mem_cons_self) with e | e2
        · exact e.symm
        · have a1 := hy.1 x e1
          have a2 := hx.1 y e2
          rw [lex_asym x y (lx.trans ly.symm) a2] at a1
          cases a1
    subst e
    have nx : x ∉ xs := fun e => by have := hx.1 x e; rw [lex_irr] at this; cases this
    have ny : x ∉ ys := fun e => by have := hy.1 x e; rw [lex_irr] at this; cases this
    congr 1
    refine sorted_ext m xs ys hx.2 hy.2 (fun a ha => l1 a (List.mem_cons_of_mem _ ha)) (fun a ha => l2 a (List.mem_cons_of_mem _ ha)) (fun a => ⟨fun ha => ?_, fun ha => ?_⟩)
    · rcases List.mem_cons.1 ((h a).1 (List.mem_cons_of_mem _ ha)) with e | e
      · exact absurd (e ▸ ha) nx
      · exact e
    · rcases List.mem_cons.1 ((h a).2 (List.mem_cons_of_mem _ ha)) with e | e
      · exact absurd (e ▸ ha) ny
      · exact e
theorem kFrom_facts (out : List (List Int)) (t : List Int) : ∀ (k : Nat) (hk : k ≤ out.length), (∀ j (hj : j < out.length), kFrom out t k ≤ j → j < k → lexL t out[j] = true) ∧ (∀ q, kFrom out t k = q + 1 → ∃ hq : q < out.length, lexL t out[q] = false)
  | 0, _ => ⟨fun j hj h1 h2 => by omega, fun q h => by cases h⟩
  | k + 1, hk => by
    obtain ⟨h1, h2⟩ := kFrom_facts out t k (by omega)
    have hr := rdL2_nat out k (by omega)
    unfold kFrom
    rw [hr]
    cases hb : lexL t out[k] with
    | true =>
      rw [if_pos rfl]
      refine ⟨fun j hj a b => ?_, h2⟩
      by_cases e : j = k
      · subst e; exact hb
      · exact h1 j hj a (by omega)
    | false =>
      rw [if_neg (by simp)]
      refine ⟨fun j hj a b => by omega, fun q e => ?_⟩
      obtain rfl : k = q := by omega
      exact ⟨by omega, hb⟩
theorem insOne_sorted (m : Nat) (out : List (List Int)) (t : List Int) (hs : Sorted out) (hl : ∀ a ∈ out, a.length = m) (ht : t.length = m) : Sorted (insOne out t) ∧ ∀ a, a ∈ insOne out t ↔ a = t ∨ a ∈ out := by
  obtain ⟨k1, k2⟩ := kFrom_facts out t out.length (Nat.le_refl _)
  have kl := kFrom_le out t out.length
  unfold insOne
  split
  · rename_i h
    refine ⟨hs, fun a => ⟨Or.inr, fun h' => h'.elim (fun e => ?_) id⟩⟩
    rw [e, ← h.2]
    have : ((kFrom out t out.length : Int) - 1) = ((kFrom out t out.length - 1 : Nat) : Int) := by omega
    rw [this]
    exact rd_mem out _ (by omega)
  · rename_i h
    have hdrop : ∀ a ∈ out.drop (kFrom out t out.length), lexL t a = true := fun a ha => by
      obtain ⟨j, hj, rfl⟩ := List.getElem_of_mem ha
      rw [List.getElem_drop]
      rw [List.length_drop] at hj
      exact k1 _ (by omega) (by omega) (by omega)
    have htake : ∀ a ∈ out.take (kFrom out t out.length), lexL a t = true := fun a ha => by
      obtain ⟨j, hj, rfl⟩ := List.getElem_of_mem ha
      rw [List.getElem_take]
      rw [List.length_take] at hj
      obtain ⟨q, hq⟩ : ∃ q, kFrom out t out.length = q + 1 := ⟨kFrom out t out.length - 1, by omega⟩
      obtain ⟨hql, hqf⟩ := k2 q hq
      have hne : t ≠ out[q] := fun e => h ⟨by omega, by rw [hq, show ((q + 1 : Nat) : Int) - 1 = (q : Int) by omega, rdL2_nat out q hql]; exact e.symm⟩
      have hqt := lex_tri t out[q] (by rw [ht, hl _ (List.getElem_mem hql)]) hqf hne
      by_cases e : j = q
      · subst e; exact hqt
      · have hjq := List.pairwise_iff_getElem.1 hs j q (by omega) hql (by omega)
        exact lex_trans _ _ _ (by rw [hl _ (List.getElem_mem _), hl _ (List.getElem_mem _)]) (by rw [hl _ (List.getElem_mem _), ht]) hjq hqt
    have hnot : t ∉ out := fun ht' => by
      rw [← List.take_append_drop (kFrom out t out.length) out] at ht'
      rcases List.mem_append.1 ht' with e | e
      · have := htake t e; rw [lex_irr] at this; cases this
      · have := hdrop t e; rw [lex_irr] at this; cases this
    have hp : PlaceOf out t (kFrom out t out.length) false := ⟨kl, htake, fun a ha => lex_asym t a (by rw [ht, hl a (List.mem_of_mem_drop ha)]) (hdrop a ha), ⟨fun e => (by cases e), fun ⟨hq, e⟩ => absurd (e ▸ List.getElem_mem hq) hnot⟩⟩
    exact ⟨ins_sorted hp hs m ht hl hnot, fun a => ins_mem _ _ _ _⟩
theorem sortedB_facts (m : Nat) : ∀ (l acc : List (List Int)), Sorted acc → (∀ a ∈ acc, a.length = m) → (∀ a ∈ l, a.length = m) → Sorted (l.foldl insOne acc) ∧ ∀ a, a ∈ l.foldl insOne acc ↔ a ∈ acc ∨ a ∈ l
  | [], acc, hs, _, _ => ⟨hs, fun a => by simp⟩
  | t :: l, acc, hs, h1, h2 => by
    obtain ⟨g1, g2⟩ := insOne_sorted m acc t hs h1 (h2 t List.mem_cons_self)
    obtain ⟨f1, f2⟩ := sortedB_facts m l (insOne acc t) g1 (fun a ha => ((g2 a).1 ha).elim (fun e => by rw [e]; exact h2 t List.mem_cons_self) (h1 a)) (fun a ha => h2 a (List.mem_cons_of_mem _ ha))
    refine ⟨f1, fun a => ?_⟩
    rw [List.foldl_cons, f2, g2, List.mem_cons]
    constructor
    · rintro ((h | h) | h)
      · exact Or.inr (Or.inl h)
      · exact Or.inl h
      · exact Or.inr (Or.inr h)
    · rintro (h | h | h)
      · exact Or.inl (Or.inr h)
      · exact Or.inl (Or.inl h)
      · exact Or.inr h
theorem sorted_eq (m : Nat) (hm : m ≤ 1000) (l : List (List Int)) (hl : ∀ a ∈ l, a.length = m) (hn : l.length ≤ 100000) : paraphrastref01_Sorted.f l = some (sortedB l) ∧ Sorted (sortedB l) ∧ ∀ a, a ∈ sortedB l ↔ a ∈ l := by
  obtain ⟨h1, h2⟩ := sortedB_facts m l [] List.Pairwise.nil (fun a ha => by cases ha) hl
  refine ⟨if_pos ⟨hn, fun t ht => ?_⟩, h1, fun a => (h2 a).trans (by simp)⟩
  cases l with
  | nil => cases ht
  | cons x l => exact ⟨by rw [hl t ht]; exact (hl x List.mem_cons_self).symm, by rw [hl t ht]; exact hm⟩
end Go.Proofs.YtfmpaofbnjlniaaGreatDoor.F
namespace Go.Proofs.YtfmpaofbnjlniaaGreatDoor.F
open Go.RowKit Go.Proofs.YtfmpaofbnjlniaaGreatDoorW.PrintWords Go.Proofs.YtfmpaofbnjlniaaGreatDoorW.PrintLast Go.Proofs.YtfmpaofbnjlniaaGreatDoorW.PrintMore
attribute [local go_sem] max2_int min2_int max_two min_two max_three min_three max_four min_four
set_option linter.unusedVariables false
set_option linter.unusedSimpArgs false
/-! ### paraphrastref01_Find: function 24 -/
def paraphrastref01_Find.l0 : Nat → ByteArray → Int → Int → List (S52) → Option (Int)
 | 0, _, _, _, _ => none
 | k + 1, x1, x5, x293000, x293001 => if x5 < (x293001.length : Int) then (if 0 ≤ x5 then (if ((rd_T52 x293001 x5).f0).toList = x1.toList then (some x5) else (paraphrastref01_Find.l0 k x1 (wrap64 (x5 + 1)) x293000 x293001)) else (none)) else (some (-1))
def paraphrastref01_Find.f (k : Nat) (a0_0 : Int) (l0_1 : List (S52)) (a1 : ByteArray) : Option (Int) := paraphrastref01_Find.l0 k a1 0 a0_0 l0_1
set_option maxHeartbeats 8000000 in
set_option maxRecDepth 100000 in
theorem paraphrastref01_Find.calls (k : Nat) (a0_0 : Int) (A0_1 : Option Addr) (c0_1 : Nat) (l0_1 : List (S52)) (a1 : ByteArray) (r : Int) (w : World) (hr0_1 : Kd.C k52 w A0_1 l0_1.length l0_1) (hc0_1 : l0_1.length ≤ c0_1) (h : paraphrastref01_Find.f k a0_0 l0_1 a1 = some r) :
  Calls Tryz.prog 24 #[.agg #[.int .i64 a0_0, .slice A0_1 l0_1.length c0_1], .string a1] w fun e w' => e = .returned (.int .i64 r) ∧ Below w.heap.size w w' := by
 have hu24 := Tryz.underlying24
 have HR0_1 := Aside0.mk hr0_1
 have HC0_1 := Aside0.mk hc0_1
 clear hr0_1 hc0_1
 have HB := Aside0.mk (Below.refl w.heap.size w)
 have H : (paraphrastref01_Find.l0 k a1 0 a0_0 l0_1) = some r := h
 clear h
 have H' := Aside0.mk H
 clear H
 go_enter Tryz.func24, Tryz.ntmps24
 go_wp2_with (first | ((with_reducible refine gate_dst (N := 2) rfl ?_); refine box_event ?hg (N := 2) ?hd (cs := #[.int .i64 a0_0, .slice A0_1 l0_1.length c0_1]) (t := 24) ?hr ?_; (case hd => rfl); (case hg => rfl); (case hr => first | (go_simp; done) | (go_simp; rfl)); intro gb292 hg w3 hbox hb; have BK292 := Aside0.mk (hbox); have GW292 := geB w hg; have GE292 := geB w hg; replace HB := Aside0.mk (below_step bel hb); clear hb hbox hg))
 go_loopg [5] k (fun kq v5 w' => ∃ (x5_1 : Int), v5 = .int .i64 x5_1 ∧ Aside0 (paraphrastref01_Find.l0 kq a1 x5_1 a0_0 l0_1 = some r) ∧ Aside0 (kq ≤ k) ∧ Aside0 (w'.heap[gb292]? = some (.cells #[.int .i64 a0_0, (.slice A0_1 l0_1.length c0_1)] 24 (0, 0))) ∧ Aside0 (Below w.heap.size w w'))
 case atStart => exact ⟨(0), eS, H', ⟨Nat.le_refl _⟩, ⟨bk BK292⟩, ⟨bel⟩⟩
 case round =>
  clear H'
  obtain ⟨x5_1, rfl, HA, HK1, BK292, HB⟩ := hrel
  cases gk with
  | zero => exact absurd HA.out (by simp [paraphrastref01_Find.l0])
  | succ k1 =>
   have H := HA.out
   clear HA
   simp only [paraphrastref01_Find.l0] at H
   by_cases c4 : x5_1 < (l0_1.length : Int)
   ·rw [if_pos c4] at H
    have c4b0 : decide (x5_1 < (l0_1.length : Int)) = true := decide_eq_true c4
    clear c4
    by_cases c5 : 0 ≤ x5_1
    ·rw [if_pos c5] at H
     have c5b0 : decide (0 ≤ x5_1) = true := decide_eq_true c5
     clear c5
     by_cases c6 : ((rd_T52 l0_1 x5_1).f0).toList = a1.toList
     ·rw [if_pos c6] at H
      have c6b0 : (((rd_T52 l0_1 x5_1).f0).toList == a1.toList) = true := beq_iff_eq.mpr c6
      have c6b1 : (((rd_T52 l0_1 x5_1).f0).toList != a1.toList) = false := bne_eq_false_iff_eq.mpr c6
      clear c6
      obtain rfl := Option.some.inj H
      obtain ⟨hcz7_0, hcz7_1, hfz7_0, hfz7_1⟩ := bq2 BK292
      have p293 : 0 ≤ (x5_1 : Int) := dtr
      have q293 : x5_1 < (l0_1.length : Int) := dtr
      obtain ⟨ad293, A293_2, c293_2, e293, hx293_0, hx293_1, hx293_2, hl293_2, hi293_2⟩ := at_T52 HR0_1.out x5_1 p293 q293
      cases e293
      replace hx293_0 := oc hx293_0
      replace hx293_1 := oc hx293_1
      replace hx293_2 := oc hx293_2
      have HR293_2 := Aside0.mk hi293_2
      have HC293_2 := Aside0.mk hl293_2
      clear hi293_2 hl293_2
      replace p293 := eq_true p293
      replace q293 := eq_true q293
      go_wp2
      go_ret
      exact ⟨eN, bel⟩
     ·rw [if_neg c6] at H
      have c6b0 : (((rd_T52 l0_1 x5_1).f0).toList == a1.toList) = false := beq_eq_false_iff_ne.mpr c6
      have c6b1 : (((rd_T52 l0_1 x5_1).f0).toList != a1.toList) = true := bne_iff_ne.mpr c6
      have H' := Aside0.mk H
      clear H
      obtain ⟨hcz8_0, hcz8_1, hfz8_0, hfz8_1⟩ := bq2 BK292
      have p293 : 0 ≤ (x5_1 : Int) := dtr
      have q293 : x5_1 < (l0_1.length : Int) := dtr
      obtain ⟨ad293, A293_2, c293_2, e293, hx293_0, hx293_1, hx293_2, hl293_2, hi293_2⟩ := at_T52 HR0_1.out x5_1 p293 q293
      cases e293
      replace hx293_0 := oc hx293_0
      replace hx293_1 := oc hx293_1
      replace hx293_2 := oc hx293_2
      have HR293_2 := Aside0.mk hi293_2
      have HC293_2 := Aside0.mk hl293_2
      clear hi293_2 hl293_2
      replace p293 := eq_true p293
      replace q293 := eq_true q293
      go_wp2
      go_roundg k1
      case measure => have := HK1.out; omega
      case rel => exact ⟨(wrap64 (x5_1 + 1)), eS, H', ⟨by have := HK1.out; omega⟩, ⟨bk BK292⟩, ⟨bel⟩⟩
    ·rw [if_neg c5] at H
     exact absurd H (by simp)
   ·rw [if_neg c4] at H
    have c4b0 : decide (x5_1 < (l0_1.length : Int)) = false := decide_eq_false c4
    clear c4
    obtain rfl := Option.some.inj H
    obtain ⟨hcz9_0, hcz9_1, hfz9_0, hfz9_1⟩ := bq2 BK292
    go_wp2
    go_ret
    exact ⟨eN, bel⟩
end Go.Proofs.YtfmpaofbnjlniaaGreatDoor.F
namespace Go.Proofs.YtfmpaofbnjlniaaGreatDoor.F
open Go.RowKit Go.Proofs.YtfmpaofbnjlniaaGreatDoorW.PrintWords Go.Proofs.YtfmpaofbnjlniaaGreatDoorW.PrintLast Go.Proofs.YtfmpaofbnjlniaaGreatDoorW.PrintMore
attribute [local go_sem] max2_int min2_int max_two min_two max_three min_three max_four min_four
set_option linter.unusedVariables false
set_option linter.unusedSimpArgs false
/-! ### paraphrastref01_copied: function 53 -/
def paraphrastref01_copied.l0 : Nat → List (List Int) → List (List Int) → Int → Option ((List (List Int)))
 | 0, _, _, _ => none
 | k + 1, x0, x3, x4 => if x4 < (x0.length : Int) then ((some (([] : List Int) : List Int)).bind fun y301 => (if 0 ≤ x4 then (if y301.length + (rd_L2 x0 x4).length < 17592186044416 then (if x3.length < 5864062014805 then (paraphrastref01_copied.l0 k x0 (x3 ++ [(y301 ++ (rd_L2 x0 x4))]) (wrap64 (x4 + 1))) else (none)) else (none)) else (none))) else (some x3)
def paraphrastref01_copied.f (k : Nat) (l0 : List (List Int)) : Option ((List (List Int))) := paraphrastref01_copied.l0 k l0 ([] : List (List Int)) 0
set_option maxHeartbeats 8000000 in
set_option maxRecDepth 100000 in
theorem paraphrastref01_copied.calls (k : Nat) (A0 : Option Addr) (c0 : Nat) (l0 : List (List Int)) (r : List (List Int)) (w : World) (hr0 : Kd.C (Kd.slice 3 (Kd.int .i64)) w A0 l0.length l0) (hc0 : l0.length ≤ c0) (h : paraphrastref01_copied.f k l0 = some r) :
  Calls Tryz.prog 53 #[.slice A0 l0.length c0] w fun e w' => ∃ v0_ : Value, e = .returned (v0_) ∧ Kd.S (Kd.slice 3 (Kd.int .i64)) 46 w' w.heap.size (fun _ => True) v0_ r ∧ Below w.heap.size w w' := by
 have HR0 := Aside0.mk hr0
 have HC0 := Aside0.mk hc0
 clear hr0 hc0
 have HB := Aside0.mk (Below.refl w.heap.size w)
 have H : (paraphrastref01_copied.l0 k l0 ([] : List (List Int)) 0) = some r := h
 clear h
 have H' := Aside0.mk H
 clear H
 go_enter Tryz.func53, Tryz.ntmps53
 go_wp2
 go_loopg [3, 4] k (fun kq v3 v4 w' => ∃ (x3_1 : List (List Int)) (x4_1 : Int), v4 = .int .i64 x4_1 ∧ Aside0 (paraphrastref01_copied.l0 kq l0 x3_1 x4_1 = some r) ∧ Aside0 (kq ≤ k) ∧ Aside0 (Kd.S (Kd.slice 3 (Kd.int .i64)) 46 w' w.heap.size (fun _ => True) v3 x3_1) ∧ Aside0 (Below w.heap.size w w'))
 case atStart => exact ⟨(([] : List (List Int))), (0), eS, H', ⟨Nat.le_refl _⟩, ⟨by first | exact Kd.S_nil _ _ _ _ _ | exact Kd.N_nil _ _ _ _ _ | exact Kd.V_nil _ _ _ _ _ | exact Kd.Q_nil _ _ _ _ _ | exact Kd.R_nil _ _ _ _ _⟩, ⟨bel⟩⟩
 case round =>
  clear H'
  obtain ⟨x3_1, x4_1, rfl, HA, HK1, HO_3, HB⟩ := hrel
  cases gk with
  | zero => exact absurd HA.out (by simp [paraphrastref01_copied.l0])
  | succ k1 =>
   have H := HA.out
   clear HA
   simp only [paraphrastref01_copied.l0] at H
   by_cases c2 : x4_1 < (l0.length : Int)
   ·rw [if_pos c2] at H
    have c2b0 : decide (x4_1 < (l0.length : Int)) = true := decide_eq_true c2
    clear c2
    obtain ⟨y301, hy301⟩ : ∃ y_ : List Int, y_ = (([] : List Int)) := ⟨_, rfl⟩
    replace H : (if 0 ≤ x4_1 then (if y301.length + (rd_L2 l0 x4_1).length < 17592186044416 then (if x3_1.length < 5864062014805 then (paraphrastref01_copied.l0 k1 l0 (x3_1 ++ [(y301 ++ (rd_L2 l0 x4_1))]) (wrap64 (x4_1 + 1))) else (none)) else (none)) else (none)) = some r := by first | (rw [hy301]; with_reducible exact H) | (have H2_ := (Option.bind_some _ _).symm.trans H; rw [hy301]; with_reducible exact H2_) | (have H2_ := (Option.bind_some _ _).symm.trans H; with_reducible exact H2_) | with_reducible exact H | (rw [hy301]; exact H) | exact H
    have Ny301 := Aside0.mk hy301
    clear hy301
    by_cases c3 : 0 ≤ x4_1
    ·rw [if_pos c3] at H
     have c3b0 : decide (0 ≤ x4_1) = true := decide_eq_true c3
     clear c3
     by_cases c4 : y301.length + (rd_L2 l0 x4_1).length < 17592186044416
     ·rw [if_pos c4] at H
      have LMc4 := Aside0.mk c4
      clear c4
      obtain ⟨y305, hy305⟩ : ∃ y_ : List Int, y_ = (y301 ++ (rd_L2 l0 x4_1)) := ⟨_, rfl⟩
      replace H : (if x3_1.length < 5864062014805 then (paraphrastref01_copied.l0 k1 l0 (x3_1 ++ [y305]) (wrap64 (x4_1 + 1))) else (none)) = some r := by first | (rw [hy305]; with_reducible exact H) | (have H2_ := (Option.bind_some _ _).symm.trans H; rw [hy305]; with_reducible exact H2_) | (have H2_ := (Option.bind_some _ _).symm.trans H; with_reducible exact H2_) | with_reducible exact H | (rw [hy305]; exact H) | exact H
      have Ny305 := Aside0.mk hy305
      clear hy305
      by_cases c5 : x3_1.length < 5864062014805
      ·rw [if_pos c5] at H
       have LMc5 := Aside0.mk c5
       clear c5
       obtain ⟨y308, hy308⟩ : ∃ y_ : List (List Int), y_ = (x3_1 ++ [y305]) := ⟨_, rfl⟩
       replace H : (paraphrastref01_copied.l0 k1 l0 y308 (wrap64 (x4_1 + 1))) = some r := by first | (rw [hy308]; with_reducible exact H) | (have H2_ := (Option.bind_some _ _).symm.trans H; rw [hy308]; with_reducible exact H2_) | (have H2_ := (Option.bind_some _ _).symm.trans H; with_reducible exact H2_) | with_reducible exact H | (rw [hy308]; exact H) | exact H
       have Ny308 := Aside0.mk hy308
       clear hy308
       have H' := Aside0.mk H
       clear H
       go_wp2_with (first | ((with_reducible refine gate_dst (N := 12) rfl ?_); refine Kd.R_lit (Kd.int .i64) _ 3 ?hg (N := 12) ?hd (xs := ([] : List Int)) (inner := []) (ok := fun _ => True) (okp := fun _ => True) ?hr ?hp (fun _ hk => hk) trivial (Below.refl _ _) (Nat.le_refl _) (by simp) ?_; (case hd => rfl); (case hg => rfl); (case hr => first | (go_simp; done) | (go_simp; rfl)); (case hp => exact (Reps.none _ _)); intro v302 w6 ho7 hb hg_ hnew_; clear hg_ hnew_; (first | rw [← Ny301.out] at ho7 | (simp only [Int.reduceToNat] at ho7; rw [← Ny301.out] at ho7)); have HO303 := Aside0.mk (Kd.R_lower ho7 (below_size bel)); replace HO_3 := Aside0.mk (Kd.S_elder' (by (with_reducible repeat (first | apply Kd.S_alloc | apply Kd.S_drewN | apply Kd.S_drew)); exact HO_3.out) (Kd.R_base ho7) hb); replace HB := Aside0.mk (below_step bel hb); clear hb ho7; have p304 : 0 ≤ (x4_1 : Int) := dtr; have q304 : x4_1 < (l0.length : Int) := dtr; obtain ⟨ad304, A304_0, c304_0, e304, hx304_0, hl304_0, hi304_0⟩ := at_L2 HR0.out x4_1 p304 q304; cases e304; replace hx304_0 := oc hx304_0; have HR304_0 := Aside0.mk hi304_0; have HC304_0 := Aside0.mk hl304_0; clear hi304_0 hl304_0; replace p304 := eq_true p304; replace q304 := eq_true q304) | ((with_reducible refine gate_builtin (b := .append) (xs := #[.tmp 12, .tmp 16]) rfl ?_); at_builtin; refine Kd.R_append_rows (Kd.int .i64) (w0 := w) w.heap.size rfl (.tmp 12) (.tmp 16) 46 3 (.int .i64 0) 8 rfl Tryz.underlying46 info3 rfl (by decide) (by omega) v302 y301 (rd_L2 l0 x4_1) _ _ _ (fun _ => True) (fun _ => False) rfl rfl ?aO ?aR (fun _ _ h => h) (fun _ h => h.elim) ?aF ?aB ?aS ?aL ?_; (case aR => exact cS (Kd.C_below HR304_0.out HB.out)); (case aB => exact bel); (case aF => exact (fun _ _ => trivial)); (case aO => exact (tw HO303.out)); (case aS => exact (below_size bel)); (case aL => have := LMc4.out; omega); intro v306 w8 ho hb hg hat; rw [← Ny305.out] at ho; have HO307 := Aside0.mk (ho); replace HO_3 := Aside0.mk (Kd.S_after (ok := (fun _ => True)) (by (with_reducible repeat (first | apply Kd.S_alloc | apply Kd.S_drewN | apply Kd.S_drew)); exact HO_3.out) hg hat); replace HB := Aside0.mk (hb); clear HO303; clear ho hb hg hat; obtain ⟨Ao10, co10, eo10⟩ := Kd.R_slice HO307.out; subst eo10) | ((with_reducible refine gate_builtin (b := .append) (xs := #[.tmp 11, .tmp 18]) rfl ?_); at_builtin; refine Kd.S_append (Kd.slice 3 (Kd.int .i64)) (w0 := w) w.heap.size rfl (.tmp 11) (.tmp 18) 50 46 (.slice none 0 0) 24 rfl Tryz.underlying50 info46 rfl (by decide) (by omega) u3 x3_1 y305 [.slice Ao10 y305.length co10] (fun _ => True) (fun k_ => some k_ = (.slice Ao10 y305.length co10 : Value).ownBlock) rfl rfl ?aP (fun k_ hk_ => ((Kd.R_mono (ok' := fun k_ => ((fun _ => True)) k_ ∧ some k_ ≠ (u3 : Value).ownBlock) (Kd.R_apart' (HO307.out) (Kd.S_typed HO_3.out) (by decide)) (fun k_ hk => ⟨trivial, hk.2⟩))).1 k_ hk_.symm) ?aF ?aO ?aB ?aS ?aL ?_; (case aP => exact Kd.M_row (Kd.R_mono (Kd.R_tight rfl (Kd.R_mono (ok' := fun k_ => ((fun _ => True)) k_ ∧ some k_ ≠ (u3 : Value).ownBlock) (Kd.R_apart' (HO307.out) (Kd.S_typed HO_3.out) (by decide)) (fun k_ hk => ⟨trivial, hk.2⟩))) (fun _ h_ => h_))); (case aB => exact bel); (case aF => exact (fun _ _ => trivial)); (case aO => exact (by (with_reducible repeat (first | apply Kd.S_alloc | apply Kd.S_drewN | apply Kd.S_drew)); exact Kd.S_mono HO_3.out (fun k_ hk => ⟨trivial, fun e_ => hk.2 e_⟩))); (case aS => exact (below_size bel)); (case aL => have := LMc5.out; omega); intro v309 w9 ho hb hg hat; rw [← Ny308.out] at ho; have HO310 := Aside0.mk (ho); replace HB := Aside0.mk (hb); clear HO_3 HO307; clear ho hb hg hat))
       go_roundg k1
       case measure => have := HK1.out; omega
       case rel => exact ⟨(y308), (wrap64 (x4_1 + 1)), eS, H', ⟨by have := HK1.out; omega⟩, ⟨by (with_reducible repeat (first | apply Kd.S_alloc | apply Kd.S_drewN | apply Kd.S_drew)); exact HO310.out⟩, ⟨bel⟩⟩
      ·rw [if_neg c5] at H
       exact absurd H (by simp)
     ·rw [if_neg c4] at H
      exact absurd H (by simp)
    ·rw [if_neg c3] at H
     exact absurd H (by simp)
   ·rw [if_neg c2] at H
    have c2b0 : decide (x4_1 < (l0.length : Int)) = false := decide_eq_false c2
    clear c2
    obtain rfl := Option.some.inj H
    go_wp2
    go_ret
    exact ⟨_, eN, by (with_reducible repeat (first | apply Kd.S_alloc | apply Kd.S_drewN | apply Kd.S_drew)); exact HO_3.out, bel⟩
end Go.Proofs.YtfmpaofbnjlniaaGreatDoor.F
namespace Go.Proofs.YtfmpaofbnjlniaaGreatDoor.F
open Go.RowKit Go.Proofs.YtfmpaofbnjlniaaGreatDoorW.PrintWords Go.Proofs.YtfmpaofbnjlniaaGreatDoorW.PrintLast Go.Proofs.YtfmpaofbnjlniaaGreatDoorW.PrintMore
attribute [local go_sem] max2_int min2_int max_two min_two max_three min_three max_four min_four
set_option linter.unusedVariables false
set_option linter.unusedSimpArgs false
/-! ### paraphrastref01_Copy: function 36 -/
def paraphrastref01_Copy.l0 : Nat → Int → Int → List (S52) → Int → List (S52) → Option (Int × (List (S52)))
 | 0, _, _, _, _, _ => none
 | k + 1, x4, x386000, x386001, x388000, x388001 => if x4 < (x386001.length : Int) then (if 0 ≤ x4 then ((paraphrastref01_copied.f k ((rd_T52 x386001 x4).f2)).bind fun t391 => (if x388001.length < 2932031007402 then (paraphrastref01_Copy.l0 k (wrap64 (x4 + 1)) x386000 x386001 x388000 (x388001 ++ [(⟨(rd_T52 x386001 x4).f0, (rd_T52 x386001 x4).f1, t391⟩ : S52)])) else (none))) else (none)) else (some (x388000, x388001))
def paraphrastref01_Copy.f (k : Nat) (a0_0 : Int) (l0_1 : List (S52)) : Option (Int × (List (S52))) := paraphrastref01_Copy.l0 k 0 a0_0 l0_1 a0_0 ([] : List (S52))
def paraphrastref01_Copy.T5 : Bool × List (List Nat × List Nat) := (true, [([], []), ([0], [0]), ([], []), ([2], [2]), ([], []), ([3, 4], [3, 4]), ([5], [5]), ([6], [6]), ([], []), ([8], [8]), ([], []), ([9, 10], [9, 10]), ([11], [11]), ([12], [12]), ([], []), ([14], [14]), ([], []), ([15, 16], [15, 16]), ([17], [17]), ([18], [18]), ([19], [19]), ([7, 13, 20], [7, 13, 20]), ([21], [21]), ([1, 22, 20], [1, 22]), ([0, 1, 2, 3, 4, 5, 6, 7, 8, 9, 10, 11, 12, 13, 14, 15, 16, 17, 18, 19, 20, 21, 22, 23], []), ([24, 23, 23, 0, 1, 2, 3, 4, 5, 6, 7, 8, 9, 10, 11, 12, 13, 14, 15, 16, 17, 18, 19, 20, 21, 22, 23], [23, 24])])
def paraphrastref01_Copy.B5 : List Nat := [0, 1, 0, 4, 0, 28, 60, 124, 0, 256, 0, 1792, 3840, 7936, 0, 16384, 0, 114688, 245760, 507904, 1032192, 2097148, 4194300, 8388607, 16777215, 33554431]
theorem paraphrastref01_Copy.tab5 : rtab .any (opsOf Tryz.f36 5) = paraphrastref01_Copy.T5 := by kernel_rfl
theorem paraphrastref01_Copy.bits5 : waitsOk paraphrastref01_Copy.T5.2 paraphrastref01_Copy.B5 = true := by kernel_rfl
set_option maxHeartbeats 8000000 in
set_option maxRecDepth 100000 in
theorem paraphrastref01_Copy.calls (k : Nat) (a0_0 : Int) (A0_1 : Option Addr) (c0_1 : Nat) (l0_1 : List (S52)) (r1 : Int) (r2 : List (S52)) (w : World) (hr0_1 : Kd.C k52 w A0_1 l0_1.length l0_1) (hc0_1 : l0_1.length ≤ c0_1) (h : paraphrastref01_Copy.f k a0_0 l0_1 = some (r1, r2)) :
  Calls Tryz.prog 36 #[.agg #[.int .i64 a0_0, .slice A0_1 l0_1.length c0_1]] w fun e w' => ∃ v1_ : Value, e = .returned (.agg #[.int .i64 r1, v1_]) ∧ Kd.R k52 52 w' w.heap.size (fun _ => True) v1_ r2 ∧ Below w.heap.size w w' := by
 have hu24 := Tryz.underlying24
 have hu52 := Tryz.underlying52
 have HR0_1 := Aside0.mk hr0_1
 have HC0_1 := Aside0.mk hc0_1
 clear hr0_1 hc0_1
 have HB := Aside0.mk (Below.refl w.heap.size w)
 have H : (paraphrastref01_Copy.l0 k 0 a0_0 l0_1 a0_0 ([] : List (S52))) = some (r1, r2) := h
 clear h
 have H' := Aside0.mk H
 clear H
 go_enter Tryz.func36, Tryz.ntmps36
 go_wp2_with (first | ((with_reducible refine gate_dst (N := 1) rfl ?_); refine box_event ?hg (N := 1) ?hd (cs := #[.int .i64 a0_0, .slice A0_1 l0_1.length c0_1]) (t := 24) ?hr ?_; (case hd => rfl); (case hg => rfl); (case hr => first | (go_simp; done) | (go_simp; rfl)); intro gb385 hg w2 hbox hb; have BK385 := Aside0.mk (hbox); have GW385 := geB w hg; have GE385 := geB w hg; replace HB := Aside0.mk (below_step bel hb); clear hb hbox hg) | ((with_reducible refine gate_dst (N := 2) rfl ?_); refine box_event ?hg (N := 2) ?hd (cs := #[.int .i64 0, .slice none 0 0]) (t := 24) ?hr ?_; (case hd => rfl); (case hg => rfl); (case hr => first | (go_simp; done) | (go_simp; rfl)); intro gb386 hg w3 hbox hb; have BK386 := Aside0.mk (hbox); have GW386 := geB w hg; have GE386 := geB w hg; have NB385_386 := neL BK385 hg; have NB386_385 := neG BK385 hg; replace BK385 := blB BK385 hb; replace HB := Aside0.mk (below_step bel hb); clear hb hbox hg; have hnb4 := NB385_386.out; have hnc4 := NB386_385.out; obtain ⟨hcz5_0, hcz5_1, hfz5_0, hfz5_1⟩ := bq2 BK385) | ((with_reducible refine gate_dst (N := 3) rfl ?_); refine box_event ?hg (N := 3) ?hd (cs := #[.int .i64 0, .slice none 0 0]) (t := 24) ?hr ?_; (case hd => rfl); (case hg => rfl); (case hr => first | (go_simp; done) | (go_simp; rfl)); intro gb387 hg w6 hbox hb; have BK387 := Aside0.mk (hbox); have GW387 := geB w hg; have GE387 := geB w hg; have NB385_387 := neL BK385 hg; have NB387_385 := neG BK385 hg; have NB386_387 := neL BK386 hg; have NB387_386 := neG BK386 hg; replace BK385 := blB BK385 hb; replace BK386 := blB BK386 hb; replace HB := Aside0.mk (below_step bel hb); clear hb hbox hg; have hnb7 := NB387_385.out; have hnc7 := NB385_387.out; have hnb8 := NB387_386.out; have hnc8 := NB386_387.out; obtain ⟨hcz9_0, hcz9_1, hfz9_0, hfz9_1⟩ := bq2 BK387))
 go_loopg [4] k (fun kq v4 w' => ∃ (x4_1 : Int) (x388001_1 : List (S52)) (u388001 : Value), v4 = .int .i64 x4_1 ∧ Aside0 (paraphrastref01_Copy.l0 kq x4_1 a0_0 l0_1 a0_0 x388001_1 = some (r1, r2)) ∧ Aside0 (kq ≤ k) ∧ Aside0 (Kd.R k52 52 w' w.heap.size (fun _ => True) u388001 x388001_1) ∧ Aside0 (w'.heap[gb385]? = some (.cells #[.int .i64 a0_0, (.slice A0_1 l0_1.length c0_1)] 24 (0, 0))) ∧ Aside0 (w'.heap[gb386]? = some (.cells #[.int .i64 0, (.slice none 0 0)] 24 (0, 0))) ∧ Aside0 (w'.heap[gb387]? = some (.cells #[.int .i64 a0_0, u388001] 24 (0, 0))) ∧ Aside0 (Below w.heap.size w w'))
 case atStart => exact ⟨(0), (([] : List (S52))), (.slice none 0 0), eS, H', ⟨Nat.le_refl _⟩, ⟨by first | exact Kd.R_nil _ _ _ _ _ | exact Kd.N_nil _ _ _ _ _ | exact Kd.V_nil _ _ _ _ _ | exact Kd.Q_nil _ _ _ _ _ | exact Kd.S_nil _ _ _ _ _⟩, ⟨by (with_reducible repeat (first | refine blk_drewN ?_ _ | refine blk_drew ?_ | refine blk_alloc ?_ _)); refine blk_far ?_ NB385_387.out _; (with_reducible repeat (first | refine blk_drewN ?_ _ | refine blk_drew ?_ | refine blk_alloc ?_ _)); refine blk_far ?_ NB385_387.out _; (with_reducible repeat (first | refine blk_drewN ?_ _ | refine blk_drew ?_ | refine blk_alloc ?_ _)); exact BK385.out⟩, ⟨by (with_reducible repeat (first | refine blk_drewN ?_ _ | refine blk_drew ?_ | refine blk_alloc ?_ _)); refine blk_far ?_ NB386_387.out _; (with_reducible repeat (first | refine blk_drewN ?_ _ | refine blk_drew ?_ | refine blk_alloc ?_ _)); refine blk_far ?_ NB386_387.out _; (with_reducible repeat (first | refine blk_drewN ?_ _ | refine blk_drew ?_ | refine blk_alloc ?_ _)); exact BK386.out⟩, ⟨by (with_reducible repeat (first | refine blk_drewN ?_ _ | refine blk_drew ?_ | refine blk_alloc ?_ _)); refine blk_put (cs := #[.int .i64 a0_0, .slice none 0 0]) ?_ 1 _ rfl; (with_reducible repeat (first | refine blk_drewN ?_ _ | refine blk_drew ?_ | refine blk_alloc ?_ _)); refine blk_put (cs := #[.int .i64 0, .slice none 0 0]) ?_ 0 _ rfl; (with_reducible repeat (first | refine blk_drewN ?_ _ | refine blk_drew ?_ | refine blk_alloc ?_ _)); exact BK387.out⟩, ⟨bel⟩⟩
 case round =>
  clear H'
  (try clear hcz5_0); (try clear hcz5_1); (try clear hcz9_0); (try clear hcz9_1); (try clear hfz5_0); (try clear hfz5_1); (try clear hfz9_0); (try clear hfz9_1)
  obtain ⟨x4_1, x388001_1, u388001, rfl, HA, HK1, HO_388001, BK385, BK386, BK387, HB⟩ := hrel
  cases gk with
  | zero => exact absurd HA.out (by simp [paraphrastref01_Copy.l0])
  | succ k1 =>
   have H := HA.out
   clear HA
   simp only [paraphrastref01_Copy.l0] at H
   by_cases c10 : x4_1 < (l0_1.length : Int)
   ·rw [if_pos c10] at H
    have c10b0 : decide (x4_1 < (l0_1.length : Int)) = true := decide_eq_true c10
    clear c10
    by_cases c11 : 0 ≤ x4_1
    ·rw [if_pos c11] at H
     have c11b0 : decide (0 ≤ x4_1) = true := decide_eq_true c11
     clear c11
     replace H := Option.bind_eq_some_iff.mp H
     obtain ⟨t391, A120, H⟩ := H
     replace H : (if x388001_1.length < 2932031007402 then (paraphrastref01_Copy.l0 k1 (wrap64 (x4_1 + 1)) a0_0 l0_1 a0_0 (x388001_1 ++ [(⟨(rd_T52 l0_1 x4_1).f0, (rd_T52 l0_1 x4_1).f1, t391⟩ : S52)])) else (none)) = some (r1, r2) := H
     have A12 := Aside0.mk A120
     clear A120
     by_cases c13 : x388001_1.length < 2932031007402
     ·rw [if_pos c13] at H
      have LMc13 := Aside0.mk c13
      clear c13
      obtain ⟨y394, hy394⟩ : ∃ y_ : List (S52), y_ = (x388001_1 ++ [(⟨(rd_T52 l0_1 x4_1).f0, (rd_T52 l0_1 x4_1).f1, t391⟩ : S52)]) := ⟨_, rfl⟩
      replace H : (paraphrastref01_Copy.l0 k1 (wrap64 (x4_1 + 1)) a0_0 l0_1 a0_0 y394) = some (r1, r2) := by first | (rw [hy394]; with_reducible exact H) | (have H2_ := (Option.bind_some _ _).symm.trans H; rw [hy394]; with_reducible exact H2_) | (have H2_ := (Option.bind_some _ _).symm.trans H; with_reducible exact H2_) | with_reducible exact H | (rw [hy394]; exact H) | exact H
      have Ny394 := Aside0.mk hy394
      clear hy394
      have H' := Aside0.mk H
      clear H
      have hnb14 := NB385_386.out
      have hnc14 := NB386_385.out
      have hnb15 := NB385_387.out
      have hnc15 := NB387_385.out
      obtain ⟨hcz16_0, hcz16_1, hfz16_0, hfz16_1⟩ := bq2 BK385
      try go_wp2
      replace HO_388001 := Aside0.mk (Kd.R_drew HO_388001.out)
      replace BK385 := Aside0.mk (blk_drew BK385.out)
      replace BK386 := Aside0.mk (blk_drew BK386.out)
      replace BK387 := Aside0.mk (blk_drew BK387.out)
      replace HB := Aside0.mk (below_drew1 HB.out)
      have p388 : 0 ≤ (x4_1 : Int) := dtr
      have q388 : x4_1 < (l0_1.length : Int) := dtr
      obtain ⟨ad388, A388_2, c388_2, e388, hx388_0, hx388_1, hx388_2, hl388_2, hi388_2⟩ := at_T52 HR0_1.out x4_1 p388 q388
      have hw388_2 := hx388_2
      have hw388_1 := hx388_1
      have hw388_0 := hx388_0
      cases e388
      replace hx388_0 := oc hx388_0
      replace hx388_1 := oc hx388_1
      replace hx388_2 := oc hx388_2
      have HR388_2 := Aside0.mk hi388_2
      have HC388_2 := Aside0.mk hl388_2
      clear hi388_2 hl388_2
      replace p388 := eq_true p388
      replace q388 := eq_true q388
      have p389 : 0 ≤ (x4_1 : Int) := dtr
      have q389 : x4_1 < (l0_1.length : Int) := dtr
      obtain ⟨ad389, A389_2, c389_2, e389, hx389_0, hx389_1, hx389_2, hl389_2, hi389_2⟩ := at_T52 HR0_1.out x4_1 p389 q389
      have hw389_2 := hx389_2
      have hw389_1 := hx389_1
      have hw389_0 := hx389_0
      obtain rfl : ad388 = ad389 := (by injection e389)
      replace hx389_0 := oc hx389_0
      replace hx389_1 := oc hx389_1
      replace hx389_2 := oc hx389_2
      have HR389_2 := Aside0.mk hi389_2
      have HC389_2 := Aside0.mk hl389_2
      clear hi389_2 hl389_2
      replace p389 := eq_true p389
      replace q389 := eq_true q389
      have ea_ := Option.some.inj (hx388_2.symm.trans hx389_2)
      injection ea_ with ea_ en_ ec_
      subst ea_
      subst ec_
      clear en_
      have p390 : 0 ≤ (x4_1 : Int) := dtr
      have q390 : x4_1 < (l0_1.length : Int) := dtr
      obtain ⟨ad390, A390_2, c390_2, e390, hx390_0, hx390_1, hx390_2, hl390_2, hi390_2⟩ := at_T52 HR0_1.out x4_1 p390 q390
      have hw390_2 := hx390_2
      have hw390_1 := hx390_1
      have hw390_0 := hx390_0
      obtain rfl : ad388 = ad390 := (by injection e390)
      replace hx390_0 := oc hx390_0
      replace hx390_1 := oc hx390_1
      replace hx390_2 := oc hx390_2
      have HR390_2 := Aside0.mk hi390_2
      have HC390_2 := Aside0.mk hl390_2
      clear hi390_2 hl390_2
      replace p390 := eq_true p390
      replace q390 := eq_true q390
      have ea_ := Option.some.inj (hx388_2.symm.trans hx390_2)
      injection ea_ with ea_ en_ ec_
      subst ea_
      subst ec_
      clear en_
      refine start_ (n := 26) (S := fun w' => w'.cell? ⟨gb387, 0, none⟩ = some (.int .i64 a0_0) ∧ w'.cell? ⟨gb387, 1, none⟩ = some (u388001) ∧ w'.cell? ⟨gb385, 0, none⟩ = some (.int .i64 a0_0) ∧ w'.cell? ⟨gb385, 1, none⟩ = some (.slice (some ad388) l0_1.length c0_1) ∧ w'.cell? (ad388.add ((x4_1).toNat * 3)) = some (.string ((rd_T52 l0_1 x4_1).f0)) ∧ w'.cell? ⟨(ad388.add ((x4_1).toNat * 3)).block, (ad388.add ((x4_1).toNat * 3)).off + 1, none⟩ = some (.int .i64 ((rd_T52 l0_1 x4_1).f1)) ∧ w'.cell? ⟨(ad388.add ((x4_1).toNat * 3)).block, (ad388.add ((x4_1).toNat * 3)).off + 2, none⟩ = some (.slice A388_2 ((rd_T52 l0_1 x4_1).f2).length c388_2) ∧ w'.cell? (ad388.add ((x4_1).toNat * 3)) = some (.string ((rd_T52 l0_1 x4_1).f0)) ∧ w'.cell? ⟨(ad388.add ((x4_1).toNat * 3)).block, (ad388.add ((x4_1).toNat * 3)).off + 1, none⟩ = some (.int .i64 ((rd_T52 l0_1 x4_1).f1)) ∧ w'.cell? ⟨(ad388.add ((x4_1).toNat * 3)).block, (ad388.add ((x4_1).toNat * 3)).off + 2, none⟩ = some (.slice A388_2 ((rd_T52 l0_1 x4_1).f2).length c388_2) ∧ w'.cell? (ad388.add ((x4_1).toNat * 3)) = some (.string ((rd_T52 l0_1 x4_1).f0)) ∧ w'.cell? ⟨(ad388.add ((x4_1).toNat * 3)).block, (ad388.add ((x4_1).toNat * 3)).off + 1, none⟩ = some (.int .i64 ((rd_T52 l0_1 x4_1).f1)) ∧ w'.cell? ⟨(ad388.add ((x4_1).toNat * 3)).block, (ad388.add ((x4_1).toNat * 3)).off + 2, none⟩ = some (.slice A388_2 ((rd_T52 l0_1 x4_1).f2).length c388_2)) (ds := [25]) #[false, false, false, false, false, false, false, false, false, false, false, false, false, false, false, false, false, false, false, false, false, false, false, false, false, false] (by kernel_rfl) rfl rfl ⟨(blk_cell BK387.out 0).trans rfl, (blk_cell BK387.out 1).trans rfl, (blk_cell BK385.out 0).trans rfl, (blk_cell BK385.out 1).trans rfl, (oc hw388_0), (oc hw388_1), (oc hw388_2), (oc hw389_0), (oc hw389_1), (oc hw389_2), (oc hw390_0), (oc hw390_1), (oc hw390_2)⟩ (fun hHeld => ?_); refine with_tabW paraphrastref01_Copy.tab5 paraphrastref01_Copy.bits5 (fun HT_ HW_ => ?_)
      generalize wr.drew = w17 at HO_388001 BK385 BK386 BK387 HB HR388_2 HR389_2 HR390_2 hx388_0 hx388_1 hx388_2 hx389_0 hx389_1 hx389_2 hx390_0 hx390_1 hx390_2 hHeld ⊢
      refine sPu 0 (some 15) ?_
      refine sPu 2 (some 17) ?_
      refine sPu 4 (some 19) ?_
      refine sPu 8 (some 23) ?_
      refine sPu 10 (some 25) ?_
      refine sPu 14 (some 29) ?_
      refine sPu 16 (some 31) ?_
      refine sTk 1 (some 16) ?_
      refine sTk 3 (some 18) ?_
      refine sPu 5 (some 20) ?_
      refine sPu 6 (some 21) ?_
      refine sTk 7 (some 22) ?_
      refine sTk 9 (some 24) ?_
      refine sPu 11 (some 26) ?_
      refine sPu 12 (some 27) ?_
      refine sTk 13 (some 28) ?_
      refine sTk 15 (some 30) ?_
      refine sPu 17 (some 32) ?_
      refine sPu 18 (some 33) ?_
      refine sTk 19 (some 34) ?_
      refine sOn 20 (some 35) (fun K hK => ?_)
      refine goes_ Tryz.func53 (by kernel_rfl) rfl #[.slice A388_2 ((rd_T52 l0_1 x4_1).f2).length c388_2] (by rfl) rfl rfl (by (try simp only [List.map_toArray, List.map_cons, List.map_nil]); first | done | rfl | (simp only [List.length_drop, List.length_take]; rfl)) ?_
      with_reducible refine (paraphrastref01_copied.calls k1 _ _ ((rd_T52 l0_1 x4_1).f2) t391 _ ?side1 ?side2 A12.out).mono ?_
      (case side1 => exact cS (Kd.C_below HR390_2.out HB.out))
      (case side2 => exact HC390_2.out)
      rintro e w18 ⟨v392, rfl, ho0, hb⟩
      refine ⟨_, rfl, ?_⟩
      have HO393 := Aside0.mk (Kd.S_lower ho0 (below_size bel))
      replace HO_388001 := rE HO_388001 (Kd.S_base ho0) hb
      replace BK385 := blB BK385 hb
      replace BK386 := blB BK386 hb
      replace BK387 := blB BK387 hb
      replace HB := Aside0.mk (below_step bel hb)
      (try clear hb)
      (try clear hb2)
      (try clear hk)
      (try clear hi)
      (try clear ho0)
      obtain ⟨Ao19, co19, eo19⟩ := Kd.S_slice HO393.out
      (first | subst eo19 | (injection eo19 with f1_ f2_ f3_; have f4_ := f1_.symm; have f5_ := f3_.symm; clear f1_ f2_ f3_; subst f4_; subst f5_))
      refine hK.out _ _ ⟨(blk_cell BK387.out 0).trans rfl, (blk_cell BK387.out 1).trans rfl, (blk_cell BK385.out 0).trans rfl, (blk_cell BK385.out 1).trans rfl, (oc hw388_0), (oc hw388_1), (oc hw388_2), (oc hw389_0), (oc hw389_1), (oc hw389_2), (oc hw390_0), (oc hw390_1), (oc hw390_2)⟩ (fun hHeld => ?_)
      clear hK K
      refine norm_ (a' := ?_) ?_ ?_
      rotate_left
      ·show Act.put _ (some 35) _ = _
       simp only [Act.put, List.setIfInBounds_toArray, List.set_cons_zero, List.set_cons_succ, i64_w, i32_w]
       rfl
      refine sPu 21 (some 36) ?_
      refine sOn 22 (some 37) (fun K hK => ?_)
      refine value_ (w1 := ?_) (v := ?_) (by rfl) rfl ?_ ?_
      rotate_left 2
      ·go_simp
       constructor
       ·rfl
       ·rfl
      refine hK.out _ _ ⟨(blk_cell (blk_alloc BK387.out _) 0).trans rfl, (blk_cell (blk_alloc BK387.out _) 1).trans rfl, (blk_cell (blk_alloc BK385.out _) 0).trans rfl, (blk_cell (blk_alloc BK385.out _) 1).trans rfl, (World.cell?_alloc_lt _ _ _ (World.block_lt_of_cell? _ _ ((oc hw388_0)))).trans ((oc hw388_0)), (World.cell?_alloc_lt _ _ _ (World.block_lt_of_cell? _ _ ((oc hw388_1)))).trans ((oc hw388_1)), (World.cell?_alloc_lt _ _ _ (World.block_lt_of_cell? _ _ ((oc hw388_2)))).trans ((oc hw388_2)), (World.cell?_alloc_lt _ _ _ (World.block_lt_of_cell? _ _ ((oc hw389_0)))).trans ((oc hw389_0)), (World.cell?_alloc_lt _ _ _ (World.block_lt_of_cell? _ _ ((oc hw389_1)))).trans ((oc hw389_1)), (World.cell?_alloc_lt _ _ _ (World.block_lt_of_cell? _ _ ((oc hw389_2)))).trans ((oc hw389_2)), (World.cell?_alloc_lt _ _ _ (World.block_lt_of_cell? _ _ ((oc hw390_0)))).trans ((oc hw390_0)), (World.cell?_alloc_lt _ _ _ (World.block_lt_of_cell? _ _ ((oc hw390_1)))).trans ((oc hw390_1)), (World.cell?_alloc_lt _ _ _ (World.block_lt_of_cell? _ _ ((oc hw390_2)))).trans ((oc hw390_2))⟩ (fun hHeld => ?_)
      clear hK K
      refine norm_ (a' := ?_) ?_ ?_
      rotate_left
      ·show Act.put _ (some 37) _ = _
       simp only [Act.put, List.setIfInBounds_toArray, List.set_cons_zero, List.set_cons_succ, i64_w, i32_w]
       rfl
      refine sOn 23 (some 38) (fun K hK => ?_)
      refine Kd.R_append_step k52 (w0 := w) w.heap.size (by rfl) (.tmp 16) (.tmp 37) 22 52 (.agg #[(.string ⟨#[]⟩), (.int .i64 0), (.slice none 0 0)]) 48 rfl Tryz.underlying22 info52 rfl (by decide) (by omega) u388001 x388001_1 (⟨(rd_T52 l0_1 x4_1).f0, (rd_T52 l0_1 x4_1).f1, t391⟩ : S52) [.string ((rd_T52 l0_1 x4_1).f0), .int .i64 ((rd_T52 l0_1 x4_1).f1), .slice Ao19 t391.length co19] (fun _ => True) (fun k_ => ((fun _ => True)) k_ ∧ some k_ ≠ (u388001 : Value).ownBlock) rfl rfl ?aP (fun _ hk => hk) ?aF ?aO ?aB ?aS ?aL ?_
      (case aP => exact k52_mkM _ _ _ (⟨(rd_T52 l0_1 x4_1).f0, (rd_T52 l0_1 x4_1).f1, t391⟩ : S52) (Kd.R_mono (Kd.R_apart' ((Kd.S_R HO393.out)) (Kd.R_typed HO_388001.out) (by decide)) (fun k_ hk => ⟨trivial, hk.2⟩)))
      (case aB => exact bel)
      (case aF => exact (fun _ _ => trivial))
      (case aO => exact (by (with_reducible repeat (first | apply Kd.R_alloc | apply Kd.R_drewN | apply Kd.R_drew)); exact Kd.R_mono HO_388001.out (fun _ hk => trivial)))
      (case aS => exact (below_size bel))
      (case aL => have := LMc13.out; omega)
      intro v395 w20 ho hb hg hat
      rw [← Ny394.out] at ho
      have HO396 := Aside0.mk (ho)
      replace BK385 := Aside0.mk (blk_grown (g := gb385) (o := .cells #[.int .i64 a0_0, .slice (some ad388) l0_1.length c0_1] 24 (0, 0)) (bk BK385) hg (Kd.R_ne HO_388001.out BK385.out (by decide)))
      replace BK386 := Aside0.mk (blk_grown (g := gb386) (o := .cells #[.int .i64 0, .slice none 0 0] 24 (0, 0)) (bk BK386) hg (Kd.R_ne HO_388001.out BK386.out (by decide)))
      replace BK387 := Aside0.mk (blk_grown (g := gb387) (o := .cells #[.int .i64 a0_0, u388001] 24 (0, 0)) (bk BK387) hg (Kd.R_ne HO_388001.out BK387.out (by decide)))
      replace HB := Aside0.mk (hb)
      clear HO_388001 HO393
      clear ho hb hg hat
      obtain ⟨Ao21, co21, eo21⟩ := Kd.R_slice HO396.out
      (first | subst eo21 | (injection eo21 with f1_ f2_ f3_; have f4_ := f1_.symm; have f5_ := f3_.symm; clear f1_ f2_ f3_; subst f4_; subst f5_))
      refine hK.out _ _ ⟨(blk_cell BK387.out 0).trans rfl, (blk_cell BK387.out 1).trans rfl, (blk_cell BK385.out 0).trans rfl, (blk_cell BK385.out 1).trans rfl, (oc hw388_0), (oc hw388_1), (oc hw388_2), (oc hw389_0), (oc hw389_1), (oc hw389_2), (oc hw390_0), (oc hw390_1), (oc hw390_2)⟩ (fun hHeld => ?_)
      clear hK K
      refine norm_ (a' := ?_) ?_ ?_
      rotate_left
      ·show Act.put _ (some 38) _ = _
       simp only [Act.put, List.setIfInBounds_toArray, List.set_cons_zero, List.set_cons_succ, i64_w, i32_w]
       rfl
      refine sPu 24 (some 39) ?_
      refine last_ (i := 25) (N := none) #[true, true, true, true, true, true, true, true, true, true, true, true, true, true, true, true, true, true, true, true, true, true, true, true, true, true] rfl rfl (one_of HT_.out (by kernel_rfl)) (by decide) (fun K hK => ?_)
      have hs22 : w20.cell? ⟨gb387, 1, none⟩ = some (u388001) := (blk_cell BK387.out 1).trans rfl
      have hfs22 := blk_frozen BK387.out 1
      have hns22_0 := NB385_387.out
      have hns22_1 := NB386_387.out
      have hms22_0 := NB387_385.out
      have hms22_1 := NB387_386.out
      refine skip_ (w1 := ?_) (by rfl) rfl ?_ ?_
      rotate_left
      ·go_simp
       rfl
      refine hK.out _ _ ?_
      clear hK K
      refine done_ (done_of HT_.out (by kernel_rfl)) ?_
      try go_wp2
      go_roundg k1
      case measure => have := HK1.out; omega
      case rel => exact ⟨(wrap64 (x4_1 + 1)), (y394), (.slice Ao21 y394.length co21), eS, H', ⟨by have := HK1.out; omega⟩, ⟨by (with_reducible repeat (first | apply Kd.R_alloc | apply Kd.R_drewN | apply Kd.R_drew)); exact Kd.R_mono (Kd.R_far (p := ⟨gb387, 1, none⟩) (Kd.R_types HO396.out BK387.out (by decide)) (fun _ hk => hk.2) (.slice Ao21 y394.length co21)) (fun _ hk => trivial)⟩, ⟨by (with_reducible repeat (first | refine blk_drewN ?_ _ | refine blk_drew ?_ | refine blk_alloc ?_ _)); refine blk_far ?_ NB385_387.out _; (with_reducible repeat (first | refine blk_drewN ?_ _ | refine blk_drew ?_ | refine blk_alloc ?_ _)); exact BK385.out⟩, ⟨by (with_reducible repeat (first | refine blk_drewN ?_ _ | refine blk_drew ?_ | refine blk_alloc ?_ _)); refine blk_far ?_ NB386_387.out _; (with_reducible repeat (first | refine blk_drewN ?_ _ | refine blk_drew ?_ | refine blk_alloc ?_ _)); exact BK386.out⟩, ⟨by (with_reducible repeat (first | refine blk_drewN ?_ _ | refine blk_drew ?_ | refine blk_alloc ?_ _)); refine blk_put (cs := #[.int .i64 a0_0, u388001]) ?_ 1 _ rfl; (with_reducible repeat (first | refine blk_drewN ?_ _ | refine blk_drew ?_ | refine blk_alloc ?_ _)); exact BK387.out⟩, ⟨bel⟩⟩
     ·rw [if_neg c13] at H
      exact absurd H (by simp)
    ·rw [if_neg c11] at H
     exact absurd H (by simp)
   ·rw [if_neg c10] at H
    have c10b0 : decide (x4_1 < (l0_1.length : Int)) = false := decide_eq_false c10
    clear c10
    simp only [Option.some.injEq, Prod.mk.injEq] at H
    obtain ⟨rfl, rfl⟩ := H
    have hnb23 := NB385_386.out
    have hnc23 := NB386_385.out
    have hnb24 := NB385_387.out
    have hnc24 := NB387_385.out
    obtain ⟨hcz25_0, hcz25_1, hfz25_0, hfz25_1⟩ := bq2 BK385
    have hnb26 := NB387_386.out
    have hnc26 := NB386_387.out
    obtain ⟨hcz27_0, hcz27_1, hfz27_0, hfz27_1⟩ := bq2 BK387
    obtain ⟨hcz28_0, hcz28_1, hfz28_0, hfz28_1⟩ := bq2 BK386
    obtain ⟨Ao29, co29, eo29⟩ := Kd.R_slice HO_388001.out
    subst eo29
    go_wp2
    refine bodyPost_ret (results_cell_row rfl _ _ gb386 24 #[.int .i64 a0_0, .slice Ao29 x388001_1.length co29] (0, 0) _ rfl (by (with_reducible repeat (first | refine blk_drewN ?_ _ | refine blk_drew ?_ | refine blk_alloc ?_ _)); refine blk_put (cs := #[.int .i64 a0_0, .slice none 0 0]) ?_ 1 _ rfl; (with_reducible repeat (first | refine blk_drewN ?_ _ | refine blk_drew ?_ | refine blk_alloc ?_ _)); refine blk_put (cs := #[.int .i64 0, .slice none 0 0]) ?_ 0 _ rfl; (with_reducible repeat (first | refine blk_drewN ?_ _ | refine blk_drew ?_ | refine blk_alloc ?_ _)); exact BK386.out) Tryz.underlying24 rfl (by kernel_rfl)) rfl ?_
    exact ⟨_, eN, by (with_reducible repeat (first | apply Kd.R_alloc | apply Kd.R_drewN | apply Kd.R_drew)); exact Kd.R_mono (Kd.R_far (p := ⟨gb386, 1, none⟩) (Kd.R_far (p := ⟨gb386, 0, none⟩) (Kd.R_types HO_388001.out BK386.out (by decide)) (fun _ hk => hk.2) (.int .i64 a0_0)) (fun _ hk => hk.2) (.slice Ao29 x388001_1.length co29)) (fun _ hk => trivial), bel⟩
end Go.Proofs.YtfmpaofbnjlniaaGreatDoor.F
namespace Go.Proofs.YtfmpaofbnjlniaaGreatDoor.F
open Go.RowKit Go.Proofs.YtfmpaofbnjlniaaGreatDoorW.PrintWords Go.Proofs.YtfmpaofbnjlniaaGreatDoorW.PrintLast Go.Proofs.YtfmpaofbnjlniaaGreatDoorW.PrintMore
attribute [local go_sem] max2_int min2_int max_two min_two max_three min_three max_four min_four
set_option linter.unusedVariables false
set_option linter.unusedSimpArgs false
/-! ### paraphrastref01_Put: function 29 -/
def paraphrastref01_Put.l0 : Nat → List Int → Bool → Int → List (List Int) → Int → Int → List (S52) → Int → List (S52) → Option (Int × (List (S52)))
 | 0, _, _, _, _, _, _, _, _, _ => none
 | k + 1, x2, x3, x10, x11, x12, x398000, x398001, x404000, x404001 => if 0 ≤ x10 then (if x10 < (x398001.length : Int) then (if x12 < (((rd_T52 x398001 x10).f2).length : Int) then (if 0 ≤ x12 then ((paraphrastref01_Equal.f k (rd_L2 ((rd_T52 x398001 x10).f2) x12) x2).bind fun t408 => (if t408 = true then (paraphrastref01_Put.l0 k x2 x3 x10 x11 (wrap64 (x12 + 1)) x398000 x398001 x404000 x404001) else (if x11.length < 5864062014805 then (paraphrastref01_Put.l0 k x2 x3 x10 (x11 ++ [rd_L2 ((rd_T52 x398001 x10).f2) x12]) (wrap64 (x12 + 1)) x398000 x398001 x404000 x404001) else (none)))) else (none)) else (if x3 = true then (if x11.length < 5864062014805 then ((paraphrastref01_Sorted.f (x11 ++ [x2])).bind fun t417 => (if x10 < (x404001.length : Int) then (some (x404000, (x404001.set (x10 : Int).toNat (⟨(rd_T52 x404001 x10).f0, (rd_T52 x404001 x10).f1, t417⟩ : S52)))) else (none))) else (none)) else ((paraphrastref01_Sorted.f x11).bind fun t421 => (if x10 < (x404001.length : Int) then (some (x404000, (x404001.set (x10 : Int).toNat (⟨(rd_T52 x404001 x10).f0, (rd_T52 x404001 x10).f1, t421⟩ : S52)))) else (none))))) else (none)) else (none)
def paraphrastref01_Put.f (k : Nat) (a0_0 : Int) (l0_1 : List (S52)) (a1 : ByteArray) (l2 : List Int) (a3 : Bool) : Option (Int × (List (S52))) := (paraphrastref01_Copy.f k a0_0 l0_1).bind fun bt399 => ((paraphrastref01_Find.f k a0_0 l0_1 a1).bind fun t404 => (paraphrastref01_Put.l0 k l2 a3 t404 ([] : List (List Int)) 0 a0_0 l0_1 bt399.1 bt399.2))
def paraphrastref01_Put.T11 : Bool × List (List Nat × List Nat) := (true, [([], []), ([0], [0]), ([], []), ([], []), ([3], [3]), ([1, 2, 0, 1, 2, 3, 4], [1, 2]), ([5, 0, 1, 2, 3, 4], [5]), ([6, 4, 4, 0, 1, 2, 3, 4], [4, 6])])
def paraphrastref01_Put.B11 : List Nat := [0, 1, 0, 0, 8, 31, 63, 127]
theorem paraphrastref01_Put.tab11 : rtab .any (opsOf Tryz.f29 11) = paraphrastref01_Put.T11 := by kernel_rfl
theorem paraphrastref01_Put.bits11 : waitsOk paraphrastref01_Put.T11.2 paraphrastref01_Put.B11 = true := by kernel_rfl
set_option maxHeartbeats 8000000 in
set_option maxRecDepth 100000 in
theorem paraphrastref01_Put.calls (k : Nat) (a0_0 : Int) (P0_1_ : Nat → Prop) (A0_1 : Option Addr) (c0_1 : Nat) (l0_1 : List (S52)) (a1 : ByteArray) (P2_ : Nat → Prop) (A2 : Option Addr) (c2 : Nat) (l2 : List Int) (a3 : Bool) (r1 : Int) (r2 : List (S52)) (w : World) (hs0_1 : Kd.V k52 52 w w.heap.size (fun k_ => P0_1_ k_) (.slice A0_1 l0_1.length c0_1) l0_1) (hs2 : Kd.V (Kd.int .i64) 3 w w.heap.size (fun k_ => P2_ k_) (.slice A2 l2.length c2) l2) (h : paraphrastref01_Put.f k a0_0 l0_1 a1 l2 a3 = some (r1, r2)) :
  Calls Tryz.prog 29 #[.agg #[.int .i64 a0_0, .slice A0_1 l0_1.length c0_1], .string a1, .slice A2 l2.length c2, .bool a3] w fun e w' => ∃ v1_ : Value, e = .returned (.agg #[.int .i64 r1, v1_]) ∧ Kd.N k52 52 w' w.heap.size (fun k_ => ((P0_1_ k_ ∨ P2_ k_) ∨ w.heap.size ≤ k_)) v1_ r2 ∧ Below w.heap.size w w' := by
 have hu24 := Tryz.underlying24
 have HO0_1 := Aside0.mk (show Kd.V k52 52 w w.heap.size (fun k_ => ((P0_1_ k_ ∨ P2_ k_) ∨ w.heap.size ≤ k_)) (.slice A0_1 l0_1.length c0_1) l0_1 from Kd.V_mono hs0_1 (fun k_ hk => .inl (.inl hk)))
 have HO2 := Aside0.mk (show Kd.V (Kd.int .i64) 3 w w.heap.size (fun k_ => ((P0_1_ k_ ∨ P2_ k_) ∨ w.heap.size ≤ k_)) (.slice A2 l2.length c2) l2 from Kd.V_mono hs2 (fun k_ hk => .inl (.inr hk)))
 have HB := Aside0.mk (Below.refl w.heap.size w)
 have H : ((paraphrastref01_Copy.f k a0_0 l0_1).bind fun bt399 => ((paraphrastref01_Find.f k a0_0 l0_1 a1).bind fun t404 => (paraphrastref01_Put.l0 k l2 a3 t404 ([] : List (List Int)) 0 a0_0 l0_1 bt399.1 bt399.2))) = some (r1, r2) := h
 clear h
 replace H := Option.bind_eq_some_iff.mp H
 obtain ⟨⟨t399, t400⟩, A50, H⟩ := H
 replace H : ((paraphrastref01_Find.f k a0_0 l0_1 a1).bind fun t404 => (paraphrastref01_Put.l0 k l2 a3 t404 ([] : List (List Int)) 0 a0_0 l0_1 t399 t400)) = some (r1, r2) := H
 have A5 := Aside0.mk A50
 clear A50
 replace H := Option.bind_eq_some_iff.mp H
 obtain ⟨t404, A60, H⟩ := H
 replace H : (paraphrastref01_Put.l0 k l2 a3 t404 ([] : List (List Int)) 0 a0_0 l0_1 t399 t400) = some (r1, r2) := H
 have A6 := Aside0.mk A60
 clear A60
 have H' := Aside0.mk H
 clear H
 go_enter Tryz.func29, Tryz.ntmps29
 go_wp2_with (first | ((with_reducible refine gate_dst (N := 4) rfl ?_); refine box_event ?hg (N := 4) ?hd (cs := #[.int .i64 a0_0, .slice A0_1 l0_1.length c0_1]) (t := 24) ?hr ?_; (case hd => rfl); (case hg => rfl); (case hr => first | (go_simp; done) | (go_simp; rfl)); intro gb397 hg w7 hbox hb; have BK397 := Aside0.mk (hbox); have GW397 := geB w hg; have GE397 := geB w hg; replace HO0_1 := vB HO0_1 hg hb; replace HO2 := vB HO2 hg hb; replace HB := Aside0.mk (below_step bel hb); clear hb hbox hg) | ((with_reducible refine gate_dst (N := 8) rfl ?_); refine box_event ?hg (N := 8) ?hd (cs := #[.int .i64 0, .slice none 0 0]) (t := 24) ?hr ?_; (case hd => rfl); (case hg => rfl); (case hr => first | (go_simp; done) | (go_simp; rfl)); intro gb398 hg w8 hbox hb; have BK398 := Aside0.mk (hbox); have GW398 := geB w hg; have GE398 := geB w hg; have NB397_398 := neL BK397 hg; have NB398_397 := neG BK397 hg; replace HO0_1 := vB HO0_1 hg hb; replace HO2 := vB HO2 hg hb; replace BK397 := blB BK397 hb; replace HB := Aside0.mk (below_step bel hb); clear hb hbox hg; have hnb9 := NB397_398.out; have hnc9 := NB398_397.out; obtain ⟨hcz10_0, hcz10_1, hfz10_0, hfz10_1⟩ := bq2 BK397) | ((with_reducible refine gate_callee (f := 36) rfl ?_); refine gL (some 14) Tryz.func36 #[.agg #[.int .i64 a0_0, .slice A0_1 l0_1.length c0_1]] ?_; (with_reducible refine (paraphrastref01_Copy.calls k a0_0 _ _ l0_1 t399 t400 _ ?side1 ?side2 A5.out).mono ?_); (case side1 => exact cS (Kd.V_reads' HO0_1.out).2.2); (case side2 => exact (Kd.V_reads' HO0_1.out).2.1); rintro e w11 ⟨v401, rfl, ho0, hb⟩; refine ⟨_, rfl, ?_⟩; have HO402 := Aside0.mk (Kd.N_lower (Kd.N_mono (ok' := fun k_ => ((P0_1_ k_ ∨ P2_ k_) ∨ w.heap.size ≤ k_) ∧ k_ ≠ gb397 ∧ k_ ≠ gb398) (Kd.R_N (Kd.R_bound ho0)) (fun k_ hk_ => ⟨(.inr (Nat.le_trans (below_size bel) hk_.2.1)), (Kd.freshB (g := gb397) (o := .cells #[.int .i64 a0_0, .slice A0_1 l0_1.length c0_1] 24 (0, 0)) (bk BK397) k_ hk_.2.1), (Kd.freshB (g := gb398) (o := .cells #[.int .i64 0, .slice none 0 0] 24 (0, 0)) (bk BK398) k_ hk_.2.1)⟩)) (below_size bel)); replace HO0_1 := vE HO0_1 (by first | exact Kd.N_base ho0 | exact Kd.R_base ho0) hb; replace HO2 := vE HO2 (by first | exact Kd.N_base ho0 | exact Kd.R_base ho0) hb; replace BK397 := blB BK397 hb; replace BK398 := blB BK398 hb; replace HB := Aside0.mk (below_step bel hb); (try clear hb); (try clear hb2); (try clear hk); (try clear hi); (try clear ho0)) | ((with_reducible refine gate_dst (N := 9) rfl ?_); refine box_event ?hg (N := 9) ?hd (cs := #[.int .i64 0, .slice none 0 0]) (t := 24) ?hr ?_; (case hd => rfl); (case hg => rfl); (case hr => first | (go_simp; done) | (go_simp; rfl)); intro gb403 hg w12 hbox hb; have BK403 := Aside0.mk (hbox); have GW403 := geB w hg; have GE403 := geB w hg; have NB397_403 := neL BK397 hg; have NB403_397 := neG BK397 hg; have NB398_403 := neL BK398 hg; have NB403_398 := neG BK398 hg; replace HO0_1 := vB HO0_1 hg hb; replace HO2 := vB HO2 hg hb; replace HO402 := nB HO402 hg hb; replace BK397 := blB BK397 hb; replace BK398 := blB BK398 hb; replace HB := Aside0.mk (below_step bel hb); clear hb hbox hg; have hnb13 := NB403_397.out; have hnc13 := NB397_403.out; have hnb14 := NB403_398.out; have hnc14 := NB398_403.out; obtain ⟨hcz15_0, hcz15_1, hfz15_0, hfz15_1⟩ := bq2 BK403; obtain ⟨Ao16, co16, eo16⟩ := Kd.N_slice HO402.out; subst eo16; obtain ⟨hcz17_0, hcz17_1, hfz17_0, hfz17_1⟩ := bq2 BK397) | ((with_reducible refine gate_callee (f := 24) rfl ?_); refine gL (some 17) Tryz.func24 #[.agg #[.int .i64 a0_0, .slice A0_1 l0_1.length c0_1], .string a1] ?_; (with_reducible refine (paraphrastref01_Find.calls k a0_0 _ _ l0_1 a1 t404 _ ?side1 ?side2 A6.out).mono ?_); (case side1 => refine (Kd.V_reads' (e := 52) (base := w.heap.size) (ok := fun k_ => ((((((P0_1_ k_ ∨ P2_ k_) ∨ w.heap.size ≤ k_) ∧ k_ ≠ gb397) ∧ k_ ≠ gb398) ∧ some k_ ≠ (.slice Ao16 t400.length co16 : Value).ownBlock) ∧ k_ ≠ gb403)) (n := l0_1.length) (c := c0_1) ?_).2.2; exact (by (with_reducible repeat (first | apply Kd.V_alloc | apply Kd.V_drewN | apply Kd.V_drew)); exact (Kd.V_mono (Kd.V_far (p := ⟨gb403, 1, none⟩) (Kd.V_far (p := ⟨gb403, 0, none⟩) (Kd.V_mono HO0_1.out (fun k_ hk => (⟨hk, hk.2⟩ : _ ∧ k_ ≠ gb403))) (fun _ hk => hk.2) (.int .i64 t399)) (fun _ hk => hk.2) (.slice Ao16 t400.length co16)) (fun _ h_ => h_.1)))); (case side2 => exact (Kd.V_reads' HO0_1.out).2.1); rintro e w18 ⟨rfl, hb⟩; refine ⟨_, rfl, ?_⟩; replace HO0_1 := Aside0.mk (Kd.V_below (by (with_reducible repeat (first | apply Kd.V_alloc | apply Kd.V_drewN | apply Kd.V_drew)); exact (Kd.V_mono (Kd.V_far (p := ⟨gb403, 1, none⟩) (Kd.V_far (p := ⟨gb403, 0, none⟩) (Kd.V_mono HO0_1.out (fun k_ hk => (⟨hk, hk.2⟩ : _ ∧ k_ ≠ gb403))) (fun _ hk => hk.2) (.int .i64 t399)) (fun _ hk => hk.2) (.slice Ao16 t400.length co16)) (fun _ h_ => h_.1))) hb); replace HO2 := Aside0.mk (Kd.V_below (by (with_reducible repeat (first | apply Kd.V_alloc | apply Kd.V_drewN | apply Kd.V_drew)); exact (Kd.V_mono (Kd.V_far (p := ⟨gb403, 1, none⟩) (Kd.V_far (p := ⟨gb403, 0, none⟩) (Kd.V_mono HO2.out (fun k_ hk => (⟨hk, hk.2⟩ : _ ∧ k_ ≠ gb403))) (fun _ hk => hk.2) (.int .i64 t399)) (fun _ hk => hk.2) (.slice Ao16 t400.length co16)) (fun _ h_ => h_.1))) hb); replace HO402 := Aside0.mk (Kd.N_below (by (with_reducible repeat (first | apply Kd.N_alloc | apply Kd.N_drewN | apply Kd.N_drew)); exact (Kd.N_mono (Kd.N_far (p := ⟨gb403, 1, none⟩) (Kd.N_far (p := ⟨gb403, 0, none⟩) (Kd.N_mono HO402.out (fun k_ hk => (⟨hk, hk.2⟩ : _ ∧ k_ ≠ gb403))) (fun _ hk => hk.2) (.int .i64 t399)) (fun _ hk => hk.2) (.slice Ao16 t400.length co16)) (fun _ h_ => h_.1))) hb); replace BK397 := Aside0.mk (blk_below (g := gb397) (o := .cells #[.int .i64 a0_0, .slice A0_1 l0_1.length c0_1] 24 (0, 0)) (by (with_reducible repeat (first | refine blk_drewN ?_ _ | refine blk_drew ?_ | refine blk_alloc ?_ _)); refine blk_far ?_ NB397_403.out _; (with_reducible repeat (first | refine blk_drewN ?_ _ | refine blk_drew ?_ | refine blk_alloc ?_ _)); refine blk_far ?_ NB397_403.out _; (with_reducible repeat (first | refine blk_drewN ?_ _ | refine blk_drew ?_ | refine blk_alloc ?_ _)); exact BK397.out) hb); replace BK398 := Aside0.mk (blk_below (g := gb398) (o := .cells #[.int .i64 0, .slice none 0 0] 24 (0, 0)) (by (with_reducible repeat (first | refine blk_drewN ?_ _ | refine blk_drew ?_ | refine blk_alloc ?_ _)); refine blk_far ?_ NB398_403.out _; (with_reducible repeat (first | refine blk_drewN ?_ _ | refine blk_drew ?_ | refine blk_alloc ?_ _)); refine blk_far ?_ NB398_403.out _; (with_reducible repeat (first | refine blk_drewN ?_ _ | refine blk_drew ?_ | refine blk_alloc ?_ _)); exact BK398.out) hb); replace BK403 := Aside0.mk (blk_below (g := gb403) (o := .cells #[.int .i64 t399, .slice Ao16 t400.length co16] 24 (0, 0)) (by (with_reducible repeat (first | refine blk_drewN ?_ _ | refine blk_drew ?_ | refine blk_alloc ?_ _)); refine blk_put (cs := #[.int .i64 t399, .slice none 0 0]) ?_ 1 _ rfl; (with_reducible repeat (first | refine blk_drewN ?_ _ | refine blk_drew ?_ | refine blk_alloc ?_ _)); refine blk_put (cs := #[.int .i64 0, .slice none 0 0]) ?_ 0 _ rfl; (with_reducible repeat (first | refine blk_drewN ?_ _ | refine blk_drew ?_ | refine blk_alloc ?_ _)); exact BK403.out) hb); replace HB := Aside0.mk (below_step bel hb); (try clear hb); (try clear hb2); (try clear hk); (try clear hi)))
 go_loopg [11, 12] k (fun kq v11 v12 w' => ∃ (x11_1 : List (List Int)) (x12_1 : Int), v12 = .int .i64 x12_1 ∧ Aside0 (paraphrastref01_Put.l0 kq l2 a3 t404 x11_1 x12_1 a0_0 l0_1 t399 t400 = some (r1, r2)) ∧ Aside0 (kq ≤ k) ∧ Aside0 (Kd.V (Kd.int .i64) 3 w' w.heap.size (fun k_ => ((P0_1_ k_ ∨ P2_ k_) ∨ w.heap.size ≤ k_) ∧ some k_ ≠ (v11 : Value).ownBlock ∧ some k_ ≠ ((.slice Ao16 t400.length co16) : Value).ownBlock ∧ k_ ≠ gb397 ∧ k_ ≠ gb398 ∧ k_ ≠ gb403) (.slice A2 l2.length c2) l2) ∧ Aside0 (Kd.N (Kd.slice 3 (Kd.int .i64)) 46 w' w.heap.size (fun k_ => ((P0_1_ k_ ∨ P2_ k_) ∨ w.heap.size ≤ k_) ∧ some k_ ≠ ((.slice Ao16 t400.length co16) : Value).ownBlock ∧ k_ ≠ gb397 ∧ k_ ≠ gb398 ∧ k_ ≠ gb403) v11 x11_1) ∧ Aside0 (Kd.V k52 52 w' w.heap.size (fun k_ => ((P0_1_ k_ ∨ P2_ k_) ∨ w.heap.size ≤ k_) ∧ some k_ ≠ (v11 : Value).ownBlock ∧ some k_ ≠ ((.slice Ao16 t400.length co16) : Value).ownBlock ∧ k_ ≠ gb397 ∧ k_ ≠ gb398 ∧ k_ ≠ gb403) (.slice A0_1 l0_1.length c0_1) l0_1) ∧ Aside0 (Kd.N k52 52 w' w.heap.size (fun k_ => ((P0_1_ k_ ∨ P2_ k_) ∨ w.heap.size ≤ k_) ∧ some k_ ≠ (v11 : Value).ownBlock ∧ k_ ≠ gb397 ∧ k_ ≠ gb398 ∧ k_ ≠ gb403) (.slice Ao16 t400.length co16) t400) ∧ Aside0 (w'.heap[gb397]? = some (.cells #[.int .i64 a0_0, (.slice A0_1 l0_1.length c0_1)] 24 (0, 0))) ∧ Aside0 (w'.heap[gb398]? = some (.cells #[.int .i64 0, (.slice none 0 0)] 24 (0, 0))) ∧ Aside0 (w'.heap[gb403]? = some (.cells #[.int .i64 t399, (.slice Ao16 t400.length co16)] 24 (0, 0))) ∧ Aside0 (Below w.heap.size w w'))
 case atStart => exact ⟨(([] : List (List Int))), (0), eS, H', ⟨Nat.le_refl _⟩, ⟨by (with_reducible repeat (first | apply Kd.V_alloc | apply Kd.V_drewN | apply Kd.V_drew)); exact Kd.V_mono HO2.out (fun _ hk => ⟨hk.1.1.1.1, ⟨(by simp [Value.ownBlock]), ⟨hk.1.2, ⟨hk.1.1.1.2, ⟨hk.1.1.2, hk.2⟩⟩⟩⟩⟩)⟩, ⟨by first | exact Kd.S_nil _ _ _ _ _ | exact Kd.N_nil _ _ _ _ _ | exact Kd.V_nil _ _ _ _ _ | exact Kd.Q_nil _ _ _ _ _ | exact Kd.R_nil _ _ _ _ _⟩, ⟨by (with_reducible repeat (first | apply Kd.V_alloc | apply Kd.V_drewN | apply Kd.V_drew)); exact Kd.V_mono HO0_1.out (fun _ hk => ⟨hk.1.1.1.1, ⟨(by simp [Value.ownBlock]), ⟨hk.1.2, ⟨hk.1.1.1.2, ⟨hk.1.1.2, hk.2⟩⟩⟩⟩⟩)⟩, ⟨by (with_reducible repeat (first | apply Kd.N_alloc | apply Kd.N_drewN | apply Kd.N_drew)); exact Kd.N_mono HO402.out (fun _ hk => ⟨hk.1.1, ⟨(by simp [Value.ownBlock]), ⟨hk.1.2.1, ⟨hk.1.2.2, hk.2⟩⟩⟩⟩)⟩, ⟨bk BK397⟩, ⟨bk BK398⟩, ⟨bk BK403⟩, ⟨bel⟩⟩
 case round =>
  clear H'
  (try clear c2); (try clear hcz10_0); (try clear hcz10_1); (try clear hcz15_0); (try clear hcz15_1); (try clear hcz17_0); (try clear hcz17_1); (try clear hfz10_0); (try clear hfz10_1); (try clear hfz15_0); (try clear hfz15_1); (try clear hfz17_0); (try clear hfz17_1)
  obtain ⟨x11_1, x12_1, rfl, HA, HK1, HO_2, HO_11, HO_398001, HO_404001, BK397, BK398, BK403, HB⟩ := hrel
  cases gk with
  | zero => exact absurd HA.out (by simp [paraphrastref01_Put.l0])
  | succ k1 =>
   have H := HA.out
   clear HA
   simp only [paraphrastref01_Put.l0] at H
   by_cases c19 : 0 ≤ t404
   ·rw [if_pos c19] at H
    have c19b0 : decide (0 ≤ t404) = true := decide_eq_true c19
    clear c19
    by_cases c20 : t404 < (l0_1.length : Int)
    ·rw [if_pos c20] at H
     have c20b0 : decide (t404 < (l0_1.length : Int)) = true := decide_eq_true c20
     clear c20
     by_cases c21 : x12_1 < (((rd_T52 l0_1 t404).f2).length : Int)
     ·rw [if_pos c21] at H
      have c21b0 : decide (x12_1 < (((rd_T52 l0_1 t404).f2).length : Int)) = true := decide_eq_true c21
      clear c21
      by_cases c22 : 0 ≤ x12_1
      ·rw [if_pos c22] at H
       have c22b0 : decide (0 ≤ x12_1) = true := decide_eq_true c22
       clear c22
       replace H := Option.bind_eq_some_iff.mp H
       obtain ⟨t408, A230, H⟩ := H
       replace H : (if t408 = true then (paraphrastref01_Put.l0 k1 l2 a3 t404 x11_1 (wrap64 (x12_1 + 1)) a0_0 l0_1 t399 t400) else (if x11_1.length < 5864062014805 then (paraphrastref01_Put.l0 k1 l2 a3 t404 (x11_1 ++ [rd_L2 ((rd_T52 l0_1 t404).f2) x12_1]) (wrap64 (x12_1 + 1)) a0_0 l0_1 t399 t400) else (none))) = some (r1, r2) := H
       have A23 := Aside0.mk A230
       clear A230
       by_cases c24 : t408 = true
       ·subst c24
        have H1 : (paraphrastref01_Put.l0 k1 l2 a3 t404 x11_1 (wrap64 (x12_1 + 1)) a0_0 l0_1 t399 t400) = some (r1, r2) := by rw [if_pos rfl] at H; exact H
        clear H
        have H := H1
        clear H1
        have H' := Aside0.mk H
        clear H
        have hnb25 := NB397_398.out
        have hnc25 := NB398_397.out
        have hnb26 := NB397_403.out
        have hnc26 := NB403_397.out
        obtain ⟨hcz27_0, hcz27_1, hfz27_0, hfz27_1⟩ := bq2 BK397
        have p405 : 0 ≤ (t404 : Int) := dtr
        have q405 : t404 < (l0_1.length : Int) := dtr
        obtain ⟨ad405, A405_2, c405_2, e405, hx405_0, hx405_1, hx405_2, hl405_2, hi405_2⟩ := at_T52 (Kd.V_reads' HO_398001.out).2.2 t404 p405 q405
        cases e405
        obtain ⟨ce405, hce405, hMe405, hcc405⟩ := Kd.V_get HO_398001.out z52 t404 p405 (by first | exact q405 | exact dtr | (have e_ := (Kd.V_reads' HO_398001.out).1; omega))
        obtain ⟨ua405_2, uc405_2, rfl, ul405_2, ge405_2⟩ := k52_openF hMe405
        have hv405_2 := hcc405 2 _ rfl
        rw [add_field _ _ 2 (by omega)] at hv405_2
        replace hv405_2 := Option.some.inj (hv405_2.symm.trans hx405_2)
        injection hv405_2 with hva_ hvn_ hvc_
        rw [hva_] at ge405_2
        rw [hvc_] at ul405_2
        have HL405_2 := Aside0.mk (show Kd.V (Kd.slice 3 (Kd.int .i64)) 46 _ w.heap.size _ _ ((rd_T52 l0_1 t404).f2) from Kd.V_mk ul405_2 ge405_2)
        clear hva_ hvn_ hvc_ ge405_2 ul405_2
        clear hcc405 hce405
        have HR405_2 := Aside0.mk hi405_2
        have HC405_2 := Aside0.mk hl405_2
        clear hi405_2 hl405_2
        replace p405 := eq_true p405
        replace q405 := eq_true q405
        have p406 : 0 ≤ (t404 : Int) := dtr
        have q406 : t404 < (l0_1.length : Int) := dtr
        obtain ⟨ad406, A406_2, c406_2, e406, hx406_0, hx406_1, hx406_2, hl406_2, hi406_2⟩ := at_T52 (Kd.V_reads' HO_398001.out).2.2 t404 p406 q406
        obtain rfl : ad405 = ad406 := (by injection e406)
        obtain ⟨ce406, hce406, hMe406, hcc406⟩ := Kd.V_get HO_398001.out z52 t404 p406 (by first | exact q406 | exact dtr | (have e_ := (Kd.V_reads' HO_398001.out).1; omega))
        obtain ⟨ua406_2, uc406_2, rfl, ul406_2, ge406_2⟩ := k52_openF hMe406
        have hv406_2 := hcc406 2 _ rfl
        rw [add_field _ _ 2 (by omega)] at hv406_2
        replace hv406_2 := Option.some.inj (hv406_2.symm.trans hx406_2)
        injection hv406_2 with hva_ hvn_ hvc_
        rw [hva_] at ge406_2
        rw [hvc_] at ul406_2
        have HL406_2 := Aside0.mk (show Kd.V (Kd.slice 3 (Kd.int .i64)) 46 _ w.heap.size _ _ ((rd_T52 l0_1 t404).f2) from Kd.V_mk ul406_2 ge406_2)
        clear hva_ hvn_ hvc_ ge406_2 ul406_2
        clear hcc406 hce406
        have HR406_2 := Aside0.mk hi406_2
        have HC406_2 := Aside0.mk hl406_2
        clear hi406_2 hl406_2
        replace p406 := eq_true p406
        replace q406 := eq_true q406
        have ea_ := Option.some.inj (hx405_2.symm.trans hx406_2)
        injection ea_ with ea_ en_ ec_
        subst ea_
        subst ec_
        clear en_
        have p407 : 0 ≤ (x12_1 : Int) := dtr
        have q407 : x12_1 < (((rd_T52 l0_1 t404).f2).length : Int) := dtr
        obtain ⟨ad407, A407_0, c407_0, e407, hx407_0, hl407_0, hi407_0⟩ := at_L2 (by repeat (first | (with_reducible exact HR406_2.out) | (with_reducible refine Kd.C_alloc ?_ _) | (with_reducible refine Kd.C_drewN ?_ _) | (with_reducible refine Kd.C_drew ?_) | exact HR406_2.out)) x12_1 p407 q407
        cases e407
        obtain ⟨ce407, hce407, hMe407, hcc407⟩ := Kd.V_get HL406_2.out [] x12_1 p407 (by first | exact q407 | exact dtr | (have e_ := (Kd.V_reads' HL406_2.out).1; omega))
        obtain ⟨ua407_0, uc407_0, rfl, ul407_0, ge407_0⟩ := Kd.FK_slice_open hMe407
        have hv407_0 := hcc407 0 _ rfl
        rw [Nat.add_zero, show ((Kd.slice 3 (Kd.int .i64))).sz = 1 from rfl, Nat.mul_one] at hv407_0
        replace hv407_0 := Option.some.inj (hv407_0.symm.trans hx407_0)
        injection hv407_0 with hva_ hvn_ hvc_
        rw [hva_] at ge407_0
        rw [hvc_] at ul407_0
        have HL407_0 := Aside0.mk (show Kd.V (Kd.int .i64) 3 _ w.heap.size _ _ (rd_L2 ((rd_T52 l0_1 t404).f2) x12_1) from Kd.V_mk ul407_0 ge407_0)
        clear hva_ hvn_ hvc_ ge407_0 ul407_0
        clear hcc407 hce407
        have HR407_0 := Aside0.mk hi407_0
        have HC407_0 := Aside0.mk hl407_0
        clear hi407_0 hl407_0
        replace p407 := eq_true p407
        replace q407 := eq_true q407
        go_wp2_with (first | ((with_reducible refine gate_callee (f := 41) rfl ?_); refine gL (some 39) Tryz.func41 #[.slice A407_0 (rd_L2 ((rd_T52 l0_1 t404).f2) x12_1).length c407_0, .slice A2 l2.length c2] ?_; (with_reducible refine (paraphrastref01_Equal.calls k1 _ _ (rd_L2 ((rd_T52 l0_1 t404).f2) x12_1) _ _ l2 true _ ?side1 ?side2 ?side3 ?side4 A23.out).mono ?_); (case side1 => repeat (first | exact (by repeat (first | (with_reducible exact HR407_0.out) | (with_reducible refine Kd.C_alloc ?_ _) | (with_reducible refine Kd.C_drewN ?_ _) | (with_reducible refine Kd.C_drew ?_) | exact HR407_0.out)) | (with_reducible refine Kd.C_alloc ?_ _) | (with_reducible refine Kd.C_drewN ?_ _) | (with_reducible refine Kd.C_drew ?_))); (case side2 => exact HC407_0.out); (case side3 => exact cS (Kd.V_reads' HO_2.out).2.2); (case side4 => exact (Kd.V_reads' HO_2.out).2.1); rintro e w' ⟨rfl, ⟨nd, rfl⟩⟩; refine ⟨_, rfl, ?_⟩))
        go_roundg k1
        case measure => have := HK1.out; omega
        case rel => exact ⟨(x11_1), (wrap64 (x12_1 + 1)), eS, H', ⟨by have := HK1.out; omega⟩, ⟨by (with_reducible repeat (first | apply Kd.V_alloc | apply Kd.V_drewN | apply Kd.V_drew)); exact HO_2.out⟩, ⟨by (with_reducible repeat (first | apply Kd.N_alloc | apply Kd.N_drewN | apply Kd.N_drew)); exact HO_11.out⟩, ⟨by (with_reducible repeat (first | apply Kd.V_alloc | apply Kd.V_drewN | apply Kd.V_drew)); exact HO_398001.out⟩, ⟨by (with_reducible repeat (first | apply Kd.N_alloc | apply Kd.N_drewN | apply Kd.N_drew)); exact HO_404001.out⟩, ⟨bk BK397⟩, ⟨bk BK398⟩, ⟨bk BK403⟩, ⟨bel⟩⟩
       ·replace c24 := Bool.eq_false_iff.mpr c24
        subst c24
        have H1 : (if x11_1.length < 5864062014805 then (paraphrastref01_Put.l0 k1 l2 a3 t404 (x11_1 ++ [rd_L2 ((rd_T52 l0_1 t404).f2) x12_1]) (wrap64 (x12_1 + 1)) a0_0 l0_1 t399 t400) else (none)) = some (r1, r2) := by rw [if_neg (show ¬ (false = true) by decide)] at H; exact H
        clear H
        have H := H1
        clear H1
        by_cases c28 : x11_1.length < 5864062014805
        ·rw [if_pos c28] at H
         have LMc28 := Aside0.mk c28
         clear c28
         obtain ⟨y411, hy411⟩ : ∃ y_ : List (List Int), y_ = (x11_1 ++ [rd_L2 ((rd_T52 l0_1 t404).f2) x12_1]) := ⟨_, rfl⟩
         replace H : (paraphrastref01_Put.l0 k1 l2 a3 t404 y411 (wrap64 (x12_1 + 1)) a0_0 l0_1 t399 t400) = some (r1, r2) := by first | (rw [hy411]; with_reducible exact H) | (have H2_ := (Option.bind_some _ _).symm.trans H; rw [hy411]; with_reducible exact H2_) | (have H2_ := (Option.bind_some _ _).symm.trans H; with_reducible exact H2_) | with_reducible exact H | (rw [hy411]; exact H) | exact H
         have Ny411 := Aside0.mk hy411
         clear hy411
         have H' := Aside0.mk H
         clear H
         have hnb29 := NB397_398.out
         have hnc29 := NB398_397.out
         have hnb30 := NB397_403.out
         have hnc30 := NB403_397.out
         obtain ⟨hcz31_0, hcz31_1, hfz31_0, hfz31_1⟩ := bq2 BK397
         have p405 : 0 ≤ (t404 : Int) := dtr
         have q405 : t404 < (l0_1.length : Int) := dtr
         obtain ⟨ad405, A405_2, c405_2, e405, hx405_0, hx405_1, hx405_2, hl405_2, hi405_2⟩ := at_T52 (Kd.V_reads' HO_398001.out).2.2 t404 p405 q405
         cases e405
         obtain ⟨ce405, hce405, hMe405, hcc405⟩ := Kd.V_get HO_398001.out z52 t404 p405 (by first | exact q405 | exact dtr | (have e_ := (Kd.V_reads' HO_398001.out).1; omega))
         obtain ⟨ua405_2, uc405_2, rfl, ul405_2, ge405_2⟩ := k52_openF hMe405
         have hv405_2 := hcc405 2 _ rfl
         rw [add_field _ _ 2 (by omega)] at hv405_2
         replace hv405_2 := Option.some.inj (hv405_2.symm.trans hx405_2)
         injection hv405_2 with hva_ hvn_ hvc_
         rw [hva_] at ge405_2
         rw [hvc_] at ul405_2
         have HL405_2 := Aside0.mk (show Kd.V (Kd.slice 3 (Kd.int .i64)) 46 _ w.heap.size _ _ ((rd_T52 l0_1 t404).f2) from Kd.V_mk ul405_2 ge405_2)
         clear hva_ hvn_ hvc_ ge405_2 ul405_2
         clear hcc405 hce405
         have HR405_2 := Aside0.mk hi405_2
         have HC405_2 := Aside0.mk hl405_2
         clear hi405_2 hl405_2
         replace p405 := eq_true p405
         replace q405 := eq_true q405
         have p406 : 0 ≤ (t404 : Int) := dtr
         have q406 : t404 < (l0_1.length : Int) := dtr
         obtain ⟨ad406, A406_2, c406_2, e406, hx406_0, hx406_1, hx406_2, hl406_2, hi406_2⟩ := at_T52 (Kd.V_reads' HO_398001.out).2.2 t404 p406 q406
         obtain rfl : ad405 = ad406 := (by injection e406)
         obtain ⟨ce406, hce406, hMe406, hcc406⟩ := Kd.V_get HO_398001.out z52 t404 p406 (by first | exact q406 | exact dtr | (have e_ := (Kd.V_reads' HO_398001.out).1; omega))
         obtain ⟨ua406_2, uc406_2, rfl, ul406_2, ge406_2⟩ := k52_openF hMe406
         have hv406_2 := hcc406 2 _ rfl
         rw [add_field _ _ 2 (by omega)] at hv406_2
         replace hv406_2 := Option.some.inj (hv406_2.symm.trans hx406_2)
         injection hv406_2 with hva_ hvn_ hvc_
         rw [hva_] at ge406_2
         rw [hvc_] at ul406_2
         have HL406_2 := Aside0.mk (show Kd.V (Kd.slice 3 (Kd.int .i64)) 46 _ w.heap.size _ _ ((rd_T52 l0_1 t404).f2) from Kd.V_mk ul406_2 ge406_2)
         clear hva_ hvn_ hvc_ ge406_2 ul406_2
         clear hcc406 hce406
         have HR406_2 := Aside0.mk hi406_2
         have HC406_2 := Aside0.mk hl406_2
         clear hi406_2 hl406_2
         replace p406 := eq_true p406
         replace q406 := eq_true q406
         have ea_ := Option.some.inj (hx405_2.symm.trans hx406_2)
         injection ea_ with ea_ en_ ec_
         subst ea_
         subst ec_
         clear en_
         have p407 : 0 ≤ (x12_1 : Int) := dtr
         have q407 : x12_1 < (((rd_T52 l0_1 t404).f2).length : Int) := dtr
         obtain ⟨ad407, A407_0, c407_0, e407, hx407_0, hl407_0, hi407_0⟩ := at_L2 (by repeat (first | (with_reducible exact HR406_2.out) | (with_reducible refine Kd.C_alloc ?_ _) | (with_reducible refine Kd.C_drewN ?_ _) | (with_reducible refine Kd.C_drew ?_) | exact HR406_2.out)) x12_1 p407 q407
         cases e407
         obtain ⟨ce407, hce407, hMe407, hcc407⟩ := Kd.V_get HL406_2.out [] x12_1 p407 (by first | exact q407 | exact dtr | (have e_ := (Kd.V_reads' HL406_2.out).1; omega))
         obtain ⟨ua407_0, uc407_0, rfl, ul407_0, ge407_0⟩ := Kd.FK_slice_open hMe407
         have hv407_0 := hcc407 0 _ rfl
         rw [Nat.add_zero, show ((Kd.slice 3 (Kd.int .i64))).sz = 1 from rfl, Nat.mul_one] at hv407_0
         replace hv407_0 := Option.some.inj (hv407_0.symm.trans hx407_0)
         injection hv407_0 with hva_ hvn_ hvc_
         rw [hva_] at ge407_0
         rw [hvc_] at ul407_0
         have HL407_0 := Aside0.mk (show Kd.V (Kd.int .i64) 3 _ w.heap.size _ _ (rd_L2 ((rd_T52 l0_1 t404).f2) x12_1) from Kd.V_mk ul407_0 ge407_0)
         clear hva_ hvn_ hvc_ ge407_0 ul407_0
         clear hcc407 hce407
         have HR407_0 := Aside0.mk hi407_0
         have HC407_0 := Aside0.mk hl407_0
         clear hi407_0 hl407_0
         replace p407 := eq_true p407
         replace q407 := eq_true q407
         go_wp2_with (first | ((with_reducible refine gate_callee (f := 41) rfl ?_); refine gL (some 39) Tryz.func41 #[.slice A407_0 (rd_L2 ((rd_T52 l0_1 t404).f2) x12_1).length c407_0, .slice A2 l2.length c2] ?_; (with_reducible refine (paraphrastref01_Equal.calls k1 _ _ (rd_L2 ((rd_T52 l0_1 t404).f2) x12_1) _ _ l2 false _ ?side1 ?side2 ?side3 ?side4 A23.out).mono ?_); (case side1 => repeat (first | exact (by repeat (first | (with_reducible exact HR407_0.out) | (with_reducible refine Kd.C_alloc ?_ _) | (with_reducible refine Kd.C_drewN ?_ _) | (with_reducible refine Kd.C_drew ?_) | exact HR407_0.out)) | (with_reducible refine Kd.C_alloc ?_ _) | (with_reducible refine Kd.C_drewN ?_ _) | (with_reducible refine Kd.C_drew ?_))); (case side2 => exact HC407_0.out); (case side3 => exact cS (Kd.V_reads' HO_2.out).2.2); (case side4 => exact (Kd.V_reads' HO_2.out).2.1); rintro e w' ⟨rfl, ⟨nd, rfl⟩⟩; refine ⟨_, rfl, ?_⟩; have p409 : 0 ≤ (t404 : Int) := dtr; have q409 : t404 < (l0_1.length : Int) := dtr; obtain ⟨ad409, A409_2, c409_2, e409, hx409_0, hx409_1, hx409_2, hl409_2, hi409_2⟩ := at_T52 (Kd.V_reads' HO_398001.out).2.2 t404 p409 q409; obtain rfl : ad405 = ad409 := (by injection e409); obtain ⟨ce409, hce409, hMe409, hcc409⟩ := Kd.V_get HO_398001.out z52 t404 p409 (by first | exact q409 | exact dtr | (have e_ := (Kd.V_reads' HO_398001.out).1; omega)); obtain ⟨ua409_2, uc409_2, rfl, ul409_2, ge409_2⟩ := k52_openF hMe409; have hv409_2 := hcc409 2 _ rfl; rw [add_field _ _ 2 (by omega)] at hv409_2; replace hv409_2 := Option.some.inj (hv409_2.symm.trans hx409_2); injection hv409_2 with hva_ hvn_ hvc_; rw [hva_] at ge409_2; rw [hvc_] at ul409_2; have HL409_2 := Aside0.mk (show Kd.V (Kd.slice 3 (Kd.int .i64)) 46 _ w.heap.size _ _ ((rd_T52 l0_1 t404).f2) from Kd.V_mk ul409_2 ge409_2); clear hva_ hvn_ hvc_ ge409_2 ul409_2; clear hcc409 hce409; have HR409_2 := Aside0.mk hi409_2; have HC409_2 := Aside0.mk hl409_2; clear hi409_2 hl409_2; replace p409 := eq_true p409; replace q409 := eq_true q409; have ea_ := Option.some.inj (hx405_2.symm.trans hx409_2); injection ea_ with ea_ en_ ec_; subst ea_; subst ec_; clear en_; have p410 : 0 ≤ (x12_1 : Int) := dtr; have q410 : x12_1 < (((rd_T52 l0_1 t404).f2).length : Int) := dtr; obtain ⟨ad410, A410_0, c410_0, e410, hx410_0, hl410_0, hi410_0⟩ := at_L2 (by repeat (first | (with_reducible exact HR409_2.out) | (with_reducible refine Kd.C_alloc ?_ _) | (with_reducible refine Kd.C_drewN ?_ _) | (with_reducible refine Kd.C_drew ?_) | exact HR409_2.out)) x12_1 p410 q410; cases e410; obtain ⟨ce410, hce410, hMe410, hcc410⟩ := Kd.V_get HL409_2.out [] x12_1 p410 (by first | exact q410 | exact dtr | (have e_ := (Kd.V_reads' HL409_2.out).1; omega)); obtain ⟨ua410_0, uc410_0, rfl, ul410_0, ge410_0⟩ := Kd.FK_slice_open hMe410; have hv410_0 := hcc410 0 _ rfl; rw [Nat.add_zero, show ((Kd.slice 3 (Kd.int .i64))).sz = 1 from rfl, Nat.mul_one] at hv410_0; replace hv410_0 := Option.some.inj (hv410_0.symm.trans hx410_0); injection hv410_0 with hva_ hvn_ hvc_; rw [hva_] at ge410_0; rw [hvc_] at ul410_0; have HL410_0 := Aside0.mk (show Kd.V (Kd.int .i64) 3 _ w.heap.size _ _ (rd_L2 ((rd_T52 l0_1 t404).f2) x12_1) from Kd.V_mk ul410_0 ge410_0); clear hva_ hvn_ hvc_ ge410_0 ul410_0; clear hcc410 hce410; have HR410_0 := Aside0.mk hi410_0; have HC410_0 := Aside0.mk hl410_0; clear hi410_0 hl410_0; replace p410 := eq_true p410; replace q410 := eq_true q410; have ea_ := Option.some.inj (hx407_0.symm.trans hx410_0); injection ea_ with ea_ en_ ec_; subst ea_; subst ec_; clear en_) | ((with_reducible refine gate_builtin (b := .append) (xs := #[.tmp 41, .tmp 51]) rfl ?_); at_builtin; refine Kd.N_append (Kd.slice 3 (Kd.int .i64)) (w0 := w) w.heap.size rfl (.tmp 41) (.tmp 51) 50 46 (.slice none 0 0) 24 rfl Tryz.underlying50 info46 rfl (by decide) (by omega) u11 x11_1 (rd_L2 ((rd_T52 l0_1 t404).f2) x12_1) [.slice A407_0 (rd_L2 ((rd_T52 l0_1 t404).f2) x12_1).length c407_0] (fun k_ => ((P0_1_ k_ ∨ P2_ k_) ∨ w.heap.size ≤ k_) ∧ some k_ ≠ (.slice Ao16 t400.length co16 : Value).ownBlock ∧ k_ ≠ gb397 ∧ k_ ≠ gb398 ∧ k_ ≠ gb403) (fun k_ => ((fun k_ => ((P0_1_ k_ ∨ P2_ k_) ∨ w.heap.size ≤ k_) ∧ some k_ ≠ (.slice Ao16 t400.length co16 : Value).ownBlock ∧ k_ ≠ gb397 ∧ k_ ≠ gb398 ∧ k_ ≠ gb403)) k_ ∧ some k_ ≠ (u11 : Value).ownBlock) rfl rfl ?aP (fun _ hk => hk) ?aF ?aO ?aB ?aS ?aL ?_; (case aP => exact (Kd.FK_slice_mk (Kd.V_reads' (Kd.V_mono (ok' := (fun k_ => ((fun k_ => ((P0_1_ k_ ∨ P2_ k_) ∨ w.heap.size ≤ k_) ∧ some k_ ≠ (.slice Ao16 t400.length co16 : Value).ownBlock ∧ k_ ≠ gb397 ∧ k_ ≠ gb398 ∧ k_ ≠ gb403)) k_ ∧ some k_ ≠ (u11 : Value).ownBlock)) (HL410_0.out) (fun k_ hk => ⟨⟨hk.1, ⟨hk.2.2.1, ⟨hk.2.2.2.1, ⟨hk.2.2.2.2.1, hk.2.2.2.2.2⟩⟩⟩⟩, hk.2.1⟩))).2.1 (Kd.V_F (Kd.V_mono (ok' := (fun k_ => ((fun k_ => ((P0_1_ k_ ∨ P2_ k_) ∨ w.heap.size ≤ k_) ∧ some k_ ≠ (.slice Ao16 t400.length co16 : Value).ownBlock ∧ k_ ≠ gb397 ∧ k_ ≠ gb398 ∧ k_ ≠ gb403)) k_ ∧ some k_ ≠ (u11 : Value).ownBlock)) (Kd.V_drewN HL410_0.out _) (fun k_ hk => ⟨⟨hk.1, ⟨hk.2.2.1, ⟨hk.2.2.2.1, ⟨hk.2.2.2.2.1, hk.2.2.2.2.2⟩⟩⟩⟩, hk.2.1⟩))))); (case aB => exact bel); (case aF => exact (fun k_ hk => ⟨(.inr (Nat.le_trans (below_size bel) hk)), Kd.fresh' (Kd.N_lt (tw HO_404001.out)) k_ hk, Kd.freshB (g := gb397) (o := .cells #[.int .i64 a0_0, .slice (some ad405) l0_1.length c0_1] 24 (0, 0)) (bk BK397) k_ hk, Kd.freshB (g := gb398) (o := .cells #[.int .i64 0, .slice none 0 0] 24 (0, 0)) (bk BK398) k_ hk, Kd.freshB (g := gb403) (o := .cells #[.int .i64 t399, .slice Ao16 t400.length co16] 24 (0, 0)) (bk BK403) k_ hk⟩)); (case aO => exact (tw HO_11.out)); (case aS => exact (below_size bel)); (case aL => have := LMc28.out; omega); intro v412 w32 ho hb hg hat; rw [← Ny411.out] at ho; have HO413 := Aside0.mk (ho); replace HO_2 := Aside0.mk (Kd.V_afterv (ok := (fun k_ => ((P0_1_ k_ ∨ P2_ k_) ∨ w.heap.size ≤ k_) ∧ some k_ ≠ (.slice Ao16 t400.length co16 : Value).ownBlock ∧ k_ ≠ gb397 ∧ k_ ≠ gb398 ∧ k_ ≠ gb403)) (by (with_reducible repeat (first | apply Kd.V_alloc | apply Kd.V_drewN | apply Kd.V_drew)); exact Kd.V_mono HO_2.out (fun _ hk => ⟨⟨hk.1, ⟨hk.2.2.1, ⟨hk.2.2.2.1, ⟨hk.2.2.2.2.1, hk.2.2.2.2.2⟩⟩⟩⟩, hk.2.1⟩)) hg hat); replace HO_398001 := Aside0.mk (Kd.V_afterv (ok := (fun k_ => ((P0_1_ k_ ∨ P2_ k_) ∨ w.heap.size ≤ k_) ∧ some k_ ≠ (.slice Ao16 t400.length co16 : Value).ownBlock ∧ k_ ≠ gb397 ∧ k_ ≠ gb398 ∧ k_ ≠ gb403)) (by (with_reducible repeat (first | apply Kd.V_alloc | apply Kd.V_drewN | apply Kd.V_drew)); exact Kd.V_mono HO_398001.out (fun _ hk => ⟨⟨hk.1, ⟨hk.2.2.1, ⟨hk.2.2.2.1, ⟨hk.2.2.2.2.1, hk.2.2.2.2.2⟩⟩⟩⟩, hk.2.1⟩)) hg hat); replace HO_404001 := Aside0.mk (Kd.N_afterv (ok := (fun k_ => ((P0_1_ k_ ∨ P2_ k_) ∨ w.heap.size ≤ k_) ∧ k_ ≠ gb397 ∧ k_ ≠ gb398 ∧ k_ ≠ gb403)) (by (with_reducible repeat (first | apply Kd.N_alloc | apply Kd.N_drewN | apply Kd.N_drew)); exact Kd.N_mono HO_404001.out (fun _ hk => ⟨⟨hk.1, ⟨hk.2.2.1, ⟨hk.2.2.2.1, hk.2.2.2.2⟩⟩⟩, hk.2.1⟩)) hg hat); replace BK397 := Aside0.mk (blk_grown (g := gb397) (o := .cells #[.int .i64 a0_0, .slice (some ad405) l0_1.length c0_1] 24 (0, 0)) (bk BK397) hg (Kd.N_ne HO_11.out BK397.out (by decide))); replace BK398 := Aside0.mk (blk_grown (g := gb398) (o := .cells #[.int .i64 0, .slice none 0 0] 24 (0, 0)) (bk BK398) hg (Kd.N_ne HO_11.out BK398.out (by decide))); replace BK403 := Aside0.mk (blk_grown (g := gb403) (o := .cells #[.int .i64 t399, .slice Ao16 t400.length co16] 24 (0, 0)) (bk BK403) hg (Kd.N_ne HO_11.out BK403.out (by decide))); replace HL405_2 := Aside0.mk (Kd.V_afterv (ok := (fun k_ => ((P0_1_ k_ ∨ P2_ k_) ∨ w.heap.size ≤ k_) ∧ some k_ ≠ (.slice Ao16 t400.length co16 : Value).ownBlock ∧ k_ ≠ gb397 ∧ k_ ≠ gb398 ∧ k_ ≠ gb403)) (by (with_reducible repeat (first | apply Kd.V_alloc | apply Kd.V_drewN | apply Kd.V_drew)); exact Kd.V_mono HL405_2.out (fun _ hk => ⟨⟨hk.1, ⟨hk.2.2.1, ⟨hk.2.2.2.1, ⟨hk.2.2.2.2.1, hk.2.2.2.2.2⟩⟩⟩⟩, hk.2.1⟩)) hg hat); replace HL406_2 := Aside0.mk (Kd.V_afterv (ok := (fun k_ => ((P0_1_ k_ ∨ P2_ k_) ∨ w.heap.size ≤ k_) ∧ some k_ ≠ (.slice Ao16 t400.length co16 : Value).ownBlock ∧ k_ ≠ gb397 ∧ k_ ≠ gb398 ∧ k_ ≠ gb403)) (by (with_reducible repeat (first | apply Kd.V_alloc | apply Kd.V_drewN | apply Kd.V_drew)); exact Kd.V_mono HL406_2.out (fun _ hk => ⟨⟨hk.1, ⟨hk.2.2.1, ⟨hk.2.2.2.1, ⟨hk.2.2.2.2.1, hk.2.2.2.2.2⟩⟩⟩⟩, hk.2.1⟩)) hg hat); replace HL407_0 := Aside0.mk (Kd.V_afterv (ok := (fun k_ => ((P0_1_ k_ ∨ P2_ k_) ∨ w.heap.size ≤ k_) ∧ some k_ ≠ (.slice Ao16 t400.length co16 : Value).ownBlock ∧ k_ ≠ gb397 ∧ k_ ≠ gb398 ∧ k_ ≠ gb403)) (by (with_reducible repeat (first | apply Kd.V_alloc | apply Kd.V_drewN | apply Kd.V_drew)); exact Kd.V_mono HL407_0.out (fun _ hk => ⟨⟨hk.1, ⟨hk.2.2.1, ⟨hk.2.2.2.1, ⟨hk.2.2.2.2.1, hk.2.2.2.2.2⟩⟩⟩⟩, hk.2.1⟩)) hg hat); replace HL409_2 := Aside0.mk (Kd.V_afterv (ok := (fun k_ => ((P0_1_ k_ ∨ P2_ k_) ∨ w.heap.size ≤ k_) ∧ some k_ ≠ (.slice Ao16 t400.length co16 : Value).ownBlock ∧ k_ ≠ gb397 ∧ k_ ≠ gb398 ∧ k_ ≠ gb403)) (by (with_reducible repeat (first | apply Kd.V_alloc | apply Kd.V_drewN | apply Kd.V_drew)); exact Kd.V_mono HL409_2.out (fun _ hk => ⟨⟨hk.1, ⟨hk.2.2.1, ⟨hk.2.2.2.1, ⟨hk.2.2.2.2.1, hk.2.2.2.2.2⟩⟩⟩⟩, hk.2.1⟩)) hg hat); replace HL410_0 := Aside0.mk (Kd.V_afterv (ok := (fun k_ => ((P0_1_ k_ ∨ P2_ k_) ∨ w.heap.size ≤ k_) ∧ some k_ ≠ (.slice Ao16 t400.length co16 : Value).ownBlock ∧ k_ ≠ gb397 ∧ k_ ≠ gb398 ∧ k_ ≠ gb403)) (by (with_reducible repeat (first | apply Kd.V_alloc | apply Kd.V_drewN | apply Kd.V_drew)); exact Kd.V_mono HL410_0.out (fun _ hk => ⟨⟨hk.1, ⟨hk.2.2.1, ⟨hk.2.2.2.1, ⟨hk.2.2.2.2.1, hk.2.2.2.2.2⟩⟩⟩⟩, hk.2.1⟩)) hg hat); replace HB := Aside0.mk (hb); clear HO_11; clear ho hb hg hat))
         go_roundg k1
         case measure => have := HK1.out; omega
         case rel => exact ⟨(y411), (wrap64 (x12_1 + 1)), eS, H', ⟨by have := HK1.out; omega⟩, ⟨by (with_reducible repeat (first | apply Kd.V_alloc | apply Kd.V_drewN | apply Kd.V_drew)); exact Kd.V_mono HO_2.out (fun _ hk => ⟨hk.1.1, ⟨hk.2, ⟨hk.1.2.1, ⟨hk.1.2.2.1, ⟨hk.1.2.2.2.1, hk.1.2.2.2.2⟩⟩⟩⟩⟩)⟩, ⟨by (with_reducible repeat (first | apply Kd.N_alloc | apply Kd.N_drewN | apply Kd.N_drew)); exact HO413.out⟩, ⟨by (with_reducible repeat (first | apply Kd.V_alloc | apply Kd.V_drewN | apply Kd.V_drew)); exact Kd.V_mono HO_398001.out (fun _ hk => ⟨hk.1.1, ⟨hk.2, ⟨hk.1.2.1, ⟨hk.1.2.2.1, ⟨hk.1.2.2.2.1, hk.1.2.2.2.2⟩⟩⟩⟩⟩)⟩, ⟨by (with_reducible repeat (first | apply Kd.N_alloc | apply Kd.N_drewN | apply Kd.N_drew)); exact Kd.N_mono HO_404001.out (fun _ hk => ⟨hk.1.1, ⟨hk.2, ⟨hk.1.2.1, ⟨hk.1.2.2.1, hk.1.2.2.2⟩⟩⟩⟩)⟩, ⟨bk BK397⟩, ⟨bk BK398⟩, ⟨bk BK403⟩, ⟨bel⟩⟩
        ·rw [if_neg c28] at H
         exact absurd H (by simp)
      ·rw [if_neg c22] at H
       exact absurd H (by simp)
     ·rw [if_neg c21] at H
      have c21b0 : decide (x12_1 < (((rd_T52 l0_1 t404).f2).length : Int)) = false := decide_eq_false c21
      clear c21
      by_cases c33 : a3 = true
      ·subst c33
       have H1 : (if x11_1.length < 5864062014805 then ((paraphrastref01_Sorted.f (x11_1 ++ [l2])).bind fun t417 => (if t404 < (t400.length : Int) then (some (t399, (t400.set (t404 : Int).toNat (⟨(rd_T52 t400 t404).f0, (rd_T52 t400 t404).f1, t417⟩ : S52)))) else (none))) else (none)) = some (r1, r2) := by rw [if_pos rfl] at H; exact H
       clear H
       have H := H1
       clear H1
       by_cases c34 : x11_1.length < 5864062014805
       ·rw [if_pos c34] at H
        have LMc34 := Aside0.mk c34
        clear c34
        obtain ⟨y414, hy414⟩ : ∃ y_ : List (List Int), y_ = (x11_1 ++ [l2]) := ⟨_, rfl⟩
        replace H : ((paraphrastref01_Sorted.f y414).bind fun t417 => (if t404 < (t400.length : Int) then (some (t399, (t400.set (t404 : Int).toNat (⟨(rd_T52 t400 t404).f0, (rd_T52 t400 t404).f1, t417⟩ : S52)))) else (none))) = some (r1, r2) := by first | (rw [hy414]; with_reducible exact H) | (have H2_ := (Option.bind_some _ _).symm.trans H; rw [hy414]; with_reducible exact H2_) | (have H2_ := (Option.bind_some _ _).symm.trans H; with_reducible exact H2_) | with_reducible exact H | (rw [hy414]; exact H) | exact H
        have Ny414 := Aside0.mk hy414
        clear hy414
        replace H := Option.bind_eq_some_iff.mp H
        obtain ⟨t417, A350, H⟩ := H
        replace H : (if t404 < (t400.length : Int) then (some (t399, (t400.set (t404 : Int).toNat (⟨(rd_T52 t400 t404).f0, (rd_T52 t400 t404).f1, t417⟩ : S52)))) else (none)) = some (r1, r2) := H
        have A35 := Aside0.mk A350
        clear A350
        by_cases c36 : t404 < (t400.length : Int)
        ·rw [if_pos c36] at H
         have c36b0 : decide (t404 < (t400.length : Int)) = true := decide_eq_true c36
         clear c36
         obtain ⟨y420, hy420⟩ : ∃ y_ : List (S52), y_ = (t400.set (t404 : Int).toNat (⟨(rd_T52 t400 t404).f0, (rd_T52 t400 t404).f1, t417⟩ : S52)) := ⟨_, rfl⟩
         replace H : (some (t399, y420)) = some (r1, r2) := by first | (rw [hy420]; with_reducible exact H) | (have H2_ := (Option.bind_some _ _).symm.trans H; rw [hy420]; with_reducible exact H2_) | (have H2_ := (Option.bind_some _ _).symm.trans H; with_reducible exact H2_) | with_reducible exact H | (rw [hy420]; exact H) | exact H
         have Ny420 := Aside0.mk hy420
         clear hy420
         simp only [Option.some.injEq, Prod.mk.injEq] at H
         obtain ⟨rfl, rfl⟩ := H
         have hnb38 := NB397_398.out
         have hnc38 := NB398_397.out
         have hnb39 := NB397_403.out
         have hnc39 := NB403_397.out
         obtain ⟨hcz40_0, hcz40_1, hfz40_0, hfz40_1⟩ := bq2 BK397
         have p405 : 0 ≤ (t404 : Int) := dtr
         have q405 : t404 < (l0_1.length : Int) := dtr
         obtain ⟨ad405, A405_2, c405_2, e405, hx405_0, hx405_1, hx405_2, hl405_2, hi405_2⟩ := at_T52 (Kd.V_reads' HO_398001.out).2.2 t404 p405 q405
         cases e405
         obtain ⟨ce405, hce405, hMe405, hcc405⟩ := Kd.V_get HO_398001.out z52 t404 p405 (by first | exact q405 | exact dtr | (have e_ := (Kd.V_reads' HO_398001.out).1; omega))
         obtain ⟨ua405_2, uc405_2, rfl, ul405_2, ge405_2⟩ := k52_openF hMe405
         have hv405_2 := hcc405 2 _ rfl
         rw [add_field _ _ 2 (by omega)] at hv405_2
         replace hv405_2 := Option.some.inj (hv405_2.symm.trans hx405_2)
         injection hv405_2 with hva_ hvn_ hvc_
         rw [hva_] at ge405_2
         rw [hvc_] at ul405_2
         have HL405_2 := Aside0.mk (show Kd.V (Kd.slice 3 (Kd.int .i64)) 46 _ w.heap.size _ _ ((rd_T52 l0_1 t404).f2) from Kd.V_mk ul405_2 ge405_2)
         clear hva_ hvn_ hvc_ ge405_2 ul405_2
         clear hcc405 hce405
         have HR405_2 := Aside0.mk hi405_2
         have HC405_2 := Aside0.mk hl405_2
         clear hi405_2 hl405_2
         replace p405 := eq_true p405
         replace q405 := eq_true q405
         try go_wp2_with (first | ((with_reducible refine gate_builtin (b := .append) (xs := #[.tmp 54, .tmp 56]) rfl ?_); at_builtin; refine Kd.N_append (Kd.slice 3 (Kd.int .i64)) (w0 := w) w.heap.size rfl (.tmp 54) (.tmp 56) 50 46 (.slice none 0 0) 24 rfl Tryz.underlying50 info46 rfl (by decide) (by omega) u11 x11_1 l2 [.slice A2 l2.length c2] (fun k_ => ((P0_1_ k_ ∨ P2_ k_) ∨ w.heap.size ≤ k_) ∧ some k_ ≠ (.slice Ao16 t400.length co16 : Value).ownBlock ∧ k_ ≠ gb397 ∧ k_ ≠ gb398 ∧ k_ ≠ gb403) (fun k_ => ((fun k_ => ((P0_1_ k_ ∨ P2_ k_) ∨ w.heap.size ≤ k_) ∧ some k_ ≠ (.slice Ao16 t400.length co16 : Value).ownBlock ∧ k_ ≠ gb397 ∧ k_ ≠ gb398 ∧ k_ ≠ gb403)) k_ ∧ some k_ ≠ (u11 : Value).ownBlock) rfl rfl ?aP (fun _ hk => hk) ?aF ?aO ?aB ?aS ?aL ?_; (case aP => exact (Kd.FK_slice_mk (Kd.V_reads' (Kd.V_mono (ok' := (fun k_ => ((fun k_ => ((P0_1_ k_ ∨ P2_ k_) ∨ w.heap.size ≤ k_) ∧ some k_ ≠ (.slice Ao16 t400.length co16 : Value).ownBlock ∧ k_ ≠ gb397 ∧ k_ ≠ gb398 ∧ k_ ≠ gb403)) k_ ∧ some k_ ≠ (u11 : Value).ownBlock)) (HO_2.out) (fun k_ hk => ⟨⟨hk.1, ⟨hk.2.2.1, ⟨hk.2.2.2.1, ⟨hk.2.2.2.2.1, hk.2.2.2.2.2⟩⟩⟩⟩, hk.2.1⟩))).2.1 (Kd.V_F (Kd.V_mono (ok' := (fun k_ => ((fun k_ => ((P0_1_ k_ ∨ P2_ k_) ∨ w.heap.size ≤ k_) ∧ some k_ ≠ (.slice Ao16 t400.length co16 : Value).ownBlock ∧ k_ ≠ gb397 ∧ k_ ≠ gb398 ∧ k_ ≠ gb403)) k_ ∧ some k_ ≠ (u11 : Value).ownBlock)) (HO_2.out) (fun k_ hk => ⟨⟨hk.1, ⟨hk.2.2.1, ⟨hk.2.2.2.1, ⟨hk.2.2.2.2.1, hk.2.2.2.2.2⟩⟩⟩⟩, hk.2.1⟩))))); (case aB => exact bel); (case aF => exact (fun k_ hk => ⟨(.inr (Nat.le_trans (below_size bel) hk)), Kd.fresh' (Kd.N_lt (tw HO_404001.out)) k_ hk, Kd.freshB (g := gb397) (o := .cells #[.int .i64 a0_0, .slice (some ad405) l0_1.length c0_1] 24 (0, 0)) (bk BK397) k_ hk, Kd.freshB (g := gb398) (o := .cells #[.int .i64 0, .slice none 0 0] 24 (0, 0)) (bk BK398) k_ hk, Kd.freshB (g := gb403) (o := .cells #[.int .i64 t399, .slice Ao16 t400.length co16] 24 (0, 0)) (bk BK403) k_ hk⟩)); (case aO => exact (tw HO_11.out)); (case aS => exact (below_size bel)); (case aL => have := LMc34.out; omega); intro v415 w41 ho hb hg hat; rw [← Ny414.out] at ho; have HO416 := Aside0.mk (ho); replace HO_2 := Aside0.mk (Kd.V_afterv (ok := (fun k_ => ((P0_1_ k_ ∨ P2_ k_) ∨ w.heap.size ≤ k_) ∧ some k_ ≠ (.slice Ao16 t400.length co16 : Value).ownBlock ∧ k_ ≠ gb397 ∧ k_ ≠ gb398 ∧ k_ ≠ gb403)) (by (with_reducible repeat (first | apply Kd.V_alloc | apply Kd.V_drewN | apply Kd.V_drew)); exact Kd.V_mono HO_2.out (fun _ hk => ⟨⟨hk.1, ⟨hk.2.2.1, ⟨hk.2.2.2.1, ⟨hk.2.2.2.2.1, hk.2.2.2.2.2⟩⟩⟩⟩, hk.2.1⟩)) hg hat); replace HO_398001 := Aside0.mk (Kd.V_afterv (ok := (fun k_ => ((P0_1_ k_ ∨ P2_ k_) ∨ w.heap.size ≤ k_) ∧ some k_ ≠ (.slice Ao16 t400.length co16 : Value).ownBlock ∧ k_ ≠ gb397 ∧ k_ ≠ gb398 ∧ k_ ≠ gb403)) (by (with_reducible repeat (first | apply Kd.V_alloc | apply Kd.V_drewN | apply Kd.V_drew)); exact Kd.V_mono HO_398001.out (fun _ hk => ⟨⟨hk.1, ⟨hk.2.2.1, ⟨hk.2.2.2.1, ⟨hk.2.2.2.2.1, hk.2.2.2.2.2⟩⟩⟩⟩, hk.2.1⟩)) hg hat); replace HO_404001 := Aside0.mk (Kd.N_afterv (ok := (fun k_ => ((P0_1_ k_ ∨ P2_ k_) ∨ w.heap.size ≤ k_) ∧ k_ ≠ gb397 ∧ k_ ≠ gb398 ∧ k_ ≠ gb403)) (by (with_reducible repeat (first | apply Kd.N_alloc | apply Kd.N_drewN | apply Kd.N_drew)); exact Kd.N_mono HO_404001.out (fun _ hk => ⟨⟨hk.1, ⟨hk.2.2.1, ⟨hk.2.2.2.1, hk.2.2.2.2⟩⟩⟩, hk.2.1⟩)) hg hat); replace BK397 := Aside0.mk (blk_grown (g := gb397) (o := .cells #[.int .i64 a0_0, .slice (some ad405) l0_1.length c0_1] 24 (0, 0)) (bk BK397) hg (Kd.N_ne HO_11.out BK397.out (by decide))); replace BK398 := Aside0.mk (blk_grown (g := gb398) (o := .cells #[.int .i64 0, .slice none 0 0] 24 (0, 0)) (bk BK398) hg (Kd.N_ne HO_11.out BK398.out (by decide))); replace BK403 := Aside0.mk (blk_grown (g := gb403) (o := .cells #[.int .i64 t399, .slice Ao16 t400.length co16] 24 (0, 0)) (bk BK403) hg (Kd.N_ne HO_11.out BK403.out (by decide))); replace HL405_2 := Aside0.mk (Kd.V_afterv (ok := (fun k_ => ((P0_1_ k_ ∨ P2_ k_) ∨ w.heap.size ≤ k_) ∧ some k_ ≠ (.slice Ao16 t400.length co16 : Value).ownBlock ∧ k_ ≠ gb397 ∧ k_ ≠ gb398 ∧ k_ ≠ gb403)) (by (with_reducible repeat (first | apply Kd.V_alloc | apply Kd.V_drewN | apply Kd.V_drew)); exact Kd.V_mono HL405_2.out (fun _ hk => ⟨⟨hk.1, ⟨hk.2.2.1, ⟨hk.2.2.2.1, ⟨hk.2.2.2.2.1, hk.2.2.2.2.2⟩⟩⟩⟩, hk.2.1⟩)) hg hat); replace HB := Aside0.mk (hb); clear HO_11; clear ho hb hg hat))
         replace HO_2 := Aside0.mk (Kd.V_drew HO_2.out)
         replace HO_398001 := Aside0.mk (Kd.V_drew HO_398001.out)
         replace HO_404001 := Aside0.mk (Kd.N_drew HO_404001.out)
         replace HL405_2 := Aside0.mk (Kd.V_drew HL405_2.out)
         replace HO416 := Aside0.mk (Kd.N_drew HO416.out)
         replace BK397 := Aside0.mk (blk_drew BK397.out)
         replace BK398 := Aside0.mk (blk_drew BK398.out)
         replace BK403 := Aside0.mk (blk_drew BK403.out)
         replace HB := Aside0.mk (below_drew1 HB.out)
         obtain ⟨Ao43, co43, eo43⟩ := Kd.N_slice HO416.out
         (first | subst eo43 | (injection eo43 with f1_ f2_ f3_; have f4_ := f1_.symm; have f5_ := f3_.symm; clear f1_ f2_ f3_; subst f4_; subst f5_))
         refine start_ (n := 8) (S := fun w' => w'.cell? ⟨gb403, 0, none⟩ = some (.int .i64 t399) ∧ w'.cell? ⟨gb403, 1, none⟩ = some (.slice Ao16 t400.length co16)) (ds := [7]) #[false, false, false, false, false, false, false, false] (by kernel_rfl) rfl rfl ⟨(blk_cell BK403.out 0).trans rfl, (blk_cell BK403.out 1).trans rfl⟩ (fun hHeld => ?_); refine with_tabW paraphrastref01_Put.tab11 paraphrastref01_Put.bits11 (fun HT_ HW_ => ?_)
         generalize w41.drew = w42 at HO_2 HO_398001 HO_404001 HL405_2 HO416 BK397 BK398 BK403 HB hHeld ⊢
         refine sPu 0 (some 58) ?_
         refine sPu 2 (some 60) ?_
         refine sPu 3 (some 61) ?_
         refine sTk 1 (some 59) ?_
         refine sOn 4 (some 62) (fun K hK => ?_)
         refine goes_ Tryz.func62 (by kernel_rfl) rfl #[.slice Ao43 y414.length co43] (by rfl) rfl rfl (by (try simp only [List.map_toArray, List.map_cons, List.map_nil]); first | done | rfl | (simp only [List.length_drop, List.length_take]; rfl)) ?_
         with_reducible refine (paraphrastref01_Sorted.calls _ _ y414 t417 _ ?side1 ?side2 A35.out).mono ?_
         (case side1 => exact cS (Kd.N_reads' HO416.out).2.2)
         (case side2 => exact (Kd.N_reads' HO416.out).2.1)
         rintro e w44 ⟨v418_, rfl, ho0, hb⟩; obtain ⟨Av418, cv418, ev418⟩ := Kd.R_slice ho0; subst ev418
         refine ⟨_, rfl, ?_⟩
         have HO419 := Aside0.mk (Kd.N_lower (Kd.N_mono (ok' := fun k_ => ((P0_1_ k_ ∨ P2_ k_) ∨ w.heap.size ≤ k_) ∧ some k_ ≠ (.slice Ao16 t400.length co16 : Value).ownBlock ∧ some k_ ≠ (.slice Ao43 y414.length co43 : Value).ownBlock ∧ k_ ≠ gb397 ∧ k_ ≠ gb398 ∧ k_ ≠ gb403) (Kd.R_N (Kd.R_bound ho0)) (fun k_ hk_ => ⟨(.inr (Nat.le_trans (below_size bel) hk_.2.1)), (Kd.fresh' (Kd.N_lt (tw HO_404001.out)) k_ hk_.2.1), (Kd.fresh' (Kd.N_lt (tw HO416.out)) k_ hk_.2.1), (Kd.freshB (g := gb397) (o := .cells #[.int .i64 a0_0, .slice (some ad405) l0_1.length c0_1] 24 (0, 0)) (bk BK397) k_ hk_.2.1), (Kd.freshB (g := gb398) (o := .cells #[.int .i64 0, .slice none 0 0] 24 (0, 0)) (bk BK398) k_ hk_.2.1), (Kd.freshB (g := gb403) (o := .cells #[.int .i64 t399, .slice Ao16 t400.length co16] 24 (0, 0)) (bk BK403) k_ hk_.2.1)⟩)) (below_size bel))
         replace HO_2 := vE HO_2 (by first | exact Kd.N_base ho0 | exact Kd.R_base ho0) hb
         replace HO_398001 := vE HO_398001 (by first | exact Kd.N_base ho0 | exact Kd.R_base ho0) hb
         replace HO_404001 := Aside0.mk (Kd.N_elder' (tw HO_404001.out) (by first | exact Kd.N_base ho0 | exact Kd.R_base ho0) hb)
         replace HL405_2 := vE HL405_2 (by first | exact Kd.N_base ho0 | exact Kd.R_base ho0) hb
         replace HO416 := Aside0.mk (Kd.N_elder' (tw HO416.out) (by first | exact Kd.N_base ho0 | exact Kd.R_base ho0) hb)
         replace BK397 := blB BK397 hb
         replace BK398 := blB BK398 hb
         replace BK403 := blB BK403 hb
         replace HB := Aside0.mk (below_step bel hb)
         (try clear hb)
         (try clear hb2)
         (try clear hk)
         (try clear hi)
         (try clear ho0)
         have p37 : 0 ≤ (t404 : Int) := dtr
         have q37 : (t404 : Int) < ((t400.length : Int) : Int) := dtr
         obtain ⟨go37, co37, eo37, gb37, gl37, cl37, HG37⟩ := Kd.N_form HO_404001.out (by omega)
         (first | cases eo37 | (injection eo37 with ea_ en_ ec_; (first | subst ea_ | (injection ea_ with ea_; subst ea_)); subst ec_; clear en_))
         have GB37 := Aside0.mk gb37
         have GG37 := Aside0.mk HG37
         clear gb37 gl37 HG37
         obtain ⟨ce37, hcl37, hM37, hcc37, hfr37⟩ := Kd.N_elem HO_404001.out z52 (t404 : Int) p37 q37
         obtain ⟨ua37_2, uc37_2, rfl, ul37_2, ge37_2⟩ := k52_openF hM37
         have hx37_0 : World.cell? _ ⟨go37, (t404 : Int).toNat * 3, none⟩ = some (.string ((rd_T52 t400 t404).f0)) := hcc37 0 _ rfl
         have hx37_1 : World.cell? _ ⟨go37, (t404 : Int).toNat * 3 + 1, none⟩ = some (.int .i64 ((rd_T52 t400 t404).f1)) := hcc37 1 _ rfl
         have hx37_2 : World.cell? _ ⟨go37, (t404 : Int).toNat * 3 + 2, none⟩ = some (.slice ua37_2 ((rd_T52 t400 t404).f2).length uc37_2) := hcc37 2 _ rfl
         have hf37_0 : World.frozen? _ ⟨go37, (t404 : Int).toNat * 3, none⟩ = false := hfr37 0
         have hf37_1 : World.frozen? _ ⟨go37, (t404 : Int).toNat * 3 + 1, none⟩ = false := hfr37 1
         have hf37_2 : World.frozen? _ ⟨go37, (t404 : Int).toNat * 3 + 2, none⟩ = false := hfr37 2
         clear hcl37 hcc37 hfr37 hM37
         replace p37 := eq_true p37
         replace q37 := eq_true q37
         have HX45 := Aside0.mk (show Kd.N k52 52 _ w.heap.size (fun k_ => ((P0_1_ k_ ∨ P2_ k_) ∨ w.heap.size ≤ k_) ∧ some k_ ≠ (.slice Ao43 y414.length co43 : Value).ownBlock ∧ some k_ ≠ ((.slice Av418 t417.length cv418 : Value) : Value).ownBlock ∧ k_ ≠ gb397 ∧ k_ ≠ gb398 ∧ k_ ≠ gb403) (.slice (some ⟨go37, 0, none⟩) t400.length co16) t400 from (Kd.N_mono (HO_404001.out) (fun k_ hk => ⟨hk.1.1.1, ⟨hk.1.2, ⟨hk.2, ⟨hk.1.1.2.1, ⟨hk.1.1.2.2.1, hk.1.1.2.2.2⟩⟩⟩⟩⟩)))
         replace HX45 := Aside0.mk (show Kd.N k52 52 _ w.heap.size (fun k_ => ((P0_1_ k_ ∨ P2_ k_) ∨ w.heap.size ≤ k_) ∧ some k_ ≠ (.slice Ao43 y414.length co43 : Value).ownBlock ∧ k_ ≠ gb397 ∧ k_ ≠ gb398 ∧ k_ ≠ gb403) (.slice (some ⟨go37, 0, none⟩) t400.length co16) t400 from Kd.N_mono HX45.out (fun k_ hk => ⟨hk.1, ⟨hk.2.1, ⟨hk.2.2.2.1, ⟨hk.2.2.2.2.1, hk.2.2.2.2.2⟩⟩⟩⟩))
         obtain ⟨ce45, hcl45, hM45, hcc45, hfr45⟩ := Kd.N_elem HX45.out z52 (t404 : Int) (dtr) (by have h_ : (t404 : Int) < ((t400.length : Int) : Int) := dtr; first | exact h_ | (have e_ := (Kd.N_reads' HO_404001.out).1; omega) | simpa using h_)
         obtain ⟨ua45_2, uc45_2, rfl, ul45_2, ge45_2⟩ := k52_openF hM45
         have HP45 := (Kd.N_seg HX45.out (t404 : Int) (dtr) (by have h_ : (t404 : Int) < ((t400.length : Int) : Int) := dtr; first | exact h_ | (have e_ := (Kd.N_reads' HO_404001.out).1; omega) | simpa using h_) (seg := [(.slice Av418 t417.length cv418 : Value)]) (j := 2) hcl45 hcc45 (show 3 ≤ 3 from by decide) (x' := (⟨(rd_T52 t400 t404).f0, (rd_T52 t400 t404).f1, t417⟩ : S52)) (k52_mkF _ _ (⟨(rd_T52 t400 t404).f0, (rd_T52 t400 t404).f1, t417⟩ : S52) (Kd.N_reads' (Kd.N_mono (ok' := (fun k_ => ((fun k_ => ((P0_1_ k_ ∨ P2_ k_) ∨ w.heap.size ≤ k_) ∧ some k_ ≠ (.slice Ao43 y414.length co43 : Value).ownBlock ∧ k_ ≠ gb397 ∧ k_ ≠ gb398 ∧ k_ ≠ gb403)) k_ ∧ k_ ≠ go37)) (HO419.out) (fun k_ hk => ⟨⟨hk.1, ⟨hk.2.2.1, ⟨hk.2.2.2.1, ⟨hk.2.2.2.2.1, hk.2.2.2.2.2⟩⟩⟩⟩, fun e_ => (hk.2.1) (by rw [e_]; rfl)⟩))).2.1 (Kd.N_F (Kd.N_mono (ok' := (fun k_ => ((fun k_ => ((P0_1_ k_ ∨ P2_ k_) ∨ w.heap.size ≤ k_) ∧ some k_ ≠ (.slice Ao43 y414.length co43 : Value).ownBlock ∧ k_ ≠ gb397 ∧ k_ ≠ gb398 ∧ k_ ≠ gb403)) k_ ∧ k_ ≠ go37)) (HO419.out) (fun k_ hk => ⟨⟨hk.1, ⟨hk.2.2.1, ⟨hk.2.2.2.1, ⟨hk.2.2.2.2.1, hk.2.2.2.2.2⟩⟩⟩⟩, fun e_ => (hk.2.1) (by rw [e_]; rfl)⟩)))) (fun _ hk => hk)).1
         rw [← Ny420.out] at HP45
         have HQ45 := Aside0.mk HP45
         clear hcl45 hcc45 hfr45 hM45 HP45
         refine hK.out _ _ ⟨(blk_cell BK403.out 0).trans rfl, (blk_cell BK403.out 1).trans rfl⟩ (fun hHeld => ?_)
         clear hK K
         refine norm_ (a' := ?_) ?_ ?_
         rotate_left
         ·show Act.put _ (some 62) _ = _
          simp only [Act.put, List.setIfInBounds_toArray, List.set_cons_zero, List.set_cons_succ, i64_w, i32_w]
          rfl
         refine sPu 5 (some 63) ?_
         refine sPu 6 (some 64) ?_
         refine last_ (i := 7) (N := none) #[true, true, true, true, true, true, true, true] rfl rfl (one_of HT_.out (by kernel_rfl)) (by decide) (fun K hK => ?_)
         refine skip_ (w1 := ?_) (by rfl) rfl ?_ ?_
         rotate_left
         ·go_simp
          rfl
         refine hK.out _ _ ?_
         clear hK K
         refine done_ (done_of HT_.out (by kernel_rfl)) ?_
         have n0_ : Aside0 (Kd.V (Kd.int .i64) 3 (w44.setCell ⟨go37, (t404 : Int).toNat * 3 + 2, none⟩ ((.slice Av418 t417.length cv418 : Value))) w.heap.size (fun k_ => ((P0_1_ k_ ∨ P2_ k_) ∨ w.heap.size ≤ k_) ∧ some k_ ≠ (.slice (some ⟨go37, 0, none⟩) t400.length co16 : Value).ownBlock ∧ some k_ ≠ (.slice Ao43 y414.length co43 : Value).ownBlock ∧ k_ ≠ gb397 ∧ k_ ≠ gb398 ∧ k_ ≠ gb403) (.slice A2 l2.length c2) l2) := ⟨by (with_reducible repeat (first | apply Kd.V_alloc | apply Kd.V_drewN | apply Kd.V_drew)); exact Kd.V_mono (Kd.V_far (p := ⟨go37, (t404 : Int).toNat * 3 + 2, none⟩) (Kd.V_mono HO_2.out (fun k_ hk => (⟨hk, fun e_ => hk.1.1.2.1 (by rw [e_]; rfl)⟩ : _ ∧ k_ ≠ go37))) (fun _ hk => hk.2) ((.slice Av418 t417.length cv418 : Value))) (fun _ hk => ⟨hk.1.1.1.1, ⟨hk.1.1.1.2.1, ⟨hk.1.1.2, ⟨hk.1.1.1.2.2.1, ⟨hk.1.1.1.2.2.2.1, hk.1.1.1.2.2.2.2⟩⟩⟩⟩⟩)⟩
         have n1_ : Aside0 (Kd.V k52 52 (w44.setCell ⟨go37, (t404 : Int).toNat * 3 + 2, none⟩ ((.slice Av418 t417.length cv418 : Value))) w.heap.size (fun k_ => ((P0_1_ k_ ∨ P2_ k_) ∨ w.heap.size ≤ k_) ∧ some k_ ≠ (.slice (some ⟨go37, 0, none⟩) t400.length co16 : Value).ownBlock ∧ some k_ ≠ (.slice Ao43 y414.length co43 : Value).ownBlock ∧ k_ ≠ gb397 ∧ k_ ≠ gb398 ∧ k_ ≠ gb403) (.slice (some ad405) l0_1.length c0_1) l0_1) := ⟨by (with_reducible repeat (first | apply Kd.V_alloc | apply Kd.V_drewN | apply Kd.V_drew)); exact Kd.V_mono (Kd.V_far (p := ⟨go37, (t404 : Int).toNat * 3 + 2, none⟩) (Kd.V_mono HO_398001.out (fun k_ hk => (⟨hk, fun e_ => hk.1.1.2.1 (by rw [e_]; rfl)⟩ : _ ∧ k_ ≠ go37))) (fun _ hk => hk.2) ((.slice Av418 t417.length cv418 : Value))) (fun _ hk => ⟨hk.1.1.1.1, ⟨hk.1.1.1.2.1, ⟨hk.1.1.2, ⟨hk.1.1.1.2.2.1, ⟨hk.1.1.1.2.2.2.1, hk.1.1.1.2.2.2.2⟩⟩⟩⟩⟩)⟩
         have n2_ : Aside0 (Kd.N k52 52 (w44.setCell ⟨go37, (t404 : Int).toNat * 3 + 2, none⟩ ((.slice Av418 t417.length cv418 : Value))) w.heap.size (fun k_ => ((P0_1_ k_ ∨ P2_ k_) ∨ w.heap.size ≤ k_) ∧ some k_ ≠ (.slice Ao43 y414.length co43 : Value).ownBlock ∧ k_ ≠ gb397 ∧ k_ ≠ gb398 ∧ k_ ≠ gb403) (.slice (some ⟨go37, 0, none⟩) t400.length co16) y420) := ⟨by (with_reducible repeat (first | apply Kd.N_alloc | apply Kd.N_drewN | apply Kd.N_drew)); exact HQ45.out⟩
         have n3_ : Aside0 (Kd.V (Kd.slice 3 (Kd.int .i64)) 46 (w44.setCell ⟨go37, (t404 : Int).toNat * 3 + 2, none⟩ ((.slice Av418 t417.length cv418 : Value))) w.heap.size (fun k_ => ((P0_1_ k_ ∨ P2_ k_) ∨ w.heap.size ≤ k_) ∧ some k_ ≠ (.slice (some ⟨go37, 0, none⟩) t400.length co16 : Value).ownBlock ∧ some k_ ≠ (.slice Ao43 y414.length co43 : Value).ownBlock ∧ k_ ≠ gb397 ∧ k_ ≠ gb398 ∧ k_ ≠ gb403) (.slice A405_2 ((rd_T52 l0_1 t404).f2).length c405_2) ((rd_T52 l0_1 t404).f2)) := ⟨by (with_reducible repeat (first | apply Kd.V_alloc | apply Kd.V_drewN | apply Kd.V_drew)); exact Kd.V_mono (Kd.V_far (p := ⟨go37, (t404 : Int).toNat * 3 + 2, none⟩) (Kd.V_mono HL405_2.out (fun k_ hk => (⟨hk, fun e_ => hk.1.1.2.1 (by rw [e_]; rfl)⟩ : _ ∧ k_ ≠ go37))) (fun _ hk => hk.2) ((.slice Av418 t417.length cv418 : Value))) (fun _ hk => ⟨hk.1.1.1.1, ⟨hk.1.1.1.2.1, ⟨hk.1.1.2, ⟨hk.1.1.1.2.2.1, ⟨hk.1.1.1.2.2.2.1, hk.1.1.1.2.2.2.2⟩⟩⟩⟩⟩)⟩
         have n4_ : Aside0 (Kd.N (Kd.slice 3 (Kd.int .i64)) 46 (w44.setCell ⟨go37, (t404 : Int).toNat * 3 + 2, none⟩ ((.slice Av418 t417.length cv418 : Value))) w.heap.size (fun k_ => ((P0_1_ k_ ∨ P2_ k_) ∨ w.heap.size ≤ k_) ∧ some k_ ≠ (.slice (some ⟨go37, 0, none⟩) t400.length co16 : Value).ownBlock ∧ k_ ≠ gb397 ∧ k_ ≠ gb398 ∧ k_ ≠ gb403) (.slice Ao43 y414.length co43) y414) := ⟨by (with_reducible repeat (first | apply Kd.N_alloc | apply Kd.N_drewN | apply Kd.N_drew)); exact Kd.N_mono (Kd.N_far (p := ⟨go37, (t404 : Int).toNat * 3 + 2, none⟩) (Kd.N_mono HO416.out (fun k_ hk => (⟨hk, fun e_ => hk.1.2.1 (by rw [e_]; rfl)⟩ : _ ∧ k_ ≠ go37))) (fun _ hk => hk.2) ((.slice Av418 t417.length cv418 : Value))) (fun _ hk => ⟨hk.1.1.1, ⟨hk.1.1.2.1, ⟨hk.1.1.2.2.1, ⟨hk.1.1.2.2.2.1, hk.1.1.2.2.2.2⟩⟩⟩⟩)⟩
         have n5_ : Aside0 ((w44.setCell ⟨go37, (t404 : Int).toNat * 3 + 2, none⟩ ((.slice Av418 t417.length cv418 : Value))).heap[gb397]? = some (.cells #[.int .i64 a0_0, .slice (some ad405) l0_1.length c0_1] 24 (0, 0))) := ⟨by (with_reducible repeat (first | refine blk_drewN ?_ _ | refine blk_drew ?_ | refine blk_alloc ?_ _)); refine blk_far ?_ (by have h_ := Kd.N_away (g := gb397) HO_404001.out (fun _ hk => by omega); intro e_; exact h_ (by rw [e_]; rfl)) _; (with_reducible repeat (first | refine blk_drewN ?_ _ | refine blk_drew ?_ | refine blk_alloc ?_ _)); exact BK397.out⟩
         have n6_ : Aside0 ((w44.setCell ⟨go37, (t404 : Int).toNat * 3 + 2, none⟩ ((.slice Av418 t417.length cv418 : Value))).heap[gb398]? = some (.cells #[.int .i64 0, .slice none 0 0] 24 (0, 0))) := ⟨by (with_reducible repeat (first | refine blk_drewN ?_ _ | refine blk_drew ?_ | refine blk_alloc ?_ _)); refine blk_far ?_ (by have h_ := Kd.N_away (g := gb398) HO_404001.out (fun _ hk => by omega); intro e_; exact h_ (by rw [e_]; rfl)) _; (with_reducible repeat (first | refine blk_drewN ?_ _ | refine blk_drew ?_ | refine blk_alloc ?_ _)); exact BK398.out⟩
         have n7_ : Aside0 ((w44.setCell ⟨go37, (t404 : Int).toNat * 3 + 2, none⟩ ((.slice Av418 t417.length cv418 : Value))).heap[gb403]? = some (.cells #[.int .i64 t399, .slice (some ⟨go37, 0, none⟩) t400.length co16] 24 (0, 0))) := ⟨by (with_reducible repeat (first | refine blk_drewN ?_ _ | refine blk_drew ?_ | refine blk_alloc ?_ _)); refine blk_far ?_ (by have h_ := Kd.N_away (g := gb403) HO_404001.out (fun _ hk => by omega); intro e_; exact h_ (by rw [e_]; rfl)) _; (with_reducible repeat (first | refine blk_drewN ?_ _ | refine blk_drew ?_ | refine blk_alloc ?_ _)); exact BK403.out⟩
         have n8_ : Aside0 (Below w.heap.size w (w44.setCell ⟨go37, (t404 : Int).toNat * 3 + 2, none⟩ ((.slice Av418 t417.length cv418 : Value)))) := ⟨by repeat (first | (with_reducible first | exact HB.out | apply below_alloc | apply pw_below_drewN | apply below_drew1 | refine below_set ?_ GB37.out | refine below_set ?_ GE397.out | refine below_set ?_ GE398.out | refine below_set ?_ GE403.out) | exact HB.out)⟩
         (try clear HO_2)
         (try clear HO_398001)
         (try clear HO_404001)
         (try clear HL405_2)
         (try clear HO416)
         (try clear BK397)
         (try clear BK398)
         (try clear BK403)
         (try clear HB)
         generalize (w44.setCell ⟨go37, (t404 : Int).toNat * 3 + 2, none⟩ ((.slice Av418 t417.length cv418 : Value))) = w46 at n0_ n1_ n2_ n3_ n4_ n5_ n6_ n7_ n8_ ⊢
         have HO_2 := n0_
         have HO_398001 := n1_
         have HO_404001 := n2_
         have HL405_2 := n3_
         have HO416 := n4_
         have BK397 := n5_
         have BK398 := n6_
         have BK403 := n7_
         have HB := n8_
         clear n0_ n1_ n2_ n3_ n4_ n5_ n6_ n7_ n8_
         have hnb47 := NB403_398.out
         have hnc47 := NB398_403.out
         obtain ⟨hcz48_0, hcz48_1, hfz48_0, hfz48_1⟩ := bq2 BK403
         obtain ⟨hcz49_0, hcz49_1, hfz49_0, hfz49_1⟩ := bq2 BK398
         try go_wp2
         refine bodyPost_ret (results_cell_row rfl _ _ gb398 24 #[.int .i64 t399, .slice (some ⟨go37, 0, none⟩) t400.length co16] (0, 0) _ rfl (by (with_reducible repeat (first | refine blk_drewN ?_ _ | refine blk_drew ?_ | refine blk_alloc ?_ _)); refine blk_put (cs := #[.int .i64 t399, .slice none 0 0]) ?_ 1 _ rfl; (with_reducible repeat (first | refine blk_drewN ?_ _ | refine blk_drew ?_ | refine blk_alloc ?_ _)); refine blk_put (cs := #[.int .i64 0, .slice none 0 0]) ?_ 0 _ rfl; (with_reducible repeat (first | refine blk_drewN ?_ _ | refine blk_drew ?_ | refine blk_alloc ?_ _)); exact BK398.out) Tryz.underlying24 rfl (by kernel_rfl)) rfl ?_
         exact ⟨_, eN, by (with_reducible repeat (first | apply Kd.N_alloc | apply Kd.N_drewN | apply Kd.N_drew)); exact Kd.N_mono (Kd.N_far (p := ⟨gb398, 1, none⟩) (Kd.N_far (p := ⟨gb398, 0, none⟩) (Kd.N_mono HO_404001.out (fun k_ hk => (⟨hk, hk.2.2.2.1⟩ : _ ∧ k_ ≠ gb398))) (fun _ hk => hk.2) (.int .i64 t399)) (fun _ hk => hk.2) (.slice (some ⟨go37, 0, none⟩) t400.length co16)) (fun _ hk => hk.1.1), bel⟩
        ·rw [if_neg c36] at H
         exact absurd H (by simp)
       ·rw [if_neg c34] at H
        exact absurd H (by simp)
      ·replace c33 := Bool.eq_false_iff.mpr c33
       subst c33
       have H1 : ((paraphrastref01_Sorted.f x11_1).bind fun t421 => (if t404 < (t400.length : Int) then (some (t399, (t400.set (t404 : Int).toNat (⟨(rd_T52 t400 t404).f0, (rd_T52 t400 t404).f1, t421⟩ : S52)))) else (none))) = some (r1, r2) := by rw [if_neg (show ¬ (false = true) by decide)] at H; exact H
       clear H
       have H := H1
       clear H1
       replace H := Option.bind_eq_some_iff.mp H
       obtain ⟨t421, A500, H⟩ := H
       replace H : (if t404 < (t400.length : Int) then (some (t399, (t400.set (t404 : Int).toNat (⟨(rd_T52 t400 t404).f0, (rd_T52 t400 t404).f1, t421⟩ : S52)))) else (none)) = some (r1, r2) := H
       have A50 := Aside0.mk A500
       clear A500
       by_cases c51 : t404 < (t400.length : Int)
       ·rw [if_pos c51] at H
        have c51b0 : decide (t404 < (t400.length : Int)) = true := decide_eq_true c51
        clear c51
        obtain ⟨y424, hy424⟩ : ∃ y_ : List (S52), y_ = (t400.set (t404 : Int).toNat (⟨(rd_T52 t400 t404).f0, (rd_T52 t400 t404).f1, t421⟩ : S52)) := ⟨_, rfl⟩
        replace H : (some (t399, y424)) = some (r1, r2) := by first | (rw [hy424]; with_reducible exact H) | (have H2_ := (Option.bind_some _ _).symm.trans H; rw [hy424]; with_reducible exact H2_) | (have H2_ := (Option.bind_some _ _).symm.trans H; with_reducible exact H2_) | with_reducible exact H | (rw [hy424]; exact H) | exact H
        have Ny424 := Aside0.mk hy424
        clear hy424
        simp only [Option.some.injEq, Prod.mk.injEq] at H
        obtain ⟨rfl, rfl⟩ := H
        have hnb53 := NB397_398.out
        have hnc53 := NB398_397.out
        have hnb54 := NB397_403.out
        have hnc54 := NB403_397.out
        obtain ⟨hcz55_0, hcz55_1, hfz55_0, hfz55_1⟩ := bq2 BK397
        have p405 : 0 ≤ (t404 : Int) := dtr
        have q405 : t404 < (l0_1.length : Int) := dtr
        obtain ⟨ad405, A405_2, c405_2, e405, hx405_0, hx405_1, hx405_2, hl405_2, hi405_2⟩ := at_T52 (Kd.V_reads' HO_398001.out).2.2 t404 p405 q405
        cases e405
        obtain ⟨ce405, hce405, hMe405, hcc405⟩ := Kd.V_get HO_398001.out z52 t404 p405 (by first | exact q405 | exact dtr | (have e_ := (Kd.V_reads' HO_398001.out).1; omega))
        obtain ⟨ua405_2, uc405_2, rfl, ul405_2, ge405_2⟩ := k52_openF hMe405
        have hv405_2 := hcc405 2 _ rfl
        rw [add_field _ _ 2 (by omega)] at hv405_2
        replace hv405_2 := Option.some.inj (hv405_2.symm.trans hx405_2)
        injection hv405_2 with hva_ hvn_ hvc_
        rw [hva_] at ge405_2
        rw [hvc_] at ul405_2
        have HL405_2 := Aside0.mk (show Kd.V (Kd.slice 3 (Kd.int .i64)) 46 _ w.heap.size _ _ ((rd_T52 l0_1 t404).f2) from Kd.V_mk ul405_2 ge405_2)
        clear hva_ hvn_ hvc_ ge405_2 ul405_2
        clear hcc405 hce405
        have HR405_2 := Aside0.mk hi405_2
        have HC405_2 := Aside0.mk hl405_2
        clear hi405_2 hl405_2
        replace p405 := eq_true p405
        replace q405 := eq_true q405
        try go_wp2
        replace HO_2 := Aside0.mk (Kd.V_drew HO_2.out)
        replace HO_11 := Aside0.mk (Kd.N_drew HO_11.out)
        replace HO_398001 := Aside0.mk (Kd.V_drew HO_398001.out)
        replace HO_404001 := Aside0.mk (Kd.N_drew HO_404001.out)
        replace HL405_2 := Aside0.mk (Kd.V_drew HL405_2.out)
        replace BK397 := Aside0.mk (blk_drew BK397.out)
        replace BK398 := Aside0.mk (blk_drew BK398.out)
        replace BK403 := Aside0.mk (blk_drew BK403.out)
        replace HR405_2 := Aside0.mk (Kd.C_drew HR405_2.out)
        replace HB := Aside0.mk (below_drew1 HB.out)
        obtain ⟨Ao57, co57, eo57⟩ := Kd.N_slice HO_11.out
        (first | subst eo57 | (injection eo57 with f1_ f2_ f3_; have f4_ := f1_.symm; have f5_ := f3_.symm; clear f1_ f2_ f3_; subst f4_; subst f5_))
        refine start_ (n := 8) (S := fun w' => w'.cell? ⟨gb403, 0, none⟩ = some (.int .i64 t399) ∧ w'.cell? ⟨gb403, 1, none⟩ = some (.slice Ao16 t400.length co16)) (ds := [7]) #[false, false, false, false, false, false, false, false] (by kernel_rfl) rfl rfl ⟨(blk_cell BK403.out 0).trans rfl, (blk_cell BK403.out 1).trans rfl⟩ (fun hHeld => ?_); refine with_tabW paraphrastref01_Put.tab11 paraphrastref01_Put.bits11 (fun HT_ HW_ => ?_)
        generalize wr.drew = w56 at HO_2 HO_11 HO_398001 HO_404001 HL405_2 BK397 BK398 BK403 HR405_2 HB hHeld ⊢
        refine sPu 0 (some 58) ?_
        refine sPu 2 (some 60) ?_
        refine sPu 3 (some 61) ?_
        refine sTk 1 (some 59) ?_
        refine sOn 4 (some 62) (fun K hK => ?_)
        refine goes_ Tryz.func62 (by kernel_rfl) rfl #[.slice Ao57 x11_1.length co57] (by rfl) rfl rfl (by (try simp only [List.map_toArray, List.map_cons, List.map_nil]); first | done | rfl | (simp only [List.length_drop, List.length_take]; rfl)) ?_
        with_reducible refine (paraphrastref01_Sorted.calls _ _ x11_1 t421 _ ?side1 ?side2 A50.out).mono ?_
        (case side1 => exact cS (Kd.N_reads' HO_11.out).2.2)
        (case side2 => exact (Kd.N_reads' HO_11.out).2.1)
        rintro e w58 ⟨v422_, rfl, ho0, hb⟩; obtain ⟨Av422, cv422, ev422⟩ := Kd.R_slice ho0; subst ev422
        refine ⟨_, rfl, ?_⟩
        have HO423 := Aside0.mk (Kd.N_lower (Kd.N_mono (ok' := fun k_ => ((P0_1_ k_ ∨ P2_ k_) ∨ w.heap.size ≤ k_) ∧ some k_ ≠ (.slice Ao57 x11_1.length co57 : Value).ownBlock ∧ some k_ ≠ (.slice Ao16 t400.length co16 : Value).ownBlock ∧ k_ ≠ gb397 ∧ k_ ≠ gb398 ∧ k_ ≠ gb403) (Kd.R_N (Kd.R_bound ho0)) (fun k_ hk_ => ⟨(.inr (Nat.le_trans (below_size bel) hk_.2.1)), (Kd.fresh' (Kd.N_lt (tw HO_11.out)) k_ hk_.2.1), (Kd.fresh' (Kd.N_lt (tw HO_404001.out)) k_ hk_.2.1), (Kd.freshB (g := gb397) (o := .cells #[.int .i64 a0_0, .slice (some ad405) l0_1.length c0_1] 24 (0, 0)) (bk BK397) k_ hk_.2.1), (Kd.freshB (g := gb398) (o := .cells #[.int .i64 0, .slice none 0 0] 24 (0, 0)) (bk BK398) k_ hk_.2.1), (Kd.freshB (g := gb403) (o := .cells #[.int .i64 t399, .slice Ao16 t400.length co16] 24 (0, 0)) (bk BK403) k_ hk_.2.1)⟩)) (below_size bel))
        replace HO_2 := vE HO_2 (by first | exact Kd.N_base ho0 | exact Kd.R_base ho0) hb
        replace HO_11 := Aside0.mk (Kd.N_elder' (tw HO_11.out) (by first | exact Kd.N_base ho0 | exact Kd.R_base ho0) hb)
        replace HO_398001 := vE HO_398001 (by first | exact Kd.N_base ho0 | exact Kd.R_base ho0) hb
        replace HO_404001 := Aside0.mk (Kd.N_elder' (tw HO_404001.out) (by first | exact Kd.N_base ho0 | exact Kd.R_base ho0) hb)
        replace HL405_2 := vE HL405_2 (by first | exact Kd.N_base ho0 | exact Kd.R_base ho0) hb
        replace BK397 := blB BK397 hb
        replace BK398 := blB BK398 hb
        replace BK403 := blB BK403 hb
        replace HR405_2 := Aside0.mk (Kd.C_below (by repeat (first | (with_reducible exact HR405_2.out) | (with_reducible refine Kd.C_alloc ?_ _) | (with_reducible refine Kd.C_drewN ?_ _) | (with_reducible refine Kd.C_drew ?_) | exact HR405_2.out)) hb)
        replace HB := Aside0.mk (below_step bel hb)
        (try clear hb)
        (try clear hb2)
        (try clear hk)
        (try clear hi)
        (try clear ho0)
        have p52 : 0 ≤ (t404 : Int) := dtr
        have q52 : (t404 : Int) < ((t400.length : Int) : Int) := dtr
        obtain ⟨go52, co52, eo52, gb52, gl52, cl52, HG52⟩ := Kd.N_form HO_404001.out (by omega)
        (first | cases eo52 | (injection eo52 with ea_ en_ ec_; (first | subst ea_ | (injection ea_ with ea_; subst ea_)); subst ec_; clear en_))
        have GB52 := Aside0.mk gb52
        have GG52 := Aside0.mk HG52
        clear gb52 gl52 HG52
        obtain ⟨ce52, hcl52, hM52, hcc52, hfr52⟩ := Kd.N_elem HO_404001.out z52 (t404 : Int) p52 q52
        obtain ⟨ua52_2, uc52_2, rfl, ul52_2, ge52_2⟩ := k52_openF hM52
        have hx52_0 : World.cell? _ ⟨go52, (t404 : Int).toNat * 3, none⟩ = some (.string ((rd_T52 t400 t404).f0)) := hcc52 0 _ rfl
        have hx52_1 : World.cell? _ ⟨go52, (t404 : Int).toNat * 3 + 1, none⟩ = some (.int .i64 ((rd_T52 t400 t404).f1)) := hcc52 1 _ rfl
        have hx52_2 : World.cell? _ ⟨go52, (t404 : Int).toNat * 3 + 2, none⟩ = some (.slice ua52_2 ((rd_T52 t400 t404).f2).length uc52_2) := hcc52 2 _ rfl
        have hf52_0 : World.frozen? _ ⟨go52, (t404 : Int).toNat * 3, none⟩ = false := hfr52 0
        have hf52_1 : World.frozen? _ ⟨go52, (t404 : Int).toNat * 3 + 1, none⟩ = false := hfr52 1
        have hf52_2 : World.frozen? _ ⟨go52, (t404 : Int).toNat * 3 + 2, none⟩ = false := hfr52 2
        clear hcl52 hcc52 hfr52 hM52
        replace p52 := eq_true p52
        replace q52 := eq_true q52
        have HX59 := Aside0.mk (show Kd.N k52 52 _ w.heap.size (fun k_ => ((P0_1_ k_ ∨ P2_ k_) ∨ w.heap.size ≤ k_) ∧ some k_ ≠ (.slice Ao57 x11_1.length co57 : Value).ownBlock ∧ some k_ ≠ ((.slice Av422 t421.length cv422 : Value) : Value).ownBlock ∧ k_ ≠ gb397 ∧ k_ ≠ gb398 ∧ k_ ≠ gb403) (.slice (some ⟨go52, 0, none⟩) t400.length co16) t400 from (Kd.N_mono (HO_404001.out) (fun k_ hk => ⟨hk.1.1, ⟨hk.1.2.1, ⟨hk.2, ⟨hk.1.2.2.1, ⟨hk.1.2.2.2.1, hk.1.2.2.2.2⟩⟩⟩⟩⟩)))
        replace HX59 := Aside0.mk (show Kd.N k52 52 _ w.heap.size (fun k_ => ((P0_1_ k_ ∨ P2_ k_) ∨ w.heap.size ≤ k_) ∧ some k_ ≠ (.slice Ao57 x11_1.length co57 : Value).ownBlock ∧ k_ ≠ gb397 ∧ k_ ≠ gb398 ∧ k_ ≠ gb403) (.slice (some ⟨go52, 0, none⟩) t400.length co16) t400 from Kd.N_mono HX59.out (fun k_ hk => ⟨hk.1, ⟨hk.2.1, ⟨hk.2.2.2.1, ⟨hk.2.2.2.2.1, hk.2.2.2.2.2⟩⟩⟩⟩))
        obtain ⟨ce59, hcl59, hM59, hcc59, hfr59⟩ := Kd.N_elem HX59.out z52 (t404 : Int) (dtr) (by have h_ : (t404 : Int) < ((t400.length : Int) : Int) := dtr; first | exact h_ | (have e_ := (Kd.N_reads' HO_404001.out).1; omega) | simpa using h_)
        obtain ⟨ua59_2, uc59_2, rfl, ul59_2, ge59_2⟩ := k52_openF hM59
        have HP59 := (Kd.N_seg HX59.out (t404 : Int) (dtr) (by have h_ : (t404 : Int) < ((t400.length : Int) : Int) := dtr; first | exact h_ | (have e_ := (Kd.N_reads' HO_404001.out).1; omega) | simpa using h_) (seg := [(.slice Av422 t421.length cv422 : Value)]) (j := 2) hcl59 hcc59 (show 3 ≤ 3 from by decide) (x' := (⟨(rd_T52 t400 t404).f0, (rd_T52 t400 t404).f1, t421⟩ : S52)) (k52_mkF _ _ (⟨(rd_T52 t400 t404).f0, (rd_T52 t400 t404).f1, t421⟩ : S52) (Kd.N_reads' (Kd.N_mono (ok' := (fun k_ => ((fun k_ => ((P0_1_ k_ ∨ P2_ k_) ∨ w.heap.size ≤ k_) ∧ some k_ ≠ (.slice Ao57 x11_1.length co57 : Value).ownBlock ∧ k_ ≠ gb397 ∧ k_ ≠ gb398 ∧ k_ ≠ gb403)) k_ ∧ k_ ≠ go52)) (HO423.out) (fun k_ hk => ⟨⟨hk.1, ⟨hk.2.1, ⟨hk.2.2.2.1, ⟨hk.2.2.2.2.1, hk.2.2.2.2.2⟩⟩⟩⟩, fun e_ => (hk.2.2.1) (by rw [e_]; rfl)⟩))).2.1 (Kd.N_F (Kd.N_mono (ok' := (fun k_ => ((fun k_ => ((P0_1_ k_ ∨ P2_ k_) ∨ w.heap.size ≤ k_) ∧ some k_ ≠ (.slice Ao57 x11_1.length co57 : Value).ownBlock ∧ k_ ≠ gb397 ∧ k_ ≠ gb398 ∧ k_ ≠ gb403)) k_ ∧ k_ ≠ go52)) (HO423.out) (fun k_ hk => ⟨⟨hk.1, ⟨hk.2.1, ⟨hk.2.2.2.1, ⟨hk.2.2.2.2.1, hk.2.2.2.2.2⟩⟩⟩⟩, fun e_ => (hk.2.2.1) (by rw [e_]; rfl)⟩)))) (fun _ hk => hk)).1
        rw [← Ny424.out] at HP59
        have HQ59 := Aside0.mk HP59
        clear hcl59 hcc59 hfr59 hM59 HP59
        refine hK.out _ _ ⟨(blk_cell BK403.out 0).trans rfl, (blk_cell BK403.out 1).trans rfl⟩ (fun hHeld => ?_)
        clear hK K
        refine norm_ (a' := ?_) ?_ ?_
        rotate_left
        ·show Act.put _ (some 62) _ = _
         simp only [Act.put, List.setIfInBounds_toArray, List.set_cons_zero, List.set_cons_succ, i64_w, i32_w]
         rfl
        refine sPu 5 (some 63) ?_
        refine sPu 6 (some 64) ?_
        refine last_ (i := 7) (N := none) #[true, true, true, true, true, true, true, true] rfl rfl (one_of HT_.out (by kernel_rfl)) (by decide) (fun K hK => ?_)
        refine skip_ (w1 := ?_) (by rfl) rfl ?_ ?_
        rotate_left
        ·go_simp
         rfl
        refine hK.out _ _ ?_
        clear hK K
        refine done_ (done_of HT_.out (by kernel_rfl)) ?_
        have n0_ : Aside0 (Kd.V (Kd.int .i64) 3 (w58.setCell ⟨go52, (t404 : Int).toNat * 3 + 2, none⟩ ((.slice Av422 t421.length cv422 : Value))) w.heap.size (fun k_ => ((P0_1_ k_ ∨ P2_ k_) ∨ w.heap.size ≤ k_) ∧ some k_ ≠ (.slice Ao57 x11_1.length co57 : Value).ownBlock ∧ some k_ ≠ (.slice (some ⟨go52, 0, none⟩) t400.length co16 : Value).ownBlock ∧ k_ ≠ gb397 ∧ k_ ≠ gb398 ∧ k_ ≠ gb403) (.slice A2 l2.length c2) l2) := ⟨by (with_reducible repeat (first | apply Kd.V_alloc | apply Kd.V_drewN | apply Kd.V_drew)); exact Kd.V_mono (Kd.V_far (p := ⟨go52, (t404 : Int).toNat * 3 + 2, none⟩) (Kd.V_mono HO_2.out (fun k_ hk => (⟨hk, fun e_ => hk.1.2.2.1 (by rw [e_]; rfl)⟩ : _ ∧ k_ ≠ go52))) (fun _ hk => hk.2) ((.slice Av422 t421.length cv422 : Value))) (fun _ hk => ⟨hk.1.1.1, ⟨hk.1.1.2.1, ⟨hk.1.1.2.2.1, ⟨hk.1.1.2.2.2.1, ⟨hk.1.1.2.2.2.2.1, hk.1.1.2.2.2.2.2⟩⟩⟩⟩⟩)⟩
        have n1_ : Aside0 (Kd.N (Kd.slice 3 (Kd.int .i64)) 46 (w58.setCell ⟨go52, (t404 : Int).toNat * 3 + 2, none⟩ ((.slice Av422 t421.length cv422 : Value))) w.heap.size (fun k_ => ((P0_1_ k_ ∨ P2_ k_) ∨ w.heap.size ≤ k_) ∧ some k_ ≠ (.slice (some ⟨go52, 0, none⟩) t400.length co16 : Value).ownBlock ∧ k_ ≠ gb397 ∧ k_ ≠ gb398 ∧ k_ ≠ gb403) (.slice Ao57 x11_1.length co57) x11_1) := ⟨by (with_reducible repeat (first | apply Kd.N_alloc | apply Kd.N_drewN | apply Kd.N_drew)); exact Kd.N_mono (Kd.N_far (p := ⟨go52, (t404 : Int).toNat * 3 + 2, none⟩) (Kd.N_mono HO_11.out (fun k_ hk => (⟨hk, fun e_ => hk.1.2.1 (by rw [e_]; rfl)⟩ : _ ∧ k_ ≠ go52))) (fun _ hk => hk.2) ((.slice Av422 t421.length cv422 : Value))) (fun _ hk => ⟨hk.1.1.1, ⟨hk.1.1.2.1, ⟨hk.1.1.2.2.1, ⟨hk.1.1.2.2.2.1, hk.1.1.2.2.2.2⟩⟩⟩⟩)⟩
        have n2_ : Aside0 (Kd.V k52 52 (w58.setCell ⟨go52, (t404 : Int).toNat * 3 + 2, none⟩ ((.slice Av422 t421.length cv422 : Value))) w.heap.size (fun k_ => ((P0_1_ k_ ∨ P2_ k_) ∨ w.heap.size ≤ k_) ∧ some k_ ≠ (.slice Ao57 x11_1.length co57 : Value).ownBlock ∧ some k_ ≠ (.slice (some ⟨go52, 0, none⟩) t400.length co16 : Value).ownBlock ∧ k_ ≠ gb397 ∧ k_ ≠ gb398 ∧ k_ ≠ gb403) (.slice (some ad405) l0_1.length c0_1) l0_1) := ⟨by (with_reducible repeat (first | apply Kd.V_alloc | apply Kd.V_drewN | apply Kd.V_drew)); exact Kd.V_mono (Kd.V_far (p := ⟨go52, (t404 : Int).toNat * 3 + 2, none⟩) (Kd.V_mono HO_398001.out (fun k_ hk => (⟨hk, fun e_ => hk.1.2.2.1 (by rw [e_]; rfl)⟩ : _ ∧ k_ ≠ go52))) (fun _ hk => hk.2) ((.slice Av422 t421.length cv422 : Value))) (fun _ hk => ⟨hk.1.1.1, ⟨hk.1.1.2.1, ⟨hk.1.1.2.2.1, ⟨hk.1.1.2.2.2.1, ⟨hk.1.1.2.2.2.2.1, hk.1.1.2.2.2.2.2⟩⟩⟩⟩⟩)⟩
        have n3_ : Aside0 (Kd.N k52 52 (w58.setCell ⟨go52, (t404 : Int).toNat * 3 + 2, none⟩ ((.slice Av422 t421.length cv422 : Value))) w.heap.size (fun k_ => ((P0_1_ k_ ∨ P2_ k_) ∨ w.heap.size ≤ k_) ∧ some k_ ≠ (.slice Ao57 x11_1.length co57 : Value).ownBlock ∧ k_ ≠ gb397 ∧ k_ ≠ gb398 ∧ k_ ≠ gb403) (.slice (some ⟨go52, 0, none⟩) t400.length co16) y424) := ⟨by (with_reducible repeat (first | apply Kd.N_alloc | apply Kd.N_drewN | apply Kd.N_drew)); exact HQ59.out⟩
        have n4_ : Aside0 (Kd.V (Kd.slice 3 (Kd.int .i64)) 46 (w58.setCell ⟨go52, (t404 : Int).toNat * 3 + 2, none⟩ ((.slice Av422 t421.length cv422 : Value))) w.heap.size (fun k_ => ((P0_1_ k_ ∨ P2_ k_) ∨ w.heap.size ≤ k_) ∧ some k_ ≠ (.slice Ao57 x11_1.length co57 : Value).ownBlock ∧ some k_ ≠ (.slice (some ⟨go52, 0, none⟩) t400.length co16 : Value).ownBlock ∧ k_ ≠ gb397 ∧ k_ ≠ gb398 ∧ k_ ≠ gb403) (.slice A405_2 ((rd_T52 l0_1 t404).f2).length c405_2) ((rd_T52 l0_1 t404).f2)) := ⟨by (with_reducible repeat (first | apply Kd.V_alloc | apply Kd.V_drewN | apply Kd.V_drew)); exact Kd.V_mono (Kd.V_far (p := ⟨go52, (t404 : Int).toNat * 3 + 2, none⟩) (Kd.V_mono HL405_2.out (fun k_ hk => (⟨hk, fun e_ => hk.1.2.2.1 (by rw [e_]; rfl)⟩ : _ ∧ k_ ≠ go52))) (fun _ hk => hk.2) ((.slice Av422 t421.length cv422 : Value))) (fun _ hk => ⟨hk.1.1.1, ⟨hk.1.1.2.1, ⟨hk.1.1.2.2.1, ⟨hk.1.1.2.2.2.1, ⟨hk.1.1.2.2.2.2.1, hk.1.1.2.2.2.2.2⟩⟩⟩⟩⟩)⟩
        have n5_ : Aside0 ((w58.setCell ⟨go52, (t404 : Int).toNat * 3 + 2, none⟩ ((.slice Av422 t421.length cv422 : Value))).heap[gb397]? = some (.cells #[.int .i64 a0_0, .slice (some ad405) l0_1.length c0_1] 24 (0, 0))) := ⟨by (with_reducible repeat (first | refine blk_drewN ?_ _ | refine blk_drew ?_ | refine blk_alloc ?_ _)); refine blk_far ?_ (by have h_ := Kd.N_away (g := gb397) HO_404001.out (fun _ hk => by omega); intro e_; exact h_ (by rw [e_]; rfl)) _; (with_reducible repeat (first | refine blk_drewN ?_ _ | refine blk_drew ?_ | refine blk_alloc ?_ _)); exact BK397.out⟩
        have n6_ : Aside0 ((w58.setCell ⟨go52, (t404 : Int).toNat * 3 + 2, none⟩ ((.slice Av422 t421.length cv422 : Value))).heap[gb398]? = some (.cells #[.int .i64 0, .slice none 0 0] 24 (0, 0))) := ⟨by (with_reducible repeat (first | refine blk_drewN ?_ _ | refine blk_drew ?_ | refine blk_alloc ?_ _)); refine blk_far ?_ (by have h_ := Kd.N_away (g := gb398) HO_404001.out (fun _ hk => by omega); intro e_; exact h_ (by rw [e_]; rfl)) _; (with_reducible repeat (first | refine blk_drewN ?_ _ | refine blk_drew ?_ | refine blk_alloc ?_ _)); exact BK398.out⟩
        have n7_ : Aside0 ((w58.setCell ⟨go52, (t404 : Int).toNat * 3 + 2, none⟩ ((.slice Av422 t421.length cv422 : Value))).heap[gb403]? = some (.cells #[.int .i64 t399, .slice (some ⟨go52, 0, none⟩) t400.length co16] 24 (0, 0))) := ⟨by (with_reducible repeat (first | refine blk_drewN ?_ _ | refine blk_drew ?_ | refine blk_alloc ?_ _)); refine blk_far ?_ (by have h_ := Kd.N_away (g := gb403) HO_404001.out (fun _ hk => by omega); intro e_; exact h_ (by rw [e_]; rfl)) _; (with_reducible repeat (first | refine blk_drewN ?_ _ | refine blk_drew ?_ | refine blk_alloc ?_ _)); exact BK403.out⟩
        have n8_ : Aside0 (Below w.heap.size w (w58.setCell ⟨go52, (t404 : Int).toNat * 3 + 2, none⟩ ((.slice Av422 t421.length cv422 : Value)))) := ⟨by repeat (first | (with_reducible first | exact HB.out | apply below_alloc | apply pw_below_drewN | apply below_drew1 | refine below_set ?_ GB52.out | refine below_set ?_ GE397.out | refine below_set ?_ GE398.out | refine below_set ?_ GE403.out) | exact HB.out)⟩
        (try clear HO_2)
        (try clear HO_11)
        (try clear HO_398001)
        (try clear HO_404001)
        (try clear HL405_2)
        (try clear BK397)
        (try clear BK398)
        (try clear BK403)
        (try clear HB)
        generalize (w58.setCell ⟨go52, (t404 : Int).toNat * 3 + 2, none⟩ ((.slice Av422 t421.length cv422 : Value))) = w60 at n0_ n1_ n2_ n3_ n4_ n5_ n6_ n7_ n8_ ⊢
        have HO_2 := n0_
        have HO_11 := n1_
        have HO_398001 := n2_
        have HO_404001 := n3_
        have HL405_2 := n4_
        have BK397 := n5_
        have BK398 := n6_
        have BK403 := n7_
        have HB := n8_
        clear n0_ n1_ n2_ n3_ n4_ n5_ n6_ n7_ n8_
        have hnb61 := NB403_398.out
        have hnc61 := NB398_403.out
        obtain ⟨hcz62_0, hcz62_1, hfz62_0, hfz62_1⟩ := bq2 BK403
        obtain ⟨hcz63_0, hcz63_1, hfz63_0, hfz63_1⟩ := bq2 BK398
        try go_wp2
        refine bodyPost_ret (results_cell_row rfl _ _ gb398 24 #[.int .i64 t399, .slice (some ⟨go52, 0, none⟩) t400.length co16] (0, 0) _ rfl (by (with_reducible repeat (first | refine blk_drewN ?_ _ | refine blk_drew ?_ | refine blk_alloc ?_ _)); refine blk_put (cs := #[.int .i64 t399, .slice none 0 0]) ?_ 1 _ rfl; (with_reducible repeat (first | refine blk_drewN ?_ _ | refine blk_drew ?_ | refine blk_alloc ?_ _)); refine blk_put (cs := #[.int .i64 0, .slice none 0 0]) ?_ 0 _ rfl; (with_reducible repeat (first | refine blk_drewN ?_ _ | refine blk_drew ?_ | refine blk_alloc ?_ _)); exact BK398.out) Tryz.underlying24 rfl (by kernel_rfl)) rfl ?_
        exact ⟨_, eN, by (with_reducible repeat (first | apply Kd.N_alloc | apply Kd.N_drewN | apply Kd.N_drew)); exact Kd.N_mono (Kd.N_far (p := ⟨gb398, 1, none⟩) (Kd.N_far (p := ⟨gb398, 0, none⟩) (Kd.N_mono HO_404001.out (fun k_ hk => (⟨hk, hk.2.2.2.1⟩ : _ ∧ k_ ≠ gb398))) (fun _ hk => hk.2) (.int .i64 t399)) (fun _ hk => hk.2) (.slice (some ⟨go52, 0, none⟩) t400.length co16)) (fun _ hk => hk.1.1), bel⟩
       ·rw [if_neg c51] at H
        exact absurd H (by simp)
    ·rw [if_neg c20] at H
     exact absurd H (by simp)
   ·rw [if_neg c19] at H
    exact absurd H (by simp)
end Go.Proofs.YtfmpaofbnjlniaaGreatDoor.F
namespace Go.Proofs.YtfmpaofbnjlniaaGreatDoor.F
open Go.RowKit Go.Proofs.YtfmpaofbnjlniaaGreatDoorW.PrintWords Go.Proofs.YtfmpaofbnjlniaaGreatDoorW.PrintLast Go.Proofs.YtfmpaofbnjlniaaGreatDoorW.PrintMore
attribute [local go_sem] max2_int min2_int max_two min_two max_three min_three max_four min_four
set_option linter.unusedVariables false
set_option linter.unusedSimpArgs false
/-! ### paraphrastref01_Among: function 26 -/
def paraphrastref01_Among.l0 : Nat → List (List Int) → List Int → Int → Option (Bool)
 | 0, _, _, _ => none
 | k + 1, x0, x1, x5 => if x5 < (x0.length : Int) then (if 0 ≤ x5 then ((paraphrastref01_Equal.f k (rd_L2 x0 x5) x1).bind fun t384 => (if t384 = true then (some true) else (paraphrastref01_Among.l0 k x0 x1 (wrap64 (x5 + 1))))) else (none)) else (some false)
def paraphrastref01_Among.f (k : Nat) (l0 : List (List Int)) (l1 : List Int) : Option (Bool) := paraphrastref01_Among.l0 k l0 l1 0
set_option maxHeartbeats 8000000 in
set_option maxRecDepth 100000 in
theorem paraphrastref01_Among.calls (k : Nat) (A0 : Option Addr) (c0 : Nat) (l0 : List (List Int)) (A1 : Option Addr) (c1 : Nat) (l1 : List Int) (r : Bool) (w : World) (hr0 : Kd.C (Kd.slice 3 (Kd.int .i64)) w A0 l0.length l0) (hc0 : l0.length ≤ c0) (hr1 : Kd.C (Kd.int .i64) w A1 l1.length l1) (hc1 : l1.length ≤ c1) (h : paraphrastref01_Among.f k l0 l1 = some r) :
  Calls Tryz.prog 26 #[.slice A0 l0.length c0, .slice A1 l1.length c1] w fun e w' => e = .returned (.bool r) ∧ Drawn0 w w' := by
 have HR0 := Aside0.mk hr0
 have HC0 := Aside0.mk hc0
 clear hr0 hc0
 have HR1 := Aside0.mk hr1
 have HC1 := Aside0.mk hc1
 clear hr1 hc1
 have H : (paraphrastref01_Among.l0 k l0 l1 0) = some r := h
 clear h
 have H' := Aside0.mk H
 clear H
 go_enter Tryz.func26, Tryz.ntmps26
 go_wp2
 go_loopg [5] k (fun kq v5 w' => ∃ (x5_1 : Int), v5 = .int .i64 x5_1 ∧ Aside0 (paraphrastref01_Among.l0 kq l0 l1 x5_1 = some r) ∧ Aside0 (kq ≤ k) ∧ Drawn0 w w')
 case atStart => exact ⟨(0), eS, H', ⟨Nat.le_refl _⟩, dr0⟩
 case round =>
  clear H'
  (try clear c1)
  obtain ⟨x5_1, rfl, HA, HK1, ⟨m1, rfl⟩⟩ := hrel
  cases gk with
  | zero => exact absurd HA.out (by simp [paraphrastref01_Among.l0])
  | succ k1 =>
   have H := HA.out
   clear HA
   simp only [paraphrastref01_Among.l0] at H
   by_cases c3 : x5_1 < (l0.length : Int)
   ·rw [if_pos c3] at H
    have c3b0 : decide (x5_1 < (l0.length : Int)) = true := decide_eq_true c3
    clear c3
    by_cases c4 : 0 ≤ x5_1
    ·rw [if_pos c4] at H
     have c4b0 : decide (0 ≤ x5_1) = true := decide_eq_true c4
     clear c4
     replace H := Option.bind_eq_some_iff.mp H
     obtain ⟨t384, A50, H⟩ := H
     replace H : (if t384 = true then (some true) else (paraphrastref01_Among.l0 k1 l0 l1 (wrap64 (x5_1 + 1)))) = some r := H
     have A5 := Aside0.mk A50
     clear A50
     by_cases c6 : t384 = true
     ·subst c6
      have H1 : (some true) = some r := by rw [if_pos rfl] at H; exact H
      clear H
      have H := H1
      clear H1
      obtain rfl := Option.some.inj H
      have p383 : 0 ≤ (x5_1 : Int) := dtr
      have q383 : x5_1 < (l0.length : Int) := dtr
      obtain ⟨ad383, A383_0, c383_0, e383, hx383_0, hl383_0, hi383_0⟩ := at_L2 HR0.out x5_1 p383 q383
      cases e383
      have HR383_0 := Aside0.mk hi383_0
      have HC383_0 := Aside0.mk hl383_0
      clear hi383_0 hl383_0
      replace p383 := eq_true p383
      replace q383 := eq_true q383
      go_wp2_with (first | ((with_reducible refine gate_callee (f := 41) rfl ?_); refine gL (some 17) Tryz.func41 #[.slice A383_0 (rd_L2 l0 x5_1).length c383_0, .slice A1 l1.length c1] ?_; (with_reducible refine (paraphrastref01_Equal.calls k1 _ _ (rd_L2 l0 x5_1) _ _ l1 true _ ?side1 ?side2 ?side3 ?side4 A5.out).mono ?_); (case side1 => exact cS HR383_0.out); (case side2 => exact HC383_0.out); (case side3 => exact cS HR1.out); (case side4 => exact HC1.out); rintro e w' ⟨rfl, ⟨nd, rfl⟩⟩; refine ⟨_, rfl, ?_⟩))
      go_ret
      exact ⟨eS, dr0⟩
     ·replace c6 := Bool.eq_false_iff.mpr c6
      subst c6
      have H1 : (paraphrastref01_Among.l0 k1 l0 l1 (wrap64 (x5_1 + 1))) = some r := by rw [if_neg (show ¬ (false = true) by decide)] at H; exact H
      clear H
      have H := H1
      clear H1
      have H' := Aside0.mk H
      clear H
      have p383 : 0 ≤ (x5_1 : Int) := dtr
      have q383 : x5_1 < (l0.length : Int) := dtr
      obtain ⟨ad383, A383_0, c383_0, e383, hx383_0, hl383_0, hi383_0⟩ := at_L2 HR0.out x5_1 p383 q383
      cases e383
      have HR383_0 := Aside0.mk hi383_0
      have HC383_0 := Aside0.mk hl383_0
      clear hi383_0 hl383_0
      replace p383 := eq_true p383
      replace q383 := eq_true q383
      go_wp2_with (first | ((with_reducible refine gate_callee (f := 41) rfl ?_); refine gL (some 17) Tryz.func41 #[.slice A383_0 (rd_L2 l0 x5_1).length c383_0, .slice A1 l1.length c1] ?_; (with_reducible refine (paraphrastref01_Equal.calls k1 _ _ (rd_L2 l0 x5_1) _ _ l1 false _ ?side1 ?side2 ?side3 ?side4 A5.out).mono ?_); (case side1 => exact cS HR383_0.out); (case side2 => exact HC383_0.out); (case side3 => exact cS HR1.out); (case side4 => exact HC1.out); rintro e w' ⟨rfl, ⟨nd, rfl⟩⟩; refine ⟨_, rfl, ?_⟩))
      go_roundg k1
      case measure => have := HK1.out; omega
      case rel => exact ⟨(wrap64 (x5_1 + 1)), eS, H', ⟨by have := HK1.out; omega⟩, dr0⟩
    ·rw [if_neg c4] at H
     exact absurd H (by simp)
   ·rw [if_neg c3] at H
    have c3b0 : decide (x5_1 < (l0.length : Int)) = false := decide_eq_false c3
    clear c3
    obtain rfl := Option.some.inj H
    go_wp2
    go_ret
    exact ⟨eS, dr0⟩
end Go.Proofs.YtfmpaofbnjlniaaGreatDoor.F
/- Find, Among, Copy and Put of the reference: what they answer. -/
namespace Go.Proofs.YtfmpaofbnjlniaaGreatDoor.F
open Go.RowKit Go.Proofs.YtfmpaofbnjlniaaGreatDoorW.PrintWords Go.Proofs.YtfmpaofbnjlniaaGreatDoorW.PrintLast Go.Proofs.YtfmpaofbnjlniaaGreatDoorW.PrintMore
set_option linter.unusedVariables false
/-- The reference's Find: the first relation of that name. -/
theorem find_from (n : Int) (l : List S52) (nm : ByteArray) (hL : l.length ≤ 9223372036854775807) : ∀ (d i : Nat), i + d = l.length → (∀ j (hj : j < l.length), j < i → l[j].f0 ≠ nm) →
    (∃ (q : Nat) (hq : q < l.length), l[q].f0 = nm ∧ (∀ j (hj : j < l.length), j < q → l[j].f0 ≠ nm) ∧ ∀ k, d + 1 ≤ k → paraphrastref01_Find.l0 k nm (i : Int) n l = some (q : Int)) ∨ ((∀ j (hj : j < l.length), l[j].f0 ≠ nm) ∧ ∀ k, d + 1 ≤ k → paraphrastref01_Find.l0 k nm (i : Int) n l = some (-1))
  | 0, i, h, hi => Or.inr ⟨fun j hj => hi j hj (by omega), fun k hk => by
    obtain ⟨k, rfl⟩ : ∃ k', k = k' + 1 := ⟨k - 1, by omega⟩
    unfold paraphrastref01_Find.l0
    rw [if_neg (by omega)]⟩
  | d + 1, i, h, hi => by
    have hil : i < l.length := by omega
    by_cases e : l[i].f0 = nm
    · refine Or.inl ⟨i, hil, e, hi, fun k hk => ?_⟩
      obtain ⟨k, rfl⟩ : ∃ k', k = k' + 1 := ⟨k - 1, by omega⟩
      unfold paraphrastref01_Find.l0
      rw [if_pos (by omega), if_pos (by omega), rdT_nat l i hil, if_pos (by rw [e])]
    · have step : ∀ k r, paraphrastref01_Find.l0 k nm ((i + 1 : Nat) : Int) n l = some r → paraphrastref01_Find.l0 (k + 1) nm (i : Int) n l = some r := fun k r hk => by
        conv => lhs; unfold paraphrastref01_Find.l0
        rw [if_pos (by omega), if_pos (by omega), rdT_nat l i hil, if_neg (fun e2 => e (toList_inj e2)), w64 (by omega) (by omega), show (i : Int) + 1 = ((i + 1 : Nat) : Int) by omega]
        exact hk
      rcases find_from n l nm hL d (i + 1) (by omega) (fun j hj hj2 => by
        by_cases e3 : j = i
        · subst e3; exact e
        · exact hi j hj (by omega)) with ⟨q, hq, h1, h2, h3⟩ | ⟨h1, h3⟩
      · exact Or.inl ⟨q, hq, h1, h2, fun k hk => by
          obtain ⟨k, rfl⟩ : ∃ k', k = k' + 1 := ⟨k - 1, by omega⟩
          exact step k _ (h3 k (by omega))⟩
      · exact Or.inr ⟨h1, fun k hk => by
          obtain ⟨k, rfl⟩ : ∃ k', k = k' + 1 := ⟨k - 1, by omega⟩
          exact step k _ (h3 k (by omega))⟩
theorem find_cases (n : Int) (l : List S52) (nm : ByteArray) (hL : l.length ≤ 9223372036854775807) :
    (∃ (q : Nat) (hq : q < l.length), l[q].f0 = nm ∧ (∀ j (hj : j < l.length), j < q → l[j].f0 ≠ nm) ∧ ∀ k, l.length + 1 ≤ k → paraphrastref01_Find.f k n l nm = some (q : Int)) ∨ ((∀ j (hj : j < l.length), l[j].f0 ≠ nm) ∧ ∀ k, l.length + 1 ≤ k → paraphrastref01_Find.f k n l nm = some (-1)) :=
  find_from n l nm hL l.length 0 (by omega) (fun j hj h => by omega)
theorem among_from (ts : List (List Int)) (t : List Int) (hn : ts.length ≤ 100000) (hl : ∀ a ∈ ts, a.length ≤ 1000) : ∀ (d i k : Nat), i + d = ts.length → d + 1002 ≤ k → paraphrastref01_Among.l0 k ts t (i : Int) = some (decide (t ∈ ts.drop i))
  | 0, i, k + 1, h, hk => by
    unfold paraphrastref01_Among.l0
    rw [if_neg (by omega), List.drop_eq_nil_of_le (by omega)]; simp
  | d + 1, i, k + 1, h, hk => by
    have hi : i < ts.length := by omega
    unfold paraphrastref01_Among.l0
    rw [if_pos (by omega), if_pos (by omega), rdL2_nat ts i hi, equal_eq _ t (hl _ (List.getElem_mem hi)) k (by omega), Option.bind_some, List.drop_eq_getElem_cons hi]
    by_cases e : ts[i] = t
    · rw [if_pos (by rw [e]; simp), decide_eq_true (by rw [e]; exact List.mem_cons_self)]
    · rw [if_neg (by simpa using e), w64 (by omega) (by omega), show (i : Int) + 1 = ((i + 1 : Nat) : Int) by omega, among_from ts t hn hl d (i + 1) k (by omega) (by omega)]
      congr 1
      rw [decide_eq_decide, List.mem_cons]
      exact ⟨Or.inr, fun h => h.resolve_left (fun e2 => e e2.symm)⟩
theorem among_eq (ts : List (List Int)) (t : List Int) (hn : ts.length ≤ 100000) (hl : ∀ a ∈ ts, a.length ≤ 1000) (k : Nat) (hk : 110000 ≤ k) : paraphrastref01_Among.f k ts t = some (decide (t ∈ ts)) :=
  among_from ts t hn hl ts.length 0 k (by omega) (by omega)
theorem copied_from (ts : List (List Int)) (hn : ts.length ≤ 100000) (hl : ∀ a ∈ ts, a.length ≤ 1000) : ∀ (d i k : Nat), i + d = ts.length → d + 1 ≤ k → paraphrastref01_copied.l0 k ts (ts.take i) (i : Int) = some ts
  | 0, i, k + 1, h, hk => by
    unfold paraphrastref01_copied.l0
    rw [if_neg (by omega), List.take_of_length_le (by omega)]
  | d + 1, i, k + 1, h, hk => by
    have hi : i < ts.length := by omega
    have := hl _ (List.getElem_mem hi)
    unfold paraphrastref01_copied.l0
    rw [if_pos (by omega), Option.bind_some, if_pos (by omega), rdL2_nat ts i hi, if_pos (by simp only [List.length_nil]; omega), if_pos (by rw [List.length_take]; omega), List.nil_append, ← take_snoc' (List.getElem?_eq_getElem hi), w64 (by omega) (by omega), show (i : Int) + 1 = ((i + 1 : Nat) : Int) by omega]
    exact copied_from ts hn hl d (i + 1) k (by omega) (by omega)
theorem copied_eq (ts : List (List Int)) (hn : ts.length ≤ 100000) (hl : ∀ a ∈ ts, a.length ≤ 1000) (k : Nat) (hk : 100001 ≤ k) : paraphrastref01_copied.f k ts = some ts :=
  copied_from ts hn hl ts.length 0 k (by omega) (by omega)
theorem copy_from (n : Int) (l : List S52) (hn : l.length ≤ 1000) (hl : ∀ r ∈ l, r.f2.length ≤ 100000 ∧ ∀ a ∈ r.f2, a.length ≤ 1000) : ∀ (d i k : Nat), i + d = l.length → d + 100002 ≤ k → paraphrastref01_Copy.l0 k (i : Int) n l n (l.take i) = some (n, l)
  | 0, i, k + 1, h, hk => by
    unfold paraphrastref01_Copy.l0
    rw [if_neg (by omega), List.take_of_length_le (by omega)]
  | d + 1, i, k + 1, h, hk => by
    have hi : i < l.length := by omega
    obtain ⟨h1, h2⟩ := hl _ (List.getElem_mem hi)
    unfold paraphrastref01_Copy.l0
    rw [if_pos (by omega), if_pos (by omega), rdT_nat l i hi, copied_eq _ h1 h2 k (by omega), Option.bind_some, if_pos (by rw [List.length_take]; omega), show (⟨l[i].f0, l[i].f1, l[i].f2⟩ : S52) = l[i] from rfl, ← take_snoc' (List.getElem?_eq_getElem hi), w64 (by omega) (by omega), show (i : Int) + 1 = ((i + 1 : Nat) : Int) by omega]
    exact copy_from n l hn hl d (i + 1) k (by omega) (by omega)
theorem copy_eq (n : Int) (l : List S52) (hn : l.length ≤ 1000) (hl : ∀ r ∈ l, r.f2.length ≤ 100000 ∧ ∀ a ∈ r.f2, a.length ≤ 1000) (k : Nat) (hk : 102000 ≤ k) : paraphrastref01_Copy.f k n l = some (n, l) :=
  copy_from n l hn hl l.length 0 k (by omega) (by omega)
theorem copy_valid (n : Int) (l : List S52) (h : validB n l = true) (k : Nat) (hk : 102000 ≤ k) : paraphrastref01_Copy.f k n l = some (n, l) := by
  obtain ⟨h1, h2, h3, h4⟩ := valid_facts n l h
  refine copy_eq n l (by omega) (fun r hr => ?_) k hk
  obtain ⟨_, g1, g2, g3⟩ := h4 r hr
  exact ⟨by omega, fun t ht => by have := (g2 t ht).1; omega⟩
/-- The reference's Put, at a valid structure and a tuple of the relation's length. -/
theorem rput_from (n : Int) (l : List S52) (q : Nat) (hq : q < l.length) (h1 : l.length ≤ 1000) (t : List Int) (ins : Bool) (m : Nat) (hm : m ≤ 1000) (hl : ∀ a ∈ l[q].f2, a.length = m) (ht : t.length = m) (hn : l[q].f2.length ≤ 5000) :
    ∀ (d i k : Nat) (acc : List (List Int)), i + d = l[q].f2.length → d + 1002 ≤ k → acc = (l[q].f2.take i).filter (· != t) → paraphrastref01_Put.l0 k t ins (q : Int) acc (i : Int) n l n l = some (n, l.set q (putRel l[q] (sortedB (l[q].f2.filter (· != t) ++ if ins = true then [t] else []))))
  | 0, i, k + 1, acc, h, hk, ha => by
    rw [List.take_of_length_le (by omega)] at ha
    subst ha
    have hmem : ∀ a ∈ l[q].f2.filter (· != t), a.length = m := fun a ha => hl a (List.mem_filter.1 ha).1
    have hfl := List.length_filter_le (· != t) l[q].f2
    unfold paraphrastref01_Put.l0
    rw [if_pos (by omega), if_pos (by omega), rdT_nat l q hq, if_neg (by omega)]
    cases ins with
    | true =>
      rw [if_pos rfl, if_pos (by omega), (sorted_eq m hm (l[q].f2.filter (· != t) ++ [t]) (fun a ha => by
        rcases List.mem_append.1 ha with h' | h'
        · exact hmem a h'
        · rw [List.mem_singleton.1 h']; exact ht) (by rw [List.length_append, List.length_singleton]; omega)).1, Option.bind_some, if_pos (by omega), Int.toNat_natCast]
      rfl
    | false =>
      rw [if_neg (by simp), (sorted_eq m hm (l[q].f2.filter (· != t)) hmem (by omega)).1, Option.bind_some, if_pos (by omega), Int.toNat_natCast]
      simp only [Bool.false_eq_true, if_false, List.append_nil]
      rfl
  | d + 1, i, k + 1, acc, h, hk, ha => by
    have hi : i < l[q].f2.length := by omega
    have hal : acc.length ≤ 5000 := by
      rw [ha]
      have := List.length_filter_le (· != t) (l[q].f2.take i)
      rw [List.length_take] at this
      omega
    unfold paraphrastref01_Put.l0
    rw [if_pos (by omega), if_pos (by omega), rdT_nat l q hq, if_pos (by omega), if_pos (by omega), rdL2_nat _ i hi, equal_eq _ t (by rw [hl _ (List.getElem_mem hi)]; exact hm) k (by omega), Option.bind_some, w64 (by omega) (by omega), show (i : Int) + 1 = ((i + 1 : Nat) : Int) by omega]
    have hsn : l[q].f2.take (i + 1) = l[q].f2.take i ++ [l[q].f2[i]] := take_snoc' (List.getElem?_eq_getElem hi)
    by_cases e : l[q].f2[i] = t
    · rw [if_pos (by rw [e]; simp)]
      exact rput_from n l q hq h1 t ins m hm hl ht hn d (i + 1) k acc (by omega) (by omega) (by rw [hsn, List.filter_append, ha, e]; simp)
    · rw [if_neg (by simpa using e), if_pos (by omega)]
      exact rput_from n l q hq h1 t ins m hm hl ht hn d (i + 1) k _ (by omega) (by omega) (by rw [hsn, List.filter_append, ha]; simp [e])
theorem rput_at (n : Int) (l : List S52) (h : validB n l = true) (q : Nat) (hq : q < l.length) (hf : ∀ j (hj : j < l.length), j < q → l[j].f0 ≠ l[q].f0) (t : List Int) (ht : (t.length : Int) = l[q].f1) (ins : Bool) (ts : List (List Int)) (hs : Sorted ts) (hT : ∀ a ∈ ts, tupV n l[q].f1 a = true) (h1 : t ∈ ts ↔ ins = true) (h2 : ∀ a ∈ ts, a ∈ l[q].f2 ∨ a = t) (h3 : ∀ a ∈ l[q].f2, a ∈ ts ∨ a = t) (k : Nat) (hk : 110000 ≤ k) :
    paraphrastref01_Put.f k n l l[q].f0 t ins = some (n, l.set q (putRel l[q] ts)) := by
  obtain ⟨v1, v2, v3, v4⟩ := valid_facts n l h
  obtain ⟨_, g1, g2, g3⟩ := v4 _ (List.getElem_mem hq)
  have hl : ∀ a ∈ l[q].f2, a.length = t.length := fun a ha => by have := (g2 a ha).1; omega
  unfold paraphrastref01_Put.f
  rw [copy_valid n l h k (by omega), Option.bind_some]
  have hfind : paraphrastref01_Find.f k n l l[q].f0 = some (q : Int) := by
    rcases find_cases n l l[q].f0 (by omega) with ⟨q', hq', e1, e2, e3⟩ | ⟨e1, e3⟩
    · have : q' = q := by
        rcases Nat.lt_trichotomy q' q with hlt | e | hlt
        · exact absurd e1 (hf q' hq' hlt)
        · exact e
        · exact absurd rfl (e2 q hq hlt)
      subst this
      exact e3 k (by omega)
    · exact absurd rfl (e1 q hq)
  rw [hfind, Option.bind_some]
  have hmem : ∀ a ∈ (l[q].f2.filter (· != t) ++ if ins = true then [t] else []), a.length = t.length := fun a ha => by
    rcases List.mem_append.1 ha with h' | h'
    · exact hl a (List.mem_filter.1 h').1
    · split at h'
      · rw [List.mem_singleton.1 h']
      · cases h'
  have hfl := List.length_filter_le (· != t) l[q].f2
  have hsz : (l[q].f2.filter (· != t) ++ if ins = true then [t] else []).length ≤ 100000 := by
    rw [List.length_append]
    split <;> simp <;> omega
  obtain ⟨s1, s2, s3⟩ := sorted_eq t.length (by omega) _ hmem hsz
  have e : sortedB (l[q].f2.filter (· != t) ++ if ins = true then [t] else []) = ts := by
    refine sorted_ext t.length _ _ s2 hs (fun a ha => hmem a ((s3 a).1 ha)) (fun a ha => by have := (tupV_in n _ a (hT a ha)).1; omega) (fun a => ?_)
    rw [s3, List.mem_append, List.mem_filter]
    by_cases ea : a = t
    · subst ea
      rw [h1]
      cases ins <;> simp
    · constructor
      · rintro (h' | h')
        · exact (h3 a h'.1).resolve_right ea
        · split at h'
          · exact absurd (List.mem_singleton.1 h') ea
          · cases h'
      · intro h'
        exact Or.inl ⟨(h2 a h').resolve_right ea, by simpa using ea⟩
  have := rput_from n l q hq (by omega) t ins t.length (by omega) hl rfl (by omega) l[q].f2.length 0 k [] (by omega) (by omega) (by simp)
  rw [e] at this
  exact this
end Go.Proofs.YtfmpaofbnjlniaaGreatDoor.F
namespace Go.Proofs.YtfmpaofbnjlniaaGreatDoor.F
open Go.RowKit Go.Proofs.YtfmpaofbnjlniaaGreatDoorW.PrintWords Go.Proofs.YtfmpaofbnjlniaaGreatDoorW.PrintLast Go.Proofs.YtfmpaofbnjlniaaGreatDoorW.PrintMore
attribute [local go_sem] max2_int min2_int max_two min_two max_three min_three max_four min_four
set_option linter.unusedVariables false
set_option linter.unusedSimpArgs false
/-! ### paraphrastlaw01_is: function 16 -/
def paraphrastlaw01_is.f (k : Nat) (a0_0 : Int) (l0_1 : List (S52)) (a1 : Int) (a2_0 : Int) (l2_1 : List (S52)) (a3 : Int) : Option (Bool) := if a3 = 0 then (if a1 = 0 then ((paraphrastref01_Same.f k a0_0 l0_1 a2_0 l2_1).bind fun t265 => (some t265)) else (some false)) else (if a1 = a3 then ((paraphrastref01_Same.f k a0_0 l0_1 0 ([] : List (S52))).bind fun t266 => (some t266)) else (some false))
set_option maxHeartbeats 8000000 in
set_option maxRecDepth 100000 in
theorem paraphrastlaw01_is.calls (k : Nat) (a0_0 : Int) (A0_1 : Option Addr) (c0_1 : Nat) (l0_1 : List (S52)) (a1 : Int) (a2_0 : Int) (A2_1 : Option Addr) (c2_1 : Nat) (l2_1 : List (S52)) (a3 : Int) (r : Bool) (w : World) (hr0_1 : Kd.C k52 w A0_1 l0_1.length l0_1) (hc0_1 : l0_1.length ≤ c0_1) (hr2_1 : Kd.C k52 w A2_1 l2_1.length l2_1) (hc2_1 : l2_1.length ≤ c2_1) (h : paraphrastlaw01_is.f k a0_0 l0_1 a1 a2_0 l2_1 a3 = some r) :
  Calls Tryz.prog 16 #[.agg #[.int .i64 a0_0, .slice A0_1 l0_1.length c0_1], .int .i64 a1, .agg #[.int .i64 a2_0, .slice A2_1 l2_1.length c2_1], .int .i64 a3] w fun e w' => e = .returned (.bool r) ∧ Below w.heap.size w w' := by
 have hu24 := Tryz.underlying24
 have HR0_1 := Aside0.mk hr0_1
 have HC0_1 := Aside0.mk hc0_1
 clear hr0_1 hc0_1
 have HR2_1 := Aside0.mk hr2_1
 have HC2_1 := Aside0.mk hc2_1
 clear hr2_1 hc2_1
 have HB := Aside0.mk (Below.refl w.heap.size w)
 have H : (if a3 = 0 then (if a1 = 0 then ((paraphrastref01_Same.f k a0_0 l0_1 a2_0 l2_1).bind fun t265 => (some t265)) else (some false)) else (if a1 = a3 then ((paraphrastref01_Same.f k a0_0 l0_1 0 ([] : List (S52))).bind fun t266 => (some t266)) else (some false))) = some r := h
 clear h
 by_cases c5 : a3 = 0
 ·rw [if_pos c5] at H
  have c5b0 : (a3 == 0) = true := beq_iff_eq.mpr c5
  have c5b1 : (a3 != 0) = false := bne_eq_false_iff_eq.mpr c5
  clear c5
  by_cases c6 : a1 = 0
  ·rw [if_pos c6] at H
   have c6b0 : (a1 == 0) = true := beq_iff_eq.mpr c6
   have c6b1 : (a1 != 0) = false := bne_eq_false_iff_eq.mpr c6
   clear c6
   replace H := Option.bind_eq_some_iff.mp H
   obtain ⟨t265, A70, H⟩ := H
   replace H : (some t265) = some r := H
   have A7 := Aside0.mk A70
   clear A70
   obtain rfl := Option.some.inj H
   go_enter Tryz.func16, Tryz.ntmps16
   go_wp2_with (first | ((with_reducible refine gate_dst (N := 4) rfl ?_); refine box_event ?hg (N := 4) ?hd (cs := #[.int .i64 a0_0, .slice A0_1 l0_1.length c0_1]) (t := 24) ?hr ?_; (case hd => rfl); (case hg => rfl); (case hr => first | (go_simp; done) | (go_simp; rfl)); intro gb263 hg w8 hbox hb; have BK263 := Aside0.mk (hbox); have GW263 := geB w hg; have GE263 := geB w hg; replace HB := Aside0.mk (below_step bel hb); clear hb hbox hg) | ((with_reducible refine gate_dst (N := 6) rfl ?_); refine box_event ?hg (N := 6) ?hd (cs := #[.int .i64 a2_0, .slice A2_1 l2_1.length c2_1]) (t := 24) ?hr ?_; (case hd => rfl); (case hg => rfl); (case hr => first | (go_simp; done) | (go_simp; rfl)); intro gb264 hg w9 hbox hb; have BK264 := Aside0.mk (hbox); have GW264 := geB w hg; have GE264 := geB w hg; have NB263_264 := neL BK263 hg; have NB264_263 := neG BK263 hg; replace BK263 := blB BK263 hb; replace HB := Aside0.mk (below_step bel hb); clear hb hbox hg; have hnb10 := NB263_264.out; have hnc10 := NB264_263.out; obtain ⟨hcz11_0, hcz11_1, hfz11_0, hfz11_1⟩ := bq2 BK263; obtain ⟨hcz12_0, hcz12_1, hfz12_0, hfz12_1⟩ := bq2 BK264) | (go_at_call 34; (with_reducible refine (paraphrastref01_Same.calls k a0_0 _ _ l0_1 a2_0 _ _ l2_1 t265 _ ?side1 ?side2 ?side3 ?side4 A7.out).mono ?_); (case side1 => exact cS (Kd.C_below HR0_1.out HB.out)); (case side2 => exact HC0_1.out); (case side3 => exact cS (Kd.C_below HR2_1.out HB.out)); (case side4 => exact HC2_1.out); rintro e w13 ⟨rfl, hb⟩; replace BK263 := blB BK263 hb; replace BK264 := blB BK264 hb; replace HB := Aside0.mk (below_step bel hb); (try clear hb); (try clear hb2); (try clear hk); (try clear hi)))
   go_ret
   exact ⟨eN, bel⟩
  ·rw [if_neg c6] at H
   have c6b0 : (a1 == 0) = false := beq_eq_false_iff_ne.mpr c6
   have c6b1 : (a1 != 0) = true := bne_iff_ne.mpr c6
   obtain rfl := Option.some.inj H
   go_enter Tryz.func16, Tryz.ntmps16
   go_wp2_with (first | ((with_reducible refine gate_dst (N := 4) rfl ?_); refine box_event ?hg (N := 4) ?hd (cs := #[.int .i64 a0_0, .slice A0_1 l0_1.length c0_1]) (t := 24) ?hr ?_; (case hd => rfl); (case hg => rfl); (case hr => first | (go_simp; done) | (go_simp; rfl)); intro gb263 hg w14 hbox hb; have BK263 := Aside0.mk (hbox); have GW263 := geB w hg; have GE263 := geB w hg; replace HB := Aside0.mk (below_step bel hb); clear hb hbox hg) | ((with_reducible refine gate_dst (N := 6) rfl ?_); refine box_event ?hg (N := 6) ?hd (cs := #[.int .i64 a2_0, .slice A2_1 l2_1.length c2_1]) (t := 24) ?hr ?_; (case hd => rfl); (case hg => rfl); (case hr => first | (go_simp; done) | (go_simp; rfl)); intro gb264 hg w15 hbox hb; have BK264 := Aside0.mk (hbox); have GW264 := geB w hg; have GE264 := geB w hg; have NB263_264 := neL BK263 hg; have NB264_263 := neG BK263 hg; replace BK263 := blB BK263 hb; replace HB := Aside0.mk (below_step bel hb); clear hb hbox hg))
   go_ret
   exact ⟨eN, bel⟩
 ·rw [if_neg c5] at H
  have c5b0 : (a3 == 0) = false := beq_eq_false_iff_ne.mpr c5
  have c5b1 : (a3 != 0) = true := bne_iff_ne.mpr c5
  by_cases c16 : a1 = a3
  ·rw [if_pos c16] at H
   have c16b0 : (a1 == a3) = true := beq_iff_eq.mpr c16
   have c16b1 : (a1 != a3) = false := bne_eq_false_iff_eq.mpr c16
   clear c16
   replace H := Option.bind_eq_some_iff.mp H
   obtain ⟨t266, A170, H⟩ := H
   replace H : (some t266) = some r := H
   have A17 := Aside0.mk A170
   clear A170
   obtain rfl := Option.some.inj H
   go_enter Tryz.func16, Tryz.ntmps16
   go_wp2_with (first | ((with_reducible refine gate_dst (N := 4) rfl ?_); refine box_event ?hg (N := 4) ?hd (cs := #[.int .i64 a0_0, .slice A0_1 l0_1.length c0_1]) (t := 24) ?hr ?_; (case hd => rfl); (case hg => rfl); (case hr => first | (go_simp; done) | (go_simp; rfl)); intro gb263 hg w18 hbox hb; have BK263 := Aside0.mk (hbox); have GW263 := geB w hg; have GE263 := geB w hg; replace HB := Aside0.mk (below_step bel hb); clear hb hbox hg) | ((with_reducible refine gate_dst (N := 6) rfl ?_); refine box_event ?hg (N := 6) ?hd (cs := #[.int .i64 a2_0, .slice A2_1 l2_1.length c2_1]) (t := 24) ?hr ?_; (case hd => rfl); (case hg => rfl); (case hr => first | (go_simp; done) | (go_simp; rfl)); intro gb264 hg w19 hbox hb; have BK264 := Aside0.mk (hbox); have GW264 := geB w hg; have GE264 := geB w hg; have NB263_264 := neL BK263 hg; have NB264_263 := neG BK263 hg; replace BK263 := blB BK263 hb; replace HB := Aside0.mk (below_step bel hb); clear hb hbox hg; have hnb20 := NB263_264.out; have hnc20 := NB264_263.out; obtain ⟨hcz21_0, hcz21_1, hfz21_0, hfz21_1⟩ := bq2 BK263) | (go_at_call 34; (refine (paraphrastref01_Same.calls k a0_0 _ _ l0_1 0 _ _ ([] : List (S52)) t266 _ ?side1 ?side2 ?side3 ?side4 A17.out).mono ?_); (case side1 => exact cS (Kd.C_below HR0_1.out HB.out)); (case side2 => exact HC0_1.out); (case side3 => exact Kd.C_nil _ _); (case side4 => exact Nat.le_refl _); rintro e w22 ⟨rfl, hb⟩; replace BK263 := blB BK263 hb; replace BK264 := blB BK264 hb; replace HB := Aside0.mk (below_step bel hb); (try clear hb); (try clear hb2); (try clear hk); (try clear hi)))
   go_ret
   exact ⟨eN, bel⟩
  ·rw [if_neg c16] at H
   have c16b0 : (a1 == a3) = false := beq_eq_false_iff_ne.mpr c16
   have c16b1 : (a1 != a3) = true := bne_iff_ne.mpr c16
   obtain rfl := Option.some.inj H
   go_enter Tryz.func16, Tryz.ntmps16
   go_wp2_with (first | ((with_reducible refine gate_dst (N := 4) rfl ?_); refine box_event ?hg (N := 4) ?hd (cs := #[.int .i64 a0_0, .slice A0_1 l0_1.length c0_1]) (t := 24) ?hr ?_; (case hd => rfl); (case hg => rfl); (case hr => first | (go_simp; done) | (go_simp; rfl)); intro gb263 hg w23 hbox hb; have BK263 := Aside0.mk (hbox); have GW263 := geB w hg; have GE263 := geB w hg; replace HB := Aside0.mk (below_step bel hb); clear hb hbox hg) | ((with_reducible refine gate_dst (N := 6) rfl ?_); refine box_event ?hg (N := 6) ?hd (cs := #[.int .i64 a2_0, .slice A2_1 l2_1.length c2_1]) (t := 24) ?hr ?_; (case hd => rfl); (case hg => rfl); (case hr => first | (go_simp; done) | (go_simp; rfl)); intro gb264 hg w24 hbox hb; have BK264 := Aside0.mk (hbox); have GW264 := geB w hg; have GE264 := geB w hg; have NB263_264 := neL BK263 hg; have NB264_263 := neG BK263 hg; replace BK263 := blB BK263 hb; replace HB := Aside0.mk (below_step bel hb); clear hb hbox hg))
   go_ret
   exact ⟨eN, bel⟩
end Go.Proofs.YtfmpaofbnjlniaaGreatDoor.F
