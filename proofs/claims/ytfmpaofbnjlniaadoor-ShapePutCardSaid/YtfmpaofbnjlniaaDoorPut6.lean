/- Part 6 of the proof: ShapePut: for every structure and every list of changes, each call of Put changes exactly the one tuple that was asked for; no condition. -/
import Derived.Test.YtfmpaofbnjlniaaDoorPut5
/- paraphrastlaw01.ShapePut, by hand. -/
namespace Go.Proofs.YtfmpaofbnjlniaaDoor.F
open Go.RowKit Go.Proofs.YtfmpaofbnjlniaaDoorW.PrintWords Go.Proofs.YtfmpaofbnjlniaaDoorW.PrintLast Go.Proofs.YtfmpaofbnjlniaaDoorW.PrintMore
set_option linter.unusedVariables false
set_option linter.unusedSimpArgs false
def upB (n m : Nat) : Array Bool := (List.replicate m true ++ List.replicate (n - m) false).toArray
def sumT (l : List S54) : Int := l.foldl (fun a r => wrap64 (a + (r.f2.length : Int))) 0
/-- ShapePut's loop over the changes. -/
noncomputable def spLoop (k : Nat) : List S56 → Int → List S54 → Option Bool
  | [], _, _ => paraphrastlaw01_alive.f k
  | c :: cs, n, l => if (c.f0.size : Int) > 1000 ∨ (c.f1.length : Int) > 1000 then paraphrastlaw01_alive.f k else
    (shape_Put.f k n l c.f0 c.f1 c.f2).bind fun p => if p.2.2 = 0 then (shape_Has.f k p.1 p.2.1 c.f0 c.f1).bind fun h => if h.2 = 0 then (if h.1 = c.f2 then (shape_Valid.f k p.1 p.2.1).bind fun v => if v = true then (paraphrastlaw01_exceptOne.f k n l p.1 p.2.1 c.f0 c.f1).bind fun a => if a = true then (paraphrastlaw01_exceptOne.f k p.1 p.2.1 n l c.f0 c.f1).bind fun b => if b = true then spLoop k cs p.1 p.2.1 else some false else some false else some false else some false) else some false else spLoop k cs n l
noncomputable def paraphrastlaw01_ShapePut.f (k : Nat) (n : Int) (l : List S54) (cs : List S56) : Option Bool :=
  (paraphrastlaw01_Few.f k [⟨n, l⟩]).bind fun few => if few = true then (if (cs.length : Int) > 30 then paraphrastlaw01_alive.f k else (shape_Valid.f k n l).bind fun v => if v = true then (if sumT l > 300 then paraphrastlaw01_alive.f k else spLoop k cs n l) else paraphrastlaw01_alive.f k) else paraphrastlaw01_alive.f k
theorem one_C (w : World) (g : Nat) (n : Int) (A : Option Addr) (c : Nat) (l : List S54) (hg : w.heap[g]? = some (.cells #[.int .i64 n, .slice A l.length c] 38 (0, 0))) (hC : Kd.C k54 w A l.length l) (hlc : l.length ≤ c) : Kd.C k38 w (some ⟨g, 0, none⟩) [(⟨n, l⟩ : S38)].length [⟨n, l⟩] :=
  ⟨rfl, by simp, fun _ => ⟨_, rfl, fun j p hj => by
    cases j with
    | succ j => simp at hj
    | zero =>
      simp at hj
      subst hj
      refine ⟨_, rfl, k38_mk w ⟨n, l⟩ hlc hC, fun i u hu => ?_⟩
      simp only [Addr.add_lit]
      match i, hu with
      | 0, hu => simp at hu; subst hu; simp [World.cell?, hg]
      | 1, hu => simp at hu; subst hu; simp [World.cell?, hg]⟩⟩
/-- What lies in memory at a change: the structure's box, the next one's box. -/
def Bun (w wx : World) (g2 g8 : Nat) (n : Int) (A : Option Addr) (c : Nat) (l : List S54) (n2 : Int) (v : Value) (l2 : List S54) : Prop :=
  wx.heap[g2]? = some (.cells #[.int .i64 n, .slice A l.length c] 38 (0, 0)) ∧ wx.heap[g8]? = some (.cells #[.int .i64 n2, v] 38 (0, 0)) ∧ Kd.F k54 wx (fun k_ => k_ ≠ g2) A l.length l ∧ Kd.R k54 54 wx w.heap.size (fun k_ => k_ ≠ g2) v l2 ∧ Below w.heap.size w wx
theorem Bun.below {w wx wy : World} {g2 g8 : Nat} {n : Int} {A : Option Addr} {c : Nat} {l : List S54} {n2 : Int} {v : Value} {l2 : List S54} (h : Bun w wx g2 g8 n A c l n2 v l2) (hb : Below wx.heap.size wx wy) : Bun w wy g2 g8 n A c l n2 v l2 :=
  ⟨(hb.block g2 (Array.getElem?_eq_some_iff.1 h.1).1).trans h.1, (hb.block g8 (Array.getElem?_eq_some_iff.1 h.2.1).1).trans h.2.1, Kd.F_below h.2.2.1 hb, Kd.R_below h.2.2.2.1 hb, below_step h.2.2.2.2 hb⟩
/-- The cells that a change's statements read. -/
def Sx (g2 g8 : Nat) (n : Int) (A : Option Addr) (m c : Nat) (n2 : Int) (v : Value) (a0 a1 a2 : Addr) (x : S56) (A1 : Option Addr) (c1 : Nat) (W : World) : Prop :=
  W.cell? ⟨g2, 0, none⟩ = some (.int .i64 n) ∧ W.cell? ⟨g2, 1, none⟩ = some (.slice A m c) ∧ W.cell? ⟨g8, 0, none⟩ = some (.int .i64 n2) ∧ W.cell? ⟨g8, 1, none⟩ = some v ∧ W.cell? a0 = some (.string x.f0) ∧ W.cell? a1 = some (.slice A1 x.f1.length c1) ∧ W.cell? a2 = some (.bool x.f2)
theorem Bun.cells {w wx : World} {g2 g8 : Nat} {n : Int} {A : Option Addr} {c : Nat} {l : List S54} {n2 : Int} {v : Value} {l2 : List S54} (h : Bun w wx g2 g8 n A c l n2 v l2) {a0 a1 a2 : Addr} {x : S56} {A1 : Option Addr} {c1 : Nat} (h0 : w.cell? a0 = some (.string x.f0)) (h1 : w.cell? a1 = some (.slice A1 x.f1.length c1)) (h2 : w.cell? a2 = some (.bool x.f2)) : Sx g2 g8 n A l.length c n2 v a0 a1 a2 x A1 c1 wx :=
  ⟨(blk_cell h.1 0).trans rfl, (blk_cell h.1 1).trans rfl, (blk_cell h.2.1 0).trans rfl, (blk_cell h.2.1 1).trans rfl, (h.2.2.2.2.cell (World.block_lt_of_cell? w _ h0)).trans h0, (h.2.2.2.2.cell (World.block_lt_of_cell? w _ h1)).trans h1, (h.2.2.2.2.cell (World.block_lt_of_cell? w _ h2)).trans h2⟩
def sp_T15 : Bool × List (List Nat × List Nat) := (true, [([], []), ([], []), ([], []), ([1, 2], [1, 2]), ([3], [3]), ([4], [4]), ([], []), ([], []), ([6, 7], [6, 7]), ([8], [8]), ([9], [9]), ([], []), ([], []), ([11, 12], [11, 12]), ([13], [13]), ([14], [14]), ([0, 5, 10, 15], [0, 5, 10, 15]), ([16], [16]), ([17], [17]), ([17], [17]), ([], []), ([20, 18, 16, 0, 1, 2, 3, 4, 5, 6, 7, 8, 9, 10, 11, 12, 13, 14, 15, 16, 17, 18, 20], [18, 20]), ([19, 21, 0, 1, 2, 3, 4, 5, 6, 7, 8, 9, 10, 11, 12, 13, 14, 15, 16, 17, 18, 19, 20, 21], [19])])
def sp_B15 : List Nat := [0, 0, 0, 6, 14, 30, 0, 0, 192, 448, 960, 0, 0, 6144, 14336, 30720, 65535, 131071, 262143, 262143, 0, 1572863, 4194303]
theorem sp_tab15 : rtab .any (opsOf Tryd.f7 15) = sp_T15 := by kernel_rfl
theorem sp_bits15 : waitsOk sp_T15.2 sp_B15 = true := by kernel_rfl
def sp_T17 : Bool × List (List Nat × List Nat) := (true, [([], []), ([], []), ([], []), ([1, 2], [1, 2]), ([3], [3]), ([4], [4]), ([], []), ([], []), ([6, 7], [6, 7]), ([8], [8]), ([9], [9]), ([0, 5, 10], [0, 5, 10]), ([11], [11]), ([12], [12]), ([12], [12]), ([13, 11, 0, 1, 2, 3, 4, 5, 6, 7, 8, 9, 10, 11, 12, 13], [13]), ([14, 15, 0, 1, 2, 3, 4, 5, 6, 7, 8, 9, 10, 11, 12, 13, 14, 15], [14])])
def sp_B17 : List Nat := [0, 0, 0, 6, 14, 30, 0, 0, 192, 448, 960, 2047, 4095, 8191, 8191, 16383, 65535]
theorem sp_tab17 : rtab .any (opsOf Tryd.f7 17) = sp_T17 := by kernel_rfl
theorem sp_bits17 : waitsOk sp_T17.2 sp_B17 = true := by kernel_rfl
def sp_T18 : Bool × List (List Nat × List Nat) := (true, [([], []), ([0], [0]), ([1], [1]), ([2], [2]), ([2], [2]), ([2], [2]), ([4, 5, 2], [2, 4, 5]), ([6, 2], [2, 6]), ([7, 2], [2, 7]), ([3, 8, 2], [2, 3, 8]), ([2, 9], [2, 9]), ([10, 2], [10]), ([11], [11]), ([12, 11, 11], [11, 12]), ([13, 11], [11, 13]), ([11, 14], [11, 14]), ([15, 13], [15]), ([16], [16]), ([16], [16]), ([16], [16]), ([16], [16]), ([19, 20, 16], [16, 19, 20]), ([21, 16], [16, 21]), ([22, 16], [16, 22]), ([16], [16]), ([16], [16]), ([24, 25, 16], [16, 24, 25]), ([26, 16], [16, 26]), ([27, 16], [16, 27]), ([17, 18, 23, 28, 16, 16], [16, 17, 18, 23, 28]), ([29, 16], [16, 29]), ([16, 30], [16, 30]), ([31, 29], [31]), ([32], [32]), ([32], [32]), ([32], [32]), ([32], [32]), ([35, 36, 32], [32, 35, 36]), ([37, 32], [32, 37]), ([38, 32], [32, 38]), ([32], [32]), ([32], [32]), ([40, 41, 32], [32, 40, 41]), ([42, 32], [32, 42]), ([43, 32], [32, 43]), ([33, 34, 39, 44, 32, 32], [32, 33, 34, 39, 44]), ([45, 32], [32, 45]), ([32, 46], [32, 46])])
def sp_B18 : List Nat := [0, 1, 3, 7, 7, 7, 55, 119, 247, 511, 1023, 2047, 4095, 8191, 16383, 32767, 65535, 131071, 131071, 131071, 131071, 1703935, 3801087, 7995391, 131071, 131071, 50462719, 117571583, 251789311, 536870911, 1073741823, 2147483647, 4294967295, 8589934591, 8589934591, 8589934591, 8589934591, 111669149695, 249108103167, 523986010111, 8589934591, 8589934591, 3307124817919, 7705171329023, 16501264351231, 35184372088831, 70368744177663, 140737488355327]
theorem sp_tab18 : rtab .any (opsOf Tryd.f7 18) = sp_T18 := by kernel_rfl
theorem sp_bits18 : waitsOk sp_T18.2 sp_B18 = true := by kernel_rfl
set_option maxHeartbeats 40000000 in
set_option maxRecDepth 100000 in
theorem sput_calls (k : Nat) (n : Int) (A : Option Addr) (c : Nat) (l : List S54) (A1 : Option Addr) (c1 : Nat) (cs : List S56) (r : Bool) (w : World) (hG : Glob w) (hC : Kd.C k54 w A l.length l) (hlc : l.length ≤ c) (hC1 : Kd.C k56 w A1 cs.length cs) (hlc1 : cs.length ≤ c1) (h : paraphrastlaw01_ShapePut.f k n l cs = some r) :
    Calls Tryd.prog 7 #[.agg #[.int .i64 n, .slice A l.length c], .slice A1 cs.length c1] w fun e w' => e = .returned (.bool r) ∧ Below w.heap.size w w' := by
  have hu38 := Tryd.underlying38
  have hu54 := Tryd.underlying54
  have hu56 := Tryd.underlying56
  unfold paraphrastlaw01_ShapePut.f at h
  obtain ⟨few, hfew, h⟩ := Option.bind_eq_some_iff.1 h
  have HG := Aside0.mk hG
  have hB1 := below_alloc (below_alloc (Below.refl w.heap.size w) (.cells #[.int .i64 n, .slice A l.length c] 38)) (.cells #[.int .i64 n, .slice A l.length c] 38)
  have HB1 := Aside0.mk hB1
  have HC := Aside0.mk hC
  have HLC := Aside0.mk hlc
  have HC1 := Aside0.mk hC1
  have HLC1 := Aside0.mk hlc1
  have H := Aside0.mk h
  have K2 := Aside0.mk (show ((w.alloc (.cells #[.int .i64 n, .slice A l.length c] 38)).alloc (.cells #[.int .i64 n, .slice A l.length c] 38)).heap[w.heap.size]? = some (.cells #[.int .i64 n, .slice A l.length c] 38 (0, 0)) from (heap_alloc_old _ _ (by simp)).trans (heap_alloc_new w _))
  have K3 := Aside0.mk (one_C ((w.alloc (.cells #[.int .i64 n, .slice A l.length c] 38)).alloc (.cells #[.int .i64 n, .slice A l.length c] 38)) (w.heap.size + 1) n A c l (by have := heap_alloc_new (w.alloc (.cells #[.int .i64 n, .slice A l.length c] 38)) (.cells #[.int .i64 n, .slice A l.length c] 38); simpa using this) (Kd.C_below hC hB1) hlc)
  have HF := Aside0.mk hfew
  have hm1 := Kd.C_max hC
  have hm2 := Kd.C_max hC1
  clear hG hB1 hC hlc hC1 hlc1 h hfew
  go_enter Tryd.func7, Tryd.ntmps7
  go_wp2_with (fail)
  refine (paraphrastlaw01_Few.calls k (some ⟨w.heap.size + 1, 0, none⟩) 1 [⟨n, l⟩] few _ K3.out (Nat.le_refl 1) HF.out).mono ?_
  rintro e w2 ⟨rfl, hd⟩
  have hb2 := hd.below
  have HB2 := Aside0.mk (below_step HB1.out hb2)
  have K2' := Aside0.mk ((hb2.block w.heap.size (Array.getElem?_eq_some_iff.1 K2.out).1).trans K2.out)
  have c2_0 : w2.cell? ⟨w.heap.size, 0, none⟩ = some (.int .i64 n) := (blk_cell K2'.out 0).trans rfl
  have c2_1 : w2.cell? ⟨w.heap.size, 1, none⟩ = some (.slice A l.length c) := (blk_cell K2'.out 1).trans rfl
  clear hd hb2 HB1 K2 K3 HF
  cases few with
  | false =>
    have h2 := H.out
    clear H
    rw [if_neg (by simp)] at h2
    have HA := Aside0.mk h2
    clear h2
    go_wp2_with (fail)
    refine (paraphrastlaw01_alive.calls k r _ (HG.out.below HB2.out) HA.out).mono ?_
    rintro e wz ⟨rfl, hbz⟩
    go_wp2
    go_ret
    exact ⟨rfl, below_step HB2.out hbz⟩
  | true =>
    have h2 := H.out
    clear H
    rw [if_pos rfl] at h2
    by_cases h30 : (cs.length : Int) > 30
    · rw [if_pos h30] at h2
      have HA := Aside0.mk h2
      have h30b : decide (30 < (cs.length : Int)) = true := decide_eq_true h30
      have h30c : decide (30 < cs.length) = true := decide_eq_true (by omega)
      clear h2
      go_wp2_with (fail)
      refine (paraphrastlaw01_alive.calls k r _ (HG.out.below HB2.out) HA.out).mono ?_
      rintro e wz ⟨rfl, hbz⟩
      go_wp2
      go_ret
      exact ⟨rfl, below_step HB2.out hbz⟩
    · rw [if_neg h30] at h2
      have h30b : decide (30 < (cs.length : Int)) = false := decide_eq_false h30
      have h30c : decide (30 < cs.length) = false := decide_eq_false (by omega)
      obtain ⟨v, hv, h3⟩ := Option.bind_eq_some_iff.1 h2
      have HV := Aside0.mk hv
      have H := Aside0.mk h3
      clear h2 hv h3
      go_wp2_with (fail)
      refine (shape_Valid.calls k n A c l v _ (Kd.C_below HC.out HB2.out) HLC.out HV.out).mono ?_
      rintro e w3 ⟨rfl, hb3⟩
      have HB3 := Aside0.mk (below_step HB2.out hb3)
      have K2 := Aside0.mk ((hb3.block w.heap.size (Array.getElem?_eq_some_iff.1 K2'.out).1).trans K2'.out)
      clear hb3 HB2 K2' c2_0 c2_1 HV
      have c2_0 : w3.cell? ⟨w.heap.size, 0, none⟩ = some (.int .i64 n) := (blk_cell K2.out 0).trans rfl
      have c2_1 : w3.cell? ⟨w.heap.size, 1, none⟩ = some (.slice A l.length c) := (blk_cell K2.out 1).trans rfl
      cases v with
      | false =>
        have h2 := H.out
        clear H
        rw [if_neg (by simp)] at h2
        have HA := Aside0.mk h2
        clear h2
        go_wp2_with (fail)
        refine (paraphrastlaw01_alive.calls k r _ (HG.out.below HB3.out) HA.out).mono ?_
        rintro e wz ⟨rfl, hbz⟩
        go_wp2
        go_ret
        exact ⟨rfl, below_step HB3.out hbz⟩
      | true =>
        have h2 := H.out
        clear H
        rw [if_pos rfl] at h2
        have H := Aside0.mk h2
        clear h2
        go_wp2
        go_loopw [5, 6] (fun v5 v6 wr => ∃ (i : Nat), v5 = .int .i64 (sumT (l.take i)) ∧ v6 = .int .i64 i ∧ i ≤ l.length ∧ wr = w3) (fun _ v6 _ => l.length - (intOf v6).toNat)
        case atStart => exact ⟨0, rfl, rfl, Nat.zero_le _, rfl⟩
        case round =>
          obtain ⟨i, rfl, rfl, hi, hwr⟩ := hrel
          subst hwr
          by_cases hlt : i < l.length
          · obtain ⟨ad, A2, cc2, hA, hx0, hx1, hx2, hl2, hi2⟩ := at_T54 HC.out (i : Int) (by omega) (by omega)
            subst hA
            simp only [Int.toNat_natCast] at hx2
            replace hx2 := (HB3.out.cell (World.block_lt_of_cell? w _ hx2)).trans hx2
            have hri : rd_T54 l (i : Int) = l[i] := by unfold rd_T54; rw [Int.toNat_natCast, List.getD_eq_getElem?_getD, List.getElem?_eq_getElem hlt]; rfl
            have hst : sumT (l.take (i + 1)) = wrap64 (sumT (l.take i) + ((rd_T54 l (i : Int)).f2.length : Int)) := by
              rw [hri]; unfold sumT; rw [take_snoc' (List.getElem?_eq_getElem hlt), List.foldl_append]; rfl
            generalize rd_T54 l (i : Int) = r0 at *
            clear hx0 hx1 hi2 hl2 hri
            generalize sumT (l.take i) = s0 at *
            go_wp2
            go_roundw
            · exact ⟨i + 1, by rw [hst], by simp, hlt, by first | trivial | rfl⟩
            · simp [intOf]; omega
          · obtain rfl : i = l.length := by omega
            rw [List.take_length]
            by_cases h300 : sumT l > 300
            · have h2 := H.out
              clear H
              rw [if_pos h300] at h2
              have HA := Aside0.mk h2
              have h300b : decide (300 < sumT l) = true := decide_eq_true h300
              generalize sumT l = sl at *
              clear h2
              go_wp2_with (fail)
              refine (paraphrastlaw01_alive.calls k r _ (HG.out.below HB3.out) HA.out).mono ?_
              rintro e wz ⟨rfl, hbz⟩
              go_wp2
              go_ret
              exact ⟨rfl, below_step HB3.out hbz⟩
            · have h2 := H.out
              clear H
              rw [if_neg h300] at h2
              have H := Aside0.mk h2
              have h300b : decide (300 < sumT l) = false := decide_eq_false h300
              generalize sumT l = sl at *
              clear h2
              have HFF := Aside0.mk (Kd.F_mono (ok' := fun k_ => k_ ≠ w.heap.size) (Kd.F_below (Kd.C_F k54_heap HC.out) HB3.out) (fun k_ hk => Nat.ne_of_lt hk))
              go_wp2
              go_loopw [7] (fun v7 wr => ∃ (i : Nat) (n1 : Int) (l1 : List S54) (B1 : Option Addr) (d1 : Nat), v7 = .int .i64 i ∧ i ≤ cs.length ∧ Aside0 (spLoop k (cs.drop i) n1 l1 = some r) ∧ Aside0 (wr.heap[w.heap.size]? = some (.cells #[.int .i64 n1, .slice B1 l1.length d1] 38 (0, 0))) ∧ Aside0 (Kd.F k54 wr (fun k_ => k_ ≠ w.heap.size) B1 l1.length l1) ∧ l1.length ≤ d1 ∧ Aside0 (Below w.heap.size w wr)) (fun v7 _ => cs.length - (intOf v7).toNat)
              case atStart => exact ⟨0, n, l, A, c, rfl, Nat.zero_le _, H, K2, HFF, HLC.out, HB3⟩
              case round =>
                clear HB3 K2 H HFF c2_0 c2_1
                obtain ⟨i, n1, l1, B1, d1, rfl, hi, H, K2, HF, hd1, HB⟩ := hrel
                generalize wr = wq at *
                have q2_0 : wq.cell? ⟨w.heap.size, 0, none⟩ = some (.int .i64 n1) := (blk_cell K2.out 0).trans rfl
                have q2_1 : wq.cell? ⟨w.heap.size, 1, none⟩ = some (.slice B1 l1.length d1) := (blk_cell K2.out 1).trans rfl
                by_cases hlt : i < cs.length
                · obtain ⟨ad, A2, cc2, hA, hx0, hx1, hx2, hl2, hi2⟩ := at_T56 HC1.out (i : Int) (by omega) (by omega)
                  subst hA
                  simp only [Int.toNat_natCast] at hx0 hx1 hx2
                  have hri : rd_T56 cs (i : Int) = cs[i] := by unfold rd_T56; rw [Int.toNat_natCast, List.getD_eq_getElem?_getD, List.getElem?_eq_getElem hlt]; rfl
                  rw [hri] at hx0 hx1 hx2 hl2 hi2
                  have h2 := H.out
                  clear H
                  rw [List.drop_eq_getElem_cons hlt] at h2
                  unfold spLoop at h2
                  generalize cs[i] = x at *
                  have H := Aside0.mk h2
                  have HT := Aside0.mk hi2
                  have y0 := hx0
                  have y1 := hx1
                  have y2 := hx2
                  replace hx0 := (HB.out.cell (World.block_lt_of_cell? w _ hx0)).trans hx0
                  replace hx1 := (HB.out.cell (World.block_lt_of_cell? w _ hx1)).trans hx1
                  replace hx2 := (HB.out.cell (World.block_lt_of_cell? w _ hx2)).trans hx2
                  clear h2 hi2 hri
                  by_cases hb0 : (x.f0.size : Int) > 1000
                  · have h2 := H.out
                    clear H
                    rw [if_pos (Or.inl hb0)] at h2
                    have HA := Aside0.mk h2
                    have e0 : decide (1000 < (x.f0.size : Int)) = true := decide_eq_true hb0
                    have e0' : decide (1000 < x.f0.size) = true := decide_eq_true (by omega)
                    clear h2
                    go_wp2_with (fail)
                    refine (paraphrastlaw01_alive.calls k r _ (HG.out.below HB.out) HA.out).mono ?_
                    rintro e wz ⟨rfl, hbz⟩
                    go_wp2
                    go_ret
                    exact ⟨rfl, below_step HB.out hbz⟩
                  · have e0 : decide (1000 < (x.f0.size : Int)) = false := decide_eq_false hb0
                    have e0' : decide (1000 < x.f0.size) = false := decide_eq_false (by omega)
                    by_cases hb1 : (x.f1.length : Int) > 1000
                    · have h2 := H.out
                      clear H
                      rw [if_pos (Or.inr hb1)] at h2
                      have HA := Aside0.mk h2
                      have e1 : decide (1000 < (x.f1.length : Int)) = true := decide_eq_true hb1
                      have e1' : decide (1000 < x.f1.length) = true := decide_eq_true (by omega)
                      clear h2
                      go_wp2_with (fail)
                      refine (paraphrastlaw01_alive.calls k r _ (HG.out.below HB.out) HA.out).mono ?_
                      rintro e wz ⟨rfl, hbz⟩
                      go_wp2
                      go_ret
                      exact ⟨rfl, below_step HB.out hbz⟩
                    · have e1 : decide (1000 < (x.f1.length : Int)) = false := decide_eq_false hb1
                      have e1' : decide (1000 < x.f1.length) = false := decide_eq_false (by omega)
                      have h2 := H.out
                      clear H
                      rw [if_neg (fun e => e.elim hb0 hb1)] at h2
                      obtain ⟨p, hp, h3⟩ := Option.bind_eq_some_iff.1 h2
                      have HPUT := Aside0.mk (show shape_Put.f k n1 l1 x.f0 x.f1 x.f2 = some (p.1, p.2.1, p.2.2) from hp)
                      have H := Aside0.mk h3
                      clear h2 hp h3
                      go_upto_region 15 with (fail)
                      clear e0 e0' e1 e1'
                      go_cut [8, 9] (fun v8 v9 wc => ∃ (g8 : Nat) (v : Value), v8 = .pointer (some ⟨g8, 0, none⟩) ∧ v9 = .int .i64 p.2.2 ∧ Bun w wc w.heap.size g8 n1 B1 d1 l1 p.1 v p.2.1 ∧ g8 ≠ w.heap.size)
                      case first =>
                        have hs5 : wq.cell? ⟨w.heap.size, 0, none⟩ = some (.int .i64 n1) ∧ wq.cell? ⟨w.heap.size, 1, none⟩ = some (.slice B1 l1.length d1) ∧ wq.cell? (ad.add (i * 3)) = some (.string x.f0) ∧ wq.cell? ⟨(ad.add (i * 3)).block, (ad.add (i * 3)).off + 1, none⟩ = some (.slice A2 x.f1.length cc2) ∧ wq.cell? ⟨(ad.add (i * 3)).block, (ad.add (i * 3)).off + 2, none⟩ = some (.bool x.f2) := ⟨q2_0, q2_1, hx0, hx1, hx2⟩
                        refine wp_region_noPanic ?_
                        refine start_ (n := 23) (S := fun w' => w'.cell? ⟨w.heap.size, 0, none⟩ = some (.int .i64 n1) ∧ w'.cell? ⟨w.heap.size, 1, none⟩ = some (.slice B1 l1.length d1) ∧ w'.cell? (ad.add (i * 3)) = some (.string x.f0) ∧ w'.cell? ⟨(ad.add (i * 3)).block, (ad.add (i * 3)).off + 1, none⟩ = some (.slice A2 x.f1.length cc2) ∧ w'.cell? ⟨(ad.add (i * 3)).block, (ad.add (i * 3)).off + 2, none⟩ = some (.bool x.f2)) (ds := [21]) (upB 23 0) (by kernel_rfl) rfl (by kernel_rfl) hs5 (fun hHeld => ?_)
                        refine with_tabW sp_tab15 sp_bits15 (fun HT_ HW_ => ?_)
                        have HBd := Aside0.mk (below_drew HB.out)
                        have K2d := Aside0.mk (show wq.drew.heap[w.heap.size]? = _ from K2.out)
                        have HFd := Aside0.mk (Kd.F_bound (Kd.F_drew HF.out))
                        clear hs5 HB K2 HF q2_0 q2_1
                        have gx0 : wq.drew.cell? (ad.add (i * 3)) = some (.string x.f0) := hx0
                        have gx1 : wq.drew.cell? ⟨(ad.add (i * 3)).block, (ad.add (i * 3)).off + 1, none⟩ = some (.slice A2 x.f1.length cc2) := hx1
                        have gx2 : wq.drew.cell? ⟨(ad.add (i * 3)).block, (ad.add (i * 3)).off + 2, none⟩ = some (.bool x.f2) := hx2
                        clear hx0 hx1 hx2
                        generalize wq.drew = wd at *
                        refine take_ (i := 0) (N := some 70) (v := ?_) (a' := ?_) (upB 23 1) rfl rfl (take_ofW HT_.out HW_.out (by kernel_rfl)) (fun _ _ _ h => h) (Or.inl ⟨by rfl, ?_⟩) hHeld ?_ ?_
                        rotate_left
                        · rintro w' ⟨s0, s1, s2, s3, s4⟩
                          go_simp
                          with_reducible rfl
                        rotate_left
                        · simp only [Act.put, List.setIfInBounds_toArray, List.set_cons_zero, List.set_cons_succ, i64_w, i32_w]
                          rfl
                        refine pure_ (i := 1) (N := some 71) (v := ?_) (a' := ?_) (upB 23 2) rfl rfl (any_of HT_.out (by kernel_rfl)) (fun _ _ _ h => h) (Or.inl ⟨by rfl, ?_⟩) ?_ ?_
                        rotate_left
                        · intro w'
                          go_simp
                          with_reducible rfl
                        rotate_left
                        · simp only [Act.put, List.setIfInBounds_toArray, List.set_cons_zero, List.set_cons_succ, i64_w, i32_w]
                          rfl
                        refine pure_ (i := 2) (N := some 72) (v := ?_) (a' := ?_) (upB 23 3) rfl rfl (any_of HT_.out (by kernel_rfl)) (fun _ _ _ h => h) (Or.inl ⟨by rfl, ?_⟩) ?_ ?_
                        rotate_left
                        · intro w'
                          go_simp
                          with_reducible rfl
                        rotate_left
                        · simp only [Act.put, List.setIfInBounds_toArray, List.set_cons_zero, List.set_cons_succ, i64_w, i32_w]
                          rfl
                        refine pure_ (i := 3) (N := some 73) (v := ?_) (a' := ?_) (upB 23 4) rfl rfl (any_of HT_.out (by kernel_rfl)) (fun _ _ _ h => h) (Or.inl ⟨by rfl, ?_⟩) ?_ ?_
                        rotate_left
                        · intro w'
                          go_simp
                          with_reducible rfl
                        rotate_left
                        · simp only [Act.put, List.setIfInBounds_toArray, List.set_cons_zero, List.set_cons_succ, i64_w, i32_w]
                          rfl
                        refine pure_ (i := 4) (N := some 74) (v := ?_) (a' := ?_) (upB 23 5) rfl rfl (any_of HT_.out (by kernel_rfl)) (fun _ _ _ h => h) (Or.inl ⟨by rfl, ?_⟩) ?_ ?_
                        rotate_left
                        · intro w'
                          go_simp
                          with_reducible rfl
                        rotate_left
                        · simp only [Act.put, List.setIfInBounds_toArray, List.set_cons_zero, List.set_cons_succ, i64_w, i32_w]
                          rfl
                        refine take_ (i := 5) (N := some 75) (v := ?_) (a' := ?_) (upB 23 6) rfl rfl (take_ofW HT_.out HW_.out (by kernel_rfl)) (fun _ _ _ h => h) (Or.inl ⟨by rfl, ?_⟩) hHeld ?_ ?_
                        rotate_left
                        · rintro w' ⟨s0, s1, s2, s3, s4⟩
                          go_simp
                          with_reducible rfl
                        rotate_left
                        · simp only [Act.put, List.setIfInBounds_toArray, List.set_cons_zero, List.set_cons_succ, i64_w, i32_w]
                          rfl
                        refine pure_ (i := 6) (N := some 76) (v := ?_) (a' := ?_) (upB 23 7) rfl rfl (any_of HT_.out (by kernel_rfl)) (fun _ _ _ h => h) (Or.inl ⟨by rfl, ?_⟩) ?_ ?_
                        rotate_left
                        · intro w'
                          go_simp
                          with_reducible rfl
                        rotate_left
                        · simp only [Act.put, List.setIfInBounds_toArray, List.set_cons_zero, List.set_cons_succ, i64_w, i32_w]
                          rfl
                        refine pure_ (i := 7) (N := some 77) (v := ?_) (a' := ?_) (upB 23 8) rfl rfl (any_of HT_.out (by kernel_rfl)) (fun _ _ _ h => h) (Or.inl ⟨by rfl, ?_⟩) ?_ ?_
                        rotate_left
                        · intro w'
                          go_simp
                          with_reducible rfl
                        rotate_left
                        · simp only [Act.put, List.setIfInBounds_toArray, List.set_cons_zero, List.set_cons_succ, i64_w, i32_w]
                          rfl
                        refine pure_ (i := 8) (N := some 78) (v := ?_) (a' := ?_) (upB 23 9) rfl rfl (any_of HT_.out (by kernel_rfl)) (fun _ _ _ h => h) (Or.inl ⟨by rfl, ?_⟩) ?_ ?_
                        rotate_left
                        · intro w'
                          go_simp
                          with_reducible rfl
                        rotate_left
                        · simp only [Act.put, List.setIfInBounds_toArray, List.set_cons_zero, List.set_cons_succ, i64_w, i32_w]
                          rfl
                        refine pure_ (i := 9) (N := some 79) (v := ?_) (a' := ?_) (upB 23 10) rfl rfl (any_of HT_.out (by kernel_rfl)) (fun _ _ _ h => h) (Or.inl ⟨by rfl, ?_⟩) ?_ ?_
                        rotate_left
                        · intro w'
                          go_simp
                          with_reducible rfl
                        rotate_left
                        · simp only [Act.put, List.setIfInBounds_toArray, List.set_cons_zero, List.set_cons_succ, i64_w, i32_w]
                          rfl
                        refine take_ (i := 10) (N := some 80) (v := ?_) (a' := ?_) (upB 23 11) rfl rfl (take_ofW HT_.out HW_.out (by kernel_rfl)) (fun _ _ _ h => h) (Or.inl ⟨by rfl, ?_⟩) hHeld ?_ ?_
                        rotate_left
                        · rintro w' ⟨s0, s1, s2, s3, s4⟩
                          go_simp
                          with_reducible rfl
                        rotate_left
                        · simp only [Act.put, List.setIfInBounds_toArray, List.set_cons_zero, List.set_cons_succ, i64_w, i32_w]
                          rfl
                        refine pure_ (i := 11) (N := some 81) (v := ?_) (a' := ?_) (upB 23 12) rfl rfl (any_of HT_.out (by kernel_rfl)) (fun _ _ _ h => h) (Or.inl ⟨by rfl, ?_⟩) ?_ ?_
                        rotate_left
                        · intro w'
                          go_simp
                          with_reducible rfl
                        rotate_left
                        · simp only [Act.put, List.setIfInBounds_toArray, List.set_cons_zero, List.set_cons_succ, i64_w, i32_w]
                          rfl
                        refine pure_ (i := 12) (N := some 82) (v := ?_) (a' := ?_) (upB 23 13) rfl rfl (any_of HT_.out (by kernel_rfl)) (fun _ _ _ h => h) (Or.inl ⟨by rfl, ?_⟩) ?_ ?_
                        rotate_left
                        · intro w'
                          go_simp
                          with_reducible rfl
                        rotate_left
                        · simp only [Act.put, List.setIfInBounds_toArray, List.set_cons_zero, List.set_cons_succ, i64_w, i32_w]
                          rfl
                        refine pure_ (i := 13) (N := some 83) (v := ?_) (a' := ?_) (upB 23 14) rfl rfl (any_of HT_.out (by kernel_rfl)) (fun _ _ _ h => h) (Or.inl ⟨by rfl, ?_⟩) ?_ ?_
                        rotate_left
                        · intro w'
                          go_simp
                          with_reducible rfl
                        rotate_left
                        · simp only [Act.put, List.setIfInBounds_toArray, List.set_cons_zero, List.set_cons_succ, i64_w, i32_w]
                          rfl
                        refine pure_ (i := 14) (N := some 84) (v := ?_) (a' := ?_) (upB 23 15) rfl rfl (any_of HT_.out (by kernel_rfl)) (fun _ _ _ h => h) (Or.inl ⟨by rfl, ?_⟩) ?_ ?_
                        rotate_left
                        · intro w'
                          go_simp
                          with_reducible rfl
                        rotate_left
                        · simp only [Act.put, List.setIfInBounds_toArray, List.set_cons_zero, List.set_cons_succ, i64_w, i32_w]
                          rfl
                        refine take_ (i := 15) (N := some 85) (v := ?_) (a' := ?_) (upB 23 16) rfl rfl (take_ofW HT_.out HW_.out (by kernel_rfl)) (fun _ _ _ h => h) (Or.inl ⟨by rfl, ?_⟩) hHeld ?_ ?_
                        rotate_left
                        · rintro w' ⟨s0, s1, s2, s3, s4⟩
                          go_simp
                          with_reducible rfl
                        rotate_left
                        · simp only [Act.put, List.setIfInBounds_toArray, List.set_cons_zero, List.set_cons_succ, i64_w, i32_w]
                          rfl
                        refine join_ (σ := Value × Nat) 2 (upB 23 21) (fun s_ => [(86, .tuple #[.agg #[.int .i64 p.1, s_.1], .int .i64 p.2.2]), (8, .pointer (some ⟨s_.2, 0, none⟩)), (69, .tuple #[.agg #[.int .i64 p.1, s_.1], .int .i64 p.2.2]), (87, .agg #[.int .i64 p.1, s_.1]), (88, .int .i64 p.2.2)]) (fun s_ w' => Kd.R k54 54 w' w.heap.size (fun k_ => k_ ≠ w.heap.size) s_.1 p.2.1 ∧ w'.heap[s_.2]? = some (.cells #[.int .i64 0, .slice none 0 0] 38 (0, 0)) ∧ wd.heap.size ≤ s_.2 ∧ s_.2 ≠ w.heap.size ∧ Kd.F k54 w' (fun k_ => k_ ≠ w.heap.size ∧ k_ < wd.heap.size) B1 l1.length l1 ∧ w'.heap[w.heap.size]? = some (.cells #[.int .i64 n1, .slice B1 l1.length d1] 38 (0, 0)) ∧ Below w.heap.size w w') ?_ ?_
                        rotate_left
                        · intro hCont
                          refine two_ (i := 16) (j := 20) (Ni := some 86) (Nj := some 8) (upB 23 17) #[true, true, true, true, true, true, true, true, true, true, true, true, true, true, true, true, false, false, false, false, true, false, false] rfl rfl rfl rfl (two_of HT_.out (by kernel_rfl)) (by decide) (by decide) (fun K hK => ?_) (fun K hK => ?_)
                          · skip
                            have HFC := HFd
                            have HTC := Aside0.mk (Kd.C_below HT.out HBd.out)
                            refine callE_ 29 #[.agg #[.int .i64 n1, .slice B1 l1.length d1], .string x.f0, .slice A2 x.f1.length cc2, .bool x.f2] (by rfl) rfl (by go_simp) ?_
                            refine (shape_Put.calls k n1 B1 d1 l1 x.f0 A2 cc2 x.f1 x.f2 p.1 p.2.1 p.2.2 _ (Kd.F_now HFC.out) hd1 HTC.out hl2 HPUT.out).mono ?_
                            rintro e w5 ⟨v5, rfl, hR5, hb5⟩
                            left
                            refine ⟨_, rfl, ?_⟩
                            have HB5 := Aside0.mk (below_step HBd.out hb5)
                            have K25 := Aside0.mk ((hb5.block w.heap.size (Array.getElem?_eq_some_iff.1 K2d.out).1).trans K2d.out)
                            have HF5 := Aside0.mk (Kd.F_below HFd.out hb5)
                            have HR5 := Aside0.mk (Kd.R_mono (ok' := fun k_ => k_ ≠ w.heap.size) (Kd.R_bound (Kd.R_lower hR5 HBd.out.size)) (fun k_ hk => by intro e; subst e; obtain ⟨q_, hq_, cells_, hc_⟩ := hk.2.2.2; rw [K25.out] at hc_; injection hc_ with hc_; injection hc_ with _ hc_; subst hc_; exact absurd hq_ (by decide)))
                            refine hK.out _ _ ⟨(blk_cell K25.out 0).trans rfl, (blk_cell K25.out 1).trans rfl, pw_cell_below hb5 gx0, pw_cell_below hb5 gx1, pw_cell_below hb5 gx2⟩ (fun hHeld2 => ?_)
                            clear hK K
                            refine norm_ (a' := ?_) ?_ ?_
                            rotate_left
                            · show Act.put _ (some 86) _ = _
                              simp only [Act.put, List.setIfInBounds_toArray, List.set_cons_zero, List.set_cons_succ, i64_w, i32_w]
                              rfl
                            refine pure_ (i := 17) (N := some 69) (v := ?_) (a' := ?_) (upB 23 18) rfl rfl (any_of HT_.out (by kernel_rfl)) (fun _ _ _ h => h) (Or.inl ⟨by rfl, ?_⟩) ?_ ?_
                            rotate_left
                            · intro w'
                              go_simp
                              with_reducible rfl
                            rotate_left
                            · simp only [Act.put, List.setIfInBounds_toArray, List.set_cons_zero, List.set_cons_succ, i64_w, i32_w]
                              rfl
                            refine pure_ (i := 18) (N := some 87) (v := ?_) (a' := ?_) (upB 23 19) rfl rfl (any_of HT_.out (by kernel_rfl)) (fun _ _ _ h => h) (Or.inl ⟨by rfl, ?_⟩) ?_ ?_
                            rotate_left
                            · intro w'
                              go_simp
                              with_reducible rfl
                            rotate_left
                            · simp only [Act.put, List.setIfInBounds_toArray, List.set_cons_zero, List.set_cons_succ, i64_w, i32_w]
                              rfl
                            refine pure_ (i := 19) (N := some 88) (v := ?_) (a' := ?_) (upB 23 20) rfl rfl (any_of HT_.out (by kernel_rfl)) (fun _ _ _ h => h) (Or.inl ⟨by rfl, ?_⟩) ?_ ?_
                            rotate_left
                            · intro w'
                              go_simp
                              with_reducible rfl
                            rotate_left
                            · simp only [Act.put, List.setIfInBounds_toArray, List.set_cons_zero, List.set_cons_succ, i64_w, i32_w]
                              rfl
                            refine one_ (i := 20) (N := some 8) (upB 23 21) rfl rfl (one_of HT_.out (by kernel_rfl)) (by decide) (fun K hK => ?_)
                            refine box_step ?hg (N := 8) ?hd (cs := #[.int .i64 0, .slice none 0 0]) (t := 38) ?hr ?_; (case hd => rfl); (case hg => rfl); (case hr => first | (go_simp; done) | (go_simp; rfl))
                            intro g8 hg8 w6 hbox hb6
                            have K26 := (hb6.block w.heap.size (Array.getElem?_eq_some_iff.1 K25.out).1).trans K25.out
                            refine hK.out _ _ ⟨(blk_cell K26 0).trans rfl, (blk_cell K26 1).trans rfl, pw_cell_below hb6 (pw_cell_below hb5 gx0), pw_cell_below hb6 (pw_cell_below hb5 gx1), pw_cell_below hb6 (pw_cell_below hb5 gx2)⟩ (fun hHeld3 => ?_)
                            clear hK K
                            refine norm_ (a' := ?_) ?_ ?_
                            rotate_left
                            · show Act.put _ (some 8) _ = _
                              simp only [Act.put, List.setIfInBounds_toArray, List.set_cons_zero, List.set_cons_succ, i64_w, i32_w]
                              rfl
                            exact norm_ (by simp only [putAll, Act.put, List.setIfInBounds_toArray, List.set_cons_zero, List.set_cons_succ]) (hCont (v5, g8) _ ⟨Kd.R_below HR5.out hb6, hbox, by rw [hg8]; exact hb5.size, by rw [hg8]; exact Nat.ne_of_gt (Array.getElem?_eq_some_iff.1 K25.out).1, Kd.F_below HF5.out hb6, K26, below_step HB5.out hb6⟩)
                          · skip
                            refine box_step ?hg (N := 8) ?hd (cs := #[.int .i64 0, .slice none 0 0]) (t := 38) ?hr ?_; (case hd => rfl); (case hg => rfl); (case hr => first | (go_simp; done) | (go_simp; rfl))
                            intro g8 hg8 w4 hbox hb4
                            have HB4 := Aside0.mk (below_step HBd.out hb4)
                            have K24 := Aside0.mk ((hb4.block w.heap.size (Array.getElem?_eq_some_iff.1 K2d.out).1).trans K2d.out)
                            have HFC := Aside0.mk (Kd.F_below HFd.out hb4)
                            have HTC := Aside0.mk (Kd.C_below HT.out HB4.out)
                            refine hK.out _ _ ⟨(blk_cell K24.out 0).trans rfl, (blk_cell K24.out 1).trans rfl, pw_cell_below hb4 gx0, pw_cell_below hb4 gx1, pw_cell_below hb4 gx2⟩ (fun hHeld2 => ?_)
                            clear hK K
                            refine norm_ (a' := ?_) ?_ ?_
                            rotate_left
                            · show Act.put _ (some 8) _ = _
                              simp only [Act.put, List.setIfInBounds_toArray, List.set_cons_zero, List.set_cons_succ, i64_w, i32_w]
                              rfl
                            refine one_ (i := 16) (N := some 86) #[true, true, true, true, true, true, true, true, true, true, true, true, true, true, true, true, true, false, false, false, true, false, false] rfl rfl (one_of HT_.out (by kernel_rfl)) (by decide) (fun K hK => ?_)
                            refine callE_ 29 #[.agg #[.int .i64 n1, .slice B1 l1.length d1], .string x.f0, .slice A2 x.f1.length cc2, .bool x.f2] (by rfl) rfl (by go_simp) ?_
                            refine (shape_Put.calls k n1 B1 d1 l1 x.f0 A2 cc2 x.f1 x.f2 p.1 p.2.1 p.2.2 _ (Kd.F_now HFC.out) hd1 HTC.out hl2 HPUT.out).mono ?_
                            rintro e w5 ⟨v5, rfl, hR5, hb5⟩
                            left
                            refine ⟨_, rfl, ?_⟩
                            have HB5 := Aside0.mk (below_step HB4.out hb5)
                            have K25 := Aside0.mk ((hb5.block w.heap.size (Array.getElem?_eq_some_iff.1 K24.out).1).trans K24.out)
                            have HF5 := Aside0.mk (Kd.F_below HFC.out hb5)
                            have HX5 := (hb5.block g8 (Array.getElem?_eq_some_iff.1 hbox).1).trans hbox
                            have HR5 := Aside0.mk (Kd.R_mono (ok' := fun k_ => k_ ≠ w.heap.size) (Kd.R_bound (Kd.R_lower hR5 HB4.out.size)) (fun k_ hk => by intro e; subst e; obtain ⟨q_, hq_, cells_, hc_⟩ := hk.2.2.2; rw [K25.out] at hc_; injection hc_ with hc_; injection hc_ with _ hc_; subst hc_; exact absurd hq_ (by decide)))
                            refine hK.out _ _ ⟨(blk_cell K25.out 0).trans rfl, (blk_cell K25.out 1).trans rfl, pw_cell_below hb5 (pw_cell_below hb4 gx0), pw_cell_below hb5 (pw_cell_below hb4 gx1), pw_cell_below hb5 (pw_cell_below hb4 gx2)⟩ (fun hHeld3 => ?_)
                            clear hK K
                            refine norm_ (a' := ?_) ?_ ?_
                            rotate_left
                            · show Act.put _ (some 86) _ = _
                              simp only [Act.put, List.setIfInBounds_toArray, List.set_cons_zero, List.set_cons_succ, i64_w, i32_w]
                              rfl
                            refine pure_ (i := 17) (N := some 69) (v := ?_) (a' := ?_) #[true, true, true, true, true, true, true, true, true, true, true, true, true, true, true, true, true, true, false, false, true, false, false] rfl rfl (any_of HT_.out (by kernel_rfl)) (fun _ _ _ h => h) (Or.inl ⟨by rfl, ?_⟩) ?_ ?_
                            rotate_left
                            · intro w'
                              go_simp
                              with_reducible rfl
                            rotate_left
                            · simp only [Act.put, List.setIfInBounds_toArray, List.set_cons_zero, List.set_cons_succ, i64_w, i32_w]
                              rfl
                            refine pure_ (i := 18) (N := some 87) (v := ?_) (a' := ?_) #[true, true, true, true, true, true, true, true, true, true, true, true, true, true, true, true, true, true, true, false, true, false, false] rfl rfl (any_of HT_.out (by kernel_rfl)) (fun _ _ _ h => h) (Or.inl ⟨by rfl, ?_⟩) ?_ ?_
                            rotate_left
                            · intro w'
                              go_simp
                              with_reducible rfl
                            rotate_left
                            · simp only [Act.put, List.setIfInBounds_toArray, List.set_cons_zero, List.set_cons_succ, i64_w, i32_w]
                              rfl
                            refine pure_ (i := 19) (N := some 88) (v := ?_) (a' := ?_) (upB 23 21) rfl rfl (any_of HT_.out (by kernel_rfl)) (fun _ _ _ h => h) (Or.inl ⟨by rfl, ?_⟩) ?_ ?_
                            rotate_left
                            · intro w'
                              go_simp
                              with_reducible rfl
                            rotate_left
                            · simp only [Act.put, List.setIfInBounds_toArray, List.set_cons_zero, List.set_cons_succ, i64_w, i32_w]
                              rfl
                            exact norm_ (by simp only [putAll, Act.put, List.setIfInBounds_toArray, List.set_cons_zero, List.set_cons_succ]) (hCont (v5, g8) _ ⟨HR5.out, HX5, by rw [hg8]; exact Nat.le_refl _, by rw [hg8]; exact Nat.ne_of_gt (Array.getElem?_eq_some_iff.1 K2d.out).1, HF5.out, K25.out, HB5.out⟩)
                        rintro ⟨v5, g8⟩ w6 ⟨HR5, HX5, hw8, hne8, HF5, K25, HB5⟩
                        obtain ⟨Av, cv, ev⟩ := Kd.R_slice HR5
                        subst ev
                        refine norm_ (a' := ?_) (by simp only [putAll, Act.put, List.setIfInBounds_toArray, List.set_cons_zero, List.set_cons_succ]; rfl) ?_
                        refine last_ (i := 21) (N := none) (upB 23 22) rfl rfl (one_of HT_.out (by kernel_rfl)) (by decide) (fun K hK => ?_)
                        have h8_0 : w6.cell? ⟨g8, 0, none⟩ = some (.int .i64 0) := (blk_cell HX5 0).trans rfl
                        have h8_1 : w6.cell? ⟨g8, 1, none⟩ = some (.slice none 0 0) := (blk_cell HX5 1).trans rfl
                        have j8_0 := blk_frozen HX5 0
                        have j8_1 := blk_frozen HX5 1
                        refine skip_ (w1 := ?_) (by rfl) rfl ?_ ?_
                        rotate_left
                        · go_simp
                          rfl
                        refine hK.out _ _ ?_
                        clear hK K
                        refine pure_ (i := 22) (N := some 9) (v := ?_) (a' := ?_) (upB 23 23) rfl rfl (any_of HT_.out (by kernel_rfl)) (fun _ _ _ h => h) (Or.inl ⟨by rfl, ?_⟩) ?_ ?_
                        rotate_left
                        · intro w'
                          go_simp
                          with_reducible rfl
                        rotate_left
                        · simp only [Act.put, List.setIfInBounds_toArray, List.set_cons_zero, List.set_cons_succ, i64_w, i32_w]
                          rfl
                        refine done_ (done_of HT_.out (by kernel_rfl)) ?_
                        refine NoPanic.normal ?_
                        have z1 := blk_put (cs' := #[.int .i64 p.1, (.slice Av p.2.1.length cv)]) (blk_put (cs' := #[.int .i64 p.1, .slice none 0 0]) HX5 0 (.int .i64 p.1) rfl) 1 (.slice Av p.2.1.length cv) rfl
                        have z2 : ((w6.setCell ⟨g8, 0, none⟩ (.int .i64 p.1)).setCell ⟨g8, 1, none⟩ (.slice Av p.2.1.length cv)).heap[w.heap.size]? = _ := (Below.heap_setCell _ ⟨g8, 1, none⟩ (.slice Av p.2.1.length cv) w.heap.size (fun e => hne8 e.symm)).trans ((Below.heap_setCell w6 ⟨g8, 0, none⟩ (.int .i64 p.1) w.heap.size (fun e => hne8 e.symm)).trans K25)
                        have z3 := Kd.R_set (Kd.R_set HR5 HX5 (by decide) 0 (.int .i64 p.1)) (blk_put (cs' := #[.int .i64 p.1, .slice none 0 0]) HX5 0 (.int .i64 p.1) rfl) (by decide) 1 (.slice Av p.2.1.length cv)
                        have hw8' := Nat.le_trans HBd.out.size hw8
                        have z4 := below_set (j := 1) (v := .slice Av p.2.1.length cv) (below_set (j := 0) (v := .int .i64 p.1) HB5 hw8') hw8'
                        have z5 := Kd.F_mono (ok' := fun k_ => k_ ≠ w.heap.size) (Kd.F_far (p := ⟨g8, 1, none⟩) (Kd.F_far (p := ⟨g8, 0, none⟩) HF5 (fun k_ hk e => by have e2 : k_ = g8 := e; omega) (.int .i64 p.1)) (fun k_ hk e => by have e2 : k_ = g8 := e; omega) (.slice Av p.2.1.length cv)) (fun k_ hk => hk.1)
                        try go_wp2
                        go_meet
                        case rel => exact ⟨g8, _, rfl, rfl, ⟨z2, z1, z5, z3, z4⟩, hne8⟩
                      case rest =>
                        obtain ⟨g8, v, rfl, rfl, hBun, hne8⟩ := hcut
                        obtain ⟨Av, cv, ev⟩ := Kd.R_slice hBun.2.2.2.1
                        subst ev
                        have HBn := Aside0.mk hBun
                        clear hBun
                        by_cases he : p.2.2 = 0
                        · have h2 := H.out
                          clear H
                          rw [if_pos he] at h2
                          obtain ⟨hh, hhas, h3⟩ := Option.bind_eq_some_iff.1 h2
                          have HHAS := Aside0.mk (show shape_Has.f k p.1 p.2.1 x.f0 x.f1 = some (hh.1, hh.2) from hhas)
                          have H := Aside0.mk h3
                          clear h2 hhas h3
                          have e0 : (p.2.2 == 0) = true := beq_iff_eq.mpr he
                          have e0' : (p.2.2 != 0) = false := bne_eq_false_iff_eq.mpr he
                          clear he
                          go_upto_region 17 with (fail)
                          clear e0 e0'
                          go_cut [10, 11] (fun v10 v11 wc2 => v10 = .bool hh.1 ∧ v11 = .int .i64 hh.2 ∧ Bun w wc2 w.heap.size g8 n1 B1 d1 l1 p.1 (.slice Av p.2.1.length cv) p.2.1)
                          case first =>
                            refine wp_region_noPanic ?_
                            refine start_ (n := 17) (S := Sx w.heap.size g8 n1 B1 l1.length d1 p.1 (.slice Av p.2.1.length cv) (ad.add (i * 3)) ⟨(ad.add (i * 3)).block, (ad.add (i * 3)).off + 1, none⟩ ⟨(ad.add (i * 3)).block, (ad.add (i * 3)).off + 2, none⟩ x A2 cc2) (ds := []) (upB 17 0) (by kernel_rfl) rfl (by kernel_rfl) ((HBn.out.below (below_drew (Below.refl _ _))).cells y0 y1 y2 : Sx w.heap.size g8 n1 B1 l1.length d1 p.1 (.slice Av p.2.1.length cv) (ad.add (i * 3)) ⟨(ad.add (i * 3)).block, (ad.add (i * 3)).off + 1, none⟩ ⟨(ad.add (i * 3)).block, (ad.add (i * 3)).off + 2, none⟩ x A2 cc2 wc.drew) (fun hHeld => ?_)
                            have BN := Aside0.mk (show Bun w wc.drew w.heap.size g8 n1 B1 d1 l1 p.1 (.slice Av p.2.1.length cv) p.2.1 from HBn.out.below (below_drew (Below.refl _ _)))
                            refine with_tabW sp_tab17 sp_bits17 (fun HT_ HW_ => ?_)
                            generalize wc.drew = wd at *
                            refine take_ (i := 0) (N := some 92) (v := ?_) (a' := ?_) (upB 17 1) rfl rfl (take_ofW HT_.out HW_.out (by kernel_rfl)) (fun _ _ _ h => h) (Or.inl ⟨by rfl, ?_⟩) hHeld ?_ ?_
                            rotate_left
                            · rintro w' ⟨s0, s1, s2, s3, s4, s5, s6⟩
                              go_simp
                              with_reducible rfl
                            rotate_left
                            · simp only [Act.put, List.setIfInBounds_toArray, List.set_cons_zero, List.set_cons_succ, i64_w, i32_w]
                              rfl
                            refine pure_ (i := 1) (N := some 93) (v := ?_) (a' := ?_) (upB 17 2) rfl rfl (any_of HT_.out (by kernel_rfl)) (fun _ _ _ h => h) (Or.inl ⟨by rfl, ?_⟩) ?_ ?_
                            rotate_left
                            · intro w'
                              go_simp
                              with_reducible rfl
                            rotate_left
                            · simp only [Act.put, List.setIfInBounds_toArray, List.set_cons_zero, List.set_cons_succ, i64_w, i32_w]
                              rfl
                            refine pure_ (i := 2) (N := some 94) (v := ?_) (a' := ?_) (upB 17 3) rfl rfl (any_of HT_.out (by kernel_rfl)) (fun _ _ _ h => h) (Or.inl ⟨by rfl, ?_⟩) ?_ ?_
                            rotate_left
                            · intro w'
                              go_simp
                              with_reducible rfl
                            rotate_left
                            · simp only [Act.put, List.setIfInBounds_toArray, List.set_cons_zero, List.set_cons_succ, i64_w, i32_w]
                              rfl
                            refine pure_ (i := 3) (N := some 95) (v := ?_) (a' := ?_) (upB 17 4) rfl rfl (any_of HT_.out (by kernel_rfl)) (fun _ _ _ h => h) (Or.inl ⟨by rfl, ?_⟩) ?_ ?_
                            rotate_left
                            · intro w'
                              go_simp
                              with_reducible rfl
                            rotate_left
                            · simp only [Act.put, List.setIfInBounds_toArray, List.set_cons_zero, List.set_cons_succ, i64_w, i32_w]
                              rfl
                            refine pure_ (i := 4) (N := some 96) (v := ?_) (a' := ?_) (upB 17 5) rfl rfl (any_of HT_.out (by kernel_rfl)) (fun _ _ _ h => h) (Or.inl ⟨by rfl, ?_⟩) ?_ ?_
                            rotate_left
                            · intro w'
                              go_simp
                              with_reducible rfl
                            rotate_left
                            · simp only [Act.put, List.setIfInBounds_toArray, List.set_cons_zero, List.set_cons_succ, i64_w, i32_w]
                              rfl
                            refine take_ (i := 5) (N := some 97) (v := ?_) (a' := ?_) (upB 17 6) rfl rfl (take_ofW HT_.out HW_.out (by kernel_rfl)) (fun _ _ _ h => h) (Or.inl ⟨by rfl, ?_⟩) hHeld ?_ ?_
                            rotate_left
                            · rintro w' ⟨s0, s1, s2, s3, s4, s5, s6⟩
                              go_simp
                              with_reducible rfl
                            rotate_left
                            · simp only [Act.put, List.setIfInBounds_toArray, List.set_cons_zero, List.set_cons_succ, i64_w, i32_w]
                              rfl
                            refine pure_ (i := 6) (N := some 98) (v := ?_) (a' := ?_) (upB 17 7) rfl rfl (any_of HT_.out (by kernel_rfl)) (fun _ _ _ h => h) (Or.inl ⟨by rfl, ?_⟩) ?_ ?_
                            rotate_left
                            · intro w'
                              go_simp
                              with_reducible rfl
                            rotate_left
                            · simp only [Act.put, List.setIfInBounds_toArray, List.set_cons_zero, List.set_cons_succ, i64_w, i32_w]
                              rfl
                            refine pure_ (i := 7) (N := some 99) (v := ?_) (a' := ?_) (upB 17 8) rfl rfl (any_of HT_.out (by kernel_rfl)) (fun _ _ _ h => h) (Or.inl ⟨by rfl, ?_⟩) ?_ ?_
                            rotate_left
                            · intro w'
                              go_simp
                              with_reducible rfl
                            rotate_left
                            · simp only [Act.put, List.setIfInBounds_toArray, List.set_cons_zero, List.set_cons_succ, i64_w, i32_w]
                              rfl
                            refine pure_ (i := 8) (N := some 100) (v := ?_) (a' := ?_) (upB 17 9) rfl rfl (any_of HT_.out (by kernel_rfl)) (fun _ _ _ h => h) (Or.inl ⟨by rfl, ?_⟩) ?_ ?_
                            rotate_left
                            · intro w'
                              go_simp
                              with_reducible rfl
                            rotate_left
                            · simp only [Act.put, List.setIfInBounds_toArray, List.set_cons_zero, List.set_cons_succ, i64_w, i32_w]
                              rfl
                            refine pure_ (i := 9) (N := some 101) (v := ?_) (a' := ?_) (upB 17 10) rfl rfl (any_of HT_.out (by kernel_rfl)) (fun _ _ _ h => h) (Or.inl ⟨by rfl, ?_⟩) ?_ ?_
                            rotate_left
                            · intro w'
                              go_simp
                              with_reducible rfl
                            rotate_left
                            · simp only [Act.put, List.setIfInBounds_toArray, List.set_cons_zero, List.set_cons_succ, i64_w, i32_w]
                              rfl
                            refine take_ (i := 10) (N := some 102) (v := ?_) (a' := ?_) (upB 17 11) rfl rfl (take_ofW HT_.out HW_.out (by kernel_rfl)) (fun _ _ _ h => h) (Or.inl ⟨by rfl, ?_⟩) hHeld ?_ ?_
                            rotate_left
                            · rintro w' ⟨s0, s1, s2, s3, s4, s5, s6⟩
                              go_simp
                              with_reducible rfl
                            rotate_left
                            · simp only [Act.put, List.setIfInBounds_toArray, List.set_cons_zero, List.set_cons_succ, i64_w, i32_w]
                              rfl
                            refine one_ (i := 11) (N := some 103) (upB 17 12) rfl rfl (one_of HT_.out (by kernel_rfl)) (by decide) (fun K hK => ?_)
                            refine callE_ 30 #[.agg #[.int .i64 p.1, .slice Av p.2.1.length cv], .string x.f0, .slice A2 x.f1.length cc2] (by rfl) rfl (by go_simp) ?_
                            refine (shape_Has.calls k p.1 Av cv p.2.1 x.f0 A2 cc2 x.f1 hh.1 hh.2 _ (Kd.R_reads' BN.out.2.2.2.1).2.2 (Kd.R_reads' BN.out.2.2.2.1).2.1 (Kd.C_below HT.out BN.out.2.2.2.2) hl2 HHAS.out).mono ?_
                            rintro e w7 ⟨rfl, hbc⟩
                            left
                            refine ⟨_, rfl, ?_⟩
                            have BN' := Aside0.mk (BN.out.below hbc)
                            refine hK.out _ _ (BN'.out.cells y0 y1 y2) (fun hHeld => ?_)
                            clear hK K BN hbc
                            have BN := BN'
                            clear BN'
                            refine norm_ (a' := ?_) ?_ ?_
                            rotate_left
                            · show Act.put _ (some 103) _ = _
                              simp only [Act.put, List.setIfInBounds_toArray, List.set_cons_zero, List.set_cons_succ, i64_w, i32_w]
                              rfl
                            refine pure_ (i := 12) (N := some 91) (v := ?_) (a' := ?_) (upB 17 13) rfl rfl (any_of HT_.out (by kernel_rfl)) (fun _ _ _ h => h) (Or.inl ⟨by rfl, ?_⟩) ?_ ?_
                            rotate_left
                            · intro w'
                              go_simp
                              with_reducible rfl
                            rotate_left
                            · simp only [Act.put, List.setIfInBounds_toArray, List.set_cons_zero, List.set_cons_succ, i64_w, i32_w]
                              rfl
                            refine pure_ (i := 13) (N := some 104) (v := ?_) (a' := ?_) (upB 17 14) rfl rfl (any_of HT_.out (by kernel_rfl)) (fun _ _ _ h => h) (Or.inl ⟨by rfl, ?_⟩) ?_ ?_
                            rotate_left
                            · intro w'
                              go_simp
                              with_reducible rfl
                            rotate_left
                            · simp only [Act.put, List.setIfInBounds_toArray, List.set_cons_zero, List.set_cons_succ, i64_w, i32_w]
                              rfl
                            refine pure_ (i := 14) (N := some 105) (v := ?_) (a' := ?_) (upB 17 15) rfl rfl (any_of HT_.out (by kernel_rfl)) (fun _ _ _ h => h) (Or.inl ⟨by rfl, ?_⟩) ?_ ?_
                            rotate_left
                            · intro w'
                              go_simp
                              with_reducible rfl
                            rotate_left
                            · simp only [Act.put, List.setIfInBounds_toArray, List.set_cons_zero, List.set_cons_succ, i64_w, i32_w]
                              rfl
                            refine pure_ (i := 15) (N := some 10) (v := ?_) (a' := ?_) (upB 17 16) rfl rfl (any_of HT_.out (by kernel_rfl)) (fun _ _ _ h => h) (Or.inl ⟨by rfl, ?_⟩) ?_ ?_
                            rotate_left
                            · intro w'
                              go_simp
                              with_reducible rfl
                            rotate_left
                            · simp only [Act.put, List.setIfInBounds_toArray, List.set_cons_zero, List.set_cons_succ, i64_w, i32_w]
                              rfl
                            refine pure_ (i := 16) (N := some 11) (v := ?_) (a' := ?_) (upB 17 17) rfl rfl (any_of HT_.out (by kernel_rfl)) (fun _ _ _ h => h) (Or.inl ⟨by rfl, ?_⟩) ?_ ?_
                            rotate_left
                            · intro w'
                              go_simp
                              with_reducible rfl
                            rotate_left
                            · simp only [Act.put, List.setIfInBounds_toArray, List.set_cons_zero, List.set_cons_succ, i64_w, i32_w]
                              rfl
                            refine done_ (done_of HT_.out (by kernel_rfl)) ?_
                            refine NoPanic.normal ?_
                            try go_wp2
                            go_meet
                            case rel => exact ⟨rfl, rfl, BN.out⟩
                          case rest =>
                            obtain ⟨rfl, rfl, hBun⟩ := hcut
                            clear HBn HHAS
                            have HBn := Aside0.mk hBun
                            clear hBun
                            go_upto_region 18 with (fail)
                            go_cut [153] (fun v153 wc3 => ∃ (bad : Bool), v153 = .bool bad ∧ Bun w wc3 w.heap.size g8 n1 B1 d1 l1 p.1 (.slice Av p.2.1.length cv) p.2.1 ∧ ((bad = true ∧ r = false) ∨ (bad = false ∧ spLoop k (cs.drop (i + 1)) p.1 p.2.1 = some r)))
                            case first =>
                              by_cases h0 : hh.2 = 0
                              · have f0 : (hh.2 == 0) = true := beq_iff_eq.mpr h0
                                have f0' : (hh.2 != 0) = false := bne_eq_false_iff_eq.mpr h0
                                have h2 := H.out
                                clear H
                                rw [if_pos h0] at h2
                                clear h0
                                by_cases h1 : hh.1 = x.f2
                                · have f1 : (hh.1 == x.f2) = true := beq_iff_eq.mpr h1
                                  have f1' : (hh.1 != x.f2) = false := bne_eq_false_iff_eq.mpr h1
                                  rw [if_pos h1] at h2
                                  clear h1
                                  obtain ⟨vb, hvb, h3⟩ := Option.bind_eq_some_iff.1 h2
                                  have HVAL := Aside0.mk hvb
                                  clear h2 hvb
                                  cases vb with
                                  | false =>
                                    rw [if_neg (by simp)] at h3
                                    have H := Aside0.mk h3
                                    clear h3
                                    refine wp_region_noPanic ?_
                                    refine start_ (n := 48) (S := Sx w.heap.size g8 n1 B1 l1.length d1 p.1 (.slice Av p.2.1.length cv) (ad.add (i * 3)) ⟨(ad.add (i * 3)).block, (ad.add (i * 3)).off + 1, none⟩ ⟨(ad.add (i * 3)).block, (ad.add (i * 3)).off + 2, none⟩ x A2 cc2) (ds := []) (upB 48 0) (by kernel_rfl) rfl (by kernel_rfl) ((HBn.out.below (below_drew (Below.refl _ _))).cells y0 y1 y2 : Sx w.heap.size g8 n1 B1 l1.length d1 p.1 (.slice Av p.2.1.length cv) (ad.add (i * 3)) ⟨(ad.add (i * 3)).block, (ad.add (i * 3)).off + 1, none⟩ ⟨(ad.add (i * 3)).block, (ad.add (i * 3)).off + 2, none⟩ x A2 cc2 wc.drew) (fun hHeld => ?_)
                                    have BN := Aside0.mk (show Bun w wc.drew w.heap.size g8 n1 B1 d1 l1 p.1 (.slice Av p.2.1.length cv) p.2.1 from HBn.out.below (below_drew (Below.refl _ _)))
                                    refine with_tabW sp_tab18 sp_bits18 (fun HT_ HW_ => ?_)
                                    generalize wc.drew = wd at *
                                    refine pure_ (i := 0) (N := some 106) (v := ?_) (a' := ?_) (upB 48 1) rfl rfl (any_of HT_.out (by kernel_rfl)) (fun _ _ _ h => h) (Or.inl ⟨by rfl, ?_⟩) ?_ ?_
                                    rotate_left
                                    · intro w'
                                      go_simp
                                      with_reducible rfl
                                    rotate_left
                                    · simp only [Act.put, List.setIfInBounds_toArray, List.set_cons_zero, List.set_cons_succ, i64_w, i32_w]
                                      rfl
                                    refine pure_ (i := 1) (N := some 107) (v := ?_) (a' := ?_) (upB 48 2) rfl rfl (any_of HT_.out (by kernel_rfl)) (fun _ _ _ h => h) (Or.inl ⟨by rfl, ?_⟩) ?_ ?_
                                    rotate_left
                                    · intro w'
                                      go_simp
                                      with_reducible rfl
                                    rotate_left
                                    · simp only [Act.put, List.setIfInBounds_toArray, List.set_cons_zero, List.set_cons_succ, i64_w, i32_w]
                                      rfl
                                    refine pure_ (i := 2) (N := some 108) (v := ?_) (a' := ?_) (upB 48 3) rfl rfl (any_of HT_.out (by kernel_rfl)) (fun _ _ _ h => h) (Or.inl ⟨by rfl, ?_⟩) ?_ ?_
                                    rotate_left
                                    · intro w'
                                      go_simp
                                      with_reducible rfl
                                    rotate_left
                                    · simp only [Act.put, List.setIfInBounds_toArray, List.set_cons_zero, List.set_cons_succ, i64_w, i32_w]
                                      rfl
                                    refine pure_ (i := 3) (N := some 109) (v := ?_) (a' := ?_) (upB 48 4) rfl rfl (any_of HT_.out (by kernel_rfl)) (fun _ _ _ h => h) (Or.inl ⟨by rfl, ?_⟩) ?_ ?_
                                    rotate_left
                                    · intro w'
                                      go_simp
                                      with_reducible rfl
                                    rotate_left
                                    · simp only [Act.put, List.setIfInBounds_toArray, List.set_cons_zero, List.set_cons_succ, i64_w, i32_w]
                                      rfl
                                    refine pure_ (i := 4) (N := some 110) (v := ?_) (a' := ?_) (upB 48 5) rfl rfl (any_of HT_.out (by kernel_rfl)) (fun _ _ _ h => h) (Or.inl ⟨by rfl, ?_⟩) ?_ ?_
                                    rotate_left
                                    · intro w'
                                      go_simp
                                      with_reducible rfl
                                    rotate_left
                                    · simp only [Act.put, List.setIfInBounds_toArray, List.set_cons_zero, List.set_cons_succ, i64_w, i32_w]
                                      rfl
                                    refine pure_ (i := 5) (N := some 111) (v := ?_) (a' := ?_) (upB 48 6) rfl rfl (any_of HT_.out (by kernel_rfl)) (fun _ _ _ h => h) (Or.inl ⟨by rfl, ?_⟩) ?_ ?_
                                    rotate_left
                                    · intro w'
                                      go_simp
                                      with_reducible rfl
                                    rotate_left
                                    · simp only [Act.put, List.setIfInBounds_toArray, List.set_cons_zero, List.set_cons_succ, i64_w, i32_w]
                                      rfl
                                    refine pure_ (i := 6) (N := some 112) (v := ?_) (a' := ?_) (upB 48 7) rfl rfl (any_of HT_.out (by kernel_rfl)) (fun _ _ _ h => h) (Or.inl ⟨by rfl, ?_⟩) ?_ ?_
                                    rotate_left
                                    · intro w'
                                      go_simp
                                      with_reducible rfl
                                    rotate_left
                                    · simp only [Act.put, List.setIfInBounds_toArray, List.set_cons_zero, List.set_cons_succ, i64_w, i32_w]
                                      rfl
                                    refine pure_ (i := 7) (N := some 113) (v := ?_) (a' := ?_) (upB 48 8) rfl rfl (any_of HT_.out (by kernel_rfl)) (fun _ _ _ h => h) (Or.inl ⟨by rfl, ?_⟩) ?_ ?_
                                    rotate_left
                                    · intro w'
                                      go_simp
                                      with_reducible rfl
                                    rotate_left
                                    · simp only [Act.put, List.setIfInBounds_toArray, List.set_cons_zero, List.set_cons_succ, i64_w, i32_w]
                                      rfl
                                    refine take_ (i := 8) (N := some 114) (v := ?_) (a' := ?_) (upB 48 9) rfl rfl (take_ofW HT_.out HW_.out (by kernel_rfl)) (fun _ _ _ h => h) (Or.inl ⟨by rfl, ?_⟩) hHeld ?_ ?_
                                    rotate_left
                                    · rintro w' ⟨s0, s1, s2, s3, s4, s5, s6⟩
                                      go_simp
                                      with_reducible rfl
                                    rotate_left
                                    · simp only [Act.put, List.setIfInBounds_toArray, List.set_cons_zero, List.set_cons_succ, i64_w, i32_w]
                                      rfl
                                    refine pure_ (i := 9) (N := some 115) (v := ?_) (a' := ?_) (upB 48 10) rfl rfl (any_of HT_.out (by kernel_rfl)) (fun _ _ _ h => h) (Or.inl ⟨by rfl, ?_⟩) ?_ ?_
                                    rotate_left
                                    · intro w'
                                      go_simp
                                      with_reducible rfl
                                    rotate_left
                                    · simp only [Act.put, List.setIfInBounds_toArray, List.set_cons_zero, List.set_cons_succ, i64_w, i32_w]
                                      rfl
                                    refine pure_ (i := 10) (N := some 116) (v := ?_) (a' := ?_) (upB 48 11) rfl rfl (any_of HT_.out (by kernel_rfl)) (fun _ _ _ h => h) (Or.inl ⟨by rfl, ?_⟩) ?_ ?_
                                    rotate_left
                                    · intro w'
                                      go_simp
                                      with_reducible rfl
                                    rotate_left
                                    · simp only [Act.put, List.setIfInBounds_toArray, List.set_cons_zero, List.set_cons_succ, i64_w, i32_w]
                                      rfl
                                    refine pure_ (i := 11) (N := some 117) (v := ?_) (a' := ?_) (upB 48 12) rfl rfl (any_of HT_.out (by kernel_rfl)) (fun _ _ _ h => h) (Or.inl ⟨by rfl, ?_⟩) ?_ ?_
                                    rotate_left
                                    · intro w'
                                      go_simp
                                      with_reducible rfl
                                    rotate_left
                                    · simp only [Act.put, List.setIfInBounds_toArray, List.set_cons_zero, List.set_cons_succ, i64_w, i32_w]
                                      rfl
                                    refine take_ (i := 12) (N := some 118) (v := ?_) (a' := ?_) (upB 48 13) rfl rfl (take_ofW HT_.out HW_.out (by kernel_rfl)) (fun _ _ _ h => h) (Or.inl ⟨by rfl, ?_⟩) hHeld ?_ ?_
                                    rotate_left
                                    · rintro w' ⟨s0, s1, s2, s3, s4, s5, s6⟩
                                      go_simp
                                      with_reducible rfl
                                    rotate_left
                                    · simp only [Act.put, List.setIfInBounds_toArray, List.set_cons_zero, List.set_cons_succ, i64_w, i32_w]
                                      rfl
                                    refine one_ (i := 13) (N := some 119) (upB 48 14) rfl rfl (one_of HT_.out (by kernel_rfl)) (by decide) (fun K hK => ?_)
                                    refine callE_ 21 #[.agg #[.int .i64 p.1, .slice Av p.2.1.length cv]] (by rfl) rfl (by go_simp) ?_
                                    refine (shape_Valid.calls k p.1 Av cv p.2.1 false _ (Kd.R_reads' BN.out.2.2.2.1).2.2 (Kd.R_reads' BN.out.2.2.2.1).2.1 HVAL.out).mono ?_
                                    rintro e w7 ⟨rfl, hbc⟩
                                    left
                                    refine ⟨_, rfl, ?_⟩
                                    have BN' := Aside0.mk (BN.out.below hbc)
                                    refine hK.out _ _ (BN'.out.cells y0 y1 y2) (fun hHeld => ?_)
                                    clear hK K BN hbc
                                    have BN := BN'
                                    clear BN'
                                    refine norm_ (a' := ?_) ?_ ?_
                                    rotate_left
                                    · show Act.put _ (some 119) _ = _
                                      simp only [Act.put, List.setIfInBounds_toArray, List.set_cons_zero, List.set_cons_succ, i64_w, i32_w]
                                      rfl
                                    refine pure_ (i := 14) (N := some 120) (v := ?_) (a' := ?_) (upB 48 15) rfl rfl (any_of HT_.out (by kernel_rfl)) (fun _ _ _ h => h) (Or.inl ⟨by rfl, ?_⟩) ?_ ?_
                                    rotate_left
                                    · intro w'
                                      go_simp
                                      with_reducible rfl
                                    rotate_left
                                    · simp only [Act.put, List.setIfInBounds_toArray, List.set_cons_zero, List.set_cons_succ, i64_w, i32_w]
                                      rfl
                                    refine pure_ (i := 15) (N := some 121) (v := ?_) (a' := ?_) (upB 48 16) rfl rfl (any_of HT_.out (by kernel_rfl)) (fun _ _ _ h => h) (Or.inl ⟨by rfl, ?_⟩) ?_ ?_
                                    rotate_left
                                    · intro w'
                                      go_simp
                                      with_reducible rfl
                                    rotate_left
                                    · simp only [Act.put, List.setIfInBounds_toArray, List.set_cons_zero, List.set_cons_succ, i64_w, i32_w]
                                      rfl
                                    refine pure_ (i := 16) (N := some 122) (v := ?_) (a' := ?_) (upB 48 17) rfl rfl (any_of HT_.out (by kernel_rfl)) (fun _ _ _ h => h) (Or.inl ⟨by rfl, ?_⟩) ?_ ?_
                                    rotate_left
                                    · intro w'
                                      go_simp
                                      with_reducible rfl
                                    rotate_left
                                    · simp only [Act.put, List.setIfInBounds_toArray, List.set_cons_zero, List.set_cons_succ, i64_w, i32_w]
                                      rfl
                                    refine pure_ (i := 17) (N := some 123) (v := undef) (a' := ?_) (upB 48 18) rfl rfl (any_of HT_.out (by kernel_rfl)) (fun _ _ _ h => h) (Or.inr ⟨by rfl, rfl⟩) ?_ ?_
                                    rotate_left
                                    · simp only [Act.put, List.setIfInBounds_toArray, List.set_cons_zero, List.set_cons_succ, i64_w, i32_w]
                                      rfl
                                    refine pure_ (i := 18) (N := some 124) (v := undef) (a' := ?_) (upB 48 19) rfl rfl (any_of HT_.out (by kernel_rfl)) (fun _ _ _ h => h) (Or.inr ⟨by rfl, rfl⟩) ?_ ?_
                                    rotate_left
                                    · simp only [Act.put, List.setIfInBounds_toArray, List.set_cons_zero, List.set_cons_succ, i64_w, i32_w]
                                      rfl
                                    refine pure_ (i := 19) (N := some 125) (v := undef) (a' := ?_) (upB 48 20) rfl rfl (any_of HT_.out (by kernel_rfl)) (fun _ _ _ h => h) (Or.inr ⟨by rfl, rfl⟩) ?_ ?_
                                    rotate_left
                                    · simp only [Act.put, List.setIfInBounds_toArray, List.set_cons_zero, List.set_cons_succ, i64_w, i32_w]
                                      rfl
                                    refine pure_ (i := 20) (N := some 126) (v := undef) (a' := ?_) (upB 48 21) rfl rfl (any_of HT_.out (by kernel_rfl)) (fun _ _ _ h => h) (Or.inr ⟨by rfl, rfl⟩) ?_ ?_
                                    rotate_left
                                    · simp only [Act.put, List.setIfInBounds_toArray, List.set_cons_zero, List.set_cons_succ, i64_w, i32_w]
                                      rfl
                                    refine pure_ (i := 21) (N := some 127) (v := undef) (a' := ?_) (upB 48 22) rfl rfl (any_of HT_.out (by kernel_rfl)) (fun _ _ _ h => h) (Or.inr ⟨by rfl, rfl⟩) ?_ ?_
                                    rotate_left
                                    · simp only [Act.put, List.setIfInBounds_toArray, List.set_cons_zero, List.set_cons_succ, i64_w, i32_w]
                                      rfl
                                    refine pure_ (i := 22) (N := some 128) (v := undef) (a' := ?_) (upB 48 23) rfl rfl (any_of HT_.out (by kernel_rfl)) (fun _ _ _ h => h) (Or.inr ⟨by rfl, rfl⟩) ?_ ?_
                                    rotate_left
                                    · simp only [Act.put, List.setIfInBounds_toArray, List.set_cons_zero, List.set_cons_succ, i64_w, i32_w]
                                      rfl
                                    refine pure_ (i := 23) (N := some 129) (v := undef) (a' := ?_) (upB 48 24) rfl rfl (any_of HT_.out (by kernel_rfl)) (fun _ _ _ h => h) (Or.inr ⟨by rfl, rfl⟩) ?_ ?_
                                    rotate_left
                                    · simp only [Act.put, List.setIfInBounds_toArray, List.set_cons_zero, List.set_cons_succ, i64_w, i32_w]
                                      rfl
                                    refine pure_ (i := 24) (N := some 130) (v := undef) (a' := ?_) (upB 48 25) rfl rfl (any_of HT_.out (by kernel_rfl)) (fun _ _ _ h => h) (Or.inr ⟨by rfl, rfl⟩) ?_ ?_
                                    rotate_left
                                    · simp only [Act.put, List.setIfInBounds_toArray, List.set_cons_zero, List.set_cons_succ, i64_w, i32_w]
                                      rfl
                                    refine pure_ (i := 25) (N := some 131) (v := undef) (a' := ?_) (upB 48 26) rfl rfl (any_of HT_.out (by kernel_rfl)) (fun _ _ _ h => h) (Or.inr ⟨by rfl, rfl⟩) ?_ ?_
                                    rotate_left
                                    · simp only [Act.put, List.setIfInBounds_toArray, List.set_cons_zero, List.set_cons_succ, i64_w, i32_w]
                                      rfl
                                    refine pure_ (i := 26) (N := some 132) (v := undef) (a' := ?_) (upB 48 27) rfl rfl (any_of HT_.out (by kernel_rfl)) (fun _ _ _ h => h) (Or.inr ⟨by rfl, rfl⟩) ?_ ?_
                                    rotate_left
                                    · simp only [Act.put, List.setIfInBounds_toArray, List.set_cons_zero, List.set_cons_succ, i64_w, i32_w]
                                      rfl
                                    refine pure_ (i := 27) (N := some 133) (v := undef) (a' := ?_) (upB 48 28) rfl rfl (any_of HT_.out (by kernel_rfl)) (fun _ _ _ h => h) (Or.inr ⟨by rfl, rfl⟩) ?_ ?_
                                    rotate_left
                                    · simp only [Act.put, List.setIfInBounds_toArray, List.set_cons_zero, List.set_cons_succ, i64_w, i32_w]
                                      rfl
                                    refine pure_ (i := 28) (N := some 134) (v := undef) (a' := ?_) (upB 48 29) rfl rfl (any_of HT_.out (by kernel_rfl)) (fun _ _ _ h => h) (Or.inr ⟨by rfl, rfl⟩) ?_ ?_
                                    rotate_left
                                    · simp only [Act.put, List.setIfInBounds_toArray, List.set_cons_zero, List.set_cons_succ, i64_w, i32_w]
                                      rfl
                                    refine pure_ (i := 29) (N := some 135) (v := undef) (a' := ?_) (upB 48 30) rfl rfl (any_of HT_.out (by kernel_rfl)) (fun _ _ _ h => h) (Or.inr ⟨by rfl, rfl⟩) ?_ ?_
                                    rotate_left
                                    · simp only [Act.put, List.setIfInBounds_toArray, List.set_cons_zero, List.set_cons_succ, i64_w, i32_w]
                                      rfl
                                    refine pure_ (i := 30) (N := some 136) (v := undef) (a' := ?_) (upB 48 31) rfl rfl (any_of HT_.out (by kernel_rfl)) (fun _ _ _ h => h) (Or.inr ⟨by rfl, rfl⟩) ?_ ?_
                                    rotate_left
                                    · simp only [Act.put, List.setIfInBounds_toArray, List.set_cons_zero, List.set_cons_succ, i64_w, i32_w]
                                      rfl
                                    refine pure_ (i := 31) (N := some 137) (v := ?_) (a' := ?_) (upB 48 32) rfl rfl (any_of HT_.out (by kernel_rfl)) (fun _ _ _ h => h) (Or.inl ⟨by rfl, ?_⟩) ?_ ?_
                                    rotate_left
                                    · intro w'
                                      go_simp
                                      with_reducible rfl
                                    rotate_left
                                    · simp only [Act.put, List.setIfInBounds_toArray, List.set_cons_zero, List.set_cons_succ, i64_w, i32_w]
                                      rfl
                                    refine pure_ (i := 32) (N := some 138) (v := ?_) (a' := ?_) (upB 48 33) rfl rfl (any_of HT_.out (by kernel_rfl)) (fun _ _ _ h => h) (Or.inl ⟨by rfl, ?_⟩) ?_ ?_
                                    rotate_left
                                    · intro w'
                                      go_simp
                                      with_reducible rfl
                                    rotate_left
                                    · simp only [Act.put, List.setIfInBounds_toArray, List.set_cons_zero, List.set_cons_succ, i64_w, i32_w]
                                      rfl
                                    refine pure_ (i := 33) (N := some 139) (v := undef) (a' := ?_) (upB 48 34) rfl rfl (any_of HT_.out (by kernel_rfl)) (fun _ _ _ h => h) (Or.inr ⟨by rfl, rfl⟩) ?_ ?_
                                    rotate_left
                                    · simp only [Act.put, List.setIfInBounds_toArray, List.set_cons_zero, List.set_cons_succ, i64_w, i32_w]
                                      rfl
                                    refine pure_ (i := 34) (N := some 140) (v := undef) (a' := ?_) (upB 48 35) rfl rfl (any_of HT_.out (by kernel_rfl)) (fun _ _ _ h => h) (Or.inr ⟨by rfl, rfl⟩) ?_ ?_
                                    rotate_left
                                    · simp only [Act.put, List.setIfInBounds_toArray, List.set_cons_zero, List.set_cons_succ, i64_w, i32_w]
                                      rfl
                                    refine pure_ (i := 35) (N := some 141) (v := undef) (a' := ?_) (upB 48 36) rfl rfl (any_of HT_.out (by kernel_rfl)) (fun _ _ _ h => h) (Or.inr ⟨by rfl, rfl⟩) ?_ ?_
                                    rotate_left
                                    · simp only [Act.put, List.setIfInBounds_toArray, List.set_cons_zero, List.set_cons_succ, i64_w, i32_w]
                                      rfl
                                    refine pure_ (i := 36) (N := some 142) (v := undef) (a' := ?_) (upB 48 37) rfl rfl (any_of HT_.out (by kernel_rfl)) (fun _ _ _ h => h) (Or.inr ⟨by rfl, rfl⟩) ?_ ?_
                                    rotate_left
                                    · simp only [Act.put, List.setIfInBounds_toArray, List.set_cons_zero, List.set_cons_succ, i64_w, i32_w]
                                      rfl
                                    refine pure_ (i := 37) (N := some 143) (v := undef) (a' := ?_) (upB 48 38) rfl rfl (any_of HT_.out (by kernel_rfl)) (fun _ _ _ h => h) (Or.inr ⟨by rfl, rfl⟩) ?_ ?_
                                    rotate_left
                                    · simp only [Act.put, List.setIfInBounds_toArray, List.set_cons_zero, List.set_cons_succ, i64_w, i32_w]
                                      rfl
                                    refine pure_ (i := 38) (N := some 144) (v := undef) (a' := ?_) (upB 48 39) rfl rfl (any_of HT_.out (by kernel_rfl)) (fun _ _ _ h => h) (Or.inr ⟨by rfl, rfl⟩) ?_ ?_
                                    rotate_left
                                    · simp only [Act.put, List.setIfInBounds_toArray, List.set_cons_zero, List.set_cons_succ, i64_w, i32_w]
                                      rfl
                                    refine pure_ (i := 39) (N := some 145) (v := undef) (a' := ?_) (upB 48 40) rfl rfl (any_of HT_.out (by kernel_rfl)) (fun _ _ _ h => h) (Or.inr ⟨by rfl, rfl⟩) ?_ ?_
                                    rotate_left
                                    · simp only [Act.put, List.setIfInBounds_toArray, List.set_cons_zero, List.set_cons_succ, i64_w, i32_w]
                                      rfl
                                    refine pure_ (i := 40) (N := some 146) (v := undef) (a' := ?_) (upB 48 41) rfl rfl (any_of HT_.out (by kernel_rfl)) (fun _ _ _ h => h) (Or.inr ⟨by rfl, rfl⟩) ?_ ?_
                                    rotate_left
                                    · simp only [Act.put, List.setIfInBounds_toArray, List.set_cons_zero, List.set_cons_succ, i64_w, i32_w]
                                      rfl
                                    refine pure_ (i := 41) (N := some 147) (v := undef) (a' := ?_) (upB 48 42) rfl rfl (any_of HT_.out (by kernel_rfl)) (fun _ _ _ h => h) (Or.inr ⟨by rfl, rfl⟩) ?_ ?_
                                    rotate_left
                                    · simp only [Act.put, List.setIfInBounds_toArray, List.set_cons_zero, List.set_cons_succ, i64_w, i32_w]
                                      rfl
                                    refine pure_ (i := 42) (N := some 148) (v := undef) (a' := ?_) (upB 48 43) rfl rfl (any_of HT_.out (by kernel_rfl)) (fun _ _ _ h => h) (Or.inr ⟨by rfl, rfl⟩) ?_ ?_
                                    rotate_left
                                    · simp only [Act.put, List.setIfInBounds_toArray, List.set_cons_zero, List.set_cons_succ, i64_w, i32_w]
                                      rfl
                                    refine pure_ (i := 43) (N := some 149) (v := undef) (a' := ?_) (upB 48 44) rfl rfl (any_of HT_.out (by kernel_rfl)) (fun _ _ _ h => h) (Or.inr ⟨by rfl, rfl⟩) ?_ ?_
                                    rotate_left
                                    · simp only [Act.put, List.setIfInBounds_toArray, List.set_cons_zero, List.set_cons_succ, i64_w, i32_w]
                                      rfl
                                    refine pure_ (i := 44) (N := some 150) (v := undef) (a' := ?_) (upB 48 45) rfl rfl (any_of HT_.out (by kernel_rfl)) (fun _ _ _ h => h) (Or.inr ⟨by rfl, rfl⟩) ?_ ?_
                                    rotate_left
                                    · simp only [Act.put, List.setIfInBounds_toArray, List.set_cons_zero, List.set_cons_succ, i64_w, i32_w]
                                      rfl
                                    refine pure_ (i := 45) (N := some 151) (v := undef) (a' := ?_) (upB 48 46) rfl rfl (any_of HT_.out (by kernel_rfl)) (fun _ _ _ h => h) (Or.inr ⟨by rfl, rfl⟩) ?_ ?_
                                    rotate_left
                                    · simp only [Act.put, List.setIfInBounds_toArray, List.set_cons_zero, List.set_cons_succ, i64_w, i32_w]
                                      rfl
                                    refine pure_ (i := 46) (N := some 152) (v := undef) (a' := ?_) (upB 48 47) rfl rfl (any_of HT_.out (by kernel_rfl)) (fun _ _ _ h => h) (Or.inr ⟨by rfl, rfl⟩) ?_ ?_
                                    rotate_left
                                    · simp only [Act.put, List.setIfInBounds_toArray, List.set_cons_zero, List.set_cons_succ, i64_w, i32_w]
                                      rfl
                                    refine pure_ (i := 47) (N := some 153) (v := ?_) (a' := ?_) (upB 48 48) rfl rfl (any_of HT_.out (by kernel_rfl)) (fun _ _ _ h => h) (Or.inl ⟨by rfl, ?_⟩) ?_ ?_
                                    rotate_left
                                    · intro w'
                                      go_simp
                                      with_reducible rfl
                                    rotate_left
                                    · simp only [Act.put, List.setIfInBounds_toArray, List.set_cons_zero, List.set_cons_succ, i64_w, i32_w]
                                      rfl
                                    refine done_ (done_of HT_.out (by kernel_rfl)) ?_
                                    refine NoPanic.normal ?_
                                    try go_wp2
                                    go_meet
                                    case rel => exact ⟨_, rfl, BN.out, Or.inl ⟨rfl, by have h2 := H.out;  exact (Option.some.inj h2).symm⟩⟩
                                  | true =>
                                    rw [if_pos rfl] at h3
                                    obtain ⟨xa, hxa, h4⟩ := Option.bind_eq_some_iff.1 h3
                                    have HXA := Aside0.mk hxa
                                    clear h3 hxa
                                    cases xa with
                                    | false =>
                                      rw [if_neg (by simp)] at h4
                                      have H := Aside0.mk h4
                                      clear h4
                                      refine wp_region_noPanic ?_
                                      refine start_ (n := 48) (S := Sx w.heap.size g8 n1 B1 l1.length d1 p.1 (.slice Av p.2.1.length cv) (ad.add (i * 3)) ⟨(ad.add (i * 3)).block, (ad.add (i * 3)).off + 1, none⟩ ⟨(ad.add (i * 3)).block, (ad.add (i * 3)).off + 2, none⟩ x A2 cc2) (ds := []) (upB 48 0) (by kernel_rfl) rfl (by kernel_rfl) ((HBn.out.below (below_drew (Below.refl _ _))).cells y0 y1 y2 : Sx w.heap.size g8 n1 B1 l1.length d1 p.1 (.slice Av p.2.1.length cv) (ad.add (i * 3)) ⟨(ad.add (i * 3)).block, (ad.add (i * 3)).off + 1, none⟩ ⟨(ad.add (i * 3)).block, (ad.add (i * 3)).off + 2, none⟩ x A2 cc2 wc.drew) (fun hHeld => ?_)
                                      have BN := Aside0.mk (show Bun w wc.drew w.heap.size g8 n1 B1 d1 l1 p.1 (.slice Av p.2.1.length cv) p.2.1 from HBn.out.below (below_drew (Below.refl _ _)))
                                      refine with_tabW sp_tab18 sp_bits18 (fun HT_ HW_ => ?_)
                                      generalize wc.drew = wd at *
                                      refine pure_ (i := 0) (N := some 106) (v := ?_) (a' := ?_) (upB 48 1) rfl rfl (any_of HT_.out (by kernel_rfl)) (fun _ _ _ h => h) (Or.inl ⟨by rfl, ?_⟩) ?_ ?_
                                      rotate_left
                                      · intro w'
                                        go_simp
                                        with_reducible rfl
                                      rotate_left
                                      · simp only [Act.put, List.setIfInBounds_toArray, List.set_cons_zero, List.set_cons_succ, i64_w, i32_w]
                                        rfl
                                      refine pure_ (i := 1) (N := some 107) (v := ?_) (a' := ?_) (upB 48 2) rfl rfl (any_of HT_.out (by kernel_rfl)) (fun _ _ _ h => h) (Or.inl ⟨by rfl, ?_⟩) ?_ ?_
                                      rotate_left
                                      · intro w'
                                        go_simp
                                        with_reducible rfl
                                      rotate_left
                                      · simp only [Act.put, List.setIfInBounds_toArray, List.set_cons_zero, List.set_cons_succ, i64_w, i32_w]
                                        rfl
                                      refine pure_ (i := 2) (N := some 108) (v := ?_) (a' := ?_) (upB 48 3) rfl rfl (any_of HT_.out (by kernel_rfl)) (fun _ _ _ h => h) (Or.inl ⟨by rfl, ?_⟩) ?_ ?_
                                      rotate_left
                                      · intro w'
                                        go_simp
                                        with_reducible rfl
                                      rotate_left
                                      · simp only [Act.put, List.setIfInBounds_toArray, List.set_cons_zero, List.set_cons_succ, i64_w, i32_w]
                                        rfl
                                      refine pure_ (i := 3) (N := some 109) (v := ?_) (a' := ?_) (upB 48 4) rfl rfl (any_of HT_.out (by kernel_rfl)) (fun _ _ _ h => h) (Or.inl ⟨by rfl, ?_⟩) ?_ ?_
                                      rotate_left
                                      · intro w'
                                        go_simp
                                        with_reducible rfl
                                      rotate_left
                                      · simp only [Act.put, List.setIfInBounds_toArray, List.set_cons_zero, List.set_cons_succ, i64_w, i32_w]
                                        rfl
                                      refine pure_ (i := 4) (N := some 110) (v := ?_) (a' := ?_) (upB 48 5) rfl rfl (any_of HT_.out (by kernel_rfl)) (fun _ _ _ h => h) (Or.inl ⟨by rfl, ?_⟩) ?_ ?_
                                      rotate_left
                                      · intro w'
                                        go_simp
                                        with_reducible rfl
                                      rotate_left
                                      · simp only [Act.put, List.setIfInBounds_toArray, List.set_cons_zero, List.set_cons_succ, i64_w, i32_w]
                                        rfl
                                      refine pure_ (i := 5) (N := some 111) (v := ?_) (a' := ?_) (upB 48 6) rfl rfl (any_of HT_.out (by kernel_rfl)) (fun _ _ _ h => h) (Or.inl ⟨by rfl, ?_⟩) ?_ ?_
                                      rotate_left
                                      · intro w'
                                        go_simp
                                        with_reducible rfl
                                      rotate_left
                                      · simp only [Act.put, List.setIfInBounds_toArray, List.set_cons_zero, List.set_cons_succ, i64_w, i32_w]
                                        rfl
                                      refine pure_ (i := 6) (N := some 112) (v := ?_) (a' := ?_) (upB 48 7) rfl rfl (any_of HT_.out (by kernel_rfl)) (fun _ _ _ h => h) (Or.inl ⟨by rfl, ?_⟩) ?_ ?_
                                      rotate_left
                                      · intro w'
                                        go_simp
                                        with_reducible rfl
                                      rotate_left
                                      · simp only [Act.put, List.setIfInBounds_toArray, List.set_cons_zero, List.set_cons_succ, i64_w, i32_w]
                                        rfl
                                      refine pure_ (i := 7) (N := some 113) (v := ?_) (a' := ?_) (upB 48 8) rfl rfl (any_of HT_.out (by kernel_rfl)) (fun _ _ _ h => h) (Or.inl ⟨by rfl, ?_⟩) ?_ ?_
                                      rotate_left
                                      · intro w'
                                        go_simp
                                        with_reducible rfl
                                      rotate_left
                                      · simp only [Act.put, List.setIfInBounds_toArray, List.set_cons_zero, List.set_cons_succ, i64_w, i32_w]
                                        rfl
                                      refine take_ (i := 8) (N := some 114) (v := ?_) (a' := ?_) (upB 48 9) rfl rfl (take_ofW HT_.out HW_.out (by kernel_rfl)) (fun _ _ _ h => h) (Or.inl ⟨by rfl, ?_⟩) hHeld ?_ ?_
                                      rotate_left
                                      · rintro w' ⟨s0, s1, s2, s3, s4, s5, s6⟩
                                        go_simp
                                        with_reducible rfl
                                      rotate_left
                                      · simp only [Act.put, List.setIfInBounds_toArray, List.set_cons_zero, List.set_cons_succ, i64_w, i32_w]
                                        rfl
                                      refine pure_ (i := 9) (N := some 115) (v := ?_) (a' := ?_) (upB 48 10) rfl rfl (any_of HT_.out (by kernel_rfl)) (fun _ _ _ h => h) (Or.inl ⟨by rfl, ?_⟩) ?_ ?_
                                      rotate_left
                                      · intro w'
                                        go_simp
                                        with_reducible rfl
                                      rotate_left
                                      · simp only [Act.put, List.setIfInBounds_toArray, List.set_cons_zero, List.set_cons_succ, i64_w, i32_w]
                                        rfl
                                      refine pure_ (i := 10) (N := some 116) (v := ?_) (a' := ?_) (upB 48 11) rfl rfl (any_of HT_.out (by kernel_rfl)) (fun _ _ _ h => h) (Or.inl ⟨by rfl, ?_⟩) ?_ ?_
                                      rotate_left
                                      · intro w'
                                        go_simp
                                        with_reducible rfl
                                      rotate_left
                                      · simp only [Act.put, List.setIfInBounds_toArray, List.set_cons_zero, List.set_cons_succ, i64_w, i32_w]
                                        rfl
                                      refine pure_ (i := 11) (N := some 117) (v := ?_) (a' := ?_) (upB 48 12) rfl rfl (any_of HT_.out (by kernel_rfl)) (fun _ _ _ h => h) (Or.inl ⟨by rfl, ?_⟩) ?_ ?_
                                      rotate_left
                                      · intro w'
                                        go_simp
                                        with_reducible rfl
                                      rotate_left
                                      · simp only [Act.put, List.setIfInBounds_toArray, List.set_cons_zero, List.set_cons_succ, i64_w, i32_w]
                                        rfl
                                      refine take_ (i := 12) (N := some 118) (v := ?_) (a' := ?_) (upB 48 13) rfl rfl (take_ofW HT_.out HW_.out (by kernel_rfl)) (fun _ _ _ h => h) (Or.inl ⟨by rfl, ?_⟩) hHeld ?_ ?_
                                      rotate_left
                                      · rintro w' ⟨s0, s1, s2, s3, s4, s5, s6⟩
                                        go_simp
                                        with_reducible rfl
                                      rotate_left
                                      · simp only [Act.put, List.setIfInBounds_toArray, List.set_cons_zero, List.set_cons_succ, i64_w, i32_w]
                                        rfl
                                      refine one_ (i := 13) (N := some 119) (upB 48 14) rfl rfl (one_of HT_.out (by kernel_rfl)) (by decide) (fun K hK => ?_)
                                      refine callE_ 21 #[.agg #[.int .i64 p.1, .slice Av p.2.1.length cv]] (by rfl) rfl (by go_simp) ?_
                                      refine (shape_Valid.calls k p.1 Av cv p.2.1 true _ (Kd.R_reads' BN.out.2.2.2.1).2.2 (Kd.R_reads' BN.out.2.2.2.1).2.1 HVAL.out).mono ?_
                                      rintro e w7 ⟨rfl, hbc⟩
                                      left
                                      refine ⟨_, rfl, ?_⟩
                                      have BN' := Aside0.mk (BN.out.below hbc)
                                      refine hK.out _ _ (BN'.out.cells y0 y1 y2) (fun hHeld => ?_)
                                      clear hK K BN hbc
                                      have BN := BN'
                                      clear BN'
                                      refine norm_ (a' := ?_) ?_ ?_
                                      rotate_left
                                      · show Act.put _ (some 119) _ = _
                                        simp only [Act.put, List.setIfInBounds_toArray, List.set_cons_zero, List.set_cons_succ, i64_w, i32_w]
                                        rfl
                                      refine pure_ (i := 14) (N := some 120) (v := ?_) (a' := ?_) (upB 48 15) rfl rfl (any_of HT_.out (by kernel_rfl)) (fun _ _ _ h => h) (Or.inl ⟨by rfl, ?_⟩) ?_ ?_
                                      rotate_left
                                      · intro w'
                                        go_simp
                                        with_reducible rfl
                                      rotate_left
                                      · simp only [Act.put, List.setIfInBounds_toArray, List.set_cons_zero, List.set_cons_succ, i64_w, i32_w]
                                        rfl
                                      refine pure_ (i := 15) (N := some 121) (v := ?_) (a' := ?_) (upB 48 16) rfl rfl (any_of HT_.out (by kernel_rfl)) (fun _ _ _ h => h) (Or.inl ⟨by rfl, ?_⟩) ?_ ?_
                                      rotate_left
                                      · intro w'
                                        go_simp
                                        with_reducible rfl
                                      rotate_left
                                      · simp only [Act.put, List.setIfInBounds_toArray, List.set_cons_zero, List.set_cons_succ, i64_w, i32_w]
                                        rfl
                                      refine pure_ (i := 16) (N := some 122) (v := ?_) (a' := ?_) (upB 48 17) rfl rfl (any_of HT_.out (by kernel_rfl)) (fun _ _ _ h => h) (Or.inl ⟨by rfl, ?_⟩) ?_ ?_
                                      rotate_left
                                      · intro w'
                                        go_simp
                                        with_reducible rfl
                                      rotate_left
                                      · simp only [Act.put, List.setIfInBounds_toArray, List.set_cons_zero, List.set_cons_succ, i64_w, i32_w]
                                        rfl
                                      refine take_ (i := 17) (N := some 123) (v := ?_) (a' := ?_) (upB 48 18) rfl rfl (take_ofW HT_.out HW_.out (by kernel_rfl)) (fun _ _ _ h => h) (Or.inl ⟨by rfl, ?_⟩) hHeld ?_ ?_
                                      rotate_left
                                      · rintro w' ⟨s0, s1, s2, s3, s4, s5, s6⟩
                                        go_simp
                                        with_reducible rfl
                                      rotate_left
                                      · simp only [Act.put, List.setIfInBounds_toArray, List.set_cons_zero, List.set_cons_succ, i64_w, i32_w]
                                        rfl
                                      refine take_ (i := 18) (N := some 124) (v := ?_) (a' := ?_) (upB 48 19) rfl rfl (take_ofW HT_.out HW_.out (by kernel_rfl)) (fun _ _ _ h => h) (Or.inl ⟨by rfl, ?_⟩) hHeld ?_ ?_
                                      rotate_left
                                      · rintro w' ⟨s0, s1, s2, s3, s4, s5, s6⟩
                                        go_simp
                                        with_reducible rfl
                                      rotate_left
                                      · simp only [Act.put, List.setIfInBounds_toArray, List.set_cons_zero, List.set_cons_succ, i64_w, i32_w]
                                        rfl
                                      refine pure_ (i := 19) (N := some 125) (v := ?_) (a' := ?_) (upB 48 20) rfl rfl (any_of HT_.out (by kernel_rfl)) (fun _ _ _ h => h) (Or.inl ⟨by rfl, ?_⟩) ?_ ?_
                                      rotate_left
                                      · intro w'
                                        go_simp
                                        with_reducible rfl
                                      rotate_left
                                      · simp only [Act.put, List.setIfInBounds_toArray, List.set_cons_zero, List.set_cons_succ, i64_w, i32_w]
                                        rfl
                                      refine pure_ (i := 20) (N := some 126) (v := ?_) (a' := ?_) (upB 48 21) rfl rfl (any_of HT_.out (by kernel_rfl)) (fun _ _ _ h => h) (Or.inl ⟨by rfl, ?_⟩) ?_ ?_
                                      rotate_left
                                      · intro w'
                                        go_simp
                                        with_reducible rfl
                                      rotate_left
                                      · simp only [Act.put, List.setIfInBounds_toArray, List.set_cons_zero, List.set_cons_succ, i64_w, i32_w]
                                        rfl
                                      refine pure_ (i := 21) (N := some 127) (v := ?_) (a' := ?_) (upB 48 22) rfl rfl (any_of HT_.out (by kernel_rfl)) (fun _ _ _ h => h) (Or.inl ⟨by rfl, ?_⟩) ?_ ?_
                                      rotate_left
                                      · intro w'
                                        go_simp
                                        with_reducible rfl
                                      rotate_left
                                      · simp only [Act.put, List.setIfInBounds_toArray, List.set_cons_zero, List.set_cons_succ, i64_w, i32_w]
                                        rfl
                                      refine pure_ (i := 22) (N := some 128) (v := ?_) (a' := ?_) (upB 48 23) rfl rfl (any_of HT_.out (by kernel_rfl)) (fun _ _ _ h => h) (Or.inl ⟨by rfl, ?_⟩) ?_ ?_
                                      rotate_left
                                      · intro w'
                                        go_simp
                                        with_reducible rfl
                                      rotate_left
                                      · simp only [Act.put, List.setIfInBounds_toArray, List.set_cons_zero, List.set_cons_succ, i64_w, i32_w]
                                        rfl
                                      refine take_ (i := 23) (N := some 129) (v := ?_) (a' := ?_) (upB 48 24) rfl rfl (take_ofW HT_.out HW_.out (by kernel_rfl)) (fun _ _ _ h => h) (Or.inl ⟨by rfl, ?_⟩) hHeld ?_ ?_
                                      rotate_left
                                      · rintro w' ⟨s0, s1, s2, s3, s4, s5, s6⟩
                                        go_simp
                                        with_reducible rfl
                                      rotate_left
                                      · simp only [Act.put, List.setIfInBounds_toArray, List.set_cons_zero, List.set_cons_succ, i64_w, i32_w]
                                        rfl
                                      refine pure_ (i := 24) (N := some 130) (v := ?_) (a' := ?_) (upB 48 25) rfl rfl (any_of HT_.out (by kernel_rfl)) (fun _ _ _ h => h) (Or.inl ⟨by rfl, ?_⟩) ?_ ?_
                                      rotate_left
                                      · intro w'
                                        go_simp
                                        with_reducible rfl
                                      rotate_left
                                      · simp only [Act.put, List.setIfInBounds_toArray, List.set_cons_zero, List.set_cons_succ, i64_w, i32_w]
                                        rfl
                                      refine pure_ (i := 25) (N := some 131) (v := ?_) (a' := ?_) (upB 48 26) rfl rfl (any_of HT_.out (by kernel_rfl)) (fun _ _ _ h => h) (Or.inl ⟨by rfl, ?_⟩) ?_ ?_
                                      rotate_left
                                      · intro w'
                                        go_simp
                                        with_reducible rfl
                                      rotate_left
                                      · simp only [Act.put, List.setIfInBounds_toArray, List.set_cons_zero, List.set_cons_succ, i64_w, i32_w]
                                        rfl
                                      refine pure_ (i := 26) (N := some 132) (v := ?_) (a' := ?_) (upB 48 27) rfl rfl (any_of HT_.out (by kernel_rfl)) (fun _ _ _ h => h) (Or.inl ⟨by rfl, ?_⟩) ?_ ?_
                                      rotate_left
                                      · intro w'
                                        go_simp
                                        with_reducible rfl
                                      rotate_left
                                      · simp only [Act.put, List.setIfInBounds_toArray, List.set_cons_zero, List.set_cons_succ, i64_w, i32_w]
                                        rfl
                                      refine pure_ (i := 27) (N := some 133) (v := ?_) (a' := ?_) (upB 48 28) rfl rfl (any_of HT_.out (by kernel_rfl)) (fun _ _ _ h => h) (Or.inl ⟨by rfl, ?_⟩) ?_ ?_
                                      rotate_left
                                      · intro w'
                                        go_simp
                                        with_reducible rfl
                                      rotate_left
                                      · simp only [Act.put, List.setIfInBounds_toArray, List.set_cons_zero, List.set_cons_succ, i64_w, i32_w]
                                        rfl
                                      refine take_ (i := 28) (N := some 134) (v := ?_) (a' := ?_) (upB 48 29) rfl rfl (take_ofW HT_.out HW_.out (by kernel_rfl)) (fun _ _ _ h => h) (Or.inl ⟨by rfl, ?_⟩) hHeld ?_ ?_
                                      rotate_left
                                      · rintro w' ⟨s0, s1, s2, s3, s4, s5, s6⟩
                                        go_simp
                                        with_reducible rfl
                                      rotate_left
                                      · simp only [Act.put, List.setIfInBounds_toArray, List.set_cons_zero, List.set_cons_succ, i64_w, i32_w]
                                        rfl
                                      refine one_ (i := 29) (N := some 135) (upB 48 30) rfl rfl (one_of HT_.out (by kernel_rfl)) (by decide) (fun K hK => ?_)
                                      refine callE_ 31 #[.agg #[.int .i64 n1, .slice B1 l1.length d1], .agg #[.int .i64 p.1, .slice Av p.2.1.length cv], .string x.f0, .slice A2 x.f1.length cc2] (by rfl) rfl (by go_simp) ?_
                                      refine (paraphrastlaw01_exceptOne.calls k n1 B1 d1 l1 p.1 Av cv p.2.1 x.f0 A2 cc2 x.f1 false _ (Kd.F_now BN.out.2.2.1) hd1 (Kd.R_reads' BN.out.2.2.2.1).2.2 (Kd.R_reads' BN.out.2.2.2.1).2.1 (Kd.C_below HT.out BN.out.2.2.2.2) hl2 HXA.out).mono ?_
                                      rintro e w8 ⟨rfl, hbc⟩
                                      left
                                      refine ⟨_, rfl, ?_⟩
                                      have BN' := Aside0.mk (BN.out.below hbc)
                                      refine hK.out _ _ (BN'.out.cells y0 y1 y2) (fun hHeld => ?_)
                                      clear hK K BN hbc
                                      have BN := BN'
                                      clear BN'
                                      refine norm_ (a' := ?_) ?_ ?_
                                      rotate_left
                                      · show Act.put _ (some 135) _ = _
                                        simp only [Act.put, List.setIfInBounds_toArray, List.set_cons_zero, List.set_cons_succ, i64_w, i32_w]
                                        rfl
                                      refine pure_ (i := 30) (N := some 136) (v := ?_) (a' := ?_) (upB 48 31) rfl rfl (any_of HT_.out (by kernel_rfl)) (fun _ _ _ h => h) (Or.inl ⟨by rfl, ?_⟩) ?_ ?_
                                      rotate_left
                                      · intro w'
                                        go_simp
                                        with_reducible rfl
                                      rotate_left
                                      · simp only [Act.put, List.setIfInBounds_toArray, List.set_cons_zero, List.set_cons_succ, i64_w, i32_w]
                                        rfl
                                      refine pure_ (i := 31) (N := some 137) (v := ?_) (a' := ?_) (upB 48 32) rfl rfl (any_of HT_.out (by kernel_rfl)) (fun _ _ _ h => h) (Or.inl ⟨by rfl, ?_⟩) ?_ ?_
                                      rotate_left
                                      · intro w'
                                        go_simp
                                        with_reducible rfl
                                      rotate_left
                                      · simp only [Act.put, List.setIfInBounds_toArray, List.set_cons_zero, List.set_cons_succ, i64_w, i32_w]
                                        rfl
                                      refine pure_ (i := 32) (N := some 138) (v := ?_) (a' := ?_) (upB 48 33) rfl rfl (any_of HT_.out (by kernel_rfl)) (fun _ _ _ h => h) (Or.inl ⟨by rfl, ?_⟩) ?_ ?_
                                      rotate_left
                                      · intro w'
                                        go_simp
                                        with_reducible rfl
                                      rotate_left
                                      · simp only [Act.put, List.setIfInBounds_toArray, List.set_cons_zero, List.set_cons_succ, i64_w, i32_w]
                                        rfl
                                      refine pure_ (i := 33) (N := some 139) (v := undef) (a' := ?_) (upB 48 34) rfl rfl (any_of HT_.out (by kernel_rfl)) (fun _ _ _ h => h) (Or.inr ⟨by rfl, rfl⟩) ?_ ?_
                                      rotate_left
                                      · simp only [Act.put, List.setIfInBounds_toArray, List.set_cons_zero, List.set_cons_succ, i64_w, i32_w]
                                        rfl
                                      refine pure_ (i := 34) (N := some 140) (v := undef) (a' := ?_) (upB 48 35) rfl rfl (any_of HT_.out (by kernel_rfl)) (fun _ _ _ h => h) (Or.inr ⟨by rfl, rfl⟩) ?_ ?_
                                      rotate_left
                                      · simp only [Act.put, List.setIfInBounds_toArray, List.set_cons_zero, List.set_cons_succ, i64_w, i32_w]
                                        rfl
                                      refine pure_ (i := 35) (N := some 141) (v := undef) (a' := ?_) (upB 48 36) rfl rfl (any_of HT_.out (by kernel_rfl)) (fun _ _ _ h => h) (Or.inr ⟨by rfl, rfl⟩) ?_ ?_
                                      rotate_left
                                      · simp only [Act.put, List.setIfInBounds_toArray, List.set_cons_zero, List.set_cons_succ, i64_w, i32_w]
                                        rfl
                                      refine pure_ (i := 36) (N := some 142) (v := undef) (a' := ?_) (upB 48 37) rfl rfl (any_of HT_.out (by kernel_rfl)) (fun _ _ _ h => h) (Or.inr ⟨by rfl, rfl⟩) ?_ ?_
                                      rotate_left
                                      · simp only [Act.put, List.setIfInBounds_toArray, List.set_cons_zero, List.set_cons_succ, i64_w, i32_w]
                                        rfl
                                      refine pure_ (i := 37) (N := some 143) (v := undef) (a' := ?_) (upB 48 38) rfl rfl (any_of HT_.out (by kernel_rfl)) (fun _ _ _ h => h) (Or.inr ⟨by rfl, rfl⟩) ?_ ?_
                                      rotate_left
                                      · simp only [Act.put, List.setIfInBounds_toArray, List.set_cons_zero, List.set_cons_succ, i64_w, i32_w]
                                        rfl
                                      refine pure_ (i := 38) (N := some 144) (v := undef) (a' := ?_) (upB 48 39) rfl rfl (any_of HT_.out (by kernel_rfl)) (fun _ _ _ h => h) (Or.inr ⟨by rfl, rfl⟩) ?_ ?_
                                      rotate_left
                                      · simp only [Act.put, List.setIfInBounds_toArray, List.set_cons_zero, List.set_cons_succ, i64_w, i32_w]
                                        rfl
                                      refine pure_ (i := 39) (N := some 145) (v := undef) (a' := ?_) (upB 48 40) rfl rfl (any_of HT_.out (by kernel_rfl)) (fun _ _ _ h => h) (Or.inr ⟨by rfl, rfl⟩) ?_ ?_
                                      rotate_left
                                      · simp only [Act.put, List.setIfInBounds_toArray, List.set_cons_zero, List.set_cons_succ, i64_w, i32_w]
                                        rfl
                                      refine pure_ (i := 40) (N := some 146) (v := undef) (a' := ?_) (upB 48 41) rfl rfl (any_of HT_.out (by kernel_rfl)) (fun _ _ _ h => h) (Or.inr ⟨by rfl, rfl⟩) ?_ ?_
                                      rotate_left
                                      · simp only [Act.put, List.setIfInBounds_toArray, List.set_cons_zero, List.set_cons_succ, i64_w, i32_w]
                                        rfl
                                      refine pure_ (i := 41) (N := some 147) (v := undef) (a' := ?_) (upB 48 42) rfl rfl (any_of HT_.out (by kernel_rfl)) (fun _ _ _ h => h) (Or.inr ⟨by rfl, rfl⟩) ?_ ?_
                                      rotate_left
                                      · simp only [Act.put, List.setIfInBounds_toArray, List.set_cons_zero, List.set_cons_succ, i64_w, i32_w]
                                        rfl
                                      refine pure_ (i := 42) (N := some 148) (v := undef) (a' := ?_) (upB 48 43) rfl rfl (any_of HT_.out (by kernel_rfl)) (fun _ _ _ h => h) (Or.inr ⟨by rfl, rfl⟩) ?_ ?_
                                      rotate_left
                                      · simp only [Act.put, List.setIfInBounds_toArray, List.set_cons_zero, List.set_cons_succ, i64_w, i32_w]
                                        rfl
                                      refine pure_ (i := 43) (N := some 149) (v := undef) (a' := ?_) (upB 48 44) rfl rfl (any_of HT_.out (by kernel_rfl)) (fun _ _ _ h => h) (Or.inr ⟨by rfl, rfl⟩) ?_ ?_
                                      rotate_left
                                      · simp only [Act.put, List.setIfInBounds_toArray, List.set_cons_zero, List.set_cons_succ, i64_w, i32_w]
                                        rfl
                                      refine pure_ (i := 44) (N := some 150) (v := undef) (a' := ?_) (upB 48 45) rfl rfl (any_of HT_.out (by kernel_rfl)) (fun _ _ _ h => h) (Or.inr ⟨by rfl, rfl⟩) ?_ ?_
                                      rotate_left
                                      · simp only [Act.put, List.setIfInBounds_toArray, List.set_cons_zero, List.set_cons_succ, i64_w, i32_w]
                                        rfl
                                      refine pure_ (i := 45) (N := some 151) (v := undef) (a' := ?_) (upB 48 46) rfl rfl (any_of HT_.out (by kernel_rfl)) (fun _ _ _ h => h) (Or.inr ⟨by rfl, rfl⟩) ?_ ?_
                                      rotate_left
                                      · simp only [Act.put, List.setIfInBounds_toArray, List.set_cons_zero, List.set_cons_succ, i64_w, i32_w]
                                        rfl
                                      refine pure_ (i := 46) (N := some 152) (v := undef) (a' := ?_) (upB 48 47) rfl rfl (any_of HT_.out (by kernel_rfl)) (fun _ _ _ h => h) (Or.inr ⟨by rfl, rfl⟩) ?_ ?_
                                      rotate_left
                                      · simp only [Act.put, List.setIfInBounds_toArray, List.set_cons_zero, List.set_cons_succ, i64_w, i32_w]
                                        rfl
                                      refine pure_ (i := 47) (N := some 153) (v := ?_) (a' := ?_) (upB 48 48) rfl rfl (any_of HT_.out (by kernel_rfl)) (fun _ _ _ h => h) (Or.inl ⟨by rfl, ?_⟩) ?_ ?_
                                      rotate_left
                                      · intro w'
                                        go_simp
                                        with_reducible rfl
                                      rotate_left
                                      · simp only [Act.put, List.setIfInBounds_toArray, List.set_cons_zero, List.set_cons_succ, i64_w, i32_w]
                                        rfl
                                      refine done_ (done_of HT_.out (by kernel_rfl)) ?_
                                      refine NoPanic.normal ?_
                                      try go_wp2
                                      go_meet
                                      case rel => exact ⟨_, rfl, BN.out, Or.inl ⟨rfl, by have h2 := H.out;  exact (Option.some.inj h2).symm⟩⟩
                                    | true =>
                                      rw [if_pos rfl] at h4
                                      obtain ⟨xb, hxb, h5⟩ := Option.bind_eq_some_iff.1 h4
                                      have HXB := Aside0.mk hxb
                                      clear h4 hxb
                                      cases xb with
                                      | false =>
                                        rw [if_neg (by simp)] at h5
                                        have H := Aside0.mk h5
                                        clear h5
                                        refine wp_region_noPanic ?_
                                        refine start_ (n := 48) (S := Sx w.heap.size g8 n1 B1 l1.length d1 p.1 (.slice Av p.2.1.length cv) (ad.add (i * 3)) ⟨(ad.add (i * 3)).block, (ad.add (i * 3)).off + 1, none⟩ ⟨(ad.add (i * 3)).block, (ad.add (i * 3)).off + 2, none⟩ x A2 cc2) (ds := []) (upB 48 0) (by kernel_rfl) rfl (by kernel_rfl) ((HBn.out.below (below_drew (Below.refl _ _))).cells y0 y1 y2 : Sx w.heap.size g8 n1 B1 l1.length d1 p.1 (.slice Av p.2.1.length cv) (ad.add (i * 3)) ⟨(ad.add (i * 3)).block, (ad.add (i * 3)).off + 1, none⟩ ⟨(ad.add (i * 3)).block, (ad.add (i * 3)).off + 2, none⟩ x A2 cc2 wc.drew) (fun hHeld => ?_)
                                        have BN := Aside0.mk (show Bun w wc.drew w.heap.size g8 n1 B1 d1 l1 p.1 (.slice Av p.2.1.length cv) p.2.1 from HBn.out.below (below_drew (Below.refl _ _)))
                                        refine with_tabW sp_tab18 sp_bits18 (fun HT_ HW_ => ?_)
                                        generalize wc.drew = wd at *
                                        refine pure_ (i := 0) (N := some 106) (v := ?_) (a' := ?_) (upB 48 1) rfl rfl (any_of HT_.out (by kernel_rfl)) (fun _ _ _ h => h) (Or.inl ⟨by rfl, ?_⟩) ?_ ?_
                                        rotate_left
                                        · intro w'
                                          go_simp
                                          with_reducible rfl
                                        rotate_left
                                        · simp only [Act.put, List.setIfInBounds_toArray, List.set_cons_zero, List.set_cons_succ, i64_w, i32_w]
                                          rfl
                                        refine pure_ (i := 1) (N := some 107) (v := ?_) (a' := ?_) (upB 48 2) rfl rfl (any_of HT_.out (by kernel_rfl)) (fun _ _ _ h => h) (Or.inl ⟨by rfl, ?_⟩) ?_ ?_
                                        rotate_left
                                        · intro w'
                                          go_simp
                                          with_reducible rfl
                                        rotate_left
                                        · simp only [Act.put, List.setIfInBounds_toArray, List.set_cons_zero, List.set_cons_succ, i64_w, i32_w]
                                          rfl
                                        refine pure_ (i := 2) (N := some 108) (v := ?_) (a' := ?_) (upB 48 3) rfl rfl (any_of HT_.out (by kernel_rfl)) (fun _ _ _ h => h) (Or.inl ⟨by rfl, ?_⟩) ?_ ?_
                                        rotate_left
                                        · intro w'
                                          go_simp
                                          with_reducible rfl
                                        rotate_left
                                        · simp only [Act.put, List.setIfInBounds_toArray, List.set_cons_zero, List.set_cons_succ, i64_w, i32_w]
                                          rfl
                                        refine pure_ (i := 3) (N := some 109) (v := ?_) (a' := ?_) (upB 48 4) rfl rfl (any_of HT_.out (by kernel_rfl)) (fun _ _ _ h => h) (Or.inl ⟨by rfl, ?_⟩) ?_ ?_
                                        rotate_left
                                        · intro w'
                                          go_simp
                                          with_reducible rfl
                                        rotate_left
                                        · simp only [Act.put, List.setIfInBounds_toArray, List.set_cons_zero, List.set_cons_succ, i64_w, i32_w]
                                          rfl
                                        refine pure_ (i := 4) (N := some 110) (v := ?_) (a' := ?_) (upB 48 5) rfl rfl (any_of HT_.out (by kernel_rfl)) (fun _ _ _ h => h) (Or.inl ⟨by rfl, ?_⟩) ?_ ?_
                                        rotate_left
                                        · intro w'
                                          go_simp
                                          with_reducible rfl
                                        rotate_left
                                        · simp only [Act.put, List.setIfInBounds_toArray, List.set_cons_zero, List.set_cons_succ, i64_w, i32_w]
                                          rfl
                                        refine pure_ (i := 5) (N := some 111) (v := ?_) (a' := ?_) (upB 48 6) rfl rfl (any_of HT_.out (by kernel_rfl)) (fun _ _ _ h => h) (Or.inl ⟨by rfl, ?_⟩) ?_ ?_
                                        rotate_left
                                        · intro w'
                                          go_simp
                                          with_reducible rfl
                                        rotate_left
                                        · simp only [Act.put, List.setIfInBounds_toArray, List.set_cons_zero, List.set_cons_succ, i64_w, i32_w]
                                          rfl
                                        refine pure_ (i := 6) (N := some 112) (v := ?_) (a' := ?_) (upB 48 7) rfl rfl (any_of HT_.out (by kernel_rfl)) (fun _ _ _ h => h) (Or.inl ⟨by rfl, ?_⟩) ?_ ?_
                                        rotate_left
                                        · intro w'
                                          go_simp
                                          with_reducible rfl
                                        rotate_left
                                        · simp only [Act.put, List.setIfInBounds_toArray, List.set_cons_zero, List.set_cons_succ, i64_w, i32_w]
                                          rfl
                                        refine pure_ (i := 7) (N := some 113) (v := ?_) (a' := ?_) (upB 48 8) rfl rfl (any_of HT_.out (by kernel_rfl)) (fun _ _ _ h => h) (Or.inl ⟨by rfl, ?_⟩) ?_ ?_
                                        rotate_left
                                        · intro w'
                                          go_simp
                                          with_reducible rfl
                                        rotate_left
                                        · simp only [Act.put, List.setIfInBounds_toArray, List.set_cons_zero, List.set_cons_succ, i64_w, i32_w]
                                          rfl
                                        refine take_ (i := 8) (N := some 114) (v := ?_) (a' := ?_) (upB 48 9) rfl rfl (take_ofW HT_.out HW_.out (by kernel_rfl)) (fun _ _ _ h => h) (Or.inl ⟨by rfl, ?_⟩) hHeld ?_ ?_
                                        rotate_left
                                        · rintro w' ⟨s0, s1, s2, s3, s4, s5, s6⟩
                                          go_simp
                                          with_reducible rfl
                                        rotate_left
                                        · simp only [Act.put, List.setIfInBounds_toArray, List.set_cons_zero, List.set_cons_succ, i64_w, i32_w]
                                          rfl
                                        refine pure_ (i := 9) (N := some 115) (v := ?_) (a' := ?_) (upB 48 10) rfl rfl (any_of HT_.out (by kernel_rfl)) (fun _ _ _ h => h) (Or.inl ⟨by rfl, ?_⟩) ?_ ?_
                                        rotate_left
                                        · intro w'
                                          go_simp
                                          with_reducible rfl
                                        rotate_left
                                        · simp only [Act.put, List.setIfInBounds_toArray, List.set_cons_zero, List.set_cons_succ, i64_w, i32_w]
                                          rfl
                                        refine pure_ (i := 10) (N := some 116) (v := ?_) (a' := ?_) (upB 48 11) rfl rfl (any_of HT_.out (by kernel_rfl)) (fun _ _ _ h => h) (Or.inl ⟨by rfl, ?_⟩) ?_ ?_
                                        rotate_left
                                        · intro w'
                                          go_simp
                                          with_reducible rfl
                                        rotate_left
                                        · simp only [Act.put, List.setIfInBounds_toArray, List.set_cons_zero, List.set_cons_succ, i64_w, i32_w]
                                          rfl
                                        refine pure_ (i := 11) (N := some 117) (v := ?_) (a' := ?_) (upB 48 12) rfl rfl (any_of HT_.out (by kernel_rfl)) (fun _ _ _ h => h) (Or.inl ⟨by rfl, ?_⟩) ?_ ?_
                                        rotate_left
                                        · intro w'
                                          go_simp
                                          with_reducible rfl
                                        rotate_left
                                        · simp only [Act.put, List.setIfInBounds_toArray, List.set_cons_zero, List.set_cons_succ, i64_w, i32_w]
                                          rfl
                                        refine take_ (i := 12) (N := some 118) (v := ?_) (a' := ?_) (upB 48 13) rfl rfl (take_ofW HT_.out HW_.out (by kernel_rfl)) (fun _ _ _ h => h) (Or.inl ⟨by rfl, ?_⟩) hHeld ?_ ?_
                                        rotate_left
                                        · rintro w' ⟨s0, s1, s2, s3, s4, s5, s6⟩
                                          go_simp
                                          with_reducible rfl
                                        rotate_left
                                        · simp only [Act.put, List.setIfInBounds_toArray, List.set_cons_zero, List.set_cons_succ, i64_w, i32_w]
                                          rfl
                                        refine one_ (i := 13) (N := some 119) (upB 48 14) rfl rfl (one_of HT_.out (by kernel_rfl)) (by decide) (fun K hK => ?_)
                                        refine callE_ 21 #[.agg #[.int .i64 p.1, .slice Av p.2.1.length cv]] (by rfl) rfl (by go_simp) ?_
                                        refine (shape_Valid.calls k p.1 Av cv p.2.1 true _ (Kd.R_reads' BN.out.2.2.2.1).2.2 (Kd.R_reads' BN.out.2.2.2.1).2.1 HVAL.out).mono ?_
                                        rintro e w7 ⟨rfl, hbc⟩
                                        left
                                        refine ⟨_, rfl, ?_⟩
                                        have BN' := Aside0.mk (BN.out.below hbc)
                                        refine hK.out _ _ (BN'.out.cells y0 y1 y2) (fun hHeld => ?_)
                                        clear hK K BN hbc
                                        have BN := BN'
                                        clear BN'
                                        refine norm_ (a' := ?_) ?_ ?_
                                        rotate_left
                                        · show Act.put _ (some 119) _ = _
                                          simp only [Act.put, List.setIfInBounds_toArray, List.set_cons_zero, List.set_cons_succ, i64_w, i32_w]
                                          rfl
                                        refine pure_ (i := 14) (N := some 120) (v := ?_) (a' := ?_) (upB 48 15) rfl rfl (any_of HT_.out (by kernel_rfl)) (fun _ _ _ h => h) (Or.inl ⟨by rfl, ?_⟩) ?_ ?_
                                        rotate_left
                                        · intro w'
                                          go_simp
                                          with_reducible rfl
                                        rotate_left
                                        · simp only [Act.put, List.setIfInBounds_toArray, List.set_cons_zero, List.set_cons_succ, i64_w, i32_w]
                                          rfl
                                        refine pure_ (i := 15) (N := some 121) (v := ?_) (a' := ?_) (upB 48 16) rfl rfl (any_of HT_.out (by kernel_rfl)) (fun _ _ _ h => h) (Or.inl ⟨by rfl, ?_⟩) ?_ ?_
                                        rotate_left
                                        · intro w'
                                          go_simp
                                          with_reducible rfl
                                        rotate_left
                                        · simp only [Act.put, List.setIfInBounds_toArray, List.set_cons_zero, List.set_cons_succ, i64_w, i32_w]
                                          rfl
                                        refine pure_ (i := 16) (N := some 122) (v := ?_) (a' := ?_) (upB 48 17) rfl rfl (any_of HT_.out (by kernel_rfl)) (fun _ _ _ h => h) (Or.inl ⟨by rfl, ?_⟩) ?_ ?_
                                        rotate_left
                                        · intro w'
                                          go_simp
                                          with_reducible rfl
                                        rotate_left
                                        · simp only [Act.put, List.setIfInBounds_toArray, List.set_cons_zero, List.set_cons_succ, i64_w, i32_w]
                                          rfl
                                        refine take_ (i := 17) (N := some 123) (v := ?_) (a' := ?_) (upB 48 18) rfl rfl (take_ofW HT_.out HW_.out (by kernel_rfl)) (fun _ _ _ h => h) (Or.inl ⟨by rfl, ?_⟩) hHeld ?_ ?_
                                        rotate_left
                                        · rintro w' ⟨s0, s1, s2, s3, s4, s5, s6⟩
                                          go_simp
                                          with_reducible rfl
                                        rotate_left
                                        · simp only [Act.put, List.setIfInBounds_toArray, List.set_cons_zero, List.set_cons_succ, i64_w, i32_w]
                                          rfl
                                        refine take_ (i := 18) (N := some 124) (v := ?_) (a' := ?_) (upB 48 19) rfl rfl (take_ofW HT_.out HW_.out (by kernel_rfl)) (fun _ _ _ h => h) (Or.inl ⟨by rfl, ?_⟩) hHeld ?_ ?_
                                        rotate_left
                                        · rintro w' ⟨s0, s1, s2, s3, s4, s5, s6⟩
                                          go_simp
                                          with_reducible rfl
                                        rotate_left
                                        · simp only [Act.put, List.setIfInBounds_toArray, List.set_cons_zero, List.set_cons_succ, i64_w, i32_w]
                                          rfl
                                        refine pure_ (i := 19) (N := some 125) (v := ?_) (a' := ?_) (upB 48 20) rfl rfl (any_of HT_.out (by kernel_rfl)) (fun _ _ _ h => h) (Or.inl ⟨by rfl, ?_⟩) ?_ ?_
                                        rotate_left
                                        · intro w'
                                          go_simp
                                          with_reducible rfl
                                        rotate_left
                                        · simp only [Act.put, List.setIfInBounds_toArray, List.set_cons_zero, List.set_cons_succ, i64_w, i32_w]
                                          rfl
                                        refine pure_ (i := 20) (N := some 126) (v := ?_) (a' := ?_) (upB 48 21) rfl rfl (any_of HT_.out (by kernel_rfl)) (fun _ _ _ h => h) (Or.inl ⟨by rfl, ?_⟩) ?_ ?_
                                        rotate_left
                                        · intro w'
                                          go_simp
                                          with_reducible rfl
                                        rotate_left
                                        · simp only [Act.put, List.setIfInBounds_toArray, List.set_cons_zero, List.set_cons_succ, i64_w, i32_w]
                                          rfl
                                        refine pure_ (i := 21) (N := some 127) (v := ?_) (a' := ?_) (upB 48 22) rfl rfl (any_of HT_.out (by kernel_rfl)) (fun _ _ _ h => h) (Or.inl ⟨by rfl, ?_⟩) ?_ ?_
                                        rotate_left
                                        · intro w'
                                          go_simp
                                          with_reducible rfl
                                        rotate_left
                                        · simp only [Act.put, List.setIfInBounds_toArray, List.set_cons_zero, List.set_cons_succ, i64_w, i32_w]
                                          rfl
                                        refine pure_ (i := 22) (N := some 128) (v := ?_) (a' := ?_) (upB 48 23) rfl rfl (any_of HT_.out (by kernel_rfl)) (fun _ _ _ h => h) (Or.inl ⟨by rfl, ?_⟩) ?_ ?_
                                        rotate_left
                                        · intro w'
                                          go_simp
                                          with_reducible rfl
                                        rotate_left
                                        · simp only [Act.put, List.setIfInBounds_toArray, List.set_cons_zero, List.set_cons_succ, i64_w, i32_w]
                                          rfl
                                        refine take_ (i := 23) (N := some 129) (v := ?_) (a' := ?_) (upB 48 24) rfl rfl (take_ofW HT_.out HW_.out (by kernel_rfl)) (fun _ _ _ h => h) (Or.inl ⟨by rfl, ?_⟩) hHeld ?_ ?_
                                        rotate_left
                                        · rintro w' ⟨s0, s1, s2, s3, s4, s5, s6⟩
                                          go_simp
                                          with_reducible rfl
                                        rotate_left
                                        · simp only [Act.put, List.setIfInBounds_toArray, List.set_cons_zero, List.set_cons_succ, i64_w, i32_w]
                                          rfl
                                        refine pure_ (i := 24) (N := some 130) (v := ?_) (a' := ?_) (upB 48 25) rfl rfl (any_of HT_.out (by kernel_rfl)) (fun _ _ _ h => h) (Or.inl ⟨by rfl, ?_⟩) ?_ ?_
                                        rotate_left
                                        · intro w'
                                          go_simp
                                          with_reducible rfl
                                        rotate_left
                                        · simp only [Act.put, List.setIfInBounds_toArray, List.set_cons_zero, List.set_cons_succ, i64_w, i32_w]
                                          rfl
                                        refine pure_ (i := 25) (N := some 131) (v := ?_) (a' := ?_) (upB 48 26) rfl rfl (any_of HT_.out (by kernel_rfl)) (fun _ _ _ h => h) (Or.inl ⟨by rfl, ?_⟩) ?_ ?_
                                        rotate_left
                                        · intro w'
                                          go_simp
                                          with_reducible rfl
                                        rotate_left
                                        · simp only [Act.put, List.setIfInBounds_toArray, List.set_cons_zero, List.set_cons_succ, i64_w, i32_w]
                                          rfl
                                        refine pure_ (i := 26) (N := some 132) (v := ?_) (a' := ?_) (upB 48 27) rfl rfl (any_of HT_.out (by kernel_rfl)) (fun _ _ _ h => h) (Or.inl ⟨by rfl, ?_⟩) ?_ ?_
                                        rotate_left
                                        · intro w'
                                          go_simp
                                          with_reducible rfl
                                        rotate_left
                                        · simp only [Act.put, List.setIfInBounds_toArray, List.set_cons_zero, List.set_cons_succ, i64_w, i32_w]
                                          rfl
                                        refine pure_ (i := 27) (N := some 133) (v := ?_) (a' := ?_) (upB 48 28) rfl rfl (any_of HT_.out (by kernel_rfl)) (fun _ _ _ h => h) (Or.inl ⟨by rfl, ?_⟩) ?_ ?_
                                        rotate_left
                                        · intro w'
                                          go_simp
                                          with_reducible rfl
                                        rotate_left
                                        · simp only [Act.put, List.setIfInBounds_toArray, List.set_cons_zero, List.set_cons_succ, i64_w, i32_w]
                                          rfl
                                        refine take_ (i := 28) (N := some 134) (v := ?_) (a' := ?_) (upB 48 29) rfl rfl (take_ofW HT_.out HW_.out (by kernel_rfl)) (fun _ _ _ h => h) (Or.inl ⟨by rfl, ?_⟩) hHeld ?_ ?_
                                        rotate_left
                                        · rintro w' ⟨s0, s1, s2, s3, s4, s5, s6⟩
                                          go_simp
                                          with_reducible rfl
                                        rotate_left
                                        · simp only [Act.put, List.setIfInBounds_toArray, List.set_cons_zero, List.set_cons_succ, i64_w, i32_w]
                                          rfl
                                        refine one_ (i := 29) (N := some 135) (upB 48 30) rfl rfl (one_of HT_.out (by kernel_rfl)) (by decide) (fun K hK => ?_)
                                        refine callE_ 31 #[.agg #[.int .i64 n1, .slice B1 l1.length d1], .agg #[.int .i64 p.1, .slice Av p.2.1.length cv], .string x.f0, .slice A2 x.f1.length cc2] (by rfl) rfl (by go_simp) ?_
                                        refine (paraphrastlaw01_exceptOne.calls k n1 B1 d1 l1 p.1 Av cv p.2.1 x.f0 A2 cc2 x.f1 true _ (Kd.F_now BN.out.2.2.1) hd1 (Kd.R_reads' BN.out.2.2.2.1).2.2 (Kd.R_reads' BN.out.2.2.2.1).2.1 (Kd.C_below HT.out BN.out.2.2.2.2) hl2 HXA.out).mono ?_
                                        rintro e w8 ⟨rfl, hbc⟩
                                        left
                                        refine ⟨_, rfl, ?_⟩
                                        have BN' := Aside0.mk (BN.out.below hbc)
                                        refine hK.out _ _ (BN'.out.cells y0 y1 y2) (fun hHeld => ?_)
                                        clear hK K BN hbc
                                        have BN := BN'
                                        clear BN'
                                        refine norm_ (a' := ?_) ?_ ?_
                                        rotate_left
                                        · show Act.put _ (some 135) _ = _
                                          simp only [Act.put, List.setIfInBounds_toArray, List.set_cons_zero, List.set_cons_succ, i64_w, i32_w]
                                          rfl
                                        refine pure_ (i := 30) (N := some 136) (v := ?_) (a' := ?_) (upB 48 31) rfl rfl (any_of HT_.out (by kernel_rfl)) (fun _ _ _ h => h) (Or.inl ⟨by rfl, ?_⟩) ?_ ?_
                                        rotate_left
                                        · intro w'
                                          go_simp
                                          with_reducible rfl
                                        rotate_left
                                        · simp only [Act.put, List.setIfInBounds_toArray, List.set_cons_zero, List.set_cons_succ, i64_w, i32_w]
                                          rfl
                                        refine pure_ (i := 31) (N := some 137) (v := ?_) (a' := ?_) (upB 48 32) rfl rfl (any_of HT_.out (by kernel_rfl)) (fun _ _ _ h => h) (Or.inl ⟨by rfl, ?_⟩) ?_ ?_
                                        rotate_left
                                        · intro w'
                                          go_simp
                                          with_reducible rfl
                                        rotate_left
                                        · simp only [Act.put, List.setIfInBounds_toArray, List.set_cons_zero, List.set_cons_succ, i64_w, i32_w]
                                          rfl
                                        refine pure_ (i := 32) (N := some 138) (v := ?_) (a' := ?_) (upB 48 33) rfl rfl (any_of HT_.out (by kernel_rfl)) (fun _ _ _ h => h) (Or.inl ⟨by rfl, ?_⟩) ?_ ?_
                                        rotate_left
                                        · intro w'
                                          go_simp
                                          with_reducible rfl
                                        rotate_left
                                        · simp only [Act.put, List.setIfInBounds_toArray, List.set_cons_zero, List.set_cons_succ, i64_w, i32_w]
                                          rfl
                                        refine take_ (i := 33) (N := some 139) (v := ?_) (a' := ?_) (upB 48 34) rfl rfl (take_ofW HT_.out HW_.out (by kernel_rfl)) (fun _ _ _ h => h) (Or.inl ⟨by rfl, ?_⟩) hHeld ?_ ?_
                                        rotate_left
                                        · rintro w' ⟨s0, s1, s2, s3, s4, s5, s6⟩
                                          go_simp
                                          with_reducible rfl
                                        rotate_left
                                        · simp only [Act.put, List.setIfInBounds_toArray, List.set_cons_zero, List.set_cons_succ, i64_w, i32_w]
                                          rfl
                                        refine take_ (i := 34) (N := some 140) (v := ?_) (a' := ?_) (upB 48 35) rfl rfl (take_ofW HT_.out HW_.out (by kernel_rfl)) (fun _ _ _ h => h) (Or.inl ⟨by rfl, ?_⟩) hHeld ?_ ?_
                                        rotate_left
                                        · rintro w' ⟨s0, s1, s2, s3, s4, s5, s6⟩
                                          go_simp
                                          with_reducible rfl
                                        rotate_left
                                        · simp only [Act.put, List.setIfInBounds_toArray, List.set_cons_zero, List.set_cons_succ, i64_w, i32_w]
                                          rfl
                                        refine pure_ (i := 35) (N := some 141) (v := ?_) (a' := ?_) (upB 48 36) rfl rfl (any_of HT_.out (by kernel_rfl)) (fun _ _ _ h => h) (Or.inl ⟨by rfl, ?_⟩) ?_ ?_
                                        rotate_left
                                        · intro w'
                                          go_simp
                                          with_reducible rfl
                                        rotate_left
                                        · simp only [Act.put, List.setIfInBounds_toArray, List.set_cons_zero, List.set_cons_succ, i64_w, i32_w]
                                          rfl
                                        refine pure_ (i := 36) (N := some 142) (v := ?_) (a' := ?_) (upB 48 37) rfl rfl (any_of HT_.out (by kernel_rfl)) (fun _ _ _ h => h) (Or.inl ⟨by rfl, ?_⟩) ?_ ?_
                                        rotate_left
                                        · intro w'
                                          go_simp
                                          with_reducible rfl
                                        rotate_left
                                        · simp only [Act.put, List.setIfInBounds_toArray, List.set_cons_zero, List.set_cons_succ, i64_w, i32_w]
                                          rfl
                                        refine pure_ (i := 37) (N := some 143) (v := ?_) (a' := ?_) (upB 48 38) rfl rfl (any_of HT_.out (by kernel_rfl)) (fun _ _ _ h => h) (Or.inl ⟨by rfl, ?_⟩) ?_ ?_
                                        rotate_left
                                        · intro w'
                                          go_simp
                                          with_reducible rfl
                                        rotate_left
                                        · simp only [Act.put, List.setIfInBounds_toArray, List.set_cons_zero, List.set_cons_succ, i64_w, i32_w]
                                          rfl
                                        refine pure_ (i := 38) (N := some 144) (v := ?_) (a' := ?_) (upB 48 39) rfl rfl (any_of HT_.out (by kernel_rfl)) (fun _ _ _ h => h) (Or.inl ⟨by rfl, ?_⟩) ?_ ?_
                                        rotate_left
                                        · intro w'
                                          go_simp
                                          with_reducible rfl
                                        rotate_left
                                        · simp only [Act.put, List.setIfInBounds_toArray, List.set_cons_zero, List.set_cons_succ, i64_w, i32_w]
                                          rfl
                                        refine take_ (i := 39) (N := some 145) (v := ?_) (a' := ?_) (upB 48 40) rfl rfl (take_ofW HT_.out HW_.out (by kernel_rfl)) (fun _ _ _ h => h) (Or.inl ⟨by rfl, ?_⟩) hHeld ?_ ?_
                                        rotate_left
                                        · rintro w' ⟨s0, s1, s2, s3, s4, s5, s6⟩
                                          go_simp
                                          with_reducible rfl
                                        rotate_left
                                        · simp only [Act.put, List.setIfInBounds_toArray, List.set_cons_zero, List.set_cons_succ, i64_w, i32_w]
                                          rfl
                                        refine pure_ (i := 40) (N := some 146) (v := ?_) (a' := ?_) (upB 48 41) rfl rfl (any_of HT_.out (by kernel_rfl)) (fun _ _ _ h => h) (Or.inl ⟨by rfl, ?_⟩) ?_ ?_
                                        rotate_left
                                        · intro w'
                                          go_simp
                                          with_reducible rfl
                                        rotate_left
                                        · simp only [Act.put, List.setIfInBounds_toArray, List.set_cons_zero, List.set_cons_succ, i64_w, i32_w]
                                          rfl
                                        refine pure_ (i := 41) (N := some 147) (v := ?_) (a' := ?_) (upB 48 42) rfl rfl (any_of HT_.out (by kernel_rfl)) (fun _ _ _ h => h) (Or.inl ⟨by rfl, ?_⟩) ?_ ?_
                                        rotate_left
                                        · intro w'
                                          go_simp
                                          with_reducible rfl
                                        rotate_left
                                        · simp only [Act.put, List.setIfInBounds_toArray, List.set_cons_zero, List.set_cons_succ, i64_w, i32_w]
                                          rfl
                                        refine pure_ (i := 42) (N := some 148) (v := ?_) (a' := ?_) (upB 48 43) rfl rfl (any_of HT_.out (by kernel_rfl)) (fun _ _ _ h => h) (Or.inl ⟨by rfl, ?_⟩) ?_ ?_
                                        rotate_left
                                        · intro w'
                                          go_simp
                                          with_reducible rfl
                                        rotate_left
                                        · simp only [Act.put, List.setIfInBounds_toArray, List.set_cons_zero, List.set_cons_succ, i64_w, i32_w]
                                          rfl
                                        refine pure_ (i := 43) (N := some 149) (v := ?_) (a' := ?_) (upB 48 44) rfl rfl (any_of HT_.out (by kernel_rfl)) (fun _ _ _ h => h) (Or.inl ⟨by rfl, ?_⟩) ?_ ?_
                                        rotate_left
                                        · intro w'
                                          go_simp
                                          with_reducible rfl
                                        rotate_left
                                        · simp only [Act.put, List.setIfInBounds_toArray, List.set_cons_zero, List.set_cons_succ, i64_w, i32_w]
                                          rfl
                                        refine take_ (i := 44) (N := some 150) (v := ?_) (a' := ?_) (upB 48 45) rfl rfl (take_ofW HT_.out HW_.out (by kernel_rfl)) (fun _ _ _ h => h) (Or.inl ⟨by rfl, ?_⟩) hHeld ?_ ?_
                                        rotate_left
                                        · rintro w' ⟨s0, s1, s2, s3, s4, s5, s6⟩
                                          go_simp
                                          with_reducible rfl
                                        rotate_left
                                        · simp only [Act.put, List.setIfInBounds_toArray, List.set_cons_zero, List.set_cons_succ, i64_w, i32_w]
                                          rfl
                                        refine one_ (i := 45) (N := some 151) (upB 48 46) rfl rfl (one_of HT_.out (by kernel_rfl)) (by decide) (fun K hK => ?_)
                                        refine callE_ 31 #[.agg #[.int .i64 p.1, .slice Av p.2.1.length cv], .agg #[.int .i64 n1, .slice B1 l1.length d1], .string x.f0, .slice A2 x.f1.length cc2] (by rfl) rfl (by go_simp) ?_
                                        refine (paraphrastlaw01_exceptOne.calls k p.1 Av cv p.2.1 n1 B1 d1 l1 x.f0 A2 cc2 x.f1 false _ (Kd.R_reads' BN.out.2.2.2.1).2.2 (Kd.R_reads' BN.out.2.2.2.1).2.1 (Kd.F_now BN.out.2.2.1) hd1 (Kd.C_below HT.out BN.out.2.2.2.2) hl2 HXB.out).mono ?_
                                        rintro e w9 ⟨rfl, hbc⟩
                                        left
                                        refine ⟨_, rfl, ?_⟩
                                        have BN' := Aside0.mk (BN.out.below hbc)
                                        refine hK.out _ _ (BN'.out.cells y0 y1 y2) (fun hHeld => ?_)
                                        clear hK K BN hbc
                                        have BN := BN'
                                        clear BN'
                                        refine norm_ (a' := ?_) ?_ ?_
                                        rotate_left
                                        · show Act.put _ (some 151) _ = _
                                          simp only [Act.put, List.setIfInBounds_toArray, List.set_cons_zero, List.set_cons_succ, i64_w, i32_w]
                                          rfl
                                        refine pure_ (i := 46) (N := some 152) (v := ?_) (a' := ?_) (upB 48 47) rfl rfl (any_of HT_.out (by kernel_rfl)) (fun _ _ _ h => h) (Or.inl ⟨by rfl, ?_⟩) ?_ ?_
                                        rotate_left
                                        · intro w'
                                          go_simp
                                          with_reducible rfl
                                        rotate_left
                                        · simp only [Act.put, List.setIfInBounds_toArray, List.set_cons_zero, List.set_cons_succ, i64_w, i32_w]
                                          rfl
                                        refine pure_ (i := 47) (N := some 153) (v := ?_) (a' := ?_) (upB 48 48) rfl rfl (any_of HT_.out (by kernel_rfl)) (fun _ _ _ h => h) (Or.inl ⟨by rfl, ?_⟩) ?_ ?_
                                        rotate_left
                                        · intro w'
                                          go_simp
                                          with_reducible rfl
                                        rotate_left
                                        · simp only [Act.put, List.setIfInBounds_toArray, List.set_cons_zero, List.set_cons_succ, i64_w, i32_w]
                                          rfl
                                        refine done_ (done_of HT_.out (by kernel_rfl)) ?_
                                        refine NoPanic.normal ?_
                                        try go_wp2
                                        go_meet
                                        case rel => exact ⟨_, rfl, BN.out, Or.inl ⟨rfl, by have h2 := H.out;  exact (Option.some.inj h2).symm⟩⟩
                                      | true =>
                                        rw [if_pos rfl] at h5
                                        have H := Aside0.mk h5
                                        clear h5
                                        refine wp_region_noPanic ?_
                                        refine start_ (n := 48) (S := Sx w.heap.size g8 n1 B1 l1.length d1 p.1 (.slice Av p.2.1.length cv) (ad.add (i * 3)) ⟨(ad.add (i * 3)).block, (ad.add (i * 3)).off + 1, none⟩ ⟨(ad.add (i * 3)).block, (ad.add (i * 3)).off + 2, none⟩ x A2 cc2) (ds := []) (upB 48 0) (by kernel_rfl) rfl (by kernel_rfl) ((HBn.out.below (below_drew (Below.refl _ _))).cells y0 y1 y2 : Sx w.heap.size g8 n1 B1 l1.length d1 p.1 (.slice Av p.2.1.length cv) (ad.add (i * 3)) ⟨(ad.add (i * 3)).block, (ad.add (i * 3)).off + 1, none⟩ ⟨(ad.add (i * 3)).block, (ad.add (i * 3)).off + 2, none⟩ x A2 cc2 wc.drew) (fun hHeld => ?_)
                                        have BN := Aside0.mk (show Bun w wc.drew w.heap.size g8 n1 B1 d1 l1 p.1 (.slice Av p.2.1.length cv) p.2.1 from HBn.out.below (below_drew (Below.refl _ _)))
                                        refine with_tabW sp_tab18 sp_bits18 (fun HT_ HW_ => ?_)
                                        generalize wc.drew = wd at *
                                        refine pure_ (i := 0) (N := some 106) (v := ?_) (a' := ?_) (upB 48 1) rfl rfl (any_of HT_.out (by kernel_rfl)) (fun _ _ _ h => h) (Or.inl ⟨by rfl, ?_⟩) ?_ ?_
                                        rotate_left
                                        · intro w'
                                          go_simp
                                          with_reducible rfl
                                        rotate_left
                                        · simp only [Act.put, List.setIfInBounds_toArray, List.set_cons_zero, List.set_cons_succ, i64_w, i32_w]
                                          rfl
                                        refine pure_ (i := 1) (N := some 107) (v := ?_) (a' := ?_) (upB 48 2) rfl rfl (any_of HT_.out (by kernel_rfl)) (fun _ _ _ h => h) (Or.inl ⟨by rfl, ?_⟩) ?_ ?_
                                        rotate_left
                                        · intro w'
                                          go_simp
                                          with_reducible rfl
                                        rotate_left
                                        · simp only [Act.put, List.setIfInBounds_toArray, List.set_cons_zero, List.set_cons_succ, i64_w, i32_w]
                                          rfl
                                        refine pure_ (i := 2) (N := some 108) (v := ?_) (a' := ?_) (upB 48 3) rfl rfl (any_of HT_.out (by kernel_rfl)) (fun _ _ _ h => h) (Or.inl ⟨by rfl, ?_⟩) ?_ ?_
                                        rotate_left
                                        · intro w'
                                          go_simp
                                          with_reducible rfl
                                        rotate_left
                                        · simp only [Act.put, List.setIfInBounds_toArray, List.set_cons_zero, List.set_cons_succ, i64_w, i32_w]
                                          rfl
                                        refine pure_ (i := 3) (N := some 109) (v := ?_) (a' := ?_) (upB 48 4) rfl rfl (any_of HT_.out (by kernel_rfl)) (fun _ _ _ h => h) (Or.inl ⟨by rfl, ?_⟩) ?_ ?_
                                        rotate_left
                                        · intro w'
                                          go_simp
                                          with_reducible rfl
                                        rotate_left
                                        · simp only [Act.put, List.setIfInBounds_toArray, List.set_cons_zero, List.set_cons_succ, i64_w, i32_w]
                                          rfl
                                        refine pure_ (i := 4) (N := some 110) (v := ?_) (a' := ?_) (upB 48 5) rfl rfl (any_of HT_.out (by kernel_rfl)) (fun _ _ _ h => h) (Or.inl ⟨by rfl, ?_⟩) ?_ ?_
                                        rotate_left
                                        · intro w'
                                          go_simp
                                          with_reducible rfl
                                        rotate_left
                                        · simp only [Act.put, List.setIfInBounds_toArray, List.set_cons_zero, List.set_cons_succ, i64_w, i32_w]
                                          rfl
                                        refine pure_ (i := 5) (N := some 111) (v := ?_) (a' := ?_) (upB 48 6) rfl rfl (any_of HT_.out (by kernel_rfl)) (fun _ _ _ h => h) (Or.inl ⟨by rfl, ?_⟩) ?_ ?_
                                        rotate_left
                                        · intro w'
                                          go_simp
                                          with_reducible rfl
                                        rotate_left
                                        · simp only [Act.put, List.setIfInBounds_toArray, List.set_cons_zero, List.set_cons_succ, i64_w, i32_w]
                                          rfl
                                        refine pure_ (i := 6) (N := some 112) (v := ?_) (a' := ?_) (upB 48 7) rfl rfl (any_of HT_.out (by kernel_rfl)) (fun _ _ _ h => h) (Or.inl ⟨by rfl, ?_⟩) ?_ ?_
                                        rotate_left
                                        · intro w'
                                          go_simp
                                          with_reducible rfl
                                        rotate_left
                                        · simp only [Act.put, List.setIfInBounds_toArray, List.set_cons_zero, List.set_cons_succ, i64_w, i32_w]
                                          rfl
                                        refine pure_ (i := 7) (N := some 113) (v := ?_) (a' := ?_) (upB 48 8) rfl rfl (any_of HT_.out (by kernel_rfl)) (fun _ _ _ h => h) (Or.inl ⟨by rfl, ?_⟩) ?_ ?_
                                        rotate_left
                                        · intro w'
                                          go_simp
                                          with_reducible rfl
                                        rotate_left
                                        · simp only [Act.put, List.setIfInBounds_toArray, List.set_cons_zero, List.set_cons_succ, i64_w, i32_w]
                                          rfl
                                        refine take_ (i := 8) (N := some 114) (v := ?_) (a' := ?_) (upB 48 9) rfl rfl (take_ofW HT_.out HW_.out (by kernel_rfl)) (fun _ _ _ h => h) (Or.inl ⟨by rfl, ?_⟩) hHeld ?_ ?_
                                        rotate_left
                                        · rintro w' ⟨s0, s1, s2, s3, s4, s5, s6⟩
                                          go_simp
                                          with_reducible rfl
                                        rotate_left
                                        · simp only [Act.put, List.setIfInBounds_toArray, List.set_cons_zero, List.set_cons_succ, i64_w, i32_w]
                                          rfl
                                        refine pure_ (i := 9) (N := some 115) (v := ?_) (a' := ?_) (upB 48 10) rfl rfl (any_of HT_.out (by kernel_rfl)) (fun _ _ _ h => h) (Or.inl ⟨by rfl, ?_⟩) ?_ ?_
                                        rotate_left
                                        · intro w'
                                          go_simp
                                          with_reducible rfl
                                        rotate_left
                                        · simp only [Act.put, List.setIfInBounds_toArray, List.set_cons_zero, List.set_cons_succ, i64_w, i32_w]
                                          rfl
                                        refine pure_ (i := 10) (N := some 116) (v := ?_) (a' := ?_) (upB 48 11) rfl rfl (any_of HT_.out (by kernel_rfl)) (fun _ _ _ h => h) (Or.inl ⟨by rfl, ?_⟩) ?_ ?_
                                        rotate_left
                                        · intro w'
                                          go_simp
                                          with_reducible rfl
                                        rotate_left
                                        · simp only [Act.put, List.setIfInBounds_toArray, List.set_cons_zero, List.set_cons_succ, i64_w, i32_w]
                                          rfl
                                        refine pure_ (i := 11) (N := some 117) (v := ?_) (a' := ?_) (upB 48 12) rfl rfl (any_of HT_.out (by kernel_rfl)) (fun _ _ _ h => h) (Or.inl ⟨by rfl, ?_⟩) ?_ ?_
                                        rotate_left
                                        · intro w'
                                          go_simp
                                          with_reducible rfl
                                        rotate_left
                                        · simp only [Act.put, List.setIfInBounds_toArray, List.set_cons_zero, List.set_cons_succ, i64_w, i32_w]
                                          rfl
                                        refine take_ (i := 12) (N := some 118) (v := ?_) (a' := ?_) (upB 48 13) rfl rfl (take_ofW HT_.out HW_.out (by kernel_rfl)) (fun _ _ _ h => h) (Or.inl ⟨by rfl, ?_⟩) hHeld ?_ ?_
                                        rotate_left
                                        · rintro w' ⟨s0, s1, s2, s3, s4, s5, s6⟩
                                          go_simp
                                          with_reducible rfl
                                        rotate_left
                                        · simp only [Act.put, List.setIfInBounds_toArray, List.set_cons_zero, List.set_cons_succ, i64_w, i32_w]
                                          rfl
                                        refine one_ (i := 13) (N := some 119) (upB 48 14) rfl rfl (one_of HT_.out (by kernel_rfl)) (by decide) (fun K hK => ?_)
                                        refine callE_ 21 #[.agg #[.int .i64 p.1, .slice Av p.2.1.length cv]] (by rfl) rfl (by go_simp) ?_
                                        refine (shape_Valid.calls k p.1 Av cv p.2.1 true _ (Kd.R_reads' BN.out.2.2.2.1).2.2 (Kd.R_reads' BN.out.2.2.2.1).2.1 HVAL.out).mono ?_
                                        rintro e w7 ⟨rfl, hbc⟩
                                        left
                                        refine ⟨_, rfl, ?_⟩
                                        have BN' := Aside0.mk (BN.out.below hbc)
                                        refine hK.out _ _ (BN'.out.cells y0 y1 y2) (fun hHeld => ?_)
                                        clear hK K BN hbc
                                        have BN := BN'
                                        clear BN'
                                        refine norm_ (a' := ?_) ?_ ?_
                                        rotate_left
                                        · show Act.put _ (some 119) _ = _
                                          simp only [Act.put, List.setIfInBounds_toArray, List.set_cons_zero, List.set_cons_succ, i64_w, i32_w]
                                          rfl
                                        refine pure_ (i := 14) (N := some 120) (v := ?_) (a' := ?_) (upB 48 15) rfl rfl (any_of HT_.out (by kernel_rfl)) (fun _ _ _ h => h) (Or.inl ⟨by rfl, ?_⟩) ?_ ?_
                                        rotate_left
                                        · intro w'
                                          go_simp
                                          with_reducible rfl
                                        rotate_left
                                        · simp only [Act.put, List.setIfInBounds_toArray, List.set_cons_zero, List.set_cons_succ, i64_w, i32_w]
                                          rfl
                                        refine pure_ (i := 15) (N := some 121) (v := ?_) (a' := ?_) (upB 48 16) rfl rfl (any_of HT_.out (by kernel_rfl)) (fun _ _ _ h => h) (Or.inl ⟨by rfl, ?_⟩) ?_ ?_
                                        rotate_left
                                        · intro w'
                                          go_simp
                                          with_reducible rfl
                                        rotate_left
                                        · simp only [Act.put, List.setIfInBounds_toArray, List.set_cons_zero, List.set_cons_succ, i64_w, i32_w]
                                          rfl
                                        refine pure_ (i := 16) (N := some 122) (v := ?_) (a' := ?_) (upB 48 17) rfl rfl (any_of HT_.out (by kernel_rfl)) (fun _ _ _ h => h) (Or.inl ⟨by rfl, ?_⟩) ?_ ?_
                                        rotate_left
                                        · intro w'
                                          go_simp
                                          with_reducible rfl
                                        rotate_left
                                        · simp only [Act.put, List.setIfInBounds_toArray, List.set_cons_zero, List.set_cons_succ, i64_w, i32_w]
                                          rfl
                                        refine take_ (i := 17) (N := some 123) (v := ?_) (a' := ?_) (upB 48 18) rfl rfl (take_ofW HT_.out HW_.out (by kernel_rfl)) (fun _ _ _ h => h) (Or.inl ⟨by rfl, ?_⟩) hHeld ?_ ?_
                                        rotate_left
                                        · rintro w' ⟨s0, s1, s2, s3, s4, s5, s6⟩
                                          go_simp
                                          with_reducible rfl
                                        rotate_left
                                        · simp only [Act.put, List.setIfInBounds_toArray, List.set_cons_zero, List.set_cons_succ, i64_w, i32_w]
                                          rfl
                                        refine take_ (i := 18) (N := some 124) (v := ?_) (a' := ?_) (upB 48 19) rfl rfl (take_ofW HT_.out HW_.out (by kernel_rfl)) (fun _ _ _ h => h) (Or.inl ⟨by rfl, ?_⟩) hHeld ?_ ?_
                                        rotate_left
                                        · rintro w' ⟨s0, s1, s2, s3, s4, s5, s6⟩
                                          go_simp
                                          with_reducible rfl
                                        rotate_left
                                        · simp only [Act.put, List.setIfInBounds_toArray, List.set_cons_zero, List.set_cons_succ, i64_w, i32_w]
                                          rfl
                                        refine pure_ (i := 19) (N := some 125) (v := ?_) (a' := ?_) (upB 48 20) rfl rfl (any_of HT_.out (by kernel_rfl)) (fun _ _ _ h => h) (Or.inl ⟨by rfl, ?_⟩) ?_ ?_
                                        rotate_left
                                        · intro w'
                                          go_simp
                                          with_reducible rfl
                                        rotate_left
                                        · simp only [Act.put, List.setIfInBounds_toArray, List.set_cons_zero, List.set_cons_succ, i64_w, i32_w]
                                          rfl
                                        refine pure_ (i := 20) (N := some 126) (v := ?_) (a' := ?_) (upB 48 21) rfl rfl (any_of HT_.out (by kernel_rfl)) (fun _ _ _ h => h) (Or.inl ⟨by rfl, ?_⟩) ?_ ?_
                                        rotate_left
                                        · intro w'
                                          go_simp
                                          with_reducible rfl
                                        rotate_left
                                        · simp only [Act.put, List.setIfInBounds_toArray, List.set_cons_zero, List.set_cons_succ, i64_w, i32_w]
                                          rfl
                                        refine pure_ (i := 21) (N := some 127) (v := ?_) (a' := ?_) (upB 48 22) rfl rfl (any_of HT_.out (by kernel_rfl)) (fun _ _ _ h => h) (Or.inl ⟨by rfl, ?_⟩) ?_ ?_
                                        rotate_left
                                        · intro w'
                                          go_simp
                                          with_reducible rfl
                                        rotate_left
                                        · simp only [Act.put, List.setIfInBounds_toArray, List.set_cons_zero, List.set_cons_succ, i64_w, i32_w]
                                          rfl
                                        refine pure_ (i := 22) (N := some 128) (v := ?_) (a' := ?_) (upB 48 23) rfl rfl (any_of HT_.out (by kernel_rfl)) (fun _ _ _ h => h) (Or.inl ⟨by rfl, ?_⟩) ?_ ?_
                                        rotate_left
                                        · intro w'
                                          go_simp
                                          with_reducible rfl
                                        rotate_left
                                        · simp only [Act.put, List.setIfInBounds_toArray, List.set_cons_zero, List.set_cons_succ, i64_w, i32_w]
                                          rfl
                                        refine take_ (i := 23) (N := some 129) (v := ?_) (a' := ?_) (upB 48 24) rfl rfl (take_ofW HT_.out HW_.out (by kernel_rfl)) (fun _ _ _ h => h) (Or.inl ⟨by rfl, ?_⟩) hHeld ?_ ?_
                                        rotate_left
                                        · rintro w' ⟨s0, s1, s2, s3, s4, s5, s6⟩
                                          go_simp
                                          with_reducible rfl
                                        rotate_left
                                        · simp only [Act.put, List.setIfInBounds_toArray, List.set_cons_zero, List.set_cons_succ, i64_w, i32_w]
                                          rfl
                                        refine pure_ (i := 24) (N := some 130) (v := ?_) (a' := ?_) (upB 48 25) rfl rfl (any_of HT_.out (by kernel_rfl)) (fun _ _ _ h => h) (Or.inl ⟨by rfl, ?_⟩) ?_ ?_
                                        rotate_left
                                        · intro w'
                                          go_simp
                                          with_reducible rfl
                                        rotate_left
                                        · simp only [Act.put, List.setIfInBounds_toArray, List.set_cons_zero, List.set_cons_succ, i64_w, i32_w]
                                          rfl
                                        refine pure_ (i := 25) (N := some 131) (v := ?_) (a' := ?_) (upB 48 26) rfl rfl (any_of HT_.out (by kernel_rfl)) (fun _ _ _ h => h) (Or.inl ⟨by rfl, ?_⟩) ?_ ?_
                                        rotate_left
                                        · intro w'
                                          go_simp
                                          with_reducible rfl
                                        rotate_left
                                        · simp only [Act.put, List.setIfInBounds_toArray, List.set_cons_zero, List.set_cons_succ, i64_w, i32_w]
                                          rfl
                                        refine pure_ (i := 26) (N := some 132) (v := ?_) (a' := ?_) (upB 48 27) rfl rfl (any_of HT_.out (by kernel_rfl)) (fun _ _ _ h => h) (Or.inl ⟨by rfl, ?_⟩) ?_ ?_
                                        rotate_left
                                        · intro w'
                                          go_simp
                                          with_reducible rfl
                                        rotate_left
                                        · simp only [Act.put, List.setIfInBounds_toArray, List.set_cons_zero, List.set_cons_succ, i64_w, i32_w]
                                          rfl
                                        refine pure_ (i := 27) (N := some 133) (v := ?_) (a' := ?_) (upB 48 28) rfl rfl (any_of HT_.out (by kernel_rfl)) (fun _ _ _ h => h) (Or.inl ⟨by rfl, ?_⟩) ?_ ?_
                                        rotate_left
                                        · intro w'
                                          go_simp
                                          with_reducible rfl
                                        rotate_left
                                        · simp only [Act.put, List.setIfInBounds_toArray, List.set_cons_zero, List.set_cons_succ, i64_w, i32_w]
                                          rfl
                                        refine take_ (i := 28) (N := some 134) (v := ?_) (a' := ?_) (upB 48 29) rfl rfl (take_ofW HT_.out HW_.out (by kernel_rfl)) (fun _ _ _ h => h) (Or.inl ⟨by rfl, ?_⟩) hHeld ?_ ?_
                                        rotate_left
                                        · rintro w' ⟨s0, s1, s2, s3, s4, s5, s6⟩
                                          go_simp
                                          with_reducible rfl
                                        rotate_left
                                        · simp only [Act.put, List.setIfInBounds_toArray, List.set_cons_zero, List.set_cons_succ, i64_w, i32_w]
                                          rfl
                                        refine one_ (i := 29) (N := some 135) (upB 48 30) rfl rfl (one_of HT_.out (by kernel_rfl)) (by decide) (fun K hK => ?_)
                                        refine callE_ 31 #[.agg #[.int .i64 n1, .slice B1 l1.length d1], .agg #[.int .i64 p.1, .slice Av p.2.1.length cv], .string x.f0, .slice A2 x.f1.length cc2] (by rfl) rfl (by go_simp) ?_
                                        refine (paraphrastlaw01_exceptOne.calls k n1 B1 d1 l1 p.1 Av cv p.2.1 x.f0 A2 cc2 x.f1 true _ (Kd.F_now BN.out.2.2.1) hd1 (Kd.R_reads' BN.out.2.2.2.1).2.2 (Kd.R_reads' BN.out.2.2.2.1).2.1 (Kd.C_below HT.out BN.out.2.2.2.2) hl2 HXA.out).mono ?_
                                        rintro e w8 ⟨rfl, hbc⟩
                                        left
                                        refine ⟨_, rfl, ?_⟩
                                        have BN' := Aside0.mk (BN.out.below hbc)
                                        refine hK.out _ _ (BN'.out.cells y0 y1 y2) (fun hHeld => ?_)
                                        clear hK K BN hbc
                                        have BN := BN'
                                        clear BN'
                                        refine norm_ (a' := ?_) ?_ ?_
                                        rotate_left
                                        · show Act.put _ (some 135) _ = _
                                          simp only [Act.put, List.setIfInBounds_toArray, List.set_cons_zero, List.set_cons_succ, i64_w, i32_w]
                                          rfl
                                        refine pure_ (i := 30) (N := some 136) (v := ?_) (a' := ?_) (upB 48 31) rfl rfl (any_of HT_.out (by kernel_rfl)) (fun _ _ _ h => h) (Or.inl ⟨by rfl, ?_⟩) ?_ ?_
                                        rotate_left
                                        · intro w'
                                          go_simp
                                          with_reducible rfl
                                        rotate_left
                                        · simp only [Act.put, List.setIfInBounds_toArray, List.set_cons_zero, List.set_cons_succ, i64_w, i32_w]
                                          rfl
                                        refine pure_ (i := 31) (N := some 137) (v := ?_) (a' := ?_) (upB 48 32) rfl rfl (any_of HT_.out (by kernel_rfl)) (fun _ _ _ h => h) (Or.inl ⟨by rfl, ?_⟩) ?_ ?_
                                        rotate_left
                                        · intro w'
                                          go_simp
                                          with_reducible rfl
                                        rotate_left
                                        · simp only [Act.put, List.setIfInBounds_toArray, List.set_cons_zero, List.set_cons_succ, i64_w, i32_w]
                                          rfl
                                        refine pure_ (i := 32) (N := some 138) (v := ?_) (a' := ?_) (upB 48 33) rfl rfl (any_of HT_.out (by kernel_rfl)) (fun _ _ _ h => h) (Or.inl ⟨by rfl, ?_⟩) ?_ ?_
                                        rotate_left
                                        · intro w'
                                          go_simp
                                          with_reducible rfl
                                        rotate_left
                                        · simp only [Act.put, List.setIfInBounds_toArray, List.set_cons_zero, List.set_cons_succ, i64_w, i32_w]
                                          rfl
                                        refine take_ (i := 33) (N := some 139) (v := ?_) (a' := ?_) (upB 48 34) rfl rfl (take_ofW HT_.out HW_.out (by kernel_rfl)) (fun _ _ _ h => h) (Or.inl ⟨by rfl, ?_⟩) hHeld ?_ ?_
                                        rotate_left
                                        · rintro w' ⟨s0, s1, s2, s3, s4, s5, s6⟩
                                          go_simp
                                          with_reducible rfl
                                        rotate_left
                                        · simp only [Act.put, List.setIfInBounds_toArray, List.set_cons_zero, List.set_cons_succ, i64_w, i32_w]
                                          rfl
                                        refine take_ (i := 34) (N := some 140) (v := ?_) (a' := ?_) (upB 48 35) rfl rfl (take_ofW HT_.out HW_.out (by kernel_rfl)) (fun _ _ _ h => h) (Or.inl ⟨by rfl, ?_⟩) hHeld ?_ ?_
                                        rotate_left
                                        · rintro w' ⟨s0, s1, s2, s3, s4, s5, s6⟩
                                          go_simp
                                          with_reducible rfl
                                        rotate_left
                                        · simp only [Act.put, List.setIfInBounds_toArray, List.set_cons_zero, List.set_cons_succ, i64_w, i32_w]
                                          rfl
                                        refine pure_ (i := 35) (N := some 141) (v := ?_) (a' := ?_) (upB 48 36) rfl rfl (any_of HT_.out (by kernel_rfl)) (fun _ _ _ h => h) (Or.inl ⟨by rfl, ?_⟩) ?_ ?_
                                        rotate_left
                                        · intro w'
                                          go_simp
                                          with_reducible rfl
                                        rotate_left
                                        · simp only [Act.put, List.setIfInBounds_toArray, List.set_cons_zero, List.set_cons_succ, i64_w, i32_w]
                                          rfl
                                        refine pure_ (i := 36) (N := some 142) (v := ?_) (a' := ?_) (upB 48 37) rfl rfl (any_of HT_.out (by kernel_rfl)) (fun _ _ _ h => h) (Or.inl ⟨by rfl, ?_⟩) ?_ ?_
                                        rotate_left
                                        · intro w'
                                          go_simp
                                          with_reducible rfl
                                        rotate_left
                                        · simp only [Act.put, List.setIfInBounds_toArray, List.set_cons_zero, List.set_cons_succ, i64_w, i32_w]
                                          rfl
                                        refine pure_ (i := 37) (N := some 143) (v := ?_) (a' := ?_) (upB 48 38) rfl rfl (any_of HT_.out (by kernel_rfl)) (fun _ _ _ h => h) (Or.inl ⟨by rfl, ?_⟩) ?_ ?_
                                        rotate_left
                                        · intro w'
                                          go_simp
                                          with_reducible rfl
                                        rotate_left
                                        · simp only [Act.put, List.setIfInBounds_toArray, List.set_cons_zero, List.set_cons_succ, i64_w, i32_w]
                                          rfl
                                        refine pure_ (i := 38) (N := some 144) (v := ?_) (a' := ?_) (upB 48 39) rfl rfl (any_of HT_.out (by kernel_rfl)) (fun _ _ _ h => h) (Or.inl ⟨by rfl, ?_⟩) ?_ ?_
                                        rotate_left
                                        · intro w'
                                          go_simp
                                          with_reducible rfl
                                        rotate_left
                                        · simp only [Act.put, List.setIfInBounds_toArray, List.set_cons_zero, List.set_cons_succ, i64_w, i32_w]
                                          rfl
                                        refine take_ (i := 39) (N := some 145) (v := ?_) (a' := ?_) (upB 48 40) rfl rfl (take_ofW HT_.out HW_.out (by kernel_rfl)) (fun _ _ _ h => h) (Or.inl ⟨by rfl, ?_⟩) hHeld ?_ ?_
                                        rotate_left
                                        · rintro w' ⟨s0, s1, s2, s3, s4, s5, s6⟩
                                          go_simp
                                          with_reducible rfl
                                        rotate_left
                                        · simp only [Act.put, List.setIfInBounds_toArray, List.set_cons_zero, List.set_cons_succ, i64_w, i32_w]
                                          rfl
                                        refine pure_ (i := 40) (N := some 146) (v := ?_) (a' := ?_) (upB 48 41) rfl rfl (any_of HT_.out (by kernel_rfl)) (fun _ _ _ h => h) (Or.inl ⟨by rfl, ?_⟩) ?_ ?_
                                        rotate_left
                                        · intro w'
                                          go_simp
                                          with_reducible rfl
                                        rotate_left
                                        · simp only [Act.put, List.setIfInBounds_toArray, List.set_cons_zero, List.set_cons_succ, i64_w, i32_w]
                                          rfl
                                        refine pure_ (i := 41) (N := some 147) (v := ?_) (a' := ?_) (upB 48 42) rfl rfl (any_of HT_.out (by kernel_rfl)) (fun _ _ _ h => h) (Or.inl ⟨by rfl, ?_⟩) ?_ ?_
                                        rotate_left
                                        · intro w'
                                          go_simp
                                          with_reducible rfl
                                        rotate_left
                                        · simp only [Act.put, List.setIfInBounds_toArray, List.set_cons_zero, List.set_cons_succ, i64_w, i32_w]
                                          rfl
                                        refine pure_ (i := 42) (N := some 148) (v := ?_) (a' := ?_) (upB 48 43) rfl rfl (any_of HT_.out (by kernel_rfl)) (fun _ _ _ h => h) (Or.inl ⟨by rfl, ?_⟩) ?_ ?_
                                        rotate_left
                                        · intro w'
                                          go_simp
                                          with_reducible rfl
                                        rotate_left
                                        · simp only [Act.put, List.setIfInBounds_toArray, List.set_cons_zero, List.set_cons_succ, i64_w, i32_w]
                                          rfl
                                        refine pure_ (i := 43) (N := some 149) (v := ?_) (a' := ?_) (upB 48 44) rfl rfl (any_of HT_.out (by kernel_rfl)) (fun _ _ _ h => h) (Or.inl ⟨by rfl, ?_⟩) ?_ ?_
                                        rotate_left
                                        · intro w'
                                          go_simp
                                          with_reducible rfl
                                        rotate_left
                                        · simp only [Act.put, List.setIfInBounds_toArray, List.set_cons_zero, List.set_cons_succ, i64_w, i32_w]
                                          rfl
                                        refine take_ (i := 44) (N := some 150) (v := ?_) (a' := ?_) (upB 48 45) rfl rfl (take_ofW HT_.out HW_.out (by kernel_rfl)) (fun _ _ _ h => h) (Or.inl ⟨by rfl, ?_⟩) hHeld ?_ ?_
                                        rotate_left
                                        · rintro w' ⟨s0, s1, s2, s3, s4, s5, s6⟩
                                          go_simp
                                          with_reducible rfl
                                        rotate_left
                                        · simp only [Act.put, List.setIfInBounds_toArray, List.set_cons_zero, List.set_cons_succ, i64_w, i32_w]
                                          rfl
                                        refine one_ (i := 45) (N := some 151) (upB 48 46) rfl rfl (one_of HT_.out (by kernel_rfl)) (by decide) (fun K hK => ?_)
                                        refine callE_ 31 #[.agg #[.int .i64 p.1, .slice Av p.2.1.length cv], .agg #[.int .i64 n1, .slice B1 l1.length d1], .string x.f0, .slice A2 x.f1.length cc2] (by rfl) rfl (by go_simp) ?_
                                        refine (paraphrastlaw01_exceptOne.calls k p.1 Av cv p.2.1 n1 B1 d1 l1 x.f0 A2 cc2 x.f1 true _ (Kd.R_reads' BN.out.2.2.2.1).2.2 (Kd.R_reads' BN.out.2.2.2.1).2.1 (Kd.F_now BN.out.2.2.1) hd1 (Kd.C_below HT.out BN.out.2.2.2.2) hl2 HXB.out).mono ?_
                                        rintro e w9 ⟨rfl, hbc⟩
                                        left
                                        refine ⟨_, rfl, ?_⟩
                                        have BN' := Aside0.mk (BN.out.below hbc)
                                        refine hK.out _ _ (BN'.out.cells y0 y1 y2) (fun hHeld => ?_)
                                        clear hK K BN hbc
                                        have BN := BN'
                                        clear BN'
                                        refine norm_ (a' := ?_) ?_ ?_
                                        rotate_left
                                        · show Act.put _ (some 151) _ = _
                                          simp only [Act.put, List.setIfInBounds_toArray, List.set_cons_zero, List.set_cons_succ, i64_w, i32_w]
                                          rfl
                                        refine pure_ (i := 46) (N := some 152) (v := ?_) (a' := ?_) (upB 48 47) rfl rfl (any_of HT_.out (by kernel_rfl)) (fun _ _ _ h => h) (Or.inl ⟨by rfl, ?_⟩) ?_ ?_
                                        rotate_left
                                        · intro w'
                                          go_simp
                                          with_reducible rfl
                                        rotate_left
                                        · simp only [Act.put, List.setIfInBounds_toArray, List.set_cons_zero, List.set_cons_succ, i64_w, i32_w]
                                          rfl
                                        refine pure_ (i := 47) (N := some 153) (v := ?_) (a' := ?_) (upB 48 48) rfl rfl (any_of HT_.out (by kernel_rfl)) (fun _ _ _ h => h) (Or.inl ⟨by rfl, ?_⟩) ?_ ?_
                                        rotate_left
                                        · intro w'
                                          go_simp
                                          with_reducible rfl
                                        rotate_left
                                        · simp only [Act.put, List.setIfInBounds_toArray, List.set_cons_zero, List.set_cons_succ, i64_w, i32_w]
                                          rfl
                                        refine done_ (done_of HT_.out (by kernel_rfl)) ?_
                                        refine NoPanic.normal ?_
                                        try go_wp2
                                        go_meet
                                        case rel => exact ⟨_, rfl, BN.out, Or.inr ⟨rfl, H.out⟩⟩
                                · have f1 : (hh.1 == x.f2) = false := beq_eq_false_iff_ne.mpr h1
                                  have f1' : (hh.1 != x.f2) = true := bne_iff_ne.mpr h1
                                  rw [if_neg h1] at h2
                                  have H := Aside0.mk h2
                                  clear h2 h1
                                  refine wp_region_noPanic ?_
                                  refine start_ (n := 48) (S := Sx w.heap.size g8 n1 B1 l1.length d1 p.1 (.slice Av p.2.1.length cv) (ad.add (i * 3)) ⟨(ad.add (i * 3)).block, (ad.add (i * 3)).off + 1, none⟩ ⟨(ad.add (i * 3)).block, (ad.add (i * 3)).off + 2, none⟩ x A2 cc2) (ds := []) (upB 48 0) (by kernel_rfl) rfl (by kernel_rfl) ((HBn.out.below (below_drew (Below.refl _ _))).cells y0 y1 y2 : Sx w.heap.size g8 n1 B1 l1.length d1 p.1 (.slice Av p.2.1.length cv) (ad.add (i * 3)) ⟨(ad.add (i * 3)).block, (ad.add (i * 3)).off + 1, none⟩ ⟨(ad.add (i * 3)).block, (ad.add (i * 3)).off + 2, none⟩ x A2 cc2 wc.drew) (fun hHeld => ?_)
                                  have BN := Aside0.mk (show Bun w wc.drew w.heap.size g8 n1 B1 d1 l1 p.1 (.slice Av p.2.1.length cv) p.2.1 from HBn.out.below (below_drew (Below.refl _ _)))
                                  refine with_tabW sp_tab18 sp_bits18 (fun HT_ HW_ => ?_)
                                  generalize wc.drew = wd at *
                                  refine pure_ (i := 0) (N := some 106) (v := ?_) (a' := ?_) (upB 48 1) rfl rfl (any_of HT_.out (by kernel_rfl)) (fun _ _ _ h => h) (Or.inl ⟨by rfl, ?_⟩) ?_ ?_
                                  rotate_left
                                  · intro w'
                                    go_simp
                                    with_reducible rfl
                                  rotate_left
                                  · simp only [Act.put, List.setIfInBounds_toArray, List.set_cons_zero, List.set_cons_succ, i64_w, i32_w]
                                    rfl
                                  refine pure_ (i := 1) (N := some 107) (v := ?_) (a' := ?_) (upB 48 2) rfl rfl (any_of HT_.out (by kernel_rfl)) (fun _ _ _ h => h) (Or.inl ⟨by rfl, ?_⟩) ?_ ?_
                                  rotate_left
                                  · intro w'
                                    go_simp
                                    with_reducible rfl
                                  rotate_left
                                  · simp only [Act.put, List.setIfInBounds_toArray, List.set_cons_zero, List.set_cons_succ, i64_w, i32_w]
                                    rfl
                                  refine pure_ (i := 2) (N := some 108) (v := ?_) (a' := ?_) (upB 48 3) rfl rfl (any_of HT_.out (by kernel_rfl)) (fun _ _ _ h => h) (Or.inl ⟨by rfl, ?_⟩) ?_ ?_
                                  rotate_left
                                  · intro w'
                                    go_simp
                                    with_reducible rfl
                                  rotate_left
                                  · simp only [Act.put, List.setIfInBounds_toArray, List.set_cons_zero, List.set_cons_succ, i64_w, i32_w]
                                    rfl
                                  refine pure_ (i := 3) (N := some 109) (v := ?_) (a' := ?_) (upB 48 4) rfl rfl (any_of HT_.out (by kernel_rfl)) (fun _ _ _ h => h) (Or.inl ⟨by rfl, ?_⟩) ?_ ?_
                                  rotate_left
                                  · intro w'
                                    go_simp
                                    with_reducible rfl
                                  rotate_left
                                  · simp only [Act.put, List.setIfInBounds_toArray, List.set_cons_zero, List.set_cons_succ, i64_w, i32_w]
                                    rfl
                                  refine pure_ (i := 4) (N := some 110) (v := ?_) (a' := ?_) (upB 48 5) rfl rfl (any_of HT_.out (by kernel_rfl)) (fun _ _ _ h => h) (Or.inl ⟨by rfl, ?_⟩) ?_ ?_
                                  rotate_left
                                  · intro w'
                                    go_simp
                                    with_reducible rfl
                                  rotate_left
                                  · simp only [Act.put, List.setIfInBounds_toArray, List.set_cons_zero, List.set_cons_succ, i64_w, i32_w]
                                    rfl
                                  refine pure_ (i := 5) (N := some 111) (v := ?_) (a' := ?_) (upB 48 6) rfl rfl (any_of HT_.out (by kernel_rfl)) (fun _ _ _ h => h) (Or.inl ⟨by rfl, ?_⟩) ?_ ?_
                                  rotate_left
                                  · intro w'
                                    go_simp
                                    with_reducible rfl
                                  rotate_left
                                  · simp only [Act.put, List.setIfInBounds_toArray, List.set_cons_zero, List.set_cons_succ, i64_w, i32_w]
                                    rfl
                                  refine pure_ (i := 6) (N := some 112) (v := ?_) (a' := ?_) (upB 48 7) rfl rfl (any_of HT_.out (by kernel_rfl)) (fun _ _ _ h => h) (Or.inl ⟨by rfl, ?_⟩) ?_ ?_
                                  rotate_left
                                  · intro w'
                                    go_simp
                                    with_reducible rfl
                                  rotate_left
                                  · simp only [Act.put, List.setIfInBounds_toArray, List.set_cons_zero, List.set_cons_succ, i64_w, i32_w]
                                    rfl
                                  refine pure_ (i := 7) (N := some 113) (v := ?_) (a' := ?_) (upB 48 8) rfl rfl (any_of HT_.out (by kernel_rfl)) (fun _ _ _ h => h) (Or.inl ⟨by rfl, ?_⟩) ?_ ?_
                                  rotate_left
                                  · intro w'
                                    go_simp
                                    with_reducible rfl
                                  rotate_left
                                  · simp only [Act.put, List.setIfInBounds_toArray, List.set_cons_zero, List.set_cons_succ, i64_w, i32_w]
                                    rfl
                                  refine take_ (i := 8) (N := some 114) (v := ?_) (a' := ?_) (upB 48 9) rfl rfl (take_ofW HT_.out HW_.out (by kernel_rfl)) (fun _ _ _ h => h) (Or.inl ⟨by rfl, ?_⟩) hHeld ?_ ?_
                                  rotate_left
                                  · rintro w' ⟨s0, s1, s2, s3, s4, s5, s6⟩
                                    go_simp
                                    with_reducible rfl
                                  rotate_left
                                  · simp only [Act.put, List.setIfInBounds_toArray, List.set_cons_zero, List.set_cons_succ, i64_w, i32_w]
                                    rfl
                                  refine pure_ (i := 9) (N := some 115) (v := ?_) (a' := ?_) (upB 48 10) rfl rfl (any_of HT_.out (by kernel_rfl)) (fun _ _ _ h => h) (Or.inl ⟨by rfl, ?_⟩) ?_ ?_
                                  rotate_left
                                  · intro w'
                                    go_simp
                                    with_reducible rfl
                                  rotate_left
                                  · simp only [Act.put, List.setIfInBounds_toArray, List.set_cons_zero, List.set_cons_succ, i64_w, i32_w]
                                    rfl
                                  refine pure_ (i := 10) (N := some 116) (v := ?_) (a' := ?_) (upB 48 11) rfl rfl (any_of HT_.out (by kernel_rfl)) (fun _ _ _ h => h) (Or.inl ⟨by rfl, ?_⟩) ?_ ?_
                                  rotate_left
                                  · intro w'
                                    go_simp
                                    with_reducible rfl
                                  rotate_left
                                  · simp only [Act.put, List.setIfInBounds_toArray, List.set_cons_zero, List.set_cons_succ, i64_w, i32_w]
                                    rfl
                                  refine pure_ (i := 11) (N := some 117) (v := ?_) (a' := ?_) (upB 48 12) rfl rfl (any_of HT_.out (by kernel_rfl)) (fun _ _ _ h => h) (Or.inl ⟨by rfl, ?_⟩) ?_ ?_
                                  rotate_left
                                  · intro w'
                                    go_simp
                                    with_reducible rfl
                                  rotate_left
                                  · simp only [Act.put, List.setIfInBounds_toArray, List.set_cons_zero, List.set_cons_succ, i64_w, i32_w]
                                    rfl
                                  refine pure_ (i := 12) (N := some 118) (v := undef) (a' := ?_) (upB 48 13) rfl rfl (any_of HT_.out (by kernel_rfl)) (fun _ _ _ h => h) (Or.inr ⟨by rfl, rfl⟩) ?_ ?_
                                  rotate_left
                                  · simp only [Act.put, List.setIfInBounds_toArray, List.set_cons_zero, List.set_cons_succ, i64_w, i32_w]
                                    rfl
                                  refine pure_ (i := 13) (N := some 119) (v := undef) (a' := ?_) (upB 48 14) rfl rfl (any_of HT_.out (by kernel_rfl)) (fun _ _ _ h => h) (Or.inr ⟨by rfl, rfl⟩) ?_ ?_
                                  rotate_left
                                  · simp only [Act.put, List.setIfInBounds_toArray, List.set_cons_zero, List.set_cons_succ, i64_w, i32_w]
                                    rfl
                                  refine pure_ (i := 14) (N := some 120) (v := undef) (a' := ?_) (upB 48 15) rfl rfl (any_of HT_.out (by kernel_rfl)) (fun _ _ _ h => h) (Or.inr ⟨by rfl, rfl⟩) ?_ ?_
                                  rotate_left
                                  · simp only [Act.put, List.setIfInBounds_toArray, List.set_cons_zero, List.set_cons_succ, i64_w, i32_w]
                                    rfl
                                  refine pure_ (i := 15) (N := some 121) (v := ?_) (a' := ?_) (upB 48 16) rfl rfl (any_of HT_.out (by kernel_rfl)) (fun _ _ _ h => h) (Or.inl ⟨by rfl, ?_⟩) ?_ ?_
                                  rotate_left
                                  · intro w'
                                    go_simp
                                    with_reducible rfl
                                  rotate_left
                                  · simp only [Act.put, List.setIfInBounds_toArray, List.set_cons_zero, List.set_cons_succ, i64_w, i32_w]
                                    rfl
                                  refine pure_ (i := 16) (N := some 122) (v := ?_) (a' := ?_) (upB 48 17) rfl rfl (any_of HT_.out (by kernel_rfl)) (fun _ _ _ h => h) (Or.inl ⟨by rfl, ?_⟩) ?_ ?_
                                  rotate_left
                                  · intro w'
                                    go_simp
                                    with_reducible rfl
                                  rotate_left
                                  · simp only [Act.put, List.setIfInBounds_toArray, List.set_cons_zero, List.set_cons_succ, i64_w, i32_w]
                                    rfl
                                  refine pure_ (i := 17) (N := some 123) (v := undef) (a' := ?_) (upB 48 18) rfl rfl (any_of HT_.out (by kernel_rfl)) (fun _ _ _ h => h) (Or.inr ⟨by rfl, rfl⟩) ?_ ?_
                                  rotate_left
                                  · simp only [Act.put, List.setIfInBounds_toArray, List.set_cons_zero, List.set_cons_succ, i64_w, i32_w]
                                    rfl
                                  refine pure_ (i := 18) (N := some 124) (v := undef) (a' := ?_) (upB 48 19) rfl rfl (any_of HT_.out (by kernel_rfl)) (fun _ _ _ h => h) (Or.inr ⟨by rfl, rfl⟩) ?_ ?_
                                  rotate_left
                                  · simp only [Act.put, List.setIfInBounds_toArray, List.set_cons_zero, List.set_cons_succ, i64_w, i32_w]
                                    rfl
                                  refine pure_ (i := 19) (N := some 125) (v := undef) (a' := ?_) (upB 48 20) rfl rfl (any_of HT_.out (by kernel_rfl)) (fun _ _ _ h => h) (Or.inr ⟨by rfl, rfl⟩) ?_ ?_
                                  rotate_left
                                  · simp only [Act.put, List.setIfInBounds_toArray, List.set_cons_zero, List.set_cons_succ, i64_w, i32_w]
                                    rfl
                                  refine pure_ (i := 20) (N := some 126) (v := undef) (a' := ?_) (upB 48 21) rfl rfl (any_of HT_.out (by kernel_rfl)) (fun _ _ _ h => h) (Or.inr ⟨by rfl, rfl⟩) ?_ ?_
                                  rotate_left
                                  · simp only [Act.put, List.setIfInBounds_toArray, List.set_cons_zero, List.set_cons_succ, i64_w, i32_w]
                                    rfl
                                  refine pure_ (i := 21) (N := some 127) (v := undef) (a' := ?_) (upB 48 22) rfl rfl (any_of HT_.out (by kernel_rfl)) (fun _ _ _ h => h) (Or.inr ⟨by rfl, rfl⟩) ?_ ?_
                                  rotate_left
                                  · simp only [Act.put, List.setIfInBounds_toArray, List.set_cons_zero, List.set_cons_succ, i64_w, i32_w]
                                    rfl
                                  refine pure_ (i := 22) (N := some 128) (v := undef) (a' := ?_) (upB 48 23) rfl rfl (any_of HT_.out (by kernel_rfl)) (fun _ _ _ h => h) (Or.inr ⟨by rfl, rfl⟩) ?_ ?_
                                  rotate_left
                                  · simp only [Act.put, List.setIfInBounds_toArray, List.set_cons_zero, List.set_cons_succ, i64_w, i32_w]
                                    rfl
                                  refine pure_ (i := 23) (N := some 129) (v := undef) (a' := ?_) (upB 48 24) rfl rfl (any_of HT_.out (by kernel_rfl)) (fun _ _ _ h => h) (Or.inr ⟨by rfl, rfl⟩) ?_ ?_
                                  rotate_left
                                  · simp only [Act.put, List.setIfInBounds_toArray, List.set_cons_zero, List.set_cons_succ, i64_w, i32_w]
                                    rfl
                                  refine pure_ (i := 24) (N := some 130) (v := undef) (a' := ?_) (upB 48 25) rfl rfl (any_of HT_.out (by kernel_rfl)) (fun _ _ _ h => h) (Or.inr ⟨by rfl, rfl⟩) ?_ ?_
                                  rotate_left
                                  · simp only [Act.put, List.setIfInBounds_toArray, List.set_cons_zero, List.set_cons_succ, i64_w, i32_w]
                                    rfl
                                  refine pure_ (i := 25) (N := some 131) (v := undef) (a' := ?_) (upB 48 26) rfl rfl (any_of HT_.out (by kernel_rfl)) (fun _ _ _ h => h) (Or.inr ⟨by rfl, rfl⟩) ?_ ?_
                                  rotate_left
                                  · simp only [Act.put, List.setIfInBounds_toArray, List.set_cons_zero, List.set_cons_succ, i64_w, i32_w]
                                    rfl
                                  refine pure_ (i := 26) (N := some 132) (v := undef) (a' := ?_) (upB 48 27) rfl rfl (any_of HT_.out (by kernel_rfl)) (fun _ _ _ h => h) (Or.inr ⟨by rfl, rfl⟩) ?_ ?_
                                  rotate_left
                                  · simp only [Act.put, List.setIfInBounds_toArray, List.set_cons_zero, List.set_cons_succ, i64_w, i32_w]
                                    rfl
                                  refine pure_ (i := 27) (N := some 133) (v := undef) (a' := ?_) (upB 48 28) rfl rfl (any_of HT_.out (by kernel_rfl)) (fun _ _ _ h => h) (Or.inr ⟨by rfl, rfl⟩) ?_ ?_
                                  rotate_left
                                  · simp only [Act.put, List.setIfInBounds_toArray, List.set_cons_zero, List.set_cons_succ, i64_w, i32_w]
                                    rfl
                                  refine pure_ (i := 28) (N := some 134) (v := undef) (a' := ?_) (upB 48 29) rfl rfl (any_of HT_.out (by kernel_rfl)) (fun _ _ _ h => h) (Or.inr ⟨by rfl, rfl⟩) ?_ ?_
                                  rotate_left
                                  · simp only [Act.put, List.setIfInBounds_toArray, List.set_cons_zero, List.set_cons_succ, i64_w, i32_w]
                                    rfl
                                  refine pure_ (i := 29) (N := some 135) (v := undef) (a' := ?_) (upB 48 30) rfl rfl (any_of HT_.out (by kernel_rfl)) (fun _ _ _ h => h) (Or.inr ⟨by rfl, rfl⟩) ?_ ?_
                                  rotate_left
                                  · simp only [Act.put, List.setIfInBounds_toArray, List.set_cons_zero, List.set_cons_succ, i64_w, i32_w]
                                    rfl
                                  refine pure_ (i := 30) (N := some 136) (v := undef) (a' := ?_) (upB 48 31) rfl rfl (any_of HT_.out (by kernel_rfl)) (fun _ _ _ h => h) (Or.inr ⟨by rfl, rfl⟩) ?_ ?_
                                  rotate_left
                                  · simp only [Act.put, List.setIfInBounds_toArray, List.set_cons_zero, List.set_cons_succ, i64_w, i32_w]
                                    rfl
                                  refine pure_ (i := 31) (N := some 137) (v := ?_) (a' := ?_) (upB 48 32) rfl rfl (any_of HT_.out (by kernel_rfl)) (fun _ _ _ h => h) (Or.inl ⟨by rfl, ?_⟩) ?_ ?_
                                  rotate_left
                                  · intro w'
                                    go_simp
                                    with_reducible rfl
                                  rotate_left
                                  · simp only [Act.put, List.setIfInBounds_toArray, List.set_cons_zero, List.set_cons_succ, i64_w, i32_w]
                                    rfl
                                  refine pure_ (i := 32) (N := some 138) (v := ?_) (a' := ?_) (upB 48 33) rfl rfl (any_of HT_.out (by kernel_rfl)) (fun _ _ _ h => h) (Or.inl ⟨by rfl, ?_⟩) ?_ ?_
                                  rotate_left
                                  · intro w'
                                    go_simp
                                    with_reducible rfl
                                  rotate_left
                                  · simp only [Act.put, List.setIfInBounds_toArray, List.set_cons_zero, List.set_cons_succ, i64_w, i32_w]
                                    rfl
                                  refine pure_ (i := 33) (N := some 139) (v := undef) (a' := ?_) (upB 48 34) rfl rfl (any_of HT_.out (by kernel_rfl)) (fun _ _ _ h => h) (Or.inr ⟨by rfl, rfl⟩) ?_ ?_
                                  rotate_left
                                  · simp only [Act.put, List.setIfInBounds_toArray, List.set_cons_zero, List.set_cons_succ, i64_w, i32_w]
                                    rfl
                                  refine pure_ (i := 34) (N := some 140) (v := undef) (a' := ?_) (upB 48 35) rfl rfl (any_of HT_.out (by kernel_rfl)) (fun _ _ _ h => h) (Or.inr ⟨by rfl, rfl⟩) ?_ ?_
                                  rotate_left
                                  · simp only [Act.put, List.setIfInBounds_toArray, List.set_cons_zero, List.set_cons_succ, i64_w, i32_w]
                                    rfl
                                  refine pure_ (i := 35) (N := some 141) (v := undef) (a' := ?_) (upB 48 36) rfl rfl (any_of HT_.out (by kernel_rfl)) (fun _ _ _ h => h) (Or.inr ⟨by rfl, rfl⟩) ?_ ?_
                                  rotate_left
                                  · simp only [Act.put, List.setIfInBounds_toArray, List.set_cons_zero, List.set_cons_succ, i64_w, i32_w]
                                    rfl
                                  refine pure_ (i := 36) (N := some 142) (v := undef) (a' := ?_) (upB 48 37) rfl rfl (any_of HT_.out (by kernel_rfl)) (fun _ _ _ h => h) (Or.inr ⟨by rfl, rfl⟩) ?_ ?_
                                  rotate_left
                                  · simp only [Act.put, List.setIfInBounds_toArray, List.set_cons_zero, List.set_cons_succ, i64_w, i32_w]
                                    rfl
                                  refine pure_ (i := 37) (N := some 143) (v := undef) (a' := ?_) (upB 48 38) rfl rfl (any_of HT_.out (by kernel_rfl)) (fun _ _ _ h => h) (Or.inr ⟨by rfl, rfl⟩) ?_ ?_
                                  rotate_left
                                  · simp only [Act.put, List.setIfInBounds_toArray, List.set_cons_zero, List.set_cons_succ, i64_w, i32_w]
                                    rfl
                                  refine pure_ (i := 38) (N := some 144) (v := undef) (a' := ?_) (upB 48 39) rfl rfl (any_of HT_.out (by kernel_rfl)) (fun _ _ _ h => h) (Or.inr ⟨by rfl, rfl⟩) ?_ ?_
                                  rotate_left
                                  · simp only [Act.put, List.setIfInBounds_toArray, List.set_cons_zero, List.set_cons_succ, i64_w, i32_w]
                                    rfl
                                  refine pure_ (i := 39) (N := some 145) (v := undef) (a' := ?_) (upB 48 40) rfl rfl (any_of HT_.out (by kernel_rfl)) (fun _ _ _ h => h) (Or.inr ⟨by rfl, rfl⟩) ?_ ?_
                                  rotate_left
                                  · simp only [Act.put, List.setIfInBounds_toArray, List.set_cons_zero, List.set_cons_succ, i64_w, i32_w]
                                    rfl
                                  refine pure_ (i := 40) (N := some 146) (v := undef) (a' := ?_) (upB 48 41) rfl rfl (any_of HT_.out (by kernel_rfl)) (fun _ _ _ h => h) (Or.inr ⟨by rfl, rfl⟩) ?_ ?_
                                  rotate_left
                                  · simp only [Act.put, List.setIfInBounds_toArray, List.set_cons_zero, List.set_cons_succ, i64_w, i32_w]
                                    rfl
                                  refine pure_ (i := 41) (N := some 147) (v := undef) (a' := ?_) (upB 48 42) rfl rfl (any_of HT_.out (by kernel_rfl)) (fun _ _ _ h => h) (Or.inr ⟨by rfl, rfl⟩) ?_ ?_
                                  rotate_left
                                  · simp only [Act.put, List.setIfInBounds_toArray, List.set_cons_zero, List.set_cons_succ, i64_w, i32_w]
                                    rfl
                                  refine pure_ (i := 42) (N := some 148) (v := undef) (a' := ?_) (upB 48 43) rfl rfl (any_of HT_.out (by kernel_rfl)) (fun _ _ _ h => h) (Or.inr ⟨by rfl, rfl⟩) ?_ ?_
                                  rotate_left
                                  · simp only [Act.put, List.setIfInBounds_toArray, List.set_cons_zero, List.set_cons_succ, i64_w, i32_w]
                                    rfl
                                  refine pure_ (i := 43) (N := some 149) (v := undef) (a' := ?_) (upB 48 44) rfl rfl (any_of HT_.out (by kernel_rfl)) (fun _ _ _ h => h) (Or.inr ⟨by rfl, rfl⟩) ?_ ?_
                                  rotate_left
                                  · simp only [Act.put, List.setIfInBounds_toArray, List.set_cons_zero, List.set_cons_succ, i64_w, i32_w]
                                    rfl
                                  refine pure_ (i := 44) (N := some 150) (v := undef) (a' := ?_) (upB 48 45) rfl rfl (any_of HT_.out (by kernel_rfl)) (fun _ _ _ h => h) (Or.inr ⟨by rfl, rfl⟩) ?_ ?_
                                  rotate_left
                                  · simp only [Act.put, List.setIfInBounds_toArray, List.set_cons_zero, List.set_cons_succ, i64_w, i32_w]
                                    rfl
                                  refine pure_ (i := 45) (N := some 151) (v := undef) (a' := ?_) (upB 48 46) rfl rfl (any_of HT_.out (by kernel_rfl)) (fun _ _ _ h => h) (Or.inr ⟨by rfl, rfl⟩) ?_ ?_
                                  rotate_left
                                  · simp only [Act.put, List.setIfInBounds_toArray, List.set_cons_zero, List.set_cons_succ, i64_w, i32_w]
                                    rfl
                                  refine pure_ (i := 46) (N := some 152) (v := undef) (a' := ?_) (upB 48 47) rfl rfl (any_of HT_.out (by kernel_rfl)) (fun _ _ _ h => h) (Or.inr ⟨by rfl, rfl⟩) ?_ ?_
                                  rotate_left
                                  · simp only [Act.put, List.setIfInBounds_toArray, List.set_cons_zero, List.set_cons_succ, i64_w, i32_w]
                                    rfl
                                  refine pure_ (i := 47) (N := some 153) (v := ?_) (a' := ?_) (upB 48 48) rfl rfl (any_of HT_.out (by kernel_rfl)) (fun _ _ _ h => h) (Or.inl ⟨by rfl, ?_⟩) ?_ ?_
                                  rotate_left
                                  · intro w'
                                    go_simp
                                    with_reducible rfl
                                  rotate_left
                                  · simp only [Act.put, List.setIfInBounds_toArray, List.set_cons_zero, List.set_cons_succ, i64_w, i32_w]
                                    rfl
                                  refine done_ (done_of HT_.out (by kernel_rfl)) ?_
                                  refine NoPanic.normal ?_
                                  try go_wp2
                                  go_meet
                                  case rel => exact ⟨_, rfl, BN.out, Or.inl ⟨rfl, by have h2 := H.out;  exact (Option.some.inj h2).symm⟩⟩
                              · have f0 : (hh.2 == 0) = false := beq_eq_false_iff_ne.mpr h0
                                have f0' : (hh.2 != 0) = true := bne_iff_ne.mpr h0
                                have h2 := H.out
                                clear H
                                rw [if_neg h0] at h2
                                have H := Aside0.mk h2
                                clear h2 h0
                                refine wp_region_noPanic ?_
                                refine start_ (n := 48) (S := Sx w.heap.size g8 n1 B1 l1.length d1 p.1 (.slice Av p.2.1.length cv) (ad.add (i * 3)) ⟨(ad.add (i * 3)).block, (ad.add (i * 3)).off + 1, none⟩ ⟨(ad.add (i * 3)).block, (ad.add (i * 3)).off + 2, none⟩ x A2 cc2) (ds := []) (upB 48 0) (by kernel_rfl) rfl (by kernel_rfl) ((HBn.out.below (below_drew (Below.refl _ _))).cells y0 y1 y2 : Sx w.heap.size g8 n1 B1 l1.length d1 p.1 (.slice Av p.2.1.length cv) (ad.add (i * 3)) ⟨(ad.add (i * 3)).block, (ad.add (i * 3)).off + 1, none⟩ ⟨(ad.add (i * 3)).block, (ad.add (i * 3)).off + 2, none⟩ x A2 cc2 wc.drew) (fun hHeld => ?_)
                                have BN := Aside0.mk (show Bun w wc.drew w.heap.size g8 n1 B1 d1 l1 p.1 (.slice Av p.2.1.length cv) p.2.1 from HBn.out.below (below_drew (Below.refl _ _)))
                                refine with_tabW sp_tab18 sp_bits18 (fun HT_ HW_ => ?_)
                                generalize wc.drew = wd at *
                                refine pure_ (i := 0) (N := some 106) (v := ?_) (a' := ?_) (upB 48 1) rfl rfl (any_of HT_.out (by kernel_rfl)) (fun _ _ _ h => h) (Or.inl ⟨by rfl, ?_⟩) ?_ ?_
                                rotate_left
                                · intro w'
                                  go_simp
                                  with_reducible rfl
                                rotate_left
                                · simp only [Act.put, List.setIfInBounds_toArray, List.set_cons_zero, List.set_cons_succ, i64_w, i32_w]
                                  rfl
                                refine pure_ (i := 1) (N := some 107) (v := ?_) (a' := ?_) (upB 48 2) rfl rfl (any_of HT_.out (by kernel_rfl)) (fun _ _ _ h => h) (Or.inl ⟨by rfl, ?_⟩) ?_ ?_
                                rotate_left
                                · intro w'
                                  go_simp
                                  with_reducible rfl
                                rotate_left
                                · simp only [Act.put, List.setIfInBounds_toArray, List.set_cons_zero, List.set_cons_succ, i64_w, i32_w]
                                  rfl
                                refine pure_ (i := 2) (N := some 108) (v := ?_) (a' := ?_) (upB 48 3) rfl rfl (any_of HT_.out (by kernel_rfl)) (fun _ _ _ h => h) (Or.inl ⟨by rfl, ?_⟩) ?_ ?_
                                rotate_left
                                · intro w'
                                  go_simp
                                  with_reducible rfl
                                rotate_left
                                · simp only [Act.put, List.setIfInBounds_toArray, List.set_cons_zero, List.set_cons_succ, i64_w, i32_w]
                                  rfl
                                refine pure_ (i := 3) (N := some 109) (v := undef) (a' := ?_) (upB 48 4) rfl rfl (any_of HT_.out (by kernel_rfl)) (fun _ _ _ h => h) (Or.inr ⟨by rfl, rfl⟩) ?_ ?_
                                rotate_left
                                · simp only [Act.put, List.setIfInBounds_toArray, List.set_cons_zero, List.set_cons_succ, i64_w, i32_w]
                                  rfl
                                refine pure_ (i := 4) (N := some 110) (v := undef) (a' := ?_) (upB 48 5) rfl rfl (any_of HT_.out (by kernel_rfl)) (fun _ _ _ h => h) (Or.inr ⟨by rfl, rfl⟩) ?_ ?_
                                rotate_left
                                · simp only [Act.put, List.setIfInBounds_toArray, List.set_cons_zero, List.set_cons_succ, i64_w, i32_w]
                                  rfl
                                refine pure_ (i := 5) (N := some 111) (v := undef) (a' := ?_) (upB 48 6) rfl rfl (any_of HT_.out (by kernel_rfl)) (fun _ _ _ h => h) (Or.inr ⟨by rfl, rfl⟩) ?_ ?_
                                rotate_left
                                · simp only [Act.put, List.setIfInBounds_toArray, List.set_cons_zero, List.set_cons_succ, i64_w, i32_w]
                                  rfl
                                refine pure_ (i := 6) (N := some 112) (v := undef) (a' := ?_) (upB 48 7) rfl rfl (any_of HT_.out (by kernel_rfl)) (fun _ _ _ h => h) (Or.inr ⟨by rfl, rfl⟩) ?_ ?_
                                rotate_left
                                · simp only [Act.put, List.setIfInBounds_toArray, List.set_cons_zero, List.set_cons_succ, i64_w, i32_w]
                                  rfl
                                refine pure_ (i := 7) (N := some 113) (v := undef) (a' := ?_) (upB 48 8) rfl rfl (any_of HT_.out (by kernel_rfl)) (fun _ _ _ h => h) (Or.inr ⟨by rfl, rfl⟩) ?_ ?_
                                rotate_left
                                · simp only [Act.put, List.setIfInBounds_toArray, List.set_cons_zero, List.set_cons_succ, i64_w, i32_w]
                                  rfl
                                refine pure_ (i := 8) (N := some 114) (v := undef) (a' := ?_) (upB 48 9) rfl rfl (any_of HT_.out (by kernel_rfl)) (fun _ _ _ h => h) (Or.inr ⟨by rfl, rfl⟩) ?_ ?_
                                rotate_left
                                · simp only [Act.put, List.setIfInBounds_toArray, List.set_cons_zero, List.set_cons_succ, i64_w, i32_w]
                                  rfl
                                refine pure_ (i := 9) (N := some 115) (v := undef) (a' := ?_) (upB 48 10) rfl rfl (any_of HT_.out (by kernel_rfl)) (fun _ _ _ h => h) (Or.inr ⟨by rfl, rfl⟩) ?_ ?_
                                rotate_left
                                · simp only [Act.put, List.setIfInBounds_toArray, List.set_cons_zero, List.set_cons_succ, i64_w, i32_w]
                                  rfl
                                refine pure_ (i := 10) (N := some 116) (v := ?_) (a' := ?_) (upB 48 11) rfl rfl (any_of HT_.out (by kernel_rfl)) (fun _ _ _ h => h) (Or.inl ⟨by rfl, ?_⟩) ?_ ?_
                                rotate_left
                                · intro w'
                                  go_simp
                                  with_reducible rfl
                                rotate_left
                                · simp only [Act.put, List.setIfInBounds_toArray, List.set_cons_zero, List.set_cons_succ, i64_w, i32_w]
                                  rfl
                                refine pure_ (i := 11) (N := some 117) (v := ?_) (a' := ?_) (upB 48 12) rfl rfl (any_of HT_.out (by kernel_rfl)) (fun _ _ _ h => h) (Or.inl ⟨by rfl, ?_⟩) ?_ ?_
                                rotate_left
                                · intro w'
                                  go_simp
                                  with_reducible rfl
                                rotate_left
                                · simp only [Act.put, List.setIfInBounds_toArray, List.set_cons_zero, List.set_cons_succ, i64_w, i32_w]
                                  rfl
                                refine pure_ (i := 12) (N := some 118) (v := undef) (a' := ?_) (upB 48 13) rfl rfl (any_of HT_.out (by kernel_rfl)) (fun _ _ _ h => h) (Or.inr ⟨by rfl, rfl⟩) ?_ ?_
                                rotate_left
                                · simp only [Act.put, List.setIfInBounds_toArray, List.set_cons_zero, List.set_cons_succ, i64_w, i32_w]
                                  rfl
                                refine pure_ (i := 13) (N := some 119) (v := undef) (a' := ?_) (upB 48 14) rfl rfl (any_of HT_.out (by kernel_rfl)) (fun _ _ _ h => h) (Or.inr ⟨by rfl, rfl⟩) ?_ ?_
                                rotate_left
                                · simp only [Act.put, List.setIfInBounds_toArray, List.set_cons_zero, List.set_cons_succ, i64_w, i32_w]
                                  rfl
                                refine pure_ (i := 14) (N := some 120) (v := undef) (a' := ?_) (upB 48 15) rfl rfl (any_of HT_.out (by kernel_rfl)) (fun _ _ _ h => h) (Or.inr ⟨by rfl, rfl⟩) ?_ ?_
                                rotate_left
                                · simp only [Act.put, List.setIfInBounds_toArray, List.set_cons_zero, List.set_cons_succ, i64_w, i32_w]
                                  rfl
                                refine pure_ (i := 15) (N := some 121) (v := ?_) (a' := ?_) (upB 48 16) rfl rfl (any_of HT_.out (by kernel_rfl)) (fun _ _ _ h => h) (Or.inl ⟨by rfl, ?_⟩) ?_ ?_
                                rotate_left
                                · intro w'
                                  go_simp
                                  with_reducible rfl
                                rotate_left
                                · simp only [Act.put, List.setIfInBounds_toArray, List.set_cons_zero, List.set_cons_succ, i64_w, i32_w]
                                  rfl
                                refine pure_ (i := 16) (N := some 122) (v := ?_) (a' := ?_) (upB 48 17) rfl rfl (any_of HT_.out (by kernel_rfl)) (fun _ _ _ h => h) (Or.inl ⟨by rfl, ?_⟩) ?_ ?_
                                rotate_left
                                · intro w'
                                  go_simp
                                  with_reducible rfl
                                rotate_left
                                · simp only [Act.put, List.setIfInBounds_toArray, List.set_cons_zero, List.set_cons_succ, i64_w, i32_w]
                                  rfl
                                refine pure_ (i := 17) (N := some 123) (v := undef) (a' := ?_) (upB 48 18) rfl rfl (any_of HT_.out (by kernel_rfl)) (fun _ _ _ h => h) (Or.inr ⟨by rfl, rfl⟩) ?_ ?_
                                rotate_left
                                · simp only [Act.put, List.setIfInBounds_toArray, List.set_cons_zero, List.set_cons_succ, i64_w, i32_w]
                                  rfl
                                refine pure_ (i := 18) (N := some 124) (v := undef) (a' := ?_) (upB 48 19) rfl rfl (any_of HT_.out (by kernel_rfl)) (fun _ _ _ h => h) (Or.inr ⟨by rfl, rfl⟩) ?_ ?_
                                rotate_left
                                · simp only [Act.put, List.setIfInBounds_toArray, List.set_cons_zero, List.set_cons_succ, i64_w, i32_w]
                                  rfl
                                refine pure_ (i := 19) (N := some 125) (v := undef) (a' := ?_) (upB 48 20) rfl rfl (any_of HT_.out (by kernel_rfl)) (fun _ _ _ h => h) (Or.inr ⟨by rfl, rfl⟩) ?_ ?_
                                rotate_left
                                · simp only [Act.put, List.setIfInBounds_toArray, List.set_cons_zero, List.set_cons_succ, i64_w, i32_w]
                                  rfl
                                refine pure_ (i := 20) (N := some 126) (v := undef) (a' := ?_) (upB 48 21) rfl rfl (any_of HT_.out (by kernel_rfl)) (fun _ _ _ h => h) (Or.inr ⟨by rfl, rfl⟩) ?_ ?_
                                rotate_left
                                · simp only [Act.put, List.setIfInBounds_toArray, List.set_cons_zero, List.set_cons_succ, i64_w, i32_w]
                                  rfl
                                refine pure_ (i := 21) (N := some 127) (v := undef) (a' := ?_) (upB 48 22) rfl rfl (any_of HT_.out (by kernel_rfl)) (fun _ _ _ h => h) (Or.inr ⟨by rfl, rfl⟩) ?_ ?_
                                rotate_left
                                · simp only [Act.put, List.setIfInBounds_toArray, List.set_cons_zero, List.set_cons_succ, i64_w, i32_w]
                                  rfl
                                refine pure_ (i := 22) (N := some 128) (v := undef) (a' := ?_) (upB 48 23) rfl rfl (any_of HT_.out (by kernel_rfl)) (fun _ _ _ h => h) (Or.inr ⟨by rfl, rfl⟩) ?_ ?_
                                rotate_left
                                · simp only [Act.put, List.setIfInBounds_toArray, List.set_cons_zero, List.set_cons_succ, i64_w, i32_w]
                                  rfl
                                refine pure_ (i := 23) (N := some 129) (v := undef) (a' := ?_) (upB 48 24) rfl rfl (any_of HT_.out (by kernel_rfl)) (fun _ _ _ h => h) (Or.inr ⟨by rfl, rfl⟩) ?_ ?_
                                rotate_left
                                · simp only [Act.put, List.setIfInBounds_toArray, List.set_cons_zero, List.set_cons_succ, i64_w, i32_w]
                                  rfl
                                refine pure_ (i := 24) (N := some 130) (v := undef) (a' := ?_) (upB 48 25) rfl rfl (any_of HT_.out (by kernel_rfl)) (fun _ _ _ h => h) (Or.inr ⟨by rfl, rfl⟩) ?_ ?_
                                rotate_left
                                · simp only [Act.put, List.setIfInBounds_toArray, List.set_cons_zero, List.set_cons_succ, i64_w, i32_w]
                                  rfl
                                refine pure_ (i := 25) (N := some 131) (v := undef) (a' := ?_) (upB 48 26) rfl rfl (any_of HT_.out (by kernel_rfl)) (fun _ _ _ h => h) (Or.inr ⟨by rfl, rfl⟩) ?_ ?_
                                rotate_left
                                · simp only [Act.put, List.setIfInBounds_toArray, List.set_cons_zero, List.set_cons_succ, i64_w, i32_w]
                                  rfl
                                refine pure_ (i := 26) (N := some 132) (v := undef) (a' := ?_) (upB 48 27) rfl rfl (any_of HT_.out (by kernel_rfl)) (fun _ _ _ h => h) (Or.inr ⟨by rfl, rfl⟩) ?_ ?_
                                rotate_left
                                · simp only [Act.put, List.setIfInBounds_toArray, List.set_cons_zero, List.set_cons_succ, i64_w, i32_w]
                                  rfl
                                refine pure_ (i := 27) (N := some 133) (v := undef) (a' := ?_) (upB 48 28) rfl rfl (any_of HT_.out (by kernel_rfl)) (fun _ _ _ h => h) (Or.inr ⟨by rfl, rfl⟩) ?_ ?_
                                rotate_left
                                · simp only [Act.put, List.setIfInBounds_toArray, List.set_cons_zero, List.set_cons_succ, i64_w, i32_w]
                                  rfl
                                refine pure_ (i := 28) (N := some 134) (v := undef) (a' := ?_) (upB 48 29) rfl rfl (any_of HT_.out (by kernel_rfl)) (fun _ _ _ h => h) (Or.inr ⟨by rfl, rfl⟩) ?_ ?_
                                rotate_left
                                · simp only [Act.put, List.setIfInBounds_toArray, List.set_cons_zero, List.set_cons_succ, i64_w, i32_w]
                                  rfl
                                refine pure_ (i := 29) (N := some 135) (v := undef) (a' := ?_) (upB 48 30) rfl rfl (any_of HT_.out (by kernel_rfl)) (fun _ _ _ h => h) (Or.inr ⟨by rfl, rfl⟩) ?_ ?_
                                rotate_left
                                · simp only [Act.put, List.setIfInBounds_toArray, List.set_cons_zero, List.set_cons_succ, i64_w, i32_w]
                                  rfl
                                refine pure_ (i := 30) (N := some 136) (v := undef) (a' := ?_) (upB 48 31) rfl rfl (any_of HT_.out (by kernel_rfl)) (fun _ _ _ h => h) (Or.inr ⟨by rfl, rfl⟩) ?_ ?_
                                rotate_left
                                · simp only [Act.put, List.setIfInBounds_toArray, List.set_cons_zero, List.set_cons_succ, i64_w, i32_w]
                                  rfl
                                refine pure_ (i := 31) (N := some 137) (v := ?_) (a' := ?_) (upB 48 32) rfl rfl (any_of HT_.out (by kernel_rfl)) (fun _ _ _ h => h) (Or.inl ⟨by rfl, ?_⟩) ?_ ?_
                                rotate_left
                                · intro w'
                                  go_simp
                                  with_reducible rfl
                                rotate_left
                                · simp only [Act.put, List.setIfInBounds_toArray, List.set_cons_zero, List.set_cons_succ, i64_w, i32_w]
                                  rfl
                                refine pure_ (i := 32) (N := some 138) (v := ?_) (a' := ?_) (upB 48 33) rfl rfl (any_of HT_.out (by kernel_rfl)) (fun _ _ _ h => h) (Or.inl ⟨by rfl, ?_⟩) ?_ ?_
                                rotate_left
                                · intro w'
                                  go_simp
                                  with_reducible rfl
                                rotate_left
                                · simp only [Act.put, List.setIfInBounds_toArray, List.set_cons_zero, List.set_cons_succ, i64_w, i32_w]
                                  rfl
                                refine pure_ (i := 33) (N := some 139) (v := undef) (a' := ?_) (upB 48 34) rfl rfl (any_of HT_.out (by kernel_rfl)) (fun _ _ _ h => h) (Or.inr ⟨by rfl, rfl⟩) ?_ ?_
                                rotate_left
                                · simp only [Act.put, List.setIfInBounds_toArray, List.set_cons_zero, List.set_cons_succ, i64_w, i32_w]
                                  rfl
                                refine pure_ (i := 34) (N := some 140) (v := undef) (a' := ?_) (upB 48 35) rfl rfl (any_of HT_.out (by kernel_rfl)) (fun _ _ _ h => h) (Or.inr ⟨by rfl, rfl⟩) ?_ ?_
                                rotate_left
                                · simp only [Act.put, List.setIfInBounds_toArray, List.set_cons_zero, List.set_cons_succ, i64_w, i32_w]
                                  rfl
                                refine pure_ (i := 35) (N := some 141) (v := undef) (a' := ?_) (upB 48 36) rfl rfl (any_of HT_.out (by kernel_rfl)) (fun _ _ _ h => h) (Or.inr ⟨by rfl, rfl⟩) ?_ ?_
                                rotate_left
                                · simp only [Act.put, List.setIfInBounds_toArray, List.set_cons_zero, List.set_cons_succ, i64_w, i32_w]
                                  rfl
                                refine pure_ (i := 36) (N := some 142) (v := undef) (a' := ?_) (upB 48 37) rfl rfl (any_of HT_.out (by kernel_rfl)) (fun _ _ _ h => h) (Or.inr ⟨by rfl, rfl⟩) ?_ ?_
                                rotate_left
                                · simp only [Act.put, List.setIfInBounds_toArray, List.set_cons_zero, List.set_cons_succ, i64_w, i32_w]
                                  rfl
                                refine pure_ (i := 37) (N := some 143) (v := undef) (a' := ?_) (upB 48 38) rfl rfl (any_of HT_.out (by kernel_rfl)) (fun _ _ _ h => h) (Or.inr ⟨by rfl, rfl⟩) ?_ ?_
                                rotate_left
                                · simp only [Act.put, List.setIfInBounds_toArray, List.set_cons_zero, List.set_cons_succ, i64_w, i32_w]
                                  rfl
                                refine pure_ (i := 38) (N := some 144) (v := undef) (a' := ?_) (upB 48 39) rfl rfl (any_of HT_.out (by kernel_rfl)) (fun _ _ _ h => h) (Or.inr ⟨by rfl, rfl⟩) ?_ ?_
                                rotate_left
                                · simp only [Act.put, List.setIfInBounds_toArray, List.set_cons_zero, List.set_cons_succ, i64_w, i32_w]
                                  rfl
                                refine pure_ (i := 39) (N := some 145) (v := undef) (a' := ?_) (upB 48 40) rfl rfl (any_of HT_.out (by kernel_rfl)) (fun _ _ _ h => h) (Or.inr ⟨by rfl, rfl⟩) ?_ ?_
                                rotate_left
                                · simp only [Act.put, List.setIfInBounds_toArray, List.set_cons_zero, List.set_cons_succ, i64_w, i32_w]
                                  rfl
                                refine pure_ (i := 40) (N := some 146) (v := undef) (a' := ?_) (upB 48 41) rfl rfl (any_of HT_.out (by kernel_rfl)) (fun _ _ _ h => h) (Or.inr ⟨by rfl, rfl⟩) ?_ ?_
                                rotate_left
                                · simp only [Act.put, List.setIfInBounds_toArray, List.set_cons_zero, List.set_cons_succ, i64_w, i32_w]
                                  rfl
                                refine pure_ (i := 41) (N := some 147) (v := undef) (a' := ?_) (upB 48 42) rfl rfl (any_of HT_.out (by kernel_rfl)) (fun _ _ _ h => h) (Or.inr ⟨by rfl, rfl⟩) ?_ ?_
                                rotate_left
                                · simp only [Act.put, List.setIfInBounds_toArray, List.set_cons_zero, List.set_cons_succ, i64_w, i32_w]
                                  rfl
                                refine pure_ (i := 42) (N := some 148) (v := undef) (a' := ?_) (upB 48 43) rfl rfl (any_of HT_.out (by kernel_rfl)) (fun _ _ _ h => h) (Or.inr ⟨by rfl, rfl⟩) ?_ ?_
                                rotate_left
                                · simp only [Act.put, List.setIfInBounds_toArray, List.set_cons_zero, List.set_cons_succ, i64_w, i32_w]
                                  rfl
                                refine pure_ (i := 43) (N := some 149) (v := undef) (a' := ?_) (upB 48 44) rfl rfl (any_of HT_.out (by kernel_rfl)) (fun _ _ _ h => h) (Or.inr ⟨by rfl, rfl⟩) ?_ ?_
                                rotate_left
                                · simp only [Act.put, List.setIfInBounds_toArray, List.set_cons_zero, List.set_cons_succ, i64_w, i32_w]
                                  rfl
                                refine pure_ (i := 44) (N := some 150) (v := undef) (a' := ?_) (upB 48 45) rfl rfl (any_of HT_.out (by kernel_rfl)) (fun _ _ _ h => h) (Or.inr ⟨by rfl, rfl⟩) ?_ ?_
                                rotate_left
                                · simp only [Act.put, List.setIfInBounds_toArray, List.set_cons_zero, List.set_cons_succ, i64_w, i32_w]
                                  rfl
                                refine pure_ (i := 45) (N := some 151) (v := undef) (a' := ?_) (upB 48 46) rfl rfl (any_of HT_.out (by kernel_rfl)) (fun _ _ _ h => h) (Or.inr ⟨by rfl, rfl⟩) ?_ ?_
                                rotate_left
                                · simp only [Act.put, List.setIfInBounds_toArray, List.set_cons_zero, List.set_cons_succ, i64_w, i32_w]
                                  rfl
                                refine pure_ (i := 46) (N := some 152) (v := undef) (a' := ?_) (upB 48 47) rfl rfl (any_of HT_.out (by kernel_rfl)) (fun _ _ _ h => h) (Or.inr ⟨by rfl, rfl⟩) ?_ ?_
                                rotate_left
                                · simp only [Act.put, List.setIfInBounds_toArray, List.set_cons_zero, List.set_cons_succ, i64_w, i32_w]
                                  rfl
                                refine pure_ (i := 47) (N := some 153) (v := ?_) (a' := ?_) (upB 48 48) rfl rfl (any_of HT_.out (by kernel_rfl)) (fun _ _ _ h => h) (Or.inl ⟨by rfl, ?_⟩) ?_ ?_
                                rotate_left
                                · intro w'
                                  go_simp
                                  with_reducible rfl
                                rotate_left
                                · simp only [Act.put, List.setIfInBounds_toArray, List.set_cons_zero, List.set_cons_succ, i64_w, i32_w]
                                  rfl
                                refine done_ (done_of HT_.out (by kernel_rfl)) ?_
                                refine NoPanic.normal ?_
                                try go_wp2
                                go_meet
                                case rel => exact ⟨_, rfl, BN.out, Or.inl ⟨rfl, by have h2 := H.out;  exact (Option.some.inj h2).symm⟩⟩
                            case rest =>
                              obtain ⟨bad, rfl, hBun, hor⟩ := hcut
                              clear HBn
                              cases bad with
                              | true =>
                                have hr : r = false := by
                                  rcases hor with h | h
                                  · exact h.2
                                  · cases h.1
                                subst hr
                                go_wp2
                                go_ret
                                exact ⟨rfl, hBun.2.2.2.2⟩
                              | false =>
                                have hs : spLoop k (cs.drop (i + 1)) p.1 p.2.1 = some r := by
                                  rcases hor with h | h
                                  · cases h.1
                                  · exact h.2
                                have c8_0 : wc.cell? ⟨g8, 0, none⟩ = some (.int .i64 p.1) := (blk_cell hBun.2.1 0).trans rfl
                                have c8_1 : wc.cell? ⟨g8, 1, none⟩ = some (.slice Av p.2.1.length cv) := (blk_cell hBun.2.1 1).trans rfl
                                have c2_0 : wc.cell? ⟨w.heap.size, 0, none⟩ = some (.int .i64 n1) := (blk_cell hBun.1 0).trans rfl
                                have c2_1 : wc.cell? ⟨w.heap.size, 1, none⟩ = some (.slice B1 l1.length d1) := (blk_cell hBun.1 1).trans rfl
                                have f2_0 := blk_frozen hBun.1 0
                                have f2_1 := blk_frozen hBun.1 1
                                have z1 := blk_put (cs' := #[.int .i64 p.1, .slice Av p.2.1.length cv]) (blk_put (cs' := #[.int .i64 p.1, .slice B1 l1.length d1]) hBun.1 0 (.int .i64 p.1) rfl) 1 (.slice Av p.2.1.length cv) rfl
                                have z3 := Kd.F_far (p := ⟨w.heap.size, 1, none⟩) (Kd.F_far (p := ⟨w.heap.size, 0, none⟩) (Kd.R_F hBun.2.2.2.1) (fun k_ hk => hk) (.int .i64 p.1)) (fun k_ hk => hk) (.slice Av p.2.1.length cv)
                                have z4 := below_set (j := 1) (v := .slice Av p.2.1.length cv) (below_set (j := 0) (v := .int .i64 p.1) hBun.2.2.2.2 (Nat.le_refl _)) (Nat.le_refl _)
                                have z5 := (Kd.R_reads' hBun.2.2.2.1).2.1
                                have Z1 := Aside0.mk z1
                                have Z3 := Aside0.mk z3
                                have Z4 := Aside0.mk z4
                                have HS := Aside0.mk hs
                                clear hBun hor hs z1 z3 z4 H
                                go_wp2
                                go_roundw
                                · exact ⟨i + 1, p.1, p.2.1, Av, cv, by simp, hlt, HS, Z1, Z3, z5, Z4⟩
                                · simp [intOf]; omega
                        · have h2 := H.out
                          clear H
                          rw [if_neg he] at h2
                          have H := Aside0.mk h2
                          have e0 : (p.2.2 == 0) = false := beq_eq_false_iff_ne.mpr he
                          have e0' : (p.2.2 != 0) = true := bne_iff_ne.mpr he
                          clear h2
                          go_wp2
                          go_roundw
                          · exact ⟨i + 1, n1, l1, B1, d1, by simp, hlt, H, ⟨HBn.out.1⟩, ⟨HBn.out.2.2.1⟩, hd1, ⟨HBn.out.2.2.2.2⟩⟩
                          · simp [intOf]; omega
                · obtain rfl : i = cs.length := by omega
                  have h2 := H.out
                  clear H
                  rw [List.drop_eq_nil_of_le (Nat.le_refl _)] at h2
                  have HA := Aside0.mk (show paraphrastlaw01_alive.f k = some r from h2)
                  clear h2
                  go_wp2_with (fail)
                  refine (paraphrastlaw01_alive.calls k r _ (HG.out.below HB.out) HA.out).mono ?_
                  rintro e wz ⟨rfl, hbz⟩
                  go_wp2
                  go_ret
                  exact ⟨rfl, below_step HB.out hbz⟩
end Go.Proofs.YtfmpaofbnjlniaaDoor.F
/- ShapePut, the plain law. -/
namespace Go.Proofs.YtfmpaofbnjlniaaDoor.F
open Go.RowKit Go.Proofs.YtfmpaofbnjlniaaDoorW.PrintWords Go.Proofs.YtfmpaofbnjlniaaDoorW.PrintLast Go.Proofs.YtfmpaofbnjlniaaDoorW.PrintMore
set_option linter.unusedVariables false
theorem tups_sorted (n a : Int) (ts : List (List Int)) (h : tupsV n a ts ts.length 0 = true) : Sorted ts ∧ ∀ t ∈ ts, tupV n a t = true := by
  have hA := tupsV_all n a ts ts.length 0 h (by omega)
  have hT : ∀ t ∈ ts, tupV n a t = true := fun t ht => by
    obtain ⟨j, hj, rfl⟩ := List.getElem_of_mem ht
    exact (hA j hj (by omega)).1
  refine ⟨List.pairwise_iff_getElem.2 (fun i j hi hj hij => ?_), hT⟩
  have hl : ∀ (m : Nat) (hm : m < ts.length), (ts[m].length : Int) = a := fun m hm => (tupV_in n a _ (hT _ (List.getElem_mem hm))).1
  induction j with
  | zero => omega
  | succ j ih =>
    obtain ⟨_, h2⟩ := (hA (j + 1) hj (by omega)).2 (by omega)
    simp only [Nat.add_sub_cancel] at h2
    by_cases e : i = j
    · subst e; exact h2
    · have e1 := hl i hi
      have e2 := hl j (by omega)
      have e3 := hl (j + 1) hj
      exact lex_trans _ _ _ (by omega) (by omega) (ih (by omega) (by omega)) h2
theorem tupsV_mk (n a : Int) (ts : List (List Int)) (hs : Sorted ts) (hT : ∀ t ∈ ts, tupV n a t = true) : ∀ (d i : Nat), i + d = ts.length → tupsV n a ts d i = true
  | 0, i, h => rfl
  | d + 1, i, h => by
    have hi : i < ts.length := by omega
    unfold tupsV
    rw [rdL2_nat ts i hi, hT _ (List.getElem_mem hi), tupsV_mk n a ts hs hT d (i + 1) (by omega)]
    by_cases e : i = 0
    · simp [e]
    · have r2 : rd_L2 ts ((i : Int) - 1) = ts[i - 1]'(by omega) := by unfold rd_L2; rw [show ((i : Int) - 1).toNat = i - 1 by omega, List.getD_eq_getElem?_getD, List.getElem?_eq_getElem (by omega)]; rfl
      rw [r2, List.pairwise_iff_getElem.1 hs (i - 1) i (by omega) hi (by omega)]
      simp
theorem rels_names (n : Int) (l : List S54) : ∀ (d i : Nat), relsV n l d i = true → i + d = l.length → ∀ j (hj : j < l.length), i ≤ j → (l.take j).any (nameIs l[j].f0) = false
  | 0, i, _, h, j, hj, hi => by omega
  | d + 1, i, h, hl, j, hj, hi => by
    unfold relsV at h
    simp only [Bool.and_eq_true] at h
    by_cases e : j = i
    · subst e
      rw [rdT_nat l j hj] at h
      simpa using h.1.2
    · exact rels_names n l d (i + 1) h.2 (by omega) j hj (by omega)
theorem rels_mk (n : Int) (l : List S54) (h1 : ∀ j (hj : j < l.length), relV n l[j] = true) (h2 : ∀ j (hj : j < l.length), (l.take j).any (nameIs l[j].f0) = false) : ∀ (d i : Nat), i + d = l.length → relsV n l d i = true
  | 0, i, h => rfl
  | d + 1, i, h => by
    have hi : i < l.length := by omega
    unfold relsV
    rw [rdT_nat l i hi, h1 i hi, h2 i hi, rels_mk n l h1 h2 d (i + 1) (by omega)]
    rfl
theorem valid_parts (n : Int) (l : List S54) (h : validB n l = true) : (∀ j (hj : j < l.length), relV n l[j] = true) ∧ ∀ j (hj : j < l.length), (l.take j).any (nameIs l[j].f0) = false := by
  unfold validB at h
  simp only [Bool.and_eq_true] at h
  exact ⟨fun j hj => relsV_all n l l.length 0 h.2 (by omega) j hj (by omega), fun j hj => rels_names n l l.length 0 h.2 (by omega) j hj (by omega)⟩
theorem rel_sorted (n : Int) (r : S54) (h : relV n r = true) : Sorted r.f2 ∧ ∀ t ∈ r.f2, tupV n r.f1 t = true := by
  unfold relV at h
  simp only [Bool.and_eq_true] at h
  exact tups_sorted n r.f1 r.f2 h.2
theorem names_ne (n : Int) (l : List S54) (h : validB n l = true) (i j : Nat) (hij : i < j) (hj : j < l.length) : (l[i]'(by omega)).f0.toList ≠ l[j].f0.toList := by
  have := (valid_parts n l h).2 j hj
  rw [List.any_eq_false] at this
  have h2 := this (l[i]'(by omega)) (by rw [List.mem_iff_getElem]; exact ⟨i, by rw [List.length_take]; omega, by rw [List.getElem_take]⟩)
  unfold nameIs at h2
  simpa using h2
theorem find_at (n : Int) (l : List S54) (h : validB n l = true) (i : Nat) (hi : i < l.length) (m : Int) (hm : l[i].f1 = m) : shape_Find.f n l l[i].f0 m = some (i : Int) := by
  unfold shape_Find.f shape_Find_1_idx.f
  rw [Option.bind_some, fidx_at (List.getElem?_eq_getElem hi) (by unfold symIs; simp [hm]) (fun j y hj hy => by
    obtain ⟨hjl, rfl⟩ := List.getElem?_eq_some_iff.1 hy
    have := names_ne n l h j i hj hi
    unfold symIs
    rw [beq_eq_false_iff_ne.2 this]; rfl)]
theorem max_valid (n : Int) (l : List S54) (h : validB n l = true) : ∀ r ∈ l, r.f2.length ≤ 4096 := fun r hr => ((valid_facts n l h).2.2.2 r hr).2.2.2
theorem has_at (n : Int) (l : List S54) (h : validB n l = true) (i : Nat) (hi : i < l.length) (t : List Int) (ht : (t.length : Int) = l[i].f1) :
    ∃ (q : Nat) (b : Bool), PlaceOf l[i].f2 t q b ∧ (b = true ↔ t ∈ l[i].f2) ∧ (∀ k, 7000 ≤ k → shape_Has.f k n l l[i].f0 t = some (b, 0)) ∧ ∀ k, 7000 ≤ k → slices_BinarySearchFunc_int_int_int.f k l[i].f2 t = some ((q : Int), b) := by
  obtain ⟨h1, h2, h3, h4⟩ := valid_facts n l h
  obtain ⟨_, g1, g2, g3⟩ := h4 _ (List.getElem_mem hi)
  have hs := (rel_sorted n _ ((valid_parts n l h).1 i hi)).1
  have hl : ∀ a ∈ l[i].f2, a.length = t.length := fun a ha => by have := (g2 a ha).1; omega
  obtain ⟨q, b, hp, hb⟩ := search_eq l[i].f2 t t.length (by omega) rfl hl hs (by omega)
  refine ⟨q, b, hp, place_mem hp hs t.length rfl hl, fun k hk => ?_, hb⟩
  unfold shape_Has.f
  rw [valid_eq n l 4096 (by omega) (max_valid n l h) k (by omega), h, Option.bind_some, if_pos rfl, find_at n l h i hi _ ht.symm, Option.bind_some, if_neg (by omega), if_pos (by omega), if_pos (by omega), rdT_nat l i hi, hb k hk]
  rfl
theorem has_none (n : Int) (l : List S54) (h : validB n l = true) (nm : ByteArray) (t : List Int) (hn : ∀ r ∈ l, symIs nm t.length r = false) (k : Nat) (hk : 7000 ≤ k) : shape_Has.f k n l nm t = some (false, 4) := by
  unfold shape_Has.f
  rw [valid_eq n l 4096 (by omega) (max_valid n l h) k (by omega), h, Option.bind_some, if_pos rfl]
  unfold shape_Find.f shape_Find_1_idx.f
  rw [Option.bind_some, fidx_none (fun j y hj hy => hn y (List.mem_of_getElem? hy)), Option.bind_some, if_pos (by omega)]
theorem valid_set (n : Int) (l : List S54) (h : validB n l = true) (i : Nat) (hi : i < l.length) (ts : List (List Int)) (hs : Sorted ts) (hT : ∀ t ∈ ts, tupV n l[i].f1 t = true) : validB n (l.set i (putRel l[i] ts)) = true := by
  obtain ⟨p1, p2⟩ := valid_parts n l h
  have hf0 : ∀ j (hj : j < l.length), ((l.set i (putRel l[i] ts))[j]'(by simpa using hj)).f0 = l[j].f0 := fun j hj => by
    rw [List.getElem_set]; split
    · rename_i e; subst e; rfl
    · rfl
  unfold validB at h ⊢
  simp only [Bool.and_eq_true] at h ⊢
  refine ⟨by rw [List.length_set]; exact h.1, ?_⟩
  rw [List.length_set]
  refine rels_mk n _ (fun j hj => ?_) (fun j hj => ?_) l.length 0 (by simp)
  · rw [List.length_set] at hj
    rw [List.getElem_set]
    split
    · have := p1 i hi
      unfold relV at this ⊢
      simp only [Bool.and_eq_true] at this ⊢
      exact ⟨this.1, tupsV_mk n l[i].f1 ts hs hT ts.length 0 (by omega)⟩
    · exact p1 j hj
  · rw [List.length_set] at hj
    rw [hf0 j hj]
    have := p2 j hj
    rw [List.any_eq_false] at this ⊢
    intro r hr
    obtain ⟨m, hm, rfl⟩ := List.getElem_of_mem hr
    rw [List.length_take, List.length_set] at hm
    rw [List.getElem_take]
    have h2 := this (l[m]'(by omega)) (by rw [List.mem_iff_getElem]; exact ⟨m, by rw [List.length_take]; omega, by rw [List.getElem_take]⟩)
    unfold nameIs at h2 ⊢
    rw [hf0 m (by omega)]
    exact h2
theorem tup_of (n : Int) (t : List Int) (a : Int) (ha : (t.length : Int) = a) (ho : t.any (outB n) = false) : tupV n a t = true := by
  unfold tupV
  rw [decide_eq_true ha, ho]; rfl
theorem set_same (l : List S54) (i : Nat) (hi : i < l.length) : l.set i (putRel l[i] l[i].f2) = l := by
  have : putRel l[i] l[i].f2 = l[i] := rfl
  rw [this, List.set_getElem_self]
theorem put_at (n : Int) (l : List S54) (h : validB n l = true) (i : Nat) (hi : i < l.length) (t : List Int) (ht : (t.length : Int) = l[i].f1) (ho : t.any (outB n) = false) (ins : Bool) :
    ∃ ts : List (List Int), Sorted ts ∧ (∀ a ∈ ts, tupV n l[i].f1 a = true) ∧ (t ∈ ts ↔ ins = true) ∧ (∀ a ∈ ts, a ∈ l[i].f2 ∨ a = t) ∧ (∀ a ∈ l[i].f2, a ∈ ts ∨ a = t) ∧ ∀ k, 7000 ≤ k → shape_Put.f k n l l[i].f0 t ins = some (n, l.set i (putRel l[i] ts), 0) := by
  obtain ⟨q, b, hp, hb, hh, hq⟩ := has_at n l h i hi t ht
  obtain ⟨h1, h2, h3, h4⟩ := valid_facts n l h
  obtain ⟨_, g1, g2, g3⟩ := h4 _ (List.getElem_mem hi)
  obtain ⟨hs, hT⟩ := rel_sorted n _ ((valid_parts n l h).1 i hi)
  have hl : ∀ a ∈ l[i].f2, a.length = t.length := fun a ha => by have := (g2 a ha).1; omega
  have hcp : copyOk l ∧ t.length ≤ 100000 := ⟨⟨by omega, fun r hr => ⟨by have := max_valid n l h r hr; omega, fun x hx => by have := ((h4 r hr).2.2.1 x hx).1; have := (h4 r hr).2.1; omega⟩⟩, by omega⟩
  have hput : ∀ k, 7000 ≤ k → shape_Put.f k n l l[i].f0 t ins = putEnd n l (i : Int) (q : Int) t ins b := fun k hk => by
    unfold shape_Put.f
    rw [hh k hk, Option.bind_some]
    simp only [if_true]
    rw [elements_eq, ho, Option.bind_some, if_pos (show (!false) = true from rfl), if_pos hcp, find_at n l h i hi _ ht.symm, Option.bind_some, rdT_nat l i hi, hq k hk, Option.bind_some]
  have hin : (0 : Int) ≤ (i : Int) ∧ (i : Int) < (l.length : Int) := ⟨by omega, by omega⟩
  have hqn : ((q : Nat) : Int).toNat = q := Int.toNat_natCast q
  have htt := tup_of n t l[i].f1 ht ho
  unfold putEnd at hput
  rw [if_pos hin, rdT_nat l i hi, hqn, Int.toNat_natCast] at hput
  cases ins with
  | true =>
    cases b with
    | false =>
      have hnt : t ∉ l[i].f2 := fun e => by have := hb.2 e; cases this
      rw [if_pos (by rfl), if_pos ⟨by omega, by have := hp.1; omega⟩] at hput
      refine ⟨insAt l[i].f2 q t, ins_sorted hp hs t.length rfl hl hnt, fun a ha => ?_, ?_, fun a ha => ?_, fun a ha => ?_, hput⟩
      · rcases (ins_mem _ _ _ _).1 ha with rfl | ha
        · exact htt
        · exact hT a ha
      · simp [ins_mem]
      · exact ((ins_mem _ _ _ _).1 ha).elim Or.inr Or.inl
      · exact Or.inl ((ins_mem _ _ _ _).2 (Or.inr ha))
    | true =>
      rw [if_neg (by simp), if_neg (by simp)] at hput
      exact ⟨l[i].f2, hs, hT, by simp [hb.1 rfl], fun a ha => Or.inl ha, fun a ha => Or.inl ha, fun k hk => by rw [set_same l i hi]; exact hput k hk⟩
  | false =>
    cases b with
    | false =>
      have hnt : t ∉ l[i].f2 := fun e => by have := hb.2 e; cases this
      rw [if_neg (by simp), if_neg (by simp)] at hput
      exact ⟨l[i].f2, hs, hT, by simp [hnt], fun a ha => Or.inl ha, fun a ha => Or.inl ha, fun k hk => by rw [set_same l i hi]; exact hput k hk⟩
    | true =>
      obtain ⟨hql, hqe⟩ := hp.2.2.2.1 rfl
      rw [if_neg (by simp), if_pos (by rfl), if_pos ⟨by omega, by omega⟩] at hput
      refine ⟨delAt l[i].f2 q, List.Pairwise.sublist (del_sub _ _) hs, fun a ha => hT a ((del_sub _ _).subset ha), ?_, fun a ha => Or.inl ((del_sub _ _).subset ha), fun a ha => ?_, hput⟩
      · have := del_not hql hs
        rw [hqe] at this
        simp [this]
      · have := del_mem _ q hql a ha
        rwa [hqe] at this
/-! ### exceptOne -/
theorem equal_eq (x y : List Int) (hx : x.length ≤ 1000) (k : Nat) (hk : 1001 ≤ k) : paraphrastref01_Equal.f k x y = some (x == y) := by
  unfold paraphrastref01_Equal.f
  by_cases h : (x.length : Int) = (y.length : Int)
  · rw [if_pos h]
    exact equal_all x y (by omega) hx x.length 0 k (by omega) (by omega)
  · rw [if_neg h, beq_eq_false_iff_ne.2 (fun e => h (by rw [e]))]
theorem except_l1 (n n2 : Int) (l1 l2 : List S54) (hv : validB n2 l2 = true) (hlen : l1.length = l2.length) (h12 : l1.length ≤ 100) (nm : ByteArray) (t : List Int) (i : Nat) (hi : i < l1.length) (h0 : l2[i].f0 = l1[i].f0) (h1 : l2[i].f1 = l1[i].f1)
    (ha : ∀ a ∈ l1[i].f2, (a.length : Int) = l1[i].f1 ∧ a.length ≤ 1000 ∧ ((l1[i].f0.toList = nm.toList ∧ a = t) ∨ a ∈ l2[i].f2)) (hm : l1[i].f2.length ≤ 100000)
    (H : ∃ K, ∀ k, K ≤ k → paraphrastlaw01_exceptOne.l0 k nm t ((i + 1 : Nat) : Int) n l1 n2 l2 = some true) : ∀ (d j : Nat), j + d = l1[i].f2.length → ∃ K, ∀ k, K ≤ k → paraphrastlaw01_exceptOne.l1 k nm t (i : Int) (j : Int) n l1 n2 l2 = some true
  | 0, j, h => by
    obtain ⟨K, hK⟩ := H
    refine ⟨K + 1, fun k hk => ?_⟩
    obtain ⟨k, rfl⟩ : ∃ k', k = k' + 1 := ⟨k - 1, by omega⟩
    unfold paraphrastlaw01_exceptOne.l1
    (try dsimp only)
    rw [if_pos (by omega), if_pos (by omega), rdT_nat l1 i hi, if_neg (by omega), w64 (by omega) (by omega), show (i : Int) + 1 = ((i + 1 : Nat) : Int) by omega]
    exact hK k (by omega)
  | d + 1, j, h => by
    have hj : j < l1[i].f2.length := by omega
    obtain ⟨K, hK⟩ := except_l1 n n2 l1 l2 hv hlen h12 nm t i hi h0 h1 ha hm H d (j + 1) (by omega)
    obtain ⟨a1, a2, a3⟩ := ha _ (List.getElem_mem hj)
    have step : ∀ k, K + 8000 ≤ k → ∀ b, (b = true ∨ l1[i].f2[j] ∈ l2[i].f2) → paraphrastlaw01_exceptOne.j2 k nm t (i : Int) (j : Int) b n l1 n2 l2 = some true := fun k hk b hb => by
      obtain ⟨k, rfl⟩ : ∃ k', k = k' + 1 := ⟨k - 1, by omega⟩
      unfold paraphrastlaw01_exceptOne.j2
      (try dsimp only)
      cases b with
      | true =>
        rw [if_pos rfl, w64 (by omega) (by omega), show (j : Int) + 1 = ((j + 1 : Nat) : Int) by omega]
        exact hK k (by omega)
      | false =>
        have hmem := hb.resolve_left (by simp)
        obtain ⟨q, b, _, hbm, hh, _⟩ := has_at n2 l2 hv i (by omega) l1[i].f2[j] (by rw [h1]; exact a1)
        rw [if_neg (by simp), if_pos (by omega), if_pos (by omega), if_pos (by omega), rdT_nat l1 i hi, if_pos (by omega), rdL2_nat _ j hj, ← h0, hh k (by omega), hbm.2 hmem, Option.bind_some]
        simp only [if_true]
        rw [w64 (by omega) (by omega), show (j : Int) + 1 = ((j + 1 : Nat) : Int) by omega]
        exact hK k (by omega)
    refine ⟨K + 9000, fun k hk => ?_⟩
    obtain ⟨k, rfl⟩ : ∃ k', k = k' + 1 := ⟨k - 1, by omega⟩
    unfold paraphrastlaw01_exceptOne.l1
    (try dsimp only)
    rw [if_pos (by omega), if_pos (by omega), rdT_nat l1 i hi, if_pos (by omega)]
    by_cases hn : l1[i].f0.toList = nm.toList
    · rw [if_pos hn, if_pos (by omega), rdL2_nat _ j hj, equal_eq _ t a2 k (by omega), Option.bind_some]
      exact step k (by omega) _ (a3.imp (fun e => beq_iff_eq.2 e.2) (fun e => e))
    · rw [if_neg hn]
      exact step k (by omega) false (Or.inr (a3.resolve_left (fun e => hn e.1)))
theorem except_true (n n2 : Int) (l1 l2 : List S54) (hv : validB n2 l2 = true) (hlen : l1.length = l2.length) (h12 : l1.length ≤ 100) (nm : ByteArray) (t : List Int)
    (hA : ∀ (i : Nat) (hi : i < l1.length), l2[i].f0 = l1[i].f0 ∧ l2[i].f1 = l1[i].f1 ∧ l1[i].f2.length ≤ 100000 ∧ ∀ a ∈ l1[i].f2, (a.length : Int) = l1[i].f1 ∧ a.length ≤ 1000 ∧ ((l1[i].f0.toList = nm.toList ∧ a = t) ∨ a ∈ l2[i].f2)) :
    ∃ K, ∀ k, K ≤ k → paraphrastlaw01_exceptOne.f k n l1 n2 l2 nm t = some true := by
  have main : ∀ (d i : Nat), i + d = l1.length → ∃ K, ∀ k, K ≤ k → paraphrastlaw01_exceptOne.l0 k nm t (i : Int) n l1 n2 l2 = some true := by
    intro d
    induction d with
    | zero =>
      intro i h
      refine ⟨1, fun k hk => ?_⟩
      obtain ⟨k, rfl⟩ : ∃ k', k = k' + 1 := ⟨k - 1, by omega⟩
      unfold paraphrastlaw01_exceptOne.l0
      (try dsimp only)
      rw [if_neg (by omega)]
    | succ d ih =>
      intro i h
      have hi : i < l1.length := by omega
      obtain ⟨e0, e1, e2, e3⟩ := hA i hi
      obtain ⟨K, hK⟩ := except_l1 n n2 l1 l2 hv hlen h12 nm t i hi e0 e1 e3 e2 (ih (i + 1) (by omega)) l1[i].f2.length 0 (by omega)
      refine ⟨K + 1, fun k hk => ?_⟩
      obtain ⟨k, rfl⟩ : ∃ k', k = k' + 1 := ⟨k - 1, by omega⟩
      unfold paraphrastlaw01_exceptOne.l0
      (try dsimp only)
      rw [if_pos (by omega)]
      exact hK k (by omega)
  exact main l1.length 0 (by omega)
/-! ### the law -/
theorem sp_true (n : Int) : ∀ (cs : List S56) (l : List S54), validB n l = true → ∃ K, ∀ k, K ≤ k → spLoop k cs n l = some true
  | [], l, hv => alive_true
  | x :: cs, l, hv => by
    obtain ⟨KA, hA⟩ := alive_true
    obtain ⟨K1, hK1⟩ := sp_true n cs l hv
    by_cases hbig : (x.f0.size : Int) > 1000 ∨ (x.f1.length : Int) > 1000
    · exact ⟨KA, fun k hk => by unfold spLoop; rw [if_pos hbig]; exact hA k hk⟩
    · by_cases hex : ∃ (i : Nat) (hi : i < l.length), symIs x.f0 x.f1.length l[i] = true
      · obtain ⟨i, hi, hsym⟩ := hex
        unfold symIs at hsym
        simp only [Bool.and_eq_true, beq_iff_eq] at hsym
        have hnm : x.f0 = l[i].f0 := (toList_inj hsym.1).symm
        have htl : (x.f1.length : Int) = l[i].f1 := hsym.2.symm
        cases ho : x.f1.any (outB n) with
        | true =>
          obtain ⟨q, b, hp, hb, hh, hq⟩ := has_at n l hv i hi x.f1 htl
          refine ⟨K1 + 7000, fun k hk => ?_⟩
          unfold spLoop
          have hput : shape_Put.f k n l x.f0 x.f1 x.f2 = some (0, [], 2) := by
            unfold shape_Put.f
            rw [hnm, hh k (by omega), Option.bind_some]
            simp only [if_true]
            rw [elements_eq, ho, Option.bind_some, if_neg (by simp)]
          rw [if_neg hbig, hput, Option.bind_some]
          simp only
          rw [if_neg (by omega)]
          exact hK1 k (by omega)
        | false =>
          obtain ⟨ts, t1, t2, t3, t4, t5, hput⟩ := put_at n l hv i hi x.f1 htl ho x.f2
          have hv2 := valid_set n l hv i hi ts t1 t2
          obtain ⟨v1, v2, v3, v4⟩ := valid_facts n l hv
          obtain ⟨u1, u2, u3, u4⟩ := valid_facts n _ hv2
          have hi2 : i < (l.set i (putRel l[i] ts)).length := by rw [List.length_set]; exact hi
          have hgi : (l.set i (putRel l[i] ts))[i] = putRel l[i] ts := List.getElem_set_self _
          obtain ⟨q, b, _, hb, hh, _⟩ := has_at n _ hv2 i hi2 x.f1 (by rw [hgi]; exact htl)
          rw [hgi] at hb hh
          have hbi : b = x.f2 := by
            have hb' : b = true ↔ x.f1 ∈ ts := hb
            rw [t3] at hb'
            cases b <;> cases hx : x.f2 <;> simp [hx] at hb' ⊢
          have hget : ∀ (j : Nat) (hj : j < l.length), j ≠ i → ((l.set i (putRel l[i] ts))[j]'(by rw [List.length_set]; exact hj)) = l[j] := fun j hj e => by rw [List.getElem_set_ne (fun e2 => e e2.symm)]
          obtain ⟨K2, hK2⟩ := except_true n n l (l.set i (putRel l[i] ts)) hv2 (by rw [List.length_set]) (by omega) x.f0 x.f1 (fun j hj => by
            obtain ⟨_, w1, w2, w3⟩ := v4 _ (List.getElem_mem hj)
            by_cases e : j = i
            · subst e
              rw [hgi]
              exact ⟨rfl, rfl, by omega, fun a ha => ⟨(w2 a ha).1, by have := (w2 a ha).1; omega, (t5 a ha).elim Or.inr (fun e => Or.inl ⟨by rw [hnm], e⟩)⟩⟩
            · rw [hget j hj e]
              exact ⟨rfl, rfl, by omega, fun a ha => ⟨(w2 a ha).1, by have := (w2 a ha).1; omega, Or.inr ha⟩⟩)
          obtain ⟨K3, hK3⟩ := except_true n n (l.set i (putRel l[i] ts)) l hv (by rw [List.length_set]) (by rw [List.length_set]; omega) x.f0 x.f1 (fun j hj => by
            rw [List.length_set] at hj
            obtain ⟨_, w1, w2, w3⟩ := u4 _ (List.getElem_mem (show j < (l.set i (putRel l[i] ts)).length by rw [List.length_set]; exact hj))
            by_cases e : j = i
            · subst e
              rw [hgi] at w1 w2 w3 ⊢
              exact ⟨rfl, rfl, by omega, fun a ha => ⟨(w2 a ha).1, by have := (w2 a ha).1; omega, (t4 a ha).elim Or.inr (fun e => Or.inl ⟨by rw [hnm]; rfl, e⟩)⟩⟩
            · rw [hget j hj e] at w1 w2 w3 ⊢
              exact ⟨rfl, rfl, by omega, fun a ha => ⟨(w2 a ha).1, by have := (w2 a ha).1; omega, Or.inr ha⟩⟩)
          obtain ⟨K4, hK4⟩ := sp_true n cs _ hv2
          refine ⟨K2 + K3 + K4 + 8000, fun k hk => ?_⟩
          unfold spLoop
          have hput' := hput k (by omega)
          rw [← hnm] at hput'
          have hh' := hh k (by omega)
          rw [show (putRel l[i] ts).f0 = x.f0 from hnm.symm] at hh'
          rw [if_neg hbig, hput', Option.bind_some]
          simp only [if_true]
          rw [hh', Option.bind_some]
          simp only [if_true]
          rw [if_pos hbi, valid_eq n _ 4096 (by omega) (max_valid n _ hv2) k (by omega), hv2, Option.bind_some, if_pos rfl, hK2 k (by omega), Option.bind_some, if_pos rfl, hK3 k (by omega), Option.bind_some, if_pos rfl]
          exact hK4 k (by omega)
      · have hn : ∀ r ∈ l, symIs x.f0 x.f1.length r = false := fun r hr => by
          obtain ⟨i, hi, rfl⟩ := List.getElem_of_mem hr
          cases hb : symIs x.f0 x.f1.length l[i] with
          | false => rfl
          | true => exact absurd ⟨i, hi, hb⟩ hex
        refine ⟨K1 + 7000, fun k hk => ?_⟩
        unfold spLoop
        have hput : shape_Put.f k n l x.f0 x.f1 x.f2 = some (0, [], 4) := by
          unfold shape_Put.f
          rw [has_none n l hv x.f0 x.f1 hn k (by omega), Option.bind_some]
          simp only
          rw [if_neg (by omega)]
        rw [if_neg hbig, hput, Option.bind_some]
        simp only
        rw [if_neg (by omega)]
        exact hK1 k (by omega)
theorem put_law (n : Int) (l : List S54) (cs : List S56) (T : Nat) (hT : T ≤ 9223372036854775807) (hall : ∀ r ∈ l, r.f2.length ≤ T) : ∃ k, paraphrastlaw01_ShapePut.f k n l cs = some true := by
  obtain ⟨K, hA⟩ := alive_true
  obtain ⟨kf, b, hf⟩ := few_ex n l (fun r hr => Nat.le_trans (hall r hr) hT)
  have hf' : ∀ k, kf ≤ k → paraphrastlaw01_Few.f k [⟨n, l⟩] = some b := fun k hk => at_rounds (paraphrastlaw01_Few.mono _) hk hf
  by_cases hv : validB n l = true
  · obtain ⟨K1, hK1⟩ := sp_true n cs l hv
    refine ⟨kf + K + K1 + T + 1000, ?_⟩
    unfold paraphrastlaw01_ShapePut.f
    rw [hf' _ (by omega), Option.bind_some, hA _ (by omega), hK1 _ (by omega), valid_eq n l T hT hall _ (by omega), hv, Option.bind_some]
    repeat' split
    all_goals rfl
  · refine ⟨kf + K + T + 1000, ?_⟩
    unfold paraphrastlaw01_ShapePut.f
    rw [hf' _ (by omega), Option.bind_some, hA _ (by omega), valid_eq n l T hT hall _ (by omega), Bool.eq_false_iff.2 hv, Option.bind_some, if_neg (show ¬ (false = true) by simp)]
    repeat' split
    all_goals rfl
end Go.Proofs.YtfmpaofbnjlniaaDoor.F
