/- Part 3 of the proof: ShapeOwn: no function modifies its arguments, and results share memory neither with arguments nor with other results; for every structure, change, list of numbers and list of symbols. -/
import Derived.Test.YtfmpaofbnjlniaaGreatDoorOwn2
import Derived.Lib.ItoaNum
import Derived.Test.YtfmpaofbnjlniaaGreatDoorProg
import Derived.Test.YtfmpaofbnjlniaaGreatDoorShelf
import Derived.Shelf.Strings.BuilderK
import Derived.KernelRfl
import Derived.Lib.Hide
import Derived.Outline
import Derived.StillTailTactics
import Derived.Deep.DeepMust
import Derived.Deep.RegionWith
import Derived.Deep.RegionHeld3
import Derived.Lib.SplitLaws
/- The textual form of a structure, as a list of bytes; plain lemmas on it. -/
namespace Go.Proofs.YtfmpaofbnjlniaaGreatDoor.F
open Go.RowKit
set_option linter.unusedVariables false
def digs (x : Int) : List UInt8 := Lib.decDigits x.toNat
def tupRest : List Int → List UInt8
  | [] => []
  | x :: xs => 44 :: (digs x ++ tupRest xs)
def tupJ : List Int → List UInt8
  | [] => []
  | x :: xs => digs x ++ tupRest xs
def tupPre (t : List Int) : List UInt8 := match t with | [] => [40, 41] | _ :: _ => []
def tupT (t : List Int) : List UInt8 := tupPre t ++ tupJ t
def tupsT : List (List Int) → List UInt8
  | [] => []
  | t :: ts => 32 :: (tupT t ++ tupsT ts)
def relHd (r : S52) : List UInt8 := [59, 32] ++ r.f0.data.toList ++ [47] ++ digs r.f1
def relT (r : S52) : List UInt8 := relHd r ++ tupsT r.f2
def relsT : List S52 → List UInt8
  | [] => []
  | r :: rs => relT r ++ relsT rs
def textL (n : Int) (l : List S52) : List UInt8 := digs n ++ relsT l
theorem tupRest_app (l m : List Int) : tupRest (l ++ m) = tupRest l ++ tupRest m := by
  induction l with
  | nil => rfl
  | cons x xs ih => simp [tupRest, ih]
theorem tupJ_snoc (l : List Int) (x : Int) : tupJ (l ++ [x]) = tupJ l ++ (if l = [] then [] else [44]) ++ digs x := by
  cases l with
  | nil => simp [tupJ, tupRest]
  | cons y ys => simp [tupJ, tupRest_app, tupRest]
theorem tupsT_app (l m : List (List Int)) : tupsT (l ++ m) = tupsT l ++ tupsT m := by
  induction l with
  | nil => rfl
  | cons x xs ih => simp [tupsT, ih]
theorem tupsT_snoc (l : List (List Int)) (t : List Int) : tupsT (l ++ [t]) = tupsT l ++ [32] ++ tupT t := by rw [tupsT_app]; simp [tupsT]
theorem relsT_app (l m : List S52) : relsT (l ++ m) = relsT l ++ relsT m := by
  induction l with
  | nil => rfl
  | cons x xs ih => simp [relsT, ih]
theorem relsT_snoc (l : List S52) (r : S52) : relsT (l ++ [r]) = relsT l ++ relHd r ++ tupsT r.f2 := by rw [relsT_app]; simp [relsT, relT]
theorem take_snoc' {α : Type} {l : List α} {k : Nat} {x : α} (h : l[k]? = some x) : l.take (k + 1) = l.take k ++ [x] := by
  obtain ⟨hk, rfl⟩ := List.getElem?_eq_some_iff.1 h
  rw [List.take_succ_eq_append_getElem hk]
theorem split_at {α : Type} {l : List α} {k : Nat} {x : α} (h : l[k]? = some x) : l = l.take k ++ [x] ++ l.drop (k + 1) := by
  rw [← take_snoc' h, List.take_append_drop]
theorem relsT_len {l : List S52} {k : Nat} {r : S52} (h : l[k]? = some r) : (relsT (l.take k)).length + (relHd r).length + (tupsT r.f2).length ≤ (relsT l).length := by
  conv => rhs; rw [split_at h]
  rw [relsT_app, relsT_snoc]; simp; omega
theorem tupsT_len {l : List (List Int)} {k : Nat} {t : List Int} (h : l[k]? = some t) : (tupsT (l.take k)).length + 1 + (tupPre t).length + (tupJ t).length ≤ (tupsT l).length := by
  conv => rhs; rw [split_at h]
  rw [tupsT_app, tupsT_snoc]; simp [tupT]; omega
theorem tupJ_len {l : List Int} {k : Nat} {x : Int} (h : l[k]? = some x) : (tupJ (l.take k)).length + (if l.take k = [] then [] else [(44 : UInt8)]).length + (digs x).length ≤ (tupJ l).length := by
  have hs := split_at h
  generalize hA : l.take k = A at hs ⊢
  generalize l.drop (k + 1) = B at hs
  subst hs
  cases A with
  | nil => simp [tupJ]
  | cons y ys => simp [tupJ, tupRest_app, tupRest]; omega
/-- All that Itoa is asked of lies in 0 .. 99, and the text is no longer than a Builder holds. -/
def okW (n : Int) (l : List S52) : Prop :=
  (0 ≤ n ∧ n < 100) ∧ (∀ r ∈ l, (0 ≤ r.f1 ∧ r.f1 < 100) ∧ ∀ t ∈ r.f2, ∀ x ∈ t, 0 ≤ x ∧ x < 100) ∧ (textL n l).length ≤ 140737488355328
open Classical in
noncomputable def shape_write.f (n : Int) (l : List S52) : Option ByteArray := if okW n l then some ⟨(textL n l).toArray⟩ else none
theorem write_ok {n : Int} {l : List S52} {r : ByteArray} (h : shape_write.f n l = some r) : okW n l ∧ r = ⟨(textL n l).toArray⟩ := by
  unfold shape_write.f at h
  split at h
  · rename_i h1
    exact ⟨h1, (Option.some.inj h).symm⟩
  · cases h
end Go.Proofs.YtfmpaofbnjlniaaGreatDoor.F
namespace Go.Proofs.YtfmpaofbnjlniaaGreatDoor.Build
open Go.RowKit Go.Shelf
set_option linter.unusedVariables false
def ren : Go.Shelf.Ren := ⟨fun | 166 => 72 | 167 => 73 | 240 => 96 | 276 => 119 | n => n, fun | 0 => 0 | 3 => 3 | 4 => 4 | 5 => 5 | 9 => 9 | 20 => 20 | 37 => 63 | 70 => 116 | 72 => 118 | 75 => 120 | 80 => 124 | 81 => 121 | 164 => 155 | n => n, fun | n => n⟩
theorem lays167 : Go.Proofs.Lays.n167 Tryz.prog ren := {
  mixed := by kernel_rfl
  f167 := Tryz.func73.trans (congrArg some (by kernel_rfl))
  f240 := Tryz.func96.trans (congrArg some (by kernel_rfl))
  f276 := Tryz.func119.trans (congrArg some (by kernel_rfl))
  t0 := Tryz.underlying0
  a0 := Tryz.isAgg0
  z0 := Tryz.sizeOf0
  v0 := Tryz.zeroValue0
  t4 := Tryz.underlying4
  a4 := Tryz.isAgg4
  z4 := Tryz.sizeOf4
  v4 := Tryz.zeroValue4
  t5 := Tryz.underlying5
  a5 := Tryz.isAgg5
  z5 := Tryz.sizeOf5
  v5 := Tryz.zeroValue5
  t9 := Tryz.underlying9
  a9 := Tryz.isAgg9
  z9 := Tryz.sizeOf9
  v9 := Tryz.zeroValue9
  t20 := Tryz.underlying20
  a20 := Tryz.isAgg20
  z20 := Tryz.sizeOf20
  v20 := Tryz.zeroValue20
  t37 := Tryz.underlying63
  a37 := Tryz.isAgg63
  z37 := Tryz.sizeOf63
  v37 := Tryz.zeroValue63
  t70 := Tryz.underlying116
  a70 := Tryz.isAgg116
  z70 := Tryz.sizeOf116
  v70 := Tryz.zeroValue116
  t72 := Tryz.underlying118
  a72 := Tryz.isAgg118
  z72 := Tryz.sizeOf118
  v72 := Tryz.zeroValue118
  t75 := Tryz.underlying120
  a75 := Tryz.isAgg120
  z75 := Tryz.sizeOf120
  v75 := Tryz.zeroValue120
  t164 := Tryz.underlying155
  a164 := Tryz.isAgg155
  z164 := Tryz.sizeOf155
  v164 := Tryz.zeroValue155 }
theorem lays166 : Go.Proofs.Lays.n166 Tryz.prog ren := {
  mixed := by kernel_rfl
  f166 := Tryz.func72.trans (congrArg some (by kernel_rfl))
  f240 := Tryz.func96.trans (congrArg some (by kernel_rfl))
  f276 := Tryz.func119.trans (congrArg some (by kernel_rfl))
  t0 := Tryz.underlying0
  a0 := Tryz.isAgg0
  z0 := Tryz.sizeOf0
  v0 := Tryz.zeroValue0
  t3 := Tryz.underlying3
  a3 := Tryz.isAgg3
  z3 := Tryz.sizeOf3
  v3 := Tryz.zeroValue3
  t4 := Tryz.underlying4
  a4 := Tryz.isAgg4
  z4 := Tryz.sizeOf4
  v4 := Tryz.zeroValue4
  t9 := Tryz.underlying9
  a9 := Tryz.isAgg9
  z9 := Tryz.sizeOf9
  v9 := Tryz.zeroValue9
  t20 := Tryz.underlying20
  a20 := Tryz.isAgg20
  z20 := Tryz.sizeOf20
  v20 := Tryz.zeroValue20
  t37 := Tryz.underlying63
  a37 := Tryz.isAgg63
  z37 := Tryz.sizeOf63
  v37 := Tryz.zeroValue63
  t70 := Tryz.underlying116
  a70 := Tryz.isAgg116
  z70 := Tryz.sizeOf116
  v70 := Tryz.zeroValue116
  t72 := Tryz.underlying118
  a72 := Tryz.isAgg118
  z72 := Tryz.sizeOf118
  v72 := Tryz.zeroValue118
  t75 := Tryz.underlying120
  a75 := Tryz.isAgg120
  z75 := Tryz.sizeOf120
  v75 := Tryz.zeroValue120
  t164 := Tryz.underlying155
  a164 := Tryz.isAgg155
  z164 := Tryz.sizeOf155
  v164 := Tryz.zeroValue155 }
theorem extra : Go.Proofs.Builder.Extra Tryz.prog ren := {
  sizeBuilder := by kernel_rfl
  liesBuilder := by kernel_rfl
  t5 := Tryz.underlying5
  a5 := Tryz.isAgg5
  z5 := Tryz.sizeOf5
  v5 := Tryz.zeroValue5
  infoByte := by kernel_rfl
  cellsByte := by kernel_rfl
  sizeByte := by kernel_rfl
  neB5 := by decide }
/-- A builder in block b (from B on) that holds the bytes l. -/
def BL (B b : Nat) (l : List UInt8) (w : World) : Prop := Lib.IsBuilderF 118 5 B b (Lib.byteCells l) w
theorem cells_app (l m : List UInt8) : Lib.byteCells l ++ Lib.byteCells m = Lib.byteCells (l ++ m) := by simp [Lib.byteCells]
theorem BL.of {B b : Nat} {l : List UInt8} {w w' : World} {p : Value} (h : Lib.BuilderAtF 118 5 B b p (Lib.byteCells l) w') (hp : p = .pointer (some ⟨b, 0, none⟩)) : BL B b l w' := by subst hp; exact .inr h
theorem write_string (B b : Nat) (l : List UInt8) (s : ByteArray) (w : World) (h : BL B b l w) (hlen : l.length + s.size ≤ 140737488355328) (hBw : B ≤ w.heap.size) :
    Calls Tryz.prog 72 #[.pointer (some ⟨b, 0, none⟩), .string s] w fun e w' => e = .returned (.tuple #[.int .i64 s.size, .nilIface]) ∧ BL B b (l ++ s.data.toList) w' ∧ Below B w w' ∧ Lib.OthersKept 5 (some b) w w' :=
  (Any.Builder_WriteString_k lays166 extra B b _ s w h (by rw [Lib.byteCells_length]; exact hlen) hBw).mono fun e w' ⟨he, hb, hl, hk⟩ => ⟨he, .inr (by rw [← cells_app]; exact hb), hl, hk⟩
theorem write_byte (B b : Nat) (l : List UInt8) (c : UInt8) (w : World) (h : BL B b l w) (hlen : l.length + 1 ≤ 140737488355328) (hBw : B ≤ w.heap.size) :
    Calls Tryz.prog 73 #[.pointer (some ⟨b, 0, none⟩), .int .u8 (c.toNat : Int)] w fun e w' => e = .returned .nilIface ∧ BL B b (l ++ [c]) w' ∧ Below B w w' ∧ Lib.OthersKept 5 (some b) w w' :=
  (Any.Builder_WriteByte_k lays167 extra B b _ _ w h (by rw [Lib.byteCells_length]; exact hlen) hBw).mono fun e w' ⟨he, hb, hl, hk⟩ => ⟨he, .inr (by rw [← cells_app]; exact hb), hl, hk⟩
theorem write_byte' (B b : Nat) (l : List UInt8) (x : UInt8) (c : Int) (w : World) (hx : (x.toNat : Int) = c) (h : BL B b l w) (hlen : l.length + 1 ≤ 140737488355328) (hBw : B ≤ w.heap.size) :
    Calls Tryz.prog 73 #[.pointer (some ⟨b, 0, none⟩), .int .u8 c] w fun e w' => e = .returned .nilIface ∧ BL B b (l ++ [x]) w' ∧ Below B w w' ∧ Lib.OthersKept 5 (some b) w w' := hx ▸ write_byte B b l x w h hlen hBw
theorem BL.fresh (w : World) : BL w.heap.size w.heap.size [] (w.alloc (.cells #[.pointer none, .slice none 0 0] 118)) := Lib.IsBuilderF.of (Lib.fresh_isBuilder _ _ w)
theorem kept_blk {b : Nat} {w w' : World} {g t : Nat} {cs : Array Value} (hk : Lib.OthersKept 5 (some b) w w') (h : w.heap[g]? = some (.cells cs t (0, 0))) (hne : g ≠ b) (ht : t ≠ 5) : w'.heap[g]? = some (.cells cs t (0, 0)) :=
  hk g _ h (by simpa using hne) (fun c fz e => by injection e with _ e _; exact ht e)
theorem string_of (B b : Nat) (l : List UInt8) (w : World) (h : BL B b l w) (hBw : B ≤ w.heap.size) :
    Calls Tryz.prog 74 #[.pointer (some ⟨b, 0, none⟩)] w fun e w' => e = .returned (.string ⟨l.toArray⟩) ∧ BL B b l w' ∧ Below B w w' :=
  (Tryz.Builder_String_any_k B b l w h hBw).mono fun e w' ⟨he, hb, hl, _⟩ => ⟨he, hb, hl⟩
theorem BL.alloc {B b : Nat} {l : List UInt8} {w : World} (h : BL B b l w) (o : Obj) : BL B b l (w.alloc o) := h.elim (fun x => .inl (x.alloc o)) (fun x => .inr (x.alloc o))
theorem BL.drew {B b : Nat} {l : List UInt8} {w : World} (h : BL B b l w) : BL B b l w.drew := h.elim (fun x => .inl x.drew) (fun x => .inr x.drew)
theorem BL.drewN {B b : Nat} {l : List UInt8} {w : World} (h : BL B b l w) (n : Nat) : BL B b l (w.drewN n) := by
  induction n with
  | zero => exact h
  | succ n ih => exact ih.drew
end Go.Proofs.YtfmpaofbnjlniaaGreatDoor.Build
/- shape.write, by hand: a strings.Builder written in three nested loops. -/
namespace Go.Proofs.YtfmpaofbnjlniaaGreatDoor.F
open Go.RowKit Go.Proofs.YtfmpaofbnjlniaaGreatDoorW.PrintWords Go.Proofs.YtfmpaofbnjlniaaGreatDoorW.PrintLast Go.Proofs.YtfmpaofbnjlniaaGreatDoorW.PrintMore
set_option linter.unusedVariables false
set_option linter.unusedSimpArgs false
theorem at_rows {α : Type} {d : Kd α} {e : Nat} {w : World} {A : Option Addr} {n : Nat} {xs : List (List α)} (h : Kd.C (Kd.slice e d) w A n xs) (k : Nat) (h1 : k < n) : ∃ ad A0 c0 t, A = some ad ∧ xs[k]? = some t ∧ w.cell? (ad.add k) = some (.slice A0 t.length c0) ∧ t.length ≤ c0 ∧ d.C w A0 t.length t := by
  have hl := Kd.C_len h
  obtain ⟨ad, c, e, _, hK, hc0⟩ := Kd.C_get h ([] : List α) (k : Int) (by omega) (by omega)
  have hc : ∀ j u, c[j]? = some u → w.cell? (ad.add ((k : Int).toNat * 1 + j)) = some u := hc0
  obtain ⟨A0, c0, rfl, l0, g0⟩ := hK
  rw [Int.toNat_natCast] at *
  have hx : xs[k]? = some (xs.getD k []) := by rw [List.getElem?_eq_getElem (by omega), List.getD_eq_getElem?_getD, List.getElem?_eq_getElem (by omega)]; rfl
  exact ⟨ad, A0, c0, xs.getD k [], e, hx, by have hq := hc 0 _ rfl; rwa [Nat.mul_one, Nat.add_zero] at hq, l0, g0⟩
theorem itoa_small (x : Int) (h0 : 0 ≤ x) (h1 : x < 100) (w : World) : Calls Tryz.prog 46 #[.int .i64 x] w fun e w' => e = .returned (.string ⟨(digs x).toArray⟩) ∧ w' = w := by
  have h := Tryz.strconv_Itoa_small x.toNat (by omega) w
  rw [Int.toNat_of_nonneg h0] at h
  exact h
open Build in
set_option maxHeartbeats 4000000 in
set_option maxRecDepth 100000 in
theorem shape_write.calls (a0_0 : Int) (A0_1 : Option Addr) (c0_1 : Nat) (l0_1 : List S52) (r : ByteArray) (w : World) (hr0_1 : Kd.C k52 w A0_1 l0_1.length l0_1) (hc0_1 : l0_1.length ≤ c0_1) (h : shape_write.f a0_0 l0_1 = some r) :
    Calls Tryz.prog 44 #[.agg #[.int .i64 a0_0, .slice A0_1 l0_1.length c0_1]] w fun e w' => e = .returned (.string r) ∧ Below w.heap.size w w' := by
  obtain ⟨⟨⟨hn0, hn1⟩, hall, hlen⟩, hr⟩ := write_ok h
  clear h
  have HL := Aside0.mk hlen
  have HALL := Aside0.mk hall
  have HR := Aside0.mk hr0_1
  have HX := Aside0.mk hr
  have hm := Kd.C_max hr0_1
  have HL2 := Aside0.mk (show (digs a0_0).length + (relsT l0_1).length ≤ 140737488355328 by have := hlen; unfold textL at this; simpa using this)
  clear hlen hall hr0_1 hr
  go_enter Tryz.func44, Tryz.ntmps44
  go_wp2_with (go_at_call 46; refine (itoa_small _ hn0 hn1 _).mono ?_; rintro e w' ⟨rfl, rfl⟩)
  have hfr : BL (w.heap.size + 1) (w.heap.size + 1) [] ((w.alloc (.cells #[.int .i64 a0_0, .slice A0_1 l0_1.length c0_1] 24)).alloc (.cells #[.pointer none, .slice none 0 0] 118)) := by
    have := BL.fresh (w.alloc (.cells #[.int .i64 a0_0, .slice A0_1 l0_1.length c0_1] 24))
    simpa using this
  refine (write_string (w.heap.size + 1) (w.heap.size + 1) [] ⟨(digs a0_0).toArray⟩ _ hfr (by have := HL2.out; simp; show (digs a0_0).toArray.size ≤ _; simp; omega) (by simp)).mono ?_
  rintro e w1 ⟨rfl, hbl, hb, _⟩
  have HBL := Aside0.mk (show BL (w.heap.size + 1) (w.heap.size + 1) (digs a0_0) w1 by simpa using hbl)
  have HB := Aside0.mk (show Below w.heap.size w w1 from ((below_alloc (below_alloc (Below.refl _ _) _) _).trans (hb.mono (by simp))))
  have hcs : w1.cell? ⟨w.heap.size, 1, none⟩ = some (.slice A0_1 l0_1.length c0_1) := (hb.cell (p := ⟨w.heap.size, 1, none⟩) (Nat.lt_succ_self _)).trans (by simp)
  have HS0 := Aside0.mk (show w.heap.size + 2 ≤ w1.heap.size by have := hb.size; simpa using this)
  clear hfr hbl hb
  go_wp2
  go_loopw [17] (fun v17 wr => ∃ k : Nat, v17 = .int .i64 k ∧ k ≤ l0_1.length ∧ Aside0 (BL (w.heap.size + 1) (w.heap.size + 1) (digs a0_0 ++ relsT (l0_1.take k)) wr) ∧ Aside0 (Below w.heap.size w wr) ∧ Aside0 (w.heap.size + 2 ≤ wr.heap.size)) (fun v17 _ => l0_1.length - (intOf v17).toNat)
  case atStart => exact ⟨0, rfl, Nat.zero_le _, ⟨by simpa [relsT] using HBL.out⟩, HB, HS0⟩
  case round =>
    clear HBL HB hcs HS0
    obtain ⟨k, rfl, hk, HBL, HB, HS⟩ := hrel
    by_cases hlt : k < l0_1.length
    · obtain ⟨ad, A2, c2, hA, hcell0, hcell1, hcell2, hl2, hC2⟩ := at_T52 HR.out (k : Int) (by omega) (by omega)
      subst hA
      have hx : l0_1[k]? = some (rd_T52 l0_1 (k : Int)) := by unfold rd_T52; rw [List.getElem?_eq_getElem hlt, List.getD_eq_getElem?_getD, Int.toNat_natCast, List.getElem?_eq_getElem hlt]; rfl
      obtain ⟨⟨hf0, hf1⟩, hel⟩ := HALL.out _ (List.mem_of_getElem? hx)
      have HX1 := Aside0.mk hx
      have HEL := Aside0.mk hel
      have HC2 := Aside0.mk hC2
      have HT := Aside0.mk (relsT_len hx)
      have hm2 := Kd.C_max hC2
      replace hcell0 := pw_cell_below HB.out hcell0
      replace hcell1 := pw_cell_below HB.out hcell1
      replace hcell2 := pw_cell_below HB.out hcell2
      clear hx hel hC2
      simp only [Int.toNat_natCast] at hcell0 hcell1 hcell2
      generalize rd_T52 l0_1 (k : Int) = rel at *
      obtain ⟨f0, f1, f2⟩ := rel
      simp only at hcell0 hcell1 hcell2 hl2 hf0 hf1 HEL HC2 hm2
      go_wp2
      have hc0 : (wr.alloc (.cells #[.string f0, .int .i64 f1, .slice A2 f2.length c2] 52)).cell? ⟨wr.heap.size, 0, none⟩ = some (.string f0) := by simp
      have hc1 : (wr.alloc (.cells #[.string f0, .int .i64 f1, .slice A2 f2.length c2] 52)).cell? ⟨wr.heap.size, 1, none⟩ = some (.int .i64 f1) := by simp
      have HN := Aside0.mk (show (wr.alloc (.cells #[.string f0, .int .i64 f1, .slice A2 f2.length c2] 52)).heap[wr.heap.size]? = some (.cells #[.string f0, .int .i64 f1, .slice A2 f2.length c2] 52 (0, 0)) from heap_alloc_new wr _)
      have HBL1 := Aside0.mk (HBL.out.alloc (.cells #[.string f0, .int .i64 f1, .slice A2 f2.length c2] 52))
      have HB1 := Aside0.mk (below_alloc HB.out (.cells #[.string f0, .int .i64 f1, .slice A2 f2.length c2] 52))
      have HS1 := Aside0.mk (show wr.heap.size < (wr.alloc (.cells #[.string f0, .int .i64 f1, .slice A2 f2.length c2] 52)).heap.size by simp)
      have HS2 := Aside0.mk (Nat.le_trans HS.out (Nat.le_of_lt HS1.out))
      generalize wr.alloc (.cells #[.string f0, .int .i64 f1, .slice A2 f2.length c2] 52) = W at *
      clear HBL HB hcell0 hcell1 hcell2
      generalize wr.heap.size = nb at *
      have hd0 : ({ W with drawn := W.drawn + 1 } : World).cell? ⟨nb, 0, none⟩ = some (.string f0) := hc0
      have hd1 : ({ W with drawn := W.drawn + 1 } : World).cell? ⟨nb, 1, none⟩ = some (.int .i64 f1) := hc1
      have HZ := Aside0.mk (show (digs a0_0).length + (relsT (List.take k l0_1)).length + (2 + f0.size + 1 + (digs f1).length) + (tupsT f2).length ≤ 140737488355328 by have h1 := HL2.out; have h2 := HT.out; simp [relHd, data_length] at h2; omega)
      have hz1 : ¬ 9223372036854775807 < 2 + f0.size := by have := HZ.out; omega
      have hz2 : ¬ 9223372036854775807 < 2 + f0.size + 1 := by have := HZ.out; omega
      have hz3 : ¬ 9223372036854775807 < 2 + f0.size + 1 + (digs f1).length := by have := HZ.out; omega
      go_still_tail 8, (by kernel_rfl)
      still_call (itoa_small _ hf0 hf1 _)
      repeat still_step
      refine wpStill_nil ?_
      change wpList _ _ _ _ _ W.drew
      go_wp2_with (fail)
      refine (write_string (w.heap.size + 1) (w.heap.size + 1) (digs a0_0 ++ relsT (l0_1.take k)) _ _ HBL1.out.drew (by have := HZ.out; simp only [List.length_append, ByteArray.size_append]; show _ + (2 + f0.size + 1 + (digs f1).toArray.size) ≤ _; simp only [List.size_toArray]; omega) (by have := HS2.out; simp; omega)).mono ?_
      rintro e w2 ⟨rfl, hb2, hbb, hkk⟩
      have HBL2 := Aside0.mk (show BL (w.heap.size + 1) (w.heap.size + 1) (digs a0_0 ++ relsT (l0_1.take k) ++ relHd ⟨f0, f1, f2⟩ ++ tupsT (f2.take 0)) w2 by simpa [relHd, tupsT] using hb2)
      have HB2 := Aside0.mk (show Below w.heap.size w w2 from (below_drew HB1.out).trans (hbb.mono (Nat.le_succ _)))
      have HS4 := Aside0.mk (show w.heap.size + 2 ≤ w2.heap.size from Nat.le_trans HS2.out (by have := hbb.size; simpa using this))
      have he2 : w2.cell? ⟨nb, 2, none⟩ = some (.slice A2 f2.length c2) := by
        have := kept_blk hkk HN.out (by have := HS.out; omega) (by decide)
        simp [World.cell?, this]
      clear hb2 hbb hkk hz1 hz2 hz3 hd0 hd1 hc0 hc1 HBL1 HB1 HN
      go_wp2
      clear he2
      go_loopw [33] (fun v33 wm => ∃ j : Nat, v33 = .int .i64 j ∧ j ≤ f2.length ∧ Aside0 (BL (w.heap.size + 1) (w.heap.size + 1) (digs a0_0 ++ relsT (l0_1.take k) ++ relHd ⟨f0, f1, f2⟩ ++ tupsT (f2.take j)) wm) ∧ Aside0 (Below w.heap.size w wm) ∧ Aside0 (w.heap.size + 2 ≤ wm.heap.size)) (fun v33 _ => f2.length - (intOf v33).toNat)
      case atStart => exact ⟨0, rfl, Nat.zero_le _, HBL2, HB2, HS4⟩
      case round =>
        clear HBL2 HB2 HS4
        obtain ⟨j, rfl, hj, HBL, HB, HS⟩ := hrel
        by_cases hlj : j < f2.length
        · obtain ⟨ad2, A0, c0, t, hA2, htx, htcell, htl, hC4⟩ := at_rows HC2.out j hlj
          subst hA2
          replace htcell := pw_cell_below HB.out htcell
          have hm4 := Kd.C_max hC4
          have HT2 := Aside0.mk (tupsT_len htx)
          have HM := Aside0.mk (HEL.out t (List.mem_of_getElem? htx))
          have HTX := Aside0.mk htx
          have HC4 := Aside0.mk hC4
          clear htx hC4
          have HZ2 := Aside0.mk (show (digs a0_0 ++ relsT (l0_1.take k) ++ relHd ⟨f0, f1, f2⟩ ++ tupsT (f2.take j)).length + 1 + (tupPre t).length + (tupJ t).length ≤ 140737488355328 by have h1 := HZ.out; have h2 := HT2.out; simp [relHd, data_length]; omega)
          generalize hQ : digs a0_0 ++ relsT (l0_1.take k) ++ relHd ⟨f0, f1, f2⟩ ++ tupsT (f2.take j) = Q at HBL HZ2
          have HQE := Aside0.mk hQ
          clear hQ
          go_wp2_with (fail)
          refine (write_byte' (w.heap.size + 1) (w.heap.size + 1) Q 32 _ _ (by decide) HBL.out (by have := HZ2.out; omega) (by have := HS.out; omega)).mono ?_
          rintro e w3 ⟨rfl, hb3, hbb, _⟩
          have HBL3 := Aside0.mk hb3
          have HB3 := Aside0.mk (HB.out.trans (hbb.mono (Nat.le_succ _)))
          have HS5 := Aside0.mk (show w.heap.size + 2 ≤ w3.heap.size from Nat.le_trans HS.out hbb.size)
          clear htcell
          clear hb3 hbb HBL HB HS
          go_upto_if 40 with (fail)
          go_cut [] (fun wc => Aside0 (BL (w.heap.size + 1) (w.heap.size + 1) (Q ++ [32] ++ tupPre t) wc) ∧ Aside0 (Below w.heap.size w wc) ∧ Aside0 (w.heap.size + 2 ≤ wc.heap.size))
          case first =>
            by_cases ht : t = []
            · have h1 : ((t.length : Int) == 0) = true := by subst ht; rfl
              have h2 : (t.length == 0) = true := by subst ht; rfl
              have hp : tupPre t = [40, 41] := by subst ht; rfl
              have HP := Aside0.mk hp
              clear ht hp
              go_wp2_with (fail)
              refine (write_string (w.heap.size + 1) (w.heap.size + 1) (Q ++ [32]) ⟨#[40, 41]⟩ _ HBL3.out (by have := HZ2.out; rw [HP.out] at this; simp at this ⊢; show _ + 1 + 2 ≤ _; omega) (by have := HS5.out; omega)).mono ?_
              rintro e w4 ⟨rfl, hb4, hbb, _⟩
              have HBL4 := Aside0.mk hb4
              have HB4 := Aside0.mk (HB3.out.trans (hbb.mono (Nat.le_succ _)))
              have HS6 := Aside0.mk (show w.heap.size + 2 ≤ w4.heap.size from Nat.le_trans HS5.out hbb.size)
              clear hb4 hbb
              go_wp2
              go_meet
              case rel => exact ⟨⟨by rw [HP.out]; exact HBL4.out⟩, HB4, HS6⟩
            · have h1 : ((t.length : Int) == 0) = false := by rw [beq_eq_false_iff_ne]; intro e; exact ht (List.eq_nil_of_length_eq_zero (by omega))
              have h2 : (t.length == 0) = false := by rw [beq_eq_false_iff_ne]; intro e; exact ht (List.eq_nil_of_length_eq_zero e)
              have hp : tupPre t = [] := by cases t with | nil => exact absurd rfl ht | cons a b => rfl
              have HP := Aside0.mk hp
              have h3 : ¬ (t = []) := ht
              clear hp ht
              go_wp2
              go_meet
              case rel => exact ⟨⟨by rw [HP.out, List.append_nil]; exact HBL3.out⟩, HB3, HS5⟩
          case rest =>
            clear HBL3 HB3 HS5
            obtain ⟨HBL5, HB5, HS7⟩ := hcut
            have HZ3 := Aside0.mk (show (Q ++ [32] ++ tupPre t).length + (tupJ t).length ≤ 140737488355328 by have h2 := HZ2.out; simp; omega)
            have HTT := Aside0.mk (show Q ++ [32] ++ tupPre t ++ tupJ t = Q ++ [32] ++ tupT t by simp [tupT])
            generalize Q ++ [32] ++ tupPre t = R at HBL5 HZ3 HTT
            go_wp2
            go_loopw [44] (fun v44 wi => ∃ i : Nat, v44 = .int .i64 i ∧ i ≤ t.length ∧ Aside0 (BL (w.heap.size + 1) (w.heap.size + 1) (R ++ tupJ (t.take i)) wi) ∧ Aside0 (Below w.heap.size w wi) ∧ Aside0 (w.heap.size + 2 ≤ wi.heap.size)) (fun v44 _ => t.length - (intOf v44).toNat)
            case atStart => exact ⟨0, rfl, Nat.zero_le _, ⟨by simpa [tupJ] using HBL5.out⟩, HB5, HS7⟩
            case round =>
              clear HBL5 HB5 HS7
              obtain ⟨i, rfl, hi, HBL, HB, HS⟩ := hrel
              by_cases hli : i < t.length
              · obtain ⟨ad3, hA3, hicell⟩ := Kd.at_int HC4.out (i : Int) (by omega) (by omega)
                subst hA3
                replace hicell := pw_cell_below HB.out hicell
                simp only [Int.toNat_natCast] at hicell
                have hix : t[i]? = some (rd t (i : Int)) := by unfold rd; rw [List.getElem?_eq_getElem hli, List.getD_eq_getElem?_getD, Int.toNat_natCast, List.getElem?_eq_getElem hli]; rfl
                obtain ⟨hx0, hx1⟩ := HM.out _ (List.mem_of_getElem? hix)
                have HT3 := Aside0.mk (tupJ_len hix)
                have HIX := Aside0.mk hix
                clear hix
                generalize rd t (i : Int) = x at *
                have HZ4 := Aside0.mk (show (R ++ tupJ (t.take i)).length + (if t.take i = [] then [] else [(44 : UInt8)]).length + (digs x).length ≤ 140737488355328 by have h1 := HZ3.out; have h2 := HT3.out; rw [List.length_append]; omega)
                have HN1 := Aside0.mk (show R ++ tupJ (t.take (i + 1)) = R ++ tupJ (t.take i) ++ (if t.take i = [] then [] else [44]) ++ digs x by rw [take_snoc' HIX.out, tupJ_snoc]; simp)
                by_cases h0 : i = 0
                · have hp : (if t.take i = [] then ([] : List UInt8) else [44]) = [] := by subst h0; simp
                  rw [hp] at HZ4 HN1
                  generalize R ++ tupJ (t.take i) = S at HBL HZ4 HN1
                  have hg : decide (0 < (i : Int)) = false := by subst h0; rfl
                  have hg2 : decide (0 < i) = false := by subst h0; rfl
                  clear hp h0
                  go_wp2_with (go_at_call 46; refine (itoa_small _ hx0 hx1 _).mono ?_; rintro e w' ⟨rfl, rfl⟩)
                  refine (write_string (w.heap.size + 1) (w.heap.size + 1) S ⟨(digs x).toArray⟩ _ HBL.out (by have := HZ4.out; simp at this; show _ + (digs x).toArray.size ≤ _; simp; omega) (by have := HS.out; omega)).mono ?_
                  rintro e w6 ⟨rfl, hb6, hbb, _⟩
                  have HBL6 := Aside0.mk hb6
                  have HB6 := Aside0.mk (HB.out.trans (hbb.mono (Nat.le_succ _)))
                  have HS8 := Aside0.mk (show w.heap.size + 2 ≤ w6.heap.size from Nat.le_trans HS.out hbb.size)
                  clear hb6 hbb
                  go_wp2
                  go_roundw
                  case rel => exact ⟨i + 1, by go_num, by omega, ⟨by rw [HN1.out]; simpa using HBL6.out⟩, HB6, HS8⟩
                  case measure => simp [intOf]; omega
                · have hp : (if t.take i = [] then ([] : List UInt8) else [44]) = [44] := by rw [if_neg]; intro e; rw [List.take_eq_nil_iff] at e; rcases e with e | e; exact h0 e; subst e; simp at hli
                  rw [hp] at HZ4 HN1
                  generalize R ++ tupJ (t.take i) = S at HBL HZ4 HN1
                  have hg : decide (0 < (i : Int)) = true := by simp; omega
                  have hg2 : decide (0 < i) = true := by simp; omega
                  clear hp h0
                  go_wp2_with (fail)
                  refine (write_byte' (w.heap.size + 1) (w.heap.size + 1) S 44 _ _ (by decide) HBL.out (by have := HZ4.out; simp at this; omega) (by have := HS.out; omega)).mono ?_
                  rintro e w7 ⟨rfl, hb7, hbc, _⟩
                  have HBL7 := Aside0.mk hb7
                  have HB7 := Aside0.mk (HB.out.trans (hbc.mono (Nat.le_succ _)))
                  have HS9 := Aside0.mk (show w.heap.size + 2 ≤ w7.heap.size from Nat.le_trans HS.out hbc.size)
                  clear hb7 hbc hicell
                  go_wp2_with (go_at_call 46; refine (itoa_small _ hx0 hx1 _).mono ?_; rintro e w' ⟨rfl, rfl⟩)
                  refine (write_string (w.heap.size + 1) (w.heap.size + 1) (S ++ [44]) ⟨(digs x).toArray⟩ _ HBL7.out (by have := HZ4.out; simp at this ⊢; show _ + 1 + (digs x).toArray.size ≤ _; simp; omega) (by have := HS9.out; omega)).mono ?_
                  rintro e w6 ⟨rfl, hb6, hbb, _⟩
                  have HBL6 := Aside0.mk hb6
                  have HB6 := Aside0.mk (HB7.out.trans (hbb.mono (Nat.le_succ _)))
                  have HS8 := Aside0.mk (show w.heap.size + 2 ≤ w6.heap.size from Nat.le_trans HS9.out hbb.size)
                  clear hb6 hbb
                  go_wp2
                  go_roundw
                  case rel => exact ⟨i + 1, by go_num, by omega, ⟨by rw [HN1.out]; simpa using HBL6.out⟩, HB6, HS8⟩
                  case measure => simp [intOf]; omega
              · obtain rfl : i = t.length := by omega
                rw [List.take_length] at HBL
                go_wp2
                go_roundw
                case rel => exact ⟨j + 1, by go_num, by omega, ⟨by rw [take_snoc' HTX.out, tupsT_snoc, ← List.append_assoc, ← List.append_assoc, HQE.out, ← HTT.out]; exact HBL.out⟩, HB, HS⟩
                case measure => simp [intOf]; omega
        · obtain rfl : j = f2.length := by omega
          rw [List.take_length] at HBL
          go_wp2
          go_roundw
          case rel => exact ⟨k + 1, by go_num, by omega, ⟨by rw [take_snoc' HX1.out, relsT_snoc]; simpa using HBL.out⟩, HB, HS⟩
          case measure => simp [intOf]; omega
    · obtain rfl : k = l0_1.length := by omega
      rw [List.take_length] at HBL
      go_wp2_with (fail)
      refine (string_of (w.heap.size + 1) (w.heap.size + 1) _ _ HBL.out (by have := HS.out; omega)).mono ?_
      rintro e w2 ⟨rfl, _, hbb⟩
      go_wp2
      go_ret
      exact ⟨by rw [HX.out]; rfl, HB.out.trans (hbb.mono (Nat.le_succ _))⟩
end Go.Proofs.YtfmpaofbnjlniaaGreatDoor.F
/- shape.Parse, by hand. -/
namespace Go.Proofs.YtfmpaofbnjlniaaGreatDoor.F
open Go.RowKit Go.Proofs.YtfmpaofbnjlniaaGreatDoorW.PrintWords Go.Proofs.YtfmpaofbnjlniaaGreatDoorW.PrintLast Go.Proofs.YtfmpaofbnjlniaaGreatDoorW.PrintMore
set_option linter.unusedVariables false
set_option linter.unusedSimpArgs false
open Classical in
/-- What Parse answers once the text has been read. -/
noncomputable def parseEnd (k : Nat) (s : ByteArray) : Option (Int × List S52) → Option (Int × List S52 × Int)
  | none => some (0, [], 3)
  | some p => (shape_Valid.f k p.1 p.2).bind fun b => if b = true then (shape_write.f p.1 p.2).bind fun t => if t.toList = s.toList then some (p.1, p.2, 0) else some (0, [], 3) else some (0, [], 3)
noncomputable def shape_Parse.f (k : Nat) (s : ByteArray) : Option (Int × List S52 × Int) := if (s.size : Int) > 40000 then some (0, [], 3) else parseEnd k s (parseB s)
theorem results_two (tmps : Array Value) (W : World) (g2 g3 : Nat) (a b : Int) (v : Value) (hp2 : tmps.getD 2 undef = .pointer (some ⟨g2, 0, none⟩)) (hp3 : tmps.getD 3 undef = .pointer (some ⟨g3, 0, none⟩))
    (h2 : W.heap[g2]? = some (.cells #[.int .i64 a, v] 24 (0, 0))) (h3 : W.heap[g3]? = some (.cells #[.int .i64 b] 27 (0, 0))) :
    (results Tryz.f14 tmps).run Tryz.prog W = .ok (.tuple #[.agg #[.int .i64 a, v], .int .i64 b]) W := by
  have hc : W.cell? ⟨g3, 0, none⟩ = some (.int .i64 b) := by simp [World.cell?, h3]
  have hp2' : tmps[2]?.getD undef = .pointer (some ⟨g2, 0, none⟩) := by simpa using hp2
  have hp3' : tmps[3]?.getD undef = .pointer (some ⟨g3, 0, none⟩) := by simpa using hp3
  have hr := run_loadVar_row (P := Tryz.prog) W g2 24 24 #[.int .i64 a, v] (0, 0) _ h2 Tryz.underlying24 rfl (by kernel_rfl)
  have hr3 : (loadVar 27 ⟨g3, 0, none⟩).run Tryz.prog W = .ok (.int .i64 b) W := by simp [loadVar, go_sem, hc]
  simp [results, Tryz.results14, hp2', hp3', asAddr, hr, hr3]
def PEnds (w : World) (r : Int × List S52 × Int) (e : Ending) (w' : World) : Prop := ∃ v : Value, e = .returned (.tuple #[.agg #[.int .i64 r.1, v], .int .i64 r.2.2]) ∧ Kd.R k52 52 w' w.heap.size (fun _ => True) v r.2.1 ∧ Below w.heap.size w w'
theorem leave_bad {w W : World} {tmps : Array Value} (hp2 : tmps.getD 2 undef = .pointer (some ⟨w.heap.size, 0, none⟩)) (hp3 : tmps.getD 3 undef = .pointer (some ⟨w.heap.size + 1, 0, none⟩))
    (hB : Below w.heap.size w W) (a : Int) (v : Value) (b : Int) (h2 : W.heap[w.heap.size]? = some (.cells #[.int .i64 a, v] 24 (0, 0))) (h3 : W.heap[w.heap.size + 1]? = some (.cells #[.int .i64 b] 27 (0, 0))) :
    Leaves Tryz.prog Tryz.f14 tmps (PEnds w (0, [], 3)) [{ target := .fn (.func 47) #[.pointer (some ⟨w.heap.size, 0, none⟩), .pointer (some ⟨w.heap.size + 1, 0, none⟩)], args := #[] }] (.panicking [badEntry]) W := by
  refine leaves_cons (f := 47) (args := #[.pointer (some ⟨w.heap.size, 0, none⟩), .pointer (some ⟨w.heap.size + 1, 0, none⟩)]) (by simp) (by simp [go_sem]) ?_
  refine (catch_panicking w.heap.size (w.heap.size + 1) a v b [] W h2 h3).mono ?_
  rintro e u' w'' ⟨rfl, rfl, o, rfl⟩
  have hb := below_alloc (Below.refl W.heap.size W) o
  have k2 := (hb.block w.heap.size (Array.getElem?_eq_some_iff.1 h2).1).trans h2
  have k3 := (hb.block (w.heap.size + 1) (Array.getElem?_eq_some_iff.1 h3).1).trans h3
  have hB2 := below_alloc hB o
  clear hb
  generalize W.alloc o = V at *
  have q2 := blk_put (cs' := #[.int .i64 0, .slice none 0 0]) (blk_put (cs' := #[.int .i64 0, v]) k2 0 (.int .i64 0) rfl) 1 (.slice none 0 0) rfl
  have q3 := ((Below.heap_setCell (V.setCell ⟨w.heap.size, 0, none⟩ (.int .i64 0)) ⟨w.heap.size, 1, none⟩ (.slice none 0 0) (w.heap.size + 1) (by simp)).trans ((Below.heap_setCell V ⟨w.heap.size, 0, none⟩ (.int .i64 0) (w.heap.size + 1) (by simp)).trans k3))
  have z2 := (Below.heap_setCell ((V.setCell ⟨w.heap.size, 0, none⟩ (.int .i64 0)).setCell ⟨w.heap.size, 1, none⟩ (.slice none 0 0)) ⟨w.heap.size + 1, 0, none⟩ (.int .i64 3) w.heap.size (by simp)).trans q2
  have z3 := blk_put (cs' := #[.int .i64 3]) q3 0 (.int .i64 3) rfl
  exact ⟨_, results_two tmps _ _ _ 0 3 _ hp2 hp3 z2 z3, _, rfl, Kd.R_nil _ _ _ _ _, below_set (below_set (below_set hB2 (Nat.le_refl _)) (Nat.le_refl _)) (Nat.le_succ _)⟩
theorem leave_ok {w W : World} {tmps : Array Value} (hp2 : tmps.getD 2 undef = .pointer (some ⟨w.heap.size, 0, none⟩)) (hp3 : tmps.getD 3 undef = .pointer (some ⟨w.heap.size + 1, 0, none⟩))
    (hB : Below w.heap.size w W) (a : Int) (v : Value) (l : List S52) (b : Int) (h2 : W.heap[w.heap.size]? = some (.cells #[.int .i64 a, v] 24 (0, 0))) (h3 : W.heap[w.heap.size + 1]? = some (.cells #[.int .i64 b] 27 (0, 0)))
    (hR : Kd.R k52 52 W w.heap.size (fun _ => True) v l) :
    Leaves Tryz.prog Tryz.f14 tmps (PEnds w (a, l, b)) [{ target := .fn (.func 47) #[.pointer (some ⟨w.heap.size, 0, none⟩), .pointer (some ⟨w.heap.size + 1, 0, none⟩)], args := #[] }] .returning W := by
  refine leaves_cons (f := 47) (args := #[.pointer (some ⟨w.heap.size, 0, none⟩), .pointer (some ⟨w.heap.size + 1, 0, none⟩)]) (by simp) (by simp [go_sem]) ?_
  refine (catch_idle w.heap.size (w.heap.size + 1) W).mono ?_
  rintro e u' w'' ⟨rfl, rfl, o, rfl⟩
  have hb := below_alloc (Below.refl W.heap.size W) o
  have k2 := (hb.block w.heap.size (Array.getElem?_eq_some_iff.1 h2).1).trans h2
  have k3 := (hb.block (w.heap.size + 1) (Array.getElem?_eq_some_iff.1 h3).1).trans h3
  exact ⟨_, results_two tmps _ _ _ a b _ hp2 hp3 k2 k3, _, rfl, Kd.R_alloc hR o, below_alloc hB o⟩
theorem leave_set {w W : World} {tmps : Array Value} (hp2 : tmps.getD 2 undef = .pointer (some ⟨w.heap.size, 0, none⟩)) (hp3 : tmps.getD 3 undef = .pointer (some ⟨w.heap.size + 1, 0, none⟩))
    (hB : Below w.heap.size w W) (a : Int) (v : Value) (l : List S52) (b a0 : Int) (v0 : Value) (b0 : Int) (h2 : W.heap[w.heap.size]? = some (.cells #[.int .i64 a0, v0] 24 (0, 0))) (h3 : W.heap[w.heap.size + 1]? = some (.cells #[.int .i64 b0] 27 (0, 0)))
    (hR : Kd.R k52 52 W w.heap.size (fun _ => True) v l) :
    Leaves Tryz.prog Tryz.f14 tmps (PEnds w (a, l, b)) [{ target := .fn (.func 47) #[.pointer (some ⟨w.heap.size, 0, none⟩), .pointer (some ⟨w.heap.size + 1, 0, none⟩)], args := #[] }] .returning
      (((W.setCell ⟨w.heap.size, 0, none⟩ (.int .i64 a)).setCell ⟨w.heap.size, 1, none⟩ v).setCell ⟨w.heap.size + 1, 0, none⟩ (.int .i64 b)) := by
  have p2 := blk_put (cs' := #[.int .i64 a, v0]) h2 0 (.int .i64 a) rfl
  have q2 := blk_put (cs' := #[.int .i64 a, v]) p2 1 v rfl
  have q3 := ((Below.heap_setCell (W.setCell ⟨w.heap.size, 0, none⟩ (.int .i64 a)) ⟨w.heap.size, 1, none⟩ v (w.heap.size + 1) (by simp)).trans ((Below.heap_setCell W ⟨w.heap.size, 0, none⟩ (.int .i64 a) (w.heap.size + 1) (by simp)).trans h3))
  have z2 := (Below.heap_setCell ((W.setCell ⟨w.heap.size, 0, none⟩ (.int .i64 a)).setCell ⟨w.heap.size, 1, none⟩ v) ⟨w.heap.size + 1, 0, none⟩ (.int .i64 b) w.heap.size (by simp)).trans q2
  have z3 := blk_put (cs' := #[.int .i64 b]) q3 0 (.int .i64 b) rfl
  have r1 := Kd.R_set hR h2 (by decide) 0 (.int .i64 a)
  have r2 := Kd.R_set r1 p2 (by decide) 1 v
  have r3 := Kd.R_set r2 q3 (by decide) 0 (.int .i64 b)
  exact leave_ok hp2 hp3 (below_set (below_set (below_set hB (Nat.le_refl _)) (Nat.le_refl _)) (Nat.le_succ _)) a v l b z2 z3 r3
theorem infoRel : (Tryz.prog.info? 52).map (fun i => (i.zero, i.size, i.bytes)) = some (some (.agg #[.string ⟨#[]⟩, .int .i64 0, .slice none 0 0]), 3, 48) := by kernel_rfl
theorem callE_ {P : Program} {ops : Array Oper} {Q : Exit → Act → World → Prop} {oi : Oper} {N : Option Tmp} {a : Act} {w : World} {K : Act → World → Prop} (f : FuncId) (args : Array Value) (hw : Region.wanted oi (yielded ops a.tmps) = true) (hN : oi.dst = N) (hrun : (execOp a.eval oi).run P w = .ok (.enter f args) w)
    (h : Calls P f args w fun e w' => (∃ v, e = .returned v ∧ K (a.put N v) w') ∨ (∃ c, e = .panicked c ∧ Q (.panic c) a w')) : if Region.wanted oi (yielded ops a.tmps) = true then Oper.wp P oi a w K Q else K (a.put N undef) w := by
  rw [if_pos hw]
  subst hN
  unfold Oper.wp
  rw [hrun, Oper.upon_enter]
  refine h.mono fun e w'' hh => ?_
  rcases hh with ⟨v, rfl, hk⟩ | ⟨c, rfl, hk⟩ <;> exact hk
def BadAt (t2 t3 : Value) (D : List Deferred) (G : World → Prop) : Exit → Act → World → Prop
  | .panic c, a, w => c = [badEntry] ∧ a.tmps.getD 2 undef = t2 ∧ a.tmps.getD 3 undef = t3 ∧ a.defers = D ∧ G w
  | _, _, _ => False
set_option maxHeartbeats 4000000 in
set_option maxRecDepth 100000 in
theorem parse_calls (k : Nat) (s : ByteArray) (r : Int × List S52 × Int) (w : World) (hG : Glob w) (h : shape_Parse.f k s = some r) :
    Calls Tryz.prog 14 #[.string s] w (PEnds w r) := by
  have hmf : ∀ (fn : Fn) (first cap : Array Value) (w : World), (Instr.makeFunc fn first cap).run Tryz.prog w = .ok (.func fn first cap) w := fun _ _ _ _ => rfl
  have HG := Aside0.mk hG
  unfold shape_Parse.f at h
  by_cases c1 : (s.size : Int) > 40000
  · rw [if_pos c1] at h
    injection h with h
    subst h
    have c1b : decide (40000 < (s.size : Int)) = true := decide_eq_true c1
    have c1c : decide (40000 < s.size) = true := decide_eq_true (by omega)
    clear hG c1
    go_enter_defers Tryz.func14, Tryz.ntmps14
    go_wp2
    have hB := below_alloc (below_alloc (Below.refl w.heap.size w) (.cells #[.int .i64 0, .slice none 0 0] 24)) (.cells #[.int .i64 3] 27)
    have k2 : ((w.alloc (.cells #[.int .i64 0, .slice none 0 0] 24)).alloc (.cells #[.int .i64 3] 27)).heap[w.heap.size]? = some (.cells #[.int .i64 0, .slice none 0 0] 24 (0, 0)) := ((below_alloc (Below.refl (w.alloc (.cells #[.int .i64 0, .slice none 0 0] 24)).heap.size _) (.cells #[.int .i64 3] 27)).block w.heap.size (by simp)).trans (heap_alloc_new w _)
    have k3 : ((w.alloc (.cells #[.int .i64 0, .slice none 0 0] 24)).alloc (.cells #[.int .i64 3] 27)).heap[w.heap.size + 1]? = some (.cells #[.int .i64 3] 27 (0, 0)) := by have := heap_alloc_new (w.alloc (.cells #[.int .i64 0, .slice none 0 0] 24)) (.cells #[.int .i64 3] 27); simpa using this
    exact ⟨_, results_two _ _ _ _ 0 3 _ rfl rfl k2 k3, _, rfl, Kd.R_nil _ _ _ _ _, hB⟩
  · rw [if_neg c1] at h
    have c1b : decide (40000 < (s.size : Int)) = false := decide_eq_false c1
    have c1c : decide (40000 < s.size) = false := decide_eq_false (by omega)
    have hms : (splitL s sepR).length ≤ 40001 := Nat.le_trans (splitL_many s sepR (by decide)) (by omega)
    have hs : s.size ≤ 40000 := by omega
    have HS := Aside0.mk (fun x (hx : x ∈ splitL s sepR) => Nat.le_trans (splitL_mem hx) hs)
    obtain ⟨p0, ps, hps⟩ : ∃ p0 ps, splitL s sepR = p0 :: ps := by
      cases h : splitL s sepR with
      | nil => exact absurd h (splitL_ne s sepR (by decide))
      | cons a b => exact ⟨a, b, rfl⟩
    rw [show parseB s = (numB p0).bind fun n => (relsB ps).map fun l => (n, l) by unfold parseB; rw [hps]] at h
    have H := Aside0.mk h
    have HPS := Aside0.mk hps
    clear hG hps h c1
    go_enter_defers Tryz.func14, Tryz.ntmps14
    go_wp2_with (fail)
    have hB := below_alloc (below_alloc (Below.refl w.heap.size w) (.cells #[.int .i64 0, .slice none 0 0] 24)) (.cells #[.int .i64 0] 27)
    have k2 : ((w.alloc (.cells #[.int .i64 0, .slice none 0 0] 24)).alloc (.cells #[.int .i64 0] 27)).heap[w.heap.size]? = some (.cells #[.int .i64 0, .slice none 0 0] 24 (0, 0)) := ((below_alloc (Below.refl (w.alloc (.cells #[.int .i64 0, .slice none 0 0] 24)).heap.size _) (.cells #[.int .i64 0] 27)).block w.heap.size (by simp)).trans (heap_alloc_new w _)
    have k3 : ((w.alloc (.cells #[.int .i64 0, .slice none 0 0] 24)).alloc (.cells #[.int .i64 0] 27)).heap[w.heap.size + 1]? = some (.cells #[.int .i64 0] 27 (0, 0)) := by have := heap_alloc_new (w.alloc (.cells #[.int .i64 0, .slice none 0 0] 24)) (.cells #[.int .i64 0] 27); simpa using this
    refine (split_calls s sepR _ (HG.out.below hB) (by omega) (by decide) (by omega)).mono ?_
    rintro e w1 ⟨v0, rfl, hv0, hb1⟩
    have HB1 := Aside0.mk (below_step hB hb1)
    have K2 := Aside0.mk ((hb1.block w.heap.size (Array.getElem?_eq_some_iff.1 k2).1).trans k2)
    have K3 := Aside0.mk ((hb1.block (w.heap.size + 1) (Array.getElem?_eq_some_iff.1 k3).1).trans k3)
    have hlt2 : w.heap.size < w1.heap.size := (Array.getElem?_eq_some_iff.1 K2.out).1
    have hlt3 : w.heap.size + 1 < w1.heap.size := (Array.getElem?_eq_some_iff.1 K3.out).1
    obtain ⟨A0, c0, rfl, hl0, hC0⟩ := Kd.R_reads hv0
    rw [HPS.out] at hl0 hC0 hms
    have hlen : (splitL s sepR).length = (p0 :: ps).length := congrArg List.length HPS.out
    rw [hlen]
    obtain ⟨ad, hA, hcell0⟩ := Kd.at_string hC0 0 (by omega) (by simp)
    subst hA
    have hcp : w1.cell? ad = some (.string p0) := by
      have h := hcell0
      rw [show ((0 : Int).toNat) = 0 from rfl, Addr.add_zero'] at h
      simpa [rdOf] using h
    have HC0 := Aside0.mk hC0
    have hp0 : p0.size ≤ 40000 := HS.out p0 (by rw [HPS.out]; simp)
    have HG1 := Aside0.mk (HG.out.below HB1.out)
    clear hv0 hb1 hC0 hcell0 hlen k2 k3 hB
    go_wp2_with (fail)
    refine (number_calls p0 (by omega) _ HG1.out).mono ?_
    rintro e w3 ⟨rfl, hb3⟩
    have HB3 := Aside0.mk (below_step HB1.out hb3)
    have K2' := Aside0.mk ((hb3.block w.heap.size hlt2).trans K2.out)
    have K3' := Aside0.mk ((hb3.block (w.heap.size + 1) hlt3).trans K3.out)
    have HB31 := Aside0.mk hb3
    clear hb3
    cases hn : numB p0 with
    | none =>
      rw [hn] at H
      obtain rfl := Option.some.inj H.out
      simp only
      go_wp2
      exact leave_bad rfl rfl HB3.out _ _ _ K2'.out K3'.out
    | some n =>
      rw [hn] at H
      simp only [Option.bind_some] at H
      clear hn
      obtain ⟨A1, hcut, hCT, hcc⟩ := cut_tail ad c0 (ps.length + 1) p0 ps w1 rfl hl0 HC0.out
      have HCT := Aside0.mk hCT
      have hpl : ps.length ≤ 40000 := by simp at hms; omega
      have HSP := Aside0.mk (fun x (hx : x ∈ ps) => HS.out x (by rw [HPS.out]; exact List.mem_cons_of_mem _ hx))
      clear hCT HC0 HPS HS hl0
      simp only
      go_wp2
      clear hcut
      have HB4 := Aside0.mk (below_alloc HB31.out (.cells #[.int .i64 n, .slice none 0 0] 24))
      have H5 := Aside0.mk (heap_alloc_new w3 (.cells #[.int .i64 n, .slice none 0 0] 24))
      have HG5 := Aside0.mk HB31.out.size
      have X2 := Aside0.mk (((below_alloc (Below.refl w3.heap.size w3) (.cells #[.int .i64 n, .slice none 0 0] 24)).block w.heap.size (Array.getElem?_eq_some_iff.1 K2'.out).1).trans K2'.out)
      have X3 := Aside0.mk (((below_alloc (Below.refl w3.heap.size w3) (.cells #[.int .i64 n, .slice none 0 0] 24)).block (w.heap.size + 1) (Array.getElem?_eq_some_iff.1 K3'.out).1).trans K3'.out)
      generalize w3.alloc (.cells #[.int .i64 n, .slice none 0 0] 24) = w4 at *
      generalize w3.heap.size = g5 at *
      clear HB31 HB3 K2' K3'
      go_loopw [23] (fun v23 wr => ∃ (j : Nat) (v : Value) (ls : List S52), v23 = .int .i64 j ∧ j ≤ ps.length ∧ Aside0 (relsB (ps.take j) = some ls) ∧ Aside0 (wr.heap[g5]? = some (.cells #[.int .i64 n, v] 24 (0, 0))) ∧ Aside0 (Kd.R k52 52 wr w1.heap.size (fun _ => True) v ls) ∧ Aside0 (Below w1.heap.size w1 wr)) (fun v23 _ => ps.length - (intOf v23).toNat)
      case atStart => exact ⟨0, .slice none 0 0, [], rfl, Nat.zero_le _, ⟨rfl⟩, H5, ⟨Kd.R_nil _ _ _ _ _⟩, HB4⟩
      case round =>
        clear H5 HB4 X2 X3
        obtain ⟨j, v, ls, rfl, hj, HTS, H5, HV, HB⟩ := hrel
        by_cases hlt : j < ps.length
        · obtain ⟨ad2, hA1, hjc⟩ := Kd.at_string HCT.out (j : Int) (by omega) (by omega)
          subst hA1
          replace hjc := pw_cell_below HB.out hjc
          simp only [Int.toNat_natCast] at hjc
          have hjx : ps[j]? = some (rdOf ByteArray.empty ps (j : Int)) := by unfold rdOf; rw [List.getElem?_eq_getElem hlt, List.getD_eq_getElem?_getD, Int.toNat_natCast, List.getElem?_eq_getElem hlt]; rfl
          have hpz := HSP.out _ (List.mem_of_getElem? hjx)
          have HJ := Aside0.mk hjx
          clear hjx
          generalize rdOf ByteArray.empty ps (j : Int) = p at *
          have hc5 : wr.cell? ⟨g5, 1, none⟩ = some v := by simp [World.cell?, H5.out]
          have hf5 : wr.frozen? ⟨g5, 1, none⟩ = false := by simp [World.frozen?, H5.out]
          go_upto_region 9 with (fail)
          have HGr := Aside0.mk ((HG1.out.below HB.out).drew)
          have HBd := Aside0.mk (below_drew HB.out)
          have H5d := Aside0.mk (show wr.drew.heap[g5]? = some (.cells #[.int .i64 n, v] 24 (0, 0)) from H5.out)
          have HVd := Aside0.mk (Kd.R_drew HV.out)
          have hg5 : g5 < wr.drew.heap.size := (Array.getElem?_eq_some_iff.1 H5d.out).1
          have hcd : wr.drew.cell? ⟨g5, 1, none⟩ = some v := hc5
          cases hr : relB p with
          | none =>
            have HN0 := Aside0.mk (show r = (0, [], 3) by have h := H.out; rw [relsB_stop HJ.out hr] at h; exact (Option.some.inj h).symm)
            refine Code.wp_mono (Q := BadAt (.pointer (some ⟨w.heap.size, 0, none⟩)) (.pointer (some ⟨w.heap.size + 1, 0, none⟩)) [{ target := .fn (.func 47) #[.pointer (some ⟨w.heap.size, 0, none⟩), .pointer (some ⟨w.heap.size + 1, 0, none⟩)], args := #[] }] (fun w' => Below w1.heap.size w1 w')) ?_ ?_
            · intro e a2 w2 hbad
              cases e <;> first | exact hbad.elim | skip
              obtain ⟨rfl, h2, h3, h4, h5⟩ := hbad
              obtain ⟨tm2, df2⟩ := a2
              simp only at h2 h3 h4
              subst h4
              obtain rfl := HN0.out
              have K2' := (h5.block w.heap.size hlt2).trans K2.out
              have K3' := (h5.block (w.heap.size + 1) hlt3).trans K3.out
              exact leave_bad h2 h3 (below_step HB1.out h5) _ _ _ K2' K3'
            · refine start_ (n := 8) (S := fun w' => w'.cell? ⟨g5, 1, none⟩ = some v) (ds := [7]) #[false, false, false, false, false, false, false, false] (by kernel_rfl) rfl rfl hcd (fun hHeld => ?_)
              generalize wr.drew = wd at *
              refine pure_ (i := 0) (N := some 27) (v := ?_) (a' := ?_) #[true, false, false, false, false, false, false, false] rfl rfl (by kernel_rfl) (fun _ _ _ h => ⟨h.1, by have := h.2.1; simpa [Act.put] using this, by have := h.2.2.1; simpa [Act.put] using this, h.2.2.2.1, h.2.2.2.2⟩) (Or.inl ⟨by rfl, ?_⟩) ?_ ?_
              rotate_left
              · intro w'
                go_simp
                with_reducible rfl
              rotate_left
              · simp only [Act.put, List.setIfInBounds_toArray, List.set_cons_zero, List.set_cons_succ, i64_w, i32_w]
                rfl
              refine pure_ (i := 2) (N := some 29) (v := ?_) (a' := ?_) #[true, false, true, false, false, false, false, false] rfl rfl (by kernel_rfl) (fun _ _ _ h => ⟨h.1, by have := h.2.1; simpa [Act.put] using this, by have := h.2.2.1; simpa [Act.put] using this, h.2.2.2.1, h.2.2.2.2⟩) (Or.inl ⟨by rfl, ?_⟩) ?_ ?_
              rotate_left
              · intro w'
                go_simp
                with_reducible rfl
              rotate_left
              · simp only [Act.put, List.setIfInBounds_toArray, List.set_cons_zero, List.set_cons_succ, i64_w, i32_w]
                rfl
              refine take_ (i := 1) (N := some 28) (v := ?_) (a' := ?_) #[true, true, true, false, false, false, false, false] rfl rfl (by kernel_rfl) (fun _ _ _ h => ⟨h.1, by have := h.2.1; simpa [Act.put] using this, by have := h.2.2.1; simpa [Act.put] using this, h.2.2.2.1, h.2.2.2.2⟩) (Or.inl ⟨by rfl, ?_⟩) hHeld ?_ ?_
              rotate_left
              · intro w' s0
                go_simp
                with_reducible rfl
              rotate_left
              · simp only [Act.put, List.setIfInBounds_toArray, List.set_cons_zero, List.set_cons_succ, i64_w, i32_w]
                rfl
              refine one_ (i := 3) (N := some 30) #[true, true, true, true, false, false, false, false] rfl rfl (by kernel_rfl) (by decide) (fun K hK => ?_)
              refine callE_ 50 #[.string p] (by rfl) rfl (by go_simp) ?_
              refine (relation_calls p (by omega) _ HGr.out).mono ?_
              rw [hr]
              rintro e w6 ⟨rfl, hb6⟩
              right
              exact ⟨_, rfl, rfl, rfl, rfl, rfl, below_step HBd.out hb6⟩
          | some rr =>
            have HRR := Aside0.mk (relsB_step HJ.out HTS.out hr)
            refine wp_region_noPanic ?_
            refine start_ (n := 8) (S := fun w' => w'.cell? ⟨g5, 1, none⟩ = some v) (ds := [7]) #[false, false, false, false, false, false, false, false] (by kernel_rfl) rfl rfl hcd (fun hHeld => ?_)
            generalize wr.drew = wd at *
            refine pure_ (i := 0) (N := some 27) (v := ?_) (a' := ?_) #[true, false, false, false, false, false, false, false] rfl rfl (by kernel_rfl) (fun _ _ _ h => h) (Or.inl ⟨by rfl, ?_⟩) ?_ ?_
            rotate_left
            · intro w'
              go_simp
              with_reducible rfl
            rotate_left
            · simp only [Act.put, List.setIfInBounds_toArray, List.set_cons_zero, List.set_cons_succ, i64_w, i32_w]
              rfl
            refine pure_ (i := 2) (N := some 29) (v := ?_) (a' := ?_) #[true, false, true, false, false, false, false, false] rfl rfl (by kernel_rfl) (fun _ _ _ h => h) (Or.inl ⟨by rfl, ?_⟩) ?_ ?_
            rotate_left
            · intro w'
              go_simp
              with_reducible rfl
            rotate_left
            · simp only [Act.put, List.setIfInBounds_toArray, List.set_cons_zero, List.set_cons_succ, i64_w, i32_w]
              rfl
            refine take_ (i := 1) (N := some 28) (v := ?_) (a' := ?_) #[true, true, true, false, false, false, false, false] rfl rfl (by kernel_rfl) (fun _ _ _ h => h) (Or.inl ⟨by rfl, ?_⟩) hHeld ?_ ?_
            rotate_left
            · intro w' s0
              go_simp
              with_reducible rfl
            rotate_left
            · simp only [Act.put, List.setIfInBounds_toArray, List.set_cons_zero, List.set_cons_succ, i64_w, i32_w]
              rfl
            refine one_ (i := 3) (N := some 30) #[true, true, true, true, false, false, false, false] rfl rfl (by kernel_rfl) (by decide) (fun K hK => ?_)
            refine callE_ 50 #[.string p] (by rfl) rfl (by go_simp) ?_
            refine (relation_calls p (by omega) _ HGr.out).mono ?_
            rw [hr]
            rintro e w6 ⟨va, rfl, hRa, hb6⟩
            left
            refine ⟨_, rfl, ?_⟩
            have HB6 := Aside0.mk (below_step HBd.out hb6)
            have H56 := Aside0.mk ((hb6.block g5 hg5).trans H5d.out)
            have HV6 := Aside0.mk (Kd.R_below HVd.out hb6)
            have HRa := Aside0.mk (Kd.R_lower (Kd.R_newR hRa HVd.out) HBd.out.size)
            refine hK.out _ _ (pw_cell_below hb6 hcd) (fun hHeld2 => ?_)
            obtain ⟨Aa, ca, ea⟩ := Kd.R_slice hRa
            subst ea
            clear hK K hb6 hRa HVd HV H5 H5d HBd hr
            refine norm_ (a' := ?_) ?_ ?_
            rotate_left
            · show Act.put _ (some 30) _ = _
              simp only [Act.put, List.setIfInBounds_toArray, List.set_cons_zero, List.set_cons_succ, i64_w, i32_w]
              rfl
            refine one_ (i := 4) (N := some 31) #[true, true, true, true, true, false, false, false] rfl rfl (by kernel_rfl) (by decide) (fun K hK => ?_)
            refine value_ (w1 := ?_) (v := ?_) (by rfl) rfl ?_ ?_
            rotate_left 2
            · go_simp
              constructor
              · rfl
              · rfl
            refine hK.out _ _ ((blk_cell (blk_alloc H56.out _) 1).trans rfl) (fun hHeld => ?_)
            clear hK K
            refine norm_ (a' := ?_) ?_ ?_
            rotate_left
            · show Act.put _ (some 31) _ = _
              simp only [Act.put, List.setIfInBounds_toArray, List.set_cons_zero, List.set_cons_succ, i64_w, i32_w]
              rfl
            refine one_ (i := 5) (N := some 32) #[true, true, true, true, true, true, false, false] rfl rfl (by kernel_rfl) (by decide) (fun K hK => ?_)
            refine Kd.R_append_step k52 (w0 := w1) w1.heap.size (by rfl) (.tmp 28) (.tmp 31) 22 52 (.agg #[(.string ⟨#[]⟩), (.int .i64 0), (.slice none 0 0)]) 48 rfl Tryz.underlying22 infoRel rfl (by decide) (by omega) v ls rr [.string rr.f0, .int .i64 rr.f1, .slice Aa rr.f2.length ca] (fun _ => True) (fun k_ => True ∧ some k_ ≠ v.ownBlock) rfl rfl ?aP (fun _ hk => hk) ?aF ?aO ?aB ?aS ?aL ?_
            (case aP => exact k52_mkM _ _ _ rr HRa.out)
            (case aB => exact HB6.out)
            (case aF => exact (fun _ _ => trivial))
            (case aO => exact HV6.out)
            (case aS => exact HB6.out.size)
            (case aL => have := relsB_len HTS.out; rw [List.length_take] at this; omega)
            intro v7 w7 ho hb hg hat
            have n0_ := Aside0.mk hb
            have n1_ := Aside0.mk ho
            have n2_ := Aside0.mk (blk_grown H56.out hg (Kd.R_ne HV6.out H56.out (by decide)))
            clear ho hb hg hat HB6 HV6 HRa
            obtain ⟨A7, c7, e7⟩ := Kd.R_slice n1_.out
            subst e7
            rw [show (ls ++ [rr]).length = ls.length + 1 from by simp] at n1_ ⊢
            refine hK.out _ _ ((blk_cell n2_.out 1).trans rfl) (fun hHeld => ?_)
            clear hK K
            refine norm_ (a' := ?_) ?_ ?_
            rotate_left
            · show Act.put _ (some 32) _ = _
              simp only [Act.put, List.setIfInBounds_toArray, List.set_cons_zero, List.set_cons_succ, i64_w, i32_w]
              rfl
            refine pure_ (i := 6) (N := some 33) (v := ?_) (a' := ?_) #[true, true, true, true, true, true, true, false] rfl rfl (by kernel_rfl) (fun _ _ _ h => h) (Or.inl ⟨by rfl, ?_⟩) ?_ ?_
            rotate_left
            · intro w'
              go_simp
              with_reducible rfl
            rotate_left
            · simp only [Act.put, List.setIfInBounds_toArray, List.set_cons_zero, List.set_cons_succ, i64_w, i32_w]
              rfl
            refine last_ (i := 7) (N := none) #[true, true, true, true, true, true, true, true] rfl rfl (by kernel_rfl) (by decide) (fun K hK => ?_)
            have hs7 : w7.cell? ⟨g5, 1, none⟩ = some v := (blk_cell n2_.out 1).trans rfl
            have hf7 := blk_frozen n2_.out 1
            refine skip_ (w1 := ?_) (by rfl) rfl ?_ ?_
            rotate_left
            · go_simp
              rfl
            refine hK.out _ _ ?_
            clear hK K
            refine done_ (by kernel_rfl) ?_
            refine NoPanic.normal ?_
            have n3_ := Aside0.mk (Kd.R_set n1_.out n2_.out (by decide) 1 (.slice A7 (ls.length + 1) c7))
            have n4_ := Aside0.mk (blk_put (cs' := #[.int .i64 n, .slice A7 (ls.length + 1) c7]) n2_.out 1 (.slice A7 (ls.length + 1) c7) rfl)
            have n5_ := Aside0.mk (below_set (j := 1) (v := .slice A7 (ls.length + 1) c7) n0_.out HG5.out)
            try go_wp2
            go_roundw
            · exact ⟨j + 1, _, _, (by simp), hlt, HRR, n4_, n3_, n5_⟩
            · simp [intOf]; omega
        · obtain rfl : j = ps.length := by omega
          rw [List.take_length] at HTS
          rw [HTS.out] at H
          simp only [Option.map_some, parseEnd] at H
          obtain ⟨b, hvb, hend⟩ := Option.bind_eq_some_iff.1 H.out
          have HVB := Aside0.mk hvb
          have HEND := Aside0.mk hend
          clear hvb hend H
          have hc50 : wr.cell? ⟨g5, 0, none⟩ = some (.int .i64 n) := by simp [World.cell?, H5.out]
          have hc51 : wr.cell? ⟨g5, 1, none⟩ = some v := by simp [World.cell?, H5.out]
          obtain ⟨Av, cv, hv, hlv, hCv⟩ := Kd.R_reads HV.out
          subst hv
          have HCv := Aside0.mk hCv
          have HGr := Aside0.mk (HG1.out.below HB.out)
          have K2' := Aside0.mk ((HB.out.block w.heap.size hlt2).trans K2.out)
          have K3' := Aside0.mk ((HB.out.block (w.heap.size + 1) hlt3).trans K3.out)
          clear hCv
          go_wp2_with (fail)
          refine (shape_Valid.calls k n Av cv ls b wr HCv.out hlv HVB.out).mono ?_
          rintro e w8 ⟨rfl, hb8⟩
          have HB8 := Aside0.mk (below_step HB.out hb8)
          have KK2 := Aside0.mk ((HB8.out.block w.heap.size hlt2).trans K2.out)
          have KK3 := Aside0.mk ((HB8.out.block (w.heap.size + 1) hlt3).trans K3.out)
          have HV8 := Aside0.mk (Kd.R_below HV.out hb8)
          have H58 := Aside0.mk ((hb8.block g5 (Array.getElem?_eq_some_iff.1 H5.out).1).trans H5.out)
          clear hb8 hc50 hc51 H5 HV HCv K2' K3' HB
          cases b with
          | false =>
            simp only [Bool.false_eq_true, if_false] at HEND
            obtain rfl := Option.some.inj HEND.out
            have y0 : w8.cell? ⟨w.heap.size, 0, none⟩ = some (.int .i64 0) := by simp [World.cell?, KK2.out]
            have y1 : w8.cell? ⟨w.heap.size, 1, none⟩ = some (.slice none 0 0) := by simp [World.cell?, KK2.out]
            have y2 : w8.cell? ⟨w.heap.size + 1, 0, none⟩ = some (.int .i64 0) := by simp [World.cell?, KK3.out]
            have z0 : w8.frozen? ⟨w.heap.size, 0, none⟩ = false := by simp [World.frozen?, KK2.out]
            have z1 : w8.frozen? ⟨w.heap.size, 1, none⟩ = false := by simp [World.frozen?, KK2.out]
            have z2 : w8.frozen? ⟨w.heap.size + 1, 0, none⟩ = false := by simp [World.frozen?, KK3.out]
            go_wp2
            exact leave_set rfl rfl (below_step HB1.out HB8.out) 0 _ [] 3 _ _ _ KK2.out KK3.out (Kd.R_nil _ _ _ _ _)
          | true =>
            simp only [if_true] at HEND
            obtain ⟨t, hwt, hend⟩ := Option.bind_eq_some_iff.1 HEND.out
            obtain ⟨_, _, hC8⟩ := Kd.R_reads' HV8.out
            have hc50 : w8.cell? ⟨g5, 0, none⟩ = some (.int .i64 n) := by simp [World.cell?, H58.out]
            have hc51 : w8.cell? ⟨g5, 1, none⟩ = some (.slice Av ls.length cv) := by simp [World.cell?, H58.out]
            have HC8 := Aside0.mk hC8
            have HWT := Aside0.mk hwt
            have HE2 := Aside0.mk hend
            clear hC8 hwt hend HEND
            go_wp2_with (fail)
            refine (shape_write.calls n Av cv ls t w8 HC8.out hlv HWT.out).mono ?_
            rintro e w9 ⟨rfl, hb9⟩
            have HB9 := Aside0.mk (below_step HB8.out hb9)
            have KK2 := Aside0.mk ((HB9.out.block w.heap.size hlt2).trans K2.out)
            have KK3 := Aside0.mk ((HB9.out.block (w.heap.size + 1) hlt3).trans K3.out)
            have HV9 := Aside0.mk (Kd.R_below HV8.out hb9)
            have H59 := Aside0.mk ((hb9.block g5 (Array.getElem?_eq_some_iff.1 H58.out).1).trans H58.out)
            clear hb9 hc50 hc51 H58 HV8 HC8 HB8
            have y0 : w9.cell? ⟨w.heap.size, 0, none⟩ = some (.int .i64 0) := by simp [World.cell?, KK2.out]
            have y1 : w9.cell? ⟨w.heap.size, 1, none⟩ = some (.slice none 0 0) := by simp [World.cell?, KK2.out]
            have y2 : w9.cell? ⟨w.heap.size + 1, 0, none⟩ = some (.int .i64 0) := by simp [World.cell?, KK3.out]
            have z0 : w9.frozen? ⟨w.heap.size, 0, none⟩ = false := by simp [World.frozen?, KK2.out]
            have z1 : w9.frozen? ⟨w.heap.size, 1, none⟩ = false := by simp [World.frozen?, KK2.out]
            have z2 : w9.frozen? ⟨w.heap.size + 1, 0, none⟩ = false := by simp [World.frozen?, KK3.out]
            have hc50 : w9.cell? ⟨g5, 0, none⟩ = some (.int .i64 n) := by simp [World.cell?, H59.out]
            have hc51 : w9.cell? ⟨g5, 1, none⟩ = some (.slice Av ls.length cv) := by simp [World.cell?, H59.out]
            by_cases ht : t.toList = s.toList
            · have HE3 := Aside0.mk (show some (n, ls, (0 : Int)) = some r by have h := HE2.out; rw [if_pos ht] at h; exact h)
              obtain rfl := Option.some.inj HE3.out
              have htb : (t.toList == s.toList) = true := beq_iff_eq.mpr ht
              go_wp2
              exact leave_set rfl rfl (below_step HB1.out HB9.out) n _ ls 0 _ _ _ KK2.out KK3.out (Kd.R_lower HV9.out HB1.out.size)
            · have HE3 := Aside0.mk (show some ((0 : Int), ([] : List S52), (3 : Int)) = some r by have h := HE2.out; rw [if_neg ht] at h; exact h)
              obtain rfl := Option.some.inj HE3.out
              have htb : (t.toList == s.toList) = false := beq_eq_false_iff_ne.mpr ht
              go_wp2
              exact leave_set rfl rfl (below_step HB1.out HB9.out) 0 _ [] 3 _ _ _ KK2.out KK3.out (Kd.R_nil _ _ _ _ _)
theorem shape_Parse.calls (k : Nat) (a0 : ByteArray) (r1 : Int) (r2 : List S52) (r3 : Int) (w : World) (hG : Glob w) (h : shape_Parse.f k a0 = some (r1, r2, r3)) :
    Calls Tryz.prog 14 #[.string a0] w fun e w' => ∃ v1_ : Value, e = .returned (.tuple #[.agg #[.int .i64 r1, v1_], .int .i64 r3]) ∧ Kd.R k52 52 w' w.heap.size (fun _ => True) v1_ r2 ∧ Below w.heap.size w w' :=
  parse_calls k a0 (r1, r2, r3) w hG h
end Go.Proofs.YtfmpaofbnjlniaaGreatDoor.F
namespace Go.Proofs.YtfmpaofbnjlniaaGreatDoor.F
open Go.RowKit Go.Proofs.YtfmpaofbnjlniaaGreatDoorW.PrintWords Go.Proofs.YtfmpaofbnjlniaaGreatDoorW.PrintLast Go.Proofs.YtfmpaofbnjlniaaGreatDoorW.PrintMore
attribute [local go_sem] max2_int min2_int max_two min_two max_three min_three max_four min_four
set_option linter.unusedVariables false
set_option linter.unusedSimpArgs false
/-! ### paraphrastlaw01_alive: function 10 -/
noncomputable def paraphrastlaw01_alive.f (k : Nat)  : Option (Bool) := (shape_Parse.f k (⟨#[51, 59, 32, 69, 47, 50, 32, 48, 44, 49, 32, 49, 44, 50, 59, 32, 80, 47, 49, 32, 50, 59, 32, 81, 47, 48, 32, 40, 41]⟩ : ByteArray)).bind fun bt166 => ((shape_Rank.f k 3 (([1, 2] : List Int))).bind fun bt175 => ((shape_Tuple.f k 2 3 5).bind fun bt177 => ((shape_Has.f k bt166.1 bt166.2.1 (⟨#[69]⟩ : ByteArray) (([1, 2] : List Int))).bind fun bt184 => (if bt166.2.2 = 0 then (if bt175.2 = 0 then (if bt177.2 = 0 then (if bt184.2 = 0 then (if bt166.1 = 3 then (if bt175.1 = 5 then ((paraphrastref01_Equal.f k bt177.1 (([1, 0, 1] : List Int))).bind fun t189 => (if t189 = true then (some bt184.1) else (some false))) else (some false)) else (some false)) else (some false)) else (some false)) else (some false)) else (some false)))))
set_option maxHeartbeats 8000000 in
set_option maxRecDepth 100000 in
theorem paraphrastlaw01_alive.calls (k : Nat)  (r : Bool) (w : World) (hG : Glob w) (h : paraphrastlaw01_alive.f k  = some r) :
  Calls Tryz.prog 10 #[] w fun e w' => e = .returned (.bool r) ∧ Below w.heap.size w w' := by
 have hu24 := Tryz.underlying24
 have HG := Aside0.mk hG
 clear hG
 have HB := Aside0.mk (Below.refl w.heap.size w)
 have H : ((shape_Parse.f k (⟨#[51, 59, 32, 69, 47, 50, 32, 48, 44, 49, 32, 49, 44, 50, 59, 32, 80, 47, 49, 32, 50, 59, 32, 81, 47, 48, 32, 40, 41]⟩ : ByteArray)).bind fun bt166 => ((shape_Rank.f k 3 (([1, 2] : List Int))).bind fun bt175 => ((shape_Tuple.f k 2 3 5).bind fun bt177 => ((shape_Has.f k bt166.1 bt166.2.1 (⟨#[69]⟩ : ByteArray) (([1, 2] : List Int))).bind fun bt184 => (if bt166.2.2 = 0 then (if bt175.2 = 0 then (if bt177.2 = 0 then (if bt184.2 = 0 then (if bt166.1 = 3 then (if bt175.1 = 5 then ((paraphrastref01_Equal.f k bt177.1 (([1, 0, 1] : List Int))).bind fun t189 => (if t189 = true then (some bt184.1) else (some false))) else (some false)) else (some false)) else (some false)) else (some false)) else (some false)) else (some false)))))) = some r := h
 clear h
 replace H := Option.bind_eq_some_iff.mp H
 obtain ⟨⟨t166, t167, t170⟩, A10, H⟩ := H
 replace H : ((shape_Rank.f k 3 (([1, 2] : List Int))).bind fun bt175 => ((shape_Tuple.f k 2 3 5).bind fun bt177 => ((shape_Has.f k t166 t167 (⟨#[69]⟩ : ByteArray) (([1, 2] : List Int))).bind fun bt184 => (if t170 = 0 then (if bt175.2 = 0 then (if bt177.2 = 0 then (if bt184.2 = 0 then (if t166 = 3 then (if bt175.1 = 5 then ((paraphrastref01_Equal.f k bt177.1 (([1, 0, 1] : List Int))).bind fun t189 => (if t189 = true then (some bt184.1) else (some false))) else (some false)) else (some false)) else (some false)) else (some false)) else (some false)) else (some false))))) = some r := H
 have A1 := Aside0.mk A10
 clear A10
 obtain ⟨y172, hy172⟩ : ∃ y_ : List Int, y_ = (([1, 2] : List Int)) := ⟨_, rfl⟩
 replace H : ((shape_Rank.f k 3 y172).bind fun bt175 => ((shape_Tuple.f k 2 3 5).bind fun bt177 => ((shape_Has.f k t166 t167 (⟨#[69]⟩ : ByteArray) (([1, 2] : List Int))).bind fun bt184 => (if t170 = 0 then (if bt175.2 = 0 then (if bt177.2 = 0 then (if bt184.2 = 0 then (if t166 = 3 then (if bt175.1 = 5 then ((paraphrastref01_Equal.f k bt177.1 (([1, 0, 1] : List Int))).bind fun t189 => (if t189 = true then (some bt184.1) else (some false))) else (some false)) else (some false)) else (some false)) else (some false)) else (some false)) else (some false))))) = some r := by first | (rw [hy172]; with_reducible exact H) | (have H2_ := (Option.bind_some _ _).symm.trans H; rw [hy172]; with_reducible exact H2_) | (have H2_ := (Option.bind_some _ _).symm.trans H; with_reducible exact H2_) | with_reducible exact H | (rw [hy172]; exact H) | exact H
 have Ny172 := Aside0.mk hy172
 clear hy172
 replace H := Option.bind_eq_some_iff.mp H
 obtain ⟨⟨t175, t176⟩, A20, H⟩ := H
 replace H : ((shape_Tuple.f k 2 3 5).bind fun bt177 => ((shape_Has.f k t166 t167 (⟨#[69]⟩ : ByteArray) (([1, 2] : List Int))).bind fun bt184 => (if t170 = 0 then (if t176 = 0 then (if bt177.2 = 0 then (if bt184.2 = 0 then (if t166 = 3 then (if t175 = 5 then ((paraphrastref01_Equal.f k bt177.1 (([1, 0, 1] : List Int))).bind fun t189 => (if t189 = true then (some bt184.1) else (some false))) else (some false)) else (some false)) else (some false)) else (some false)) else (some false)) else (some false)))) = some r := H
 have A2 := Aside0.mk A20
 clear A20
 replace H := Option.bind_eq_some_iff.mp H
 obtain ⟨⟨t177, t178⟩, A30, H⟩ := H
 replace H : ((shape_Has.f k t166 t167 (⟨#[69]⟩ : ByteArray) (([1, 2] : List Int))).bind fun bt184 => (if t170 = 0 then (if t176 = 0 then (if t178 = 0 then (if bt184.2 = 0 then (if t166 = 3 then (if t175 = 5 then ((paraphrastref01_Equal.f k t177 (([1, 0, 1] : List Int))).bind fun t189 => (if t189 = true then (some bt184.1) else (some false))) else (some false)) else (some false)) else (some false)) else (some false)) else (some false)) else (some false))) = some r := H
 have A3 := Aside0.mk A30
 clear A30
 obtain ⟨y181, hy181⟩ : ∃ y_ : List Int, y_ = (([1, 2] : List Int)) := ⟨_, rfl⟩
 replace H : ((shape_Has.f k t166 t167 (⟨#[69]⟩ : ByteArray) y181).bind fun bt184 => (if t170 = 0 then (if t176 = 0 then (if t178 = 0 then (if bt184.2 = 0 then (if t166 = 3 then (if t175 = 5 then ((paraphrastref01_Equal.f k t177 (([1, 0, 1] : List Int))).bind fun t189 => (if t189 = true then (some bt184.1) else (some false))) else (some false)) else (some false)) else (some false)) else (some false)) else (some false)) else (some false))) = some r := by first | (rw [hy181]; with_reducible exact H) | (have H2_ := (Option.bind_some _ _).symm.trans H; rw [hy181]; with_reducible exact H2_) | (have H2_ := (Option.bind_some _ _).symm.trans H; with_reducible exact H2_) | with_reducible exact H | (rw [hy181]; exact H) | exact H
 have Ny181 := Aside0.mk hy181
 clear hy181
 replace H := Option.bind_eq_some_iff.mp H
 obtain ⟨⟨t184, t185⟩, A40, H⟩ := H
 replace H : (if t170 = 0 then (if t176 = 0 then (if t178 = 0 then (if t185 = 0 then (if t166 = 3 then (if t175 = 5 then ((paraphrastref01_Equal.f k t177 (([1, 0, 1] : List Int))).bind fun t189 => (if t189 = true then (some t184) else (some false))) else (some false)) else (some false)) else (some false)) else (some false)) else (some false)) else (some false)) = some r := H
 have A4 := Aside0.mk A40
 clear A40
 by_cases c5 : t170 = 0
 ·rw [if_pos c5] at H
  have c5b0 : (t170 == 0) = true := beq_iff_eq.mpr c5
  have c5b1 : (t170 != 0) = false := bne_eq_false_iff_eq.mpr c5
  clear c5
  by_cases c6 : t176 = 0
  ·rw [if_pos c6] at H
   have c6b0 : (t176 == 0) = true := beq_iff_eq.mpr c6
   have c6b1 : (t176 != 0) = false := bne_eq_false_iff_eq.mpr c6
   clear c6
   by_cases c7 : t178 = 0
   ·rw [if_pos c7] at H
    have c7b0 : (t178 == 0) = true := beq_iff_eq.mpr c7
    have c7b1 : (t178 != 0) = false := bne_eq_false_iff_eq.mpr c7
    clear c7
    by_cases c8 : t185 = 0
    ·rw [if_pos c8] at H
     have c8b0 : (t185 == 0) = true := beq_iff_eq.mpr c8
     have c8b1 : (t185 != 0) = false := bne_eq_false_iff_eq.mpr c8
     clear c8
     by_cases c9 : t166 = 3
     ·rw [if_pos c9] at H
      have c9b0 : (t166 == 3) = true := beq_iff_eq.mpr c9
      have c9b1 : (t166 != 3) = false := bne_eq_false_iff_eq.mpr c9
      clear c9
      by_cases c10 : t175 = 5
      ·rw [if_pos c10] at H
       have c10b0 : (t175 == 5) = true := beq_iff_eq.mpr c10
       have c10b1 : (t175 != 5) = false := bne_eq_false_iff_eq.mpr c10
       clear c10
       obtain ⟨y186, hy186⟩ : ∃ y_ : List Int, y_ = (([1, 0, 1] : List Int)) := ⟨_, rfl⟩
       replace H : ((paraphrastref01_Equal.f k t177 y186).bind fun t189 => (if t189 = true then (some t184) else (some false))) = some r := by first | (rw [hy186]; with_reducible exact H) | (have H2_ := (Option.bind_some _ _).symm.trans H; rw [hy186]; with_reducible exact H2_) | (have H2_ := (Option.bind_some _ _).symm.trans H; with_reducible exact H2_) | with_reducible exact H | (rw [hy186]; exact H) | exact H
       have Ny186 := Aside0.mk hy186
       clear hy186
       replace H := Option.bind_eq_some_iff.mp H
       obtain ⟨t189, A110, H⟩ := H
       replace H : (if t189 = true then (some t184) else (some false)) = some r := H
       have A11 := Aside0.mk A110
       clear A110
       by_cases c12 : t189 = true
       ·subst c12
        have H1 : (some t184) = some r := by rw [if_pos rfl] at H; exact H
        clear H
        have H := H1
        clear H1
        obtain rfl := Option.some.inj H
        go_enter Tryz.func10, Tryz.ntmps10
        go_wp2_with (first | ((with_reducible refine gate_callee (f := 14) rfl ?_); refine gL (some 10) Tryz.func14 #[.string (⟨#[51, 59, 32, 69, 47, 50, 32, 48, 44, 49, 32, 49, 44, 50, 59, 32, 80, 47, 49, 32, 50, 59, 32, 81, 47, 48, 32, 40, 41]⟩ : ByteArray)] ?_; (with_reducible refine (shape_Parse.calls k (⟨#[51, 59, 32, 69, 47, 50, 32, 48, 44, 49, 32, 49, 44, 50, 59, 32, 80, 47, 49, 32, 50, 59, 32, 81, 47, 48, 32, 40, 41]⟩ : ByteArray) t166 t167 t170 _ ?side1 A1.out).mono ?_); (case side1 => first | exact HG.out | exact Glob.below HG.out bel); rintro e w13 ⟨v168, rfl, ho0, hb⟩; refine ⟨_, rfl, ?_⟩; have HO169 := Aside0.mk (Kd.R_lower ho0 (below_size bel)); replace HB := Aside0.mk (below_step bel hb); (try clear hb); (try clear hb2); (try clear hk); (try clear hi); (try clear ho0)) | ((with_reducible refine gate_dst (N := 1) rfl ?_); (try (refine gate_guard (by rfl) ?_; dsimp only)); refine box_event ?hg (N := 1) ?hd (cs := #[.int .i64 0, .slice none 0 0]) (t := 24) ?hr ?_; (case hd => rfl); (case hg => rfl); (case hr => first | (go_simp; done) | (go_simp; rfl)); intro gb171 hg w14 hbox hb; have BK171 := Aside0.mk (hbox); have GW171 := geB w hg; have GE171 := geB w hg; replace HO169 := rD HO169 hb; replace HB := Aside0.mk (below_step bel hb); clear hb hbox hg; obtain ⟨hcz15_0, hcz15_1, hfz15_0, hfz15_1⟩ := bq2 BK171; obtain ⟨Ao16, co16, eo16⟩ := Kd.R_slice HO169.out; subst eo16) | ((with_reducible refine gate_dst (N := 14) rfl ?_); (try (refine gate_guard (by rfl) ?_; dsimp only)); refine Kd.R_lit (Kd.int .i64) _ 3 ?hg (N := 14) ?hd (xs := ([1, 2] : List Int)) (inner := [.int .i64 1, .int .i64 2]) (ok := fun _ => True) (okp := fun _ => True) ?hr ?hp (fun _ hk => hk) trivial (Below.refl _ _) (Nat.le_refl _) (by simp) ?_; (case hd => rfl); (case hg => rfl); (case hr => first | (go_simp; done) | (go_simp; rfl)); (case hp => exact (Reps.one (show Kd.M (Kd.int .i64) _ _ _ 1 [.int .i64 1] from rfl) (Reps.one (show Kd.M (Kd.int .i64) _ _ _ 2 [.int .i64 2] from rfl) (Reps.none _ _)))); intro v173 w17 ho18 hb hg_ hnew_; clear hg_ hnew_; (first | rw [← Ny172.out] at ho18 | (simp only [Int.reduceToNat] at ho18; rw [← Ny172.out] at ho18)); have HO174 := Aside0.mk (Kd.R_lower ho18 (below_size bel)); replace HO169 := Aside0.mk (Kd.R_elder' (by (with_reducible repeat (first | apply Kd.R_alloc | apply Kd.R_drewN | apply Kd.R_drew)); exact (Kd.R_mono (Kd.R_far (p := ⟨gb171, 1, none⟩) (Kd.R_far (p := ⟨gb171, 0, none⟩) (Kd.R_types HO169.out BK171.out (by decide)) (fun _ hk => hk.2) (.int .i64 t166)) (fun _ hk => hk.2) (.slice Ao16 t167.length co16)) (fun _ h_ => h_.1))) (Kd.R_base ho18) hb); replace BK171 := Aside0.mk (blk_below (g := gb171) (o := .cells #[.int .i64 t166, .slice Ao16 t167.length co16] 24 (0, 0)) (by (with_reducible repeat (first | refine blk_drewN ?_ _ | refine blk_drew ?_ | refine blk_alloc ?_ _)); refine blk_put (cs := #[.int .i64 t166, .slice none 0 0]) ?_ 1 _ rfl; (with_reducible repeat (first | refine blk_drewN ?_ _ | refine blk_drew ?_ | refine blk_alloc ?_ _)); refine blk_put (cs := #[.int .i64 0, .slice none 0 0]) ?_ 0 _ rfl; (with_reducible repeat (first | refine blk_drewN ?_ _ | refine blk_drew ?_ | refine blk_alloc ?_ _)); exact BK171.out) hb); replace HB := Aside0.mk (below_step bel hb); clear hb ho18; obtain ⟨Ao19, co19, eo19⟩ := Kd.R_slice HO174.out; subst eo19) | ((with_reducible refine gate_callee (f := 42) rfl ?_); refine gL (some 15) Tryz.func42 #[.int .i64 3, .slice Ao19 y172.length co19] ?_; (with_reducible refine (shape_Rank.calls k 3 _ _ y172 t175 t176 _ ?side1 ?side2 A2.out).mono ?_); (case side1 => exact cS (Kd.R_reads' HO174.out).2.2); (case side2 => exact (Kd.R_reads' HO174.out).2.1); rintro e w20 ⟨rfl, hb⟩; refine ⟨_, rfl, ?_⟩; replace HO169 := rD HO169 hb; replace HO174 := rD HO174 hb; replace BK171 := blB BK171 hb; replace HB := Aside0.mk (below_step bel hb); (try clear hb); (try clear hb2); (try clear hk); (try clear hi)) | ((with_reducible refine gate_callee (f := 43) rfl ?_); refine gL (some 19) Tryz.func43 #[.int .i64 2, .int .i64 3, .int .i64 5] ?_; (with_reducible refine (shape_Tuple.calls k 2 3 5 t177 t178 _ A3.out).mono ?_); rintro e w21 ⟨v179, rfl, ho0, hb⟩; refine ⟨_, rfl, ?_⟩; have HO180 := Aside0.mk (Kd.R_lower (Kd.R_new' ho0 (Kd.R_lt (tw HO174.out))) (below_size bel)); replace HO169 := rE HO169 (Kd.R_base ho0) hb; replace HO174 := rE HO174 (Kd.R_base ho0) hb; replace BK171 := blB BK171 hb; replace HB := Aside0.mk (below_step bel hb); (try clear hb); (try clear hb2); (try clear hk); (try clear hi); (try clear ho0); obtain ⟨hcz22_0, hcz22_1, hfz22_0, hfz22_1⟩ := bq2 BK171) | ((with_reducible refine gate_dst (N := 24) rfl ?_); (try (refine gate_guard (by rfl) ?_; dsimp only)); refine Kd.R_lit (Kd.int .i64) _ 3 ?hg (N := 24) ?hd (xs := ([1, 2] : List Int)) (inner := [.int .i64 1, .int .i64 2]) (ok := fun _ => True) (okp := fun _ => True) ?hr ?hp (fun _ hk => hk) trivial (Below.refl _ _) (Nat.le_refl _) (by simp) ?_; (case hd => rfl); (case hg => rfl); (case hr => first | (go_simp; done) | (go_simp; rfl)); (case hp => exact (Reps.one (show Kd.M (Kd.int .i64) _ _ _ 1 [.int .i64 1] from rfl) (Reps.one (show Kd.M (Kd.int .i64) _ _ _ 2 [.int .i64 2] from rfl) (Reps.none _ _)))); intro v182 w23 ho24 hb hg_ hnew_; clear hg_ hnew_; (first | rw [← Ny181.out] at ho24 | (simp only [Int.reduceToNat] at ho24; rw [← Ny181.out] at ho24)); have HO183 := Aside0.mk (Kd.R_lower (Kd.R_new' (Kd.R_new' ho24 (Kd.R_lt (tw HO174.out))) (Kd.R_lt (tw HO180.out))) (below_size bel)); replace HO169 := Aside0.mk (Kd.R_elder' (tw HO169.out) (Kd.R_base ho24) hb); replace HO174 := Aside0.mk (Kd.R_elder' (tw HO174.out) (Kd.R_base ho24) hb); replace HO180 := Aside0.mk (Kd.R_elder' (tw HO180.out) (Kd.R_base ho24) hb); replace BK171 := blB BK171 hb; replace HB := Aside0.mk (below_step bel hb); clear hb ho24; obtain ⟨Ao25, co25, eo25⟩ := Kd.R_slice HO183.out; subst eo25) | ((with_reducible refine gate_callee (f := 25) rfl ?_); refine gL (some 25) Tryz.func25 #[.agg #[.int .i64 t166, .slice Ao16 t167.length co16], .string (⟨#[69]⟩ : ByteArray), .slice Ao25 y181.length co25] ?_; (with_reducible refine (shape_Has.calls k t166 _ _ t167 (⟨#[69]⟩ : ByteArray) _ _ y181 t184 t185 _ ?side1 ?side2 ?side3 ?side4 A4.out).mono ?_); (case side1 => exact cS (Kd.R_reads' HO169.out).2.2); (case side2 => exact (Kd.R_reads' HO169.out).2.1); (case side3 => exact cS (Kd.R_reads' HO183.out).2.2); (case side4 => exact (Kd.R_reads' HO183.out).2.1); rintro e w26 ⟨rfl, hb⟩; refine ⟨_, rfl, ?_⟩; replace HO169 := rD HO169 hb; replace HO174 := rD HO174 hb; replace HO180 := rD HO180 hb; replace HO183 := rD HO183 hb; replace BK171 := blB BK171 hb; replace HB := Aside0.mk (below_step bel hb); (try clear hb); (try clear hb2); (try clear hk); (try clear hi); obtain ⟨hcz27_0, hcz27_1, hfz27_0, hfz27_1⟩ := bq2 BK171) | ((with_reducible refine gate_dst (N := 53) rfl ?_); (try (refine gate_guard (by rfl) ?_; dsimp only)); refine Kd.R_lit (Kd.int .i64) _ 3 ?hg (N := 53) ?hd (xs := ([1, 0, 1] : List Int)) (inner := [.int .i64 1, .int .i64 0, .int .i64 1]) (ok := fun _ => True) (okp := fun _ => True) ?hr ?hp (fun _ hk => hk) trivial (Below.refl _ _) (Nat.le_refl _) (by simp) ?_; (case hd => rfl); (case hg => rfl); (case hr => first | (go_simp; done) | (go_simp; rfl)); (case hp => exact (Reps.one (show Kd.M (Kd.int .i64) _ _ _ 1 [.int .i64 1] from rfl) (Reps.one (show Kd.M (Kd.int .i64) _ _ _ 0 [.int .i64 0] from rfl) (Reps.one (show Kd.M (Kd.int .i64) _ _ _ 1 [.int .i64 1] from rfl) (Reps.none _ _))))); intro v187 w28 ho29 hb hg_ hnew_; clear hg_ hnew_; (first | rw [← Ny186.out] at ho29 | (simp only [Int.reduceToNat] at ho29; rw [← Ny186.out] at ho29)); have HO188 := Aside0.mk (Kd.R_lower (Kd.R_new' (Kd.R_new' (Kd.R_new' ho29 (Kd.R_lt (tw HO174.out))) (Kd.R_lt (tw HO180.out))) (Kd.R_lt (tw HO183.out))) (below_size bel)); replace HO169 := Aside0.mk (Kd.R_elder' (tw HO169.out) (Kd.R_base ho29) hb); replace HO174 := Aside0.mk (Kd.R_elder' (tw HO174.out) (Kd.R_base ho29) hb); replace HO180 := Aside0.mk (Kd.R_elder' (tw HO180.out) (Kd.R_base ho29) hb); replace HO183 := Aside0.mk (Kd.R_elder' (tw HO183.out) (Kd.R_base ho29) hb); replace BK171 := blB BK171 hb; replace HB := Aside0.mk (below_step bel hb); clear hb ho29; obtain ⟨Ao30, co30, eo30⟩ := Kd.R_slice HO180.out; subst eo30; obtain ⟨Ao31, co31, eo31⟩ := Kd.R_slice HO188.out; subst eo31) | (go_at_call 41; (with_reducible refine (paraphrastref01_Equal.calls k _ _ t177 _ _ y186 true _ ?side1 ?side2 ?side3 ?side4 A11.out).mono ?_); (case side1 => exact cS (Kd.R_reads' HO180.out).2.2); (case side2 => exact (Kd.R_reads' HO180.out).2.1); (case side3 => exact cS (Kd.R_reads' HO188.out).2.2); (case side4 => exact (Kd.R_reads' HO188.out).2.1); rintro e w' ⟨rfl, ⟨nd, rfl⟩⟩))
        go_ret
        exact ⟨eN, bel⟩
       ·replace c12 := Bool.eq_false_iff.mpr c12
        subst c12
        have H1 : (some false) = some r := by rw [if_neg (show ¬ (false = true) by decide)] at H; exact H
        clear H
        have H := H1
        clear H1
        obtain rfl := Option.some.inj H
        go_enter Tryz.func10, Tryz.ntmps10
        go_wp2_with (first | ((with_reducible refine gate_callee (f := 14) rfl ?_); refine gL (some 10) Tryz.func14 #[.string (⟨#[51, 59, 32, 69, 47, 50, 32, 48, 44, 49, 32, 49, 44, 50, 59, 32, 80, 47, 49, 32, 50, 59, 32, 81, 47, 48, 32, 40, 41]⟩ : ByteArray)] ?_; (with_reducible refine (shape_Parse.calls k (⟨#[51, 59, 32, 69, 47, 50, 32, 48, 44, 49, 32, 49, 44, 50, 59, 32, 80, 47, 49, 32, 50, 59, 32, 81, 47, 48, 32, 40, 41]⟩ : ByteArray) t166 t167 t170 _ ?side1 A1.out).mono ?_); (case side1 => first | exact HG.out | exact Glob.below HG.out bel); rintro e w32 ⟨v168, rfl, ho0, hb⟩; refine ⟨_, rfl, ?_⟩; have HO169 := Aside0.mk (Kd.R_lower ho0 (below_size bel)); replace HB := Aside0.mk (below_step bel hb); (try clear hb); (try clear hb2); (try clear hk); (try clear hi); (try clear ho0)) | ((with_reducible refine gate_dst (N := 1) rfl ?_); (try (refine gate_guard (by rfl) ?_; dsimp only)); refine box_event ?hg (N := 1) ?hd (cs := #[.int .i64 0, .slice none 0 0]) (t := 24) ?hr ?_; (case hd => rfl); (case hg => rfl); (case hr => first | (go_simp; done) | (go_simp; rfl)); intro gb171 hg w33 hbox hb; have BK171 := Aside0.mk (hbox); have GW171 := geB w hg; have GE171 := geB w hg; replace HO169 := rD HO169 hb; replace HB := Aside0.mk (below_step bel hb); clear hb hbox hg; obtain ⟨hcz34_0, hcz34_1, hfz34_0, hfz34_1⟩ := bq2 BK171; obtain ⟨Ao35, co35, eo35⟩ := Kd.R_slice HO169.out; subst eo35) | ((with_reducible refine gate_dst (N := 14) rfl ?_); (try (refine gate_guard (by rfl) ?_; dsimp only)); refine Kd.R_lit (Kd.int .i64) _ 3 ?hg (N := 14) ?hd (xs := ([1, 2] : List Int)) (inner := [.int .i64 1, .int .i64 2]) (ok := fun _ => True) (okp := fun _ => True) ?hr ?hp (fun _ hk => hk) trivial (Below.refl _ _) (Nat.le_refl _) (by simp) ?_; (case hd => rfl); (case hg => rfl); (case hr => first | (go_simp; done) | (go_simp; rfl)); (case hp => exact (Reps.one (show Kd.M (Kd.int .i64) _ _ _ 1 [.int .i64 1] from rfl) (Reps.one (show Kd.M (Kd.int .i64) _ _ _ 2 [.int .i64 2] from rfl) (Reps.none _ _)))); intro v173 w36 ho37 hb hg_ hnew_; clear hg_ hnew_; (first | rw [← Ny172.out] at ho37 | (simp only [Int.reduceToNat] at ho37; rw [← Ny172.out] at ho37)); have HO174 := Aside0.mk (Kd.R_lower ho37 (below_size bel)); replace HO169 := Aside0.mk (Kd.R_elder' (by (with_reducible repeat (first | apply Kd.R_alloc | apply Kd.R_drewN | apply Kd.R_drew)); exact (Kd.R_mono (Kd.R_far (p := ⟨gb171, 1, none⟩) (Kd.R_far (p := ⟨gb171, 0, none⟩) (Kd.R_types HO169.out BK171.out (by decide)) (fun _ hk => hk.2) (.int .i64 t166)) (fun _ hk => hk.2) (.slice Ao35 t167.length co35)) (fun _ h_ => h_.1))) (Kd.R_base ho37) hb); replace BK171 := Aside0.mk (blk_below (g := gb171) (o := .cells #[.int .i64 t166, .slice Ao35 t167.length co35] 24 (0, 0)) (by (with_reducible repeat (first | refine blk_drewN ?_ _ | refine blk_drew ?_ | refine blk_alloc ?_ _)); refine blk_put (cs := #[.int .i64 t166, .slice none 0 0]) ?_ 1 _ rfl; (with_reducible repeat (first | refine blk_drewN ?_ _ | refine blk_drew ?_ | refine blk_alloc ?_ _)); refine blk_put (cs := #[.int .i64 0, .slice none 0 0]) ?_ 0 _ rfl; (with_reducible repeat (first | refine blk_drewN ?_ _ | refine blk_drew ?_ | refine blk_alloc ?_ _)); exact BK171.out) hb); replace HB := Aside0.mk (below_step bel hb); clear hb ho37; obtain ⟨Ao38, co38, eo38⟩ := Kd.R_slice HO174.out; subst eo38) | ((with_reducible refine gate_callee (f := 42) rfl ?_); refine gL (some 15) Tryz.func42 #[.int .i64 3, .slice Ao38 y172.length co38] ?_; (with_reducible refine (shape_Rank.calls k 3 _ _ y172 t175 t176 _ ?side1 ?side2 A2.out).mono ?_); (case side1 => exact cS (Kd.R_reads' HO174.out).2.2); (case side2 => exact (Kd.R_reads' HO174.out).2.1); rintro e w39 ⟨rfl, hb⟩; refine ⟨_, rfl, ?_⟩; replace HO169 := rD HO169 hb; replace HO174 := rD HO174 hb; replace BK171 := blB BK171 hb; replace HB := Aside0.mk (below_step bel hb); (try clear hb); (try clear hb2); (try clear hk); (try clear hi)) | ((with_reducible refine gate_callee (f := 43) rfl ?_); refine gL (some 19) Tryz.func43 #[.int .i64 2, .int .i64 3, .int .i64 5] ?_; (with_reducible refine (shape_Tuple.calls k 2 3 5 t177 t178 _ A3.out).mono ?_); rintro e w40 ⟨v179, rfl, ho0, hb⟩; refine ⟨_, rfl, ?_⟩; have HO180 := Aside0.mk (Kd.R_lower (Kd.R_new' ho0 (Kd.R_lt (tw HO174.out))) (below_size bel)); replace HO169 := rE HO169 (Kd.R_base ho0) hb; replace HO174 := rE HO174 (Kd.R_base ho0) hb; replace BK171 := blB BK171 hb; replace HB := Aside0.mk (below_step bel hb); (try clear hb); (try clear hb2); (try clear hk); (try clear hi); (try clear ho0); obtain ⟨hcz41_0, hcz41_1, hfz41_0, hfz41_1⟩ := bq2 BK171) | ((with_reducible refine gate_dst (N := 24) rfl ?_); (try (refine gate_guard (by rfl) ?_; dsimp only)); refine Kd.R_lit (Kd.int .i64) _ 3 ?hg (N := 24) ?hd (xs := ([1, 2] : List Int)) (inner := [.int .i64 1, .int .i64 2]) (ok := fun _ => True) (okp := fun _ => True) ?hr ?hp (fun _ hk => hk) trivial (Below.refl _ _) (Nat.le_refl _) (by simp) ?_; (case hd => rfl); (case hg => rfl); (case hr => first | (go_simp; done) | (go_simp; rfl)); (case hp => exact (Reps.one (show Kd.M (Kd.int .i64) _ _ _ 1 [.int .i64 1] from rfl) (Reps.one (show Kd.M (Kd.int .i64) _ _ _ 2 [.int .i64 2] from rfl) (Reps.none _ _)))); intro v182 w42 ho43 hb hg_ hnew_; clear hg_ hnew_; (first | rw [← Ny181.out] at ho43 | (simp only [Int.reduceToNat] at ho43; rw [← Ny181.out] at ho43)); have HO183 := Aside0.mk (Kd.R_lower (Kd.R_new' (Kd.R_new' ho43 (Kd.R_lt (tw HO174.out))) (Kd.R_lt (tw HO180.out))) (below_size bel)); replace HO169 := Aside0.mk (Kd.R_elder' (tw HO169.out) (Kd.R_base ho43) hb); replace HO174 := Aside0.mk (Kd.R_elder' (tw HO174.out) (Kd.R_base ho43) hb); replace HO180 := Aside0.mk (Kd.R_elder' (tw HO180.out) (Kd.R_base ho43) hb); replace BK171 := blB BK171 hb; replace HB := Aside0.mk (below_step bel hb); clear hb ho43; obtain ⟨Ao44, co44, eo44⟩ := Kd.R_slice HO183.out; subst eo44) | ((with_reducible refine gate_callee (f := 25) rfl ?_); refine gL (some 25) Tryz.func25 #[.agg #[.int .i64 t166, .slice Ao35 t167.length co35], .string (⟨#[69]⟩ : ByteArray), .slice Ao44 y181.length co44] ?_; (with_reducible refine (shape_Has.calls k t166 _ _ t167 (⟨#[69]⟩ : ByteArray) _ _ y181 t184 t185 _ ?side1 ?side2 ?side3 ?side4 A4.out).mono ?_); (case side1 => exact cS (Kd.R_reads' HO169.out).2.2); (case side2 => exact (Kd.R_reads' HO169.out).2.1); (case side3 => exact cS (Kd.R_reads' HO183.out).2.2); (case side4 => exact (Kd.R_reads' HO183.out).2.1); rintro e w45 ⟨rfl, hb⟩; refine ⟨_, rfl, ?_⟩; replace HO169 := rD HO169 hb; replace HO174 := rD HO174 hb; replace HO180 := rD HO180 hb; replace HO183 := rD HO183 hb; replace BK171 := blB BK171 hb; replace HB := Aside0.mk (below_step bel hb); (try clear hb); (try clear hb2); (try clear hk); (try clear hi); obtain ⟨hcz46_0, hcz46_1, hfz46_0, hfz46_1⟩ := bq2 BK171) | ((with_reducible refine gate_dst (N := 53) rfl ?_); (try (refine gate_guard (by rfl) ?_; dsimp only)); refine Kd.R_lit (Kd.int .i64) _ 3 ?hg (N := 53) ?hd (xs := ([1, 0, 1] : List Int)) (inner := [.int .i64 1, .int .i64 0, .int .i64 1]) (ok := fun _ => True) (okp := fun _ => True) ?hr ?hp (fun _ hk => hk) trivial (Below.refl _ _) (Nat.le_refl _) (by simp) ?_; (case hd => rfl); (case hg => rfl); (case hr => first | (go_simp; done) | (go_simp; rfl)); (case hp => exact (Reps.one (show Kd.M (Kd.int .i64) _ _ _ 1 [.int .i64 1] from rfl) (Reps.one (show Kd.M (Kd.int .i64) _ _ _ 0 [.int .i64 0] from rfl) (Reps.one (show Kd.M (Kd.int .i64) _ _ _ 1 [.int .i64 1] from rfl) (Reps.none _ _))))); intro v187 w47 ho48 hb hg_ hnew_; clear hg_ hnew_; (first | rw [← Ny186.out] at ho48 | (simp only [Int.reduceToNat] at ho48; rw [← Ny186.out] at ho48)); have HO188 := Aside0.mk (Kd.R_lower (Kd.R_new' (Kd.R_new' (Kd.R_new' ho48 (Kd.R_lt (tw HO174.out))) (Kd.R_lt (tw HO180.out))) (Kd.R_lt (tw HO183.out))) (below_size bel)); replace HO169 := Aside0.mk (Kd.R_elder' (tw HO169.out) (Kd.R_base ho48) hb); replace HO174 := Aside0.mk (Kd.R_elder' (tw HO174.out) (Kd.R_base ho48) hb); replace HO180 := Aside0.mk (Kd.R_elder' (tw HO180.out) (Kd.R_base ho48) hb); replace HO183 := Aside0.mk (Kd.R_elder' (tw HO183.out) (Kd.R_base ho48) hb); replace BK171 := blB BK171 hb; replace HB := Aside0.mk (below_step bel hb); clear hb ho48; obtain ⟨Ao49, co49, eo49⟩ := Kd.R_slice HO180.out; subst eo49; obtain ⟨Ao50, co50, eo50⟩ := Kd.R_slice HO188.out; subst eo50) | (go_at_call 41; (with_reducible refine (paraphrastref01_Equal.calls k _ _ t177 _ _ y186 false _ ?side1 ?side2 ?side3 ?side4 A11.out).mono ?_); (case side1 => exact cS (Kd.R_reads' HO180.out).2.2); (case side2 => exact (Kd.R_reads' HO180.out).2.1); (case side3 => exact cS (Kd.R_reads' HO188.out).2.2); (case side4 => exact (Kd.R_reads' HO188.out).2.1); rintro e w' ⟨rfl, ⟨nd, rfl⟩⟩))
        go_ret
        exact ⟨eN, bel⟩
      ·rw [if_neg c10] at H
       have c10b0 : (t175 == 5) = false := beq_eq_false_iff_ne.mpr c10
       have c10b1 : (t175 != 5) = true := bne_iff_ne.mpr c10
       obtain rfl := Option.some.inj H
       go_enter Tryz.func10, Tryz.ntmps10
       go_wp2_with (first | ((with_reducible refine gate_callee (f := 14) rfl ?_); refine gL (some 10) Tryz.func14 #[.string (⟨#[51, 59, 32, 69, 47, 50, 32, 48, 44, 49, 32, 49, 44, 50, 59, 32, 80, 47, 49, 32, 50, 59, 32, 81, 47, 48, 32, 40, 41]⟩ : ByteArray)] ?_; (with_reducible refine (shape_Parse.calls k (⟨#[51, 59, 32, 69, 47, 50, 32, 48, 44, 49, 32, 49, 44, 50, 59, 32, 80, 47, 49, 32, 50, 59, 32, 81, 47, 48, 32, 40, 41]⟩ : ByteArray) t166 t167 t170 _ ?side1 A1.out).mono ?_); (case side1 => first | exact HG.out | exact Glob.below HG.out bel); rintro e w51 ⟨v168, rfl, ho0, hb⟩; refine ⟨_, rfl, ?_⟩; have HO169 := Aside0.mk (Kd.R_lower ho0 (below_size bel)); replace HB := Aside0.mk (below_step bel hb); (try clear hb); (try clear hb2); (try clear hk); (try clear hi); (try clear ho0)) | ((with_reducible refine gate_dst (N := 1) rfl ?_); (try (refine gate_guard (by rfl) ?_; dsimp only)); refine box_event ?hg (N := 1) ?hd (cs := #[.int .i64 0, .slice none 0 0]) (t := 24) ?hr ?_; (case hd => rfl); (case hg => rfl); (case hr => first | (go_simp; done) | (go_simp; rfl)); intro gb171 hg w52 hbox hb; have BK171 := Aside0.mk (hbox); have GW171 := geB w hg; have GE171 := geB w hg; replace HO169 := rD HO169 hb; replace HB := Aside0.mk (below_step bel hb); clear hb hbox hg; obtain ⟨hcz53_0, hcz53_1, hfz53_0, hfz53_1⟩ := bq2 BK171; obtain ⟨Ao54, co54, eo54⟩ := Kd.R_slice HO169.out; subst eo54) | ((with_reducible refine gate_dst (N := 14) rfl ?_); (try (refine gate_guard (by rfl) ?_; dsimp only)); refine Kd.R_lit (Kd.int .i64) _ 3 ?hg (N := 14) ?hd (xs := ([1, 2] : List Int)) (inner := [.int .i64 1, .int .i64 2]) (ok := fun _ => True) (okp := fun _ => True) ?hr ?hp (fun _ hk => hk) trivial (Below.refl _ _) (Nat.le_refl _) (by simp) ?_; (case hd => rfl); (case hg => rfl); (case hr => first | (go_simp; done) | (go_simp; rfl)); (case hp => exact (Reps.one (show Kd.M (Kd.int .i64) _ _ _ 1 [.int .i64 1] from rfl) (Reps.one (show Kd.M (Kd.int .i64) _ _ _ 2 [.int .i64 2] from rfl) (Reps.none _ _)))); intro v173 w55 ho56 hb hg_ hnew_; clear hg_ hnew_; (first | rw [← Ny172.out] at ho56 | (simp only [Int.reduceToNat] at ho56; rw [← Ny172.out] at ho56)); have HO174 := Aside0.mk (Kd.R_lower ho56 (below_size bel)); replace HO169 := Aside0.mk (Kd.R_elder' (by (with_reducible repeat (first | apply Kd.R_alloc | apply Kd.R_drewN | apply Kd.R_drew)); exact (Kd.R_mono (Kd.R_far (p := ⟨gb171, 1, none⟩) (Kd.R_far (p := ⟨gb171, 0, none⟩) (Kd.R_types HO169.out BK171.out (by decide)) (fun _ hk => hk.2) (.int .i64 t166)) (fun _ hk => hk.2) (.slice Ao54 t167.length co54)) (fun _ h_ => h_.1))) (Kd.R_base ho56) hb); replace BK171 := Aside0.mk (blk_below (g := gb171) (o := .cells #[.int .i64 t166, .slice Ao54 t167.length co54] 24 (0, 0)) (by (with_reducible repeat (first | refine blk_drewN ?_ _ | refine blk_drew ?_ | refine blk_alloc ?_ _)); refine blk_put (cs := #[.int .i64 t166, .slice none 0 0]) ?_ 1 _ rfl; (with_reducible repeat (first | refine blk_drewN ?_ _ | refine blk_drew ?_ | refine blk_alloc ?_ _)); refine blk_put (cs := #[.int .i64 0, .slice none 0 0]) ?_ 0 _ rfl; (with_reducible repeat (first | refine blk_drewN ?_ _ | refine blk_drew ?_ | refine blk_alloc ?_ _)); exact BK171.out) hb); replace HB := Aside0.mk (below_step bel hb); clear hb ho56; obtain ⟨Ao57, co57, eo57⟩ := Kd.R_slice HO174.out; subst eo57) | ((with_reducible refine gate_callee (f := 42) rfl ?_); refine gL (some 15) Tryz.func42 #[.int .i64 3, .slice Ao57 y172.length co57] ?_; (with_reducible refine (shape_Rank.calls k 3 _ _ y172 t175 t176 _ ?side1 ?side2 A2.out).mono ?_); (case side1 => exact cS (Kd.R_reads' HO174.out).2.2); (case side2 => exact (Kd.R_reads' HO174.out).2.1); rintro e w58 ⟨rfl, hb⟩; refine ⟨_, rfl, ?_⟩; replace HO169 := rD HO169 hb; replace HO174 := rD HO174 hb; replace BK171 := blB BK171 hb; replace HB := Aside0.mk (below_step bel hb); (try clear hb); (try clear hb2); (try clear hk); (try clear hi)) | ((with_reducible refine gate_callee (f := 43) rfl ?_); refine gL (some 19) Tryz.func43 #[.int .i64 2, .int .i64 3, .int .i64 5] ?_; (with_reducible refine (shape_Tuple.calls k 2 3 5 t177 t178 _ A3.out).mono ?_); rintro e w59 ⟨v179, rfl, ho0, hb⟩; refine ⟨_, rfl, ?_⟩; have HO180 := Aside0.mk (Kd.R_lower (Kd.R_new' ho0 (Kd.R_lt (tw HO174.out))) (below_size bel)); replace HO169 := rE HO169 (Kd.R_base ho0) hb; replace HO174 := rE HO174 (Kd.R_base ho0) hb; replace BK171 := blB BK171 hb; replace HB := Aside0.mk (below_step bel hb); (try clear hb); (try clear hb2); (try clear hk); (try clear hi); (try clear ho0); obtain ⟨hcz60_0, hcz60_1, hfz60_0, hfz60_1⟩ := bq2 BK171) | ((with_reducible refine gate_dst (N := 24) rfl ?_); (try (refine gate_guard (by rfl) ?_; dsimp only)); refine Kd.R_lit (Kd.int .i64) _ 3 ?hg (N := 24) ?hd (xs := ([1, 2] : List Int)) (inner := [.int .i64 1, .int .i64 2]) (ok := fun _ => True) (okp := fun _ => True) ?hr ?hp (fun _ hk => hk) trivial (Below.refl _ _) (Nat.le_refl _) (by simp) ?_; (case hd => rfl); (case hg => rfl); (case hr => first | (go_simp; done) | (go_simp; rfl)); (case hp => exact (Reps.one (show Kd.M (Kd.int .i64) _ _ _ 1 [.int .i64 1] from rfl) (Reps.one (show Kd.M (Kd.int .i64) _ _ _ 2 [.int .i64 2] from rfl) (Reps.none _ _)))); intro v182 w61 ho62 hb hg_ hnew_; clear hg_ hnew_; (first | rw [← Ny181.out] at ho62 | (simp only [Int.reduceToNat] at ho62; rw [← Ny181.out] at ho62)); have HO183 := Aside0.mk (Kd.R_lower (Kd.R_new' (Kd.R_new' ho62 (Kd.R_lt (tw HO174.out))) (Kd.R_lt (tw HO180.out))) (below_size bel)); replace HO169 := Aside0.mk (Kd.R_elder' (tw HO169.out) (Kd.R_base ho62) hb); replace HO174 := Aside0.mk (Kd.R_elder' (tw HO174.out) (Kd.R_base ho62) hb); replace HO180 := Aside0.mk (Kd.R_elder' (tw HO180.out) (Kd.R_base ho62) hb); replace BK171 := blB BK171 hb; replace HB := Aside0.mk (below_step bel hb); clear hb ho62; obtain ⟨Ao63, co63, eo63⟩ := Kd.R_slice HO183.out; subst eo63) | ((with_reducible refine gate_callee (f := 25) rfl ?_); refine gL (some 25) Tryz.func25 #[.agg #[.int .i64 t166, .slice Ao54 t167.length co54], .string (⟨#[69]⟩ : ByteArray), .slice Ao63 y181.length co63] ?_; (with_reducible refine (shape_Has.calls k t166 _ _ t167 (⟨#[69]⟩ : ByteArray) _ _ y181 t184 t185 _ ?side1 ?side2 ?side3 ?side4 A4.out).mono ?_); (case side1 => exact cS (Kd.R_reads' HO169.out).2.2); (case side2 => exact (Kd.R_reads' HO169.out).2.1); (case side3 => exact cS (Kd.R_reads' HO183.out).2.2); (case side4 => exact (Kd.R_reads' HO183.out).2.1); rintro e w64 ⟨rfl, hb⟩; refine ⟨_, rfl, ?_⟩; replace HO169 := rD HO169 hb; replace HO174 := rD HO174 hb; replace HO180 := rD HO180 hb; replace HO183 := rD HO183 hb; replace BK171 := blB BK171 hb; replace HB := Aside0.mk (below_step bel hb); (try clear hb); (try clear hb2); (try clear hk); (try clear hi); obtain ⟨hcz65_0, hcz65_1, hfz65_0, hfz65_1⟩ := bq2 BK171))
       go_ret
       exact ⟨eN, bel⟩
     ·rw [if_neg c9] at H
      have c9b0 : (t166 == 3) = false := beq_eq_false_iff_ne.mpr c9
      have c9b1 : (t166 != 3) = true := bne_iff_ne.mpr c9
      obtain rfl := Option.some.inj H
      go_enter Tryz.func10, Tryz.ntmps10
      go_wp2_with (first | ((with_reducible refine gate_callee (f := 14) rfl ?_); refine gL (some 10) Tryz.func14 #[.string (⟨#[51, 59, 32, 69, 47, 50, 32, 48, 44, 49, 32, 49, 44, 50, 59, 32, 80, 47, 49, 32, 50, 59, 32, 81, 47, 48, 32, 40, 41]⟩ : ByteArray)] ?_; (with_reducible refine (shape_Parse.calls k (⟨#[51, 59, 32, 69, 47, 50, 32, 48, 44, 49, 32, 49, 44, 50, 59, 32, 80, 47, 49, 32, 50, 59, 32, 81, 47, 48, 32, 40, 41]⟩ : ByteArray) t166 t167 t170 _ ?side1 A1.out).mono ?_); (case side1 => first | exact HG.out | exact Glob.below HG.out bel); rintro e w66 ⟨v168, rfl, ho0, hb⟩; refine ⟨_, rfl, ?_⟩; have HO169 := Aside0.mk (Kd.R_lower ho0 (below_size bel)); replace HB := Aside0.mk (below_step bel hb); (try clear hb); (try clear hb2); (try clear hk); (try clear hi); (try clear ho0)) | ((with_reducible refine gate_dst (N := 1) rfl ?_); (try (refine gate_guard (by rfl) ?_; dsimp only)); refine box_event ?hg (N := 1) ?hd (cs := #[.int .i64 0, .slice none 0 0]) (t := 24) ?hr ?_; (case hd => rfl); (case hg => rfl); (case hr => first | (go_simp; done) | (go_simp; rfl)); intro gb171 hg w67 hbox hb; have BK171 := Aside0.mk (hbox); have GW171 := geB w hg; have GE171 := geB w hg; replace HO169 := rD HO169 hb; replace HB := Aside0.mk (below_step bel hb); clear hb hbox hg; obtain ⟨hcz68_0, hcz68_1, hfz68_0, hfz68_1⟩ := bq2 BK171; obtain ⟨Ao69, co69, eo69⟩ := Kd.R_slice HO169.out; subst eo69) | ((with_reducible refine gate_dst (N := 14) rfl ?_); (try (refine gate_guard (by rfl) ?_; dsimp only)); refine Kd.R_lit (Kd.int .i64) _ 3 ?hg (N := 14) ?hd (xs := ([1, 2] : List Int)) (inner := [.int .i64 1, .int .i64 2]) (ok := fun _ => True) (okp := fun _ => True) ?hr ?hp (fun _ hk => hk) trivial (Below.refl _ _) (Nat.le_refl _) (by simp) ?_; (case hd => rfl); (case hg => rfl); (case hr => first | (go_simp; done) | (go_simp; rfl)); (case hp => exact (Reps.one (show Kd.M (Kd.int .i64) _ _ _ 1 [.int .i64 1] from rfl) (Reps.one (show Kd.M (Kd.int .i64) _ _ _ 2 [.int .i64 2] from rfl) (Reps.none _ _)))); intro v173 w70 ho71 hb hg_ hnew_; clear hg_ hnew_; (first | rw [← Ny172.out] at ho71 | (simp only [Int.reduceToNat] at ho71; rw [← Ny172.out] at ho71)); have HO174 := Aside0.mk (Kd.R_lower ho71 (below_size bel)); replace HO169 := Aside0.mk (Kd.R_elder' (by (with_reducible repeat (first | apply Kd.R_alloc | apply Kd.R_drewN | apply Kd.R_drew)); exact (Kd.R_mono (Kd.R_far (p := ⟨gb171, 1, none⟩) (Kd.R_far (p := ⟨gb171, 0, none⟩) (Kd.R_types HO169.out BK171.out (by decide)) (fun _ hk => hk.2) (.int .i64 t166)) (fun _ hk => hk.2) (.slice Ao69 t167.length co69)) (fun _ h_ => h_.1))) (Kd.R_base ho71) hb); replace BK171 := Aside0.mk (blk_below (g := gb171) (o := .cells #[.int .i64 t166, .slice Ao69 t167.length co69] 24 (0, 0)) (by (with_reducible repeat (first | refine blk_drewN ?_ _ | refine blk_drew ?_ | refine blk_alloc ?_ _)); refine blk_put (cs := #[.int .i64 t166, .slice none 0 0]) ?_ 1 _ rfl; (with_reducible repeat (first | refine blk_drewN ?_ _ | refine blk_drew ?_ | refine blk_alloc ?_ _)); refine blk_put (cs := #[.int .i64 0, .slice none 0 0]) ?_ 0 _ rfl; (with_reducible repeat (first | refine blk_drewN ?_ _ | refine blk_drew ?_ | refine blk_alloc ?_ _)); exact BK171.out) hb); replace HB := Aside0.mk (below_step bel hb); clear hb ho71; obtain ⟨Ao72, co72, eo72⟩ := Kd.R_slice HO174.out; subst eo72) | ((with_reducible refine gate_callee (f := 42) rfl ?_); refine gL (some 15) Tryz.func42 #[.int .i64 3, .slice Ao72 y172.length co72] ?_; (with_reducible refine (shape_Rank.calls k 3 _ _ y172 t175 t176 _ ?side1 ?side2 A2.out).mono ?_); (case side1 => exact cS (Kd.R_reads' HO174.out).2.2); (case side2 => exact (Kd.R_reads' HO174.out).2.1); rintro e w73 ⟨rfl, hb⟩; refine ⟨_, rfl, ?_⟩; replace HO169 := rD HO169 hb; replace HO174 := rD HO174 hb; replace BK171 := blB BK171 hb; replace HB := Aside0.mk (below_step bel hb); (try clear hb); (try clear hb2); (try clear hk); (try clear hi)) | ((with_reducible refine gate_callee (f := 43) rfl ?_); refine gL (some 19) Tryz.func43 #[.int .i64 2, .int .i64 3, .int .i64 5] ?_; (with_reducible refine (shape_Tuple.calls k 2 3 5 t177 t178 _ A3.out).mono ?_); rintro e w74 ⟨v179, rfl, ho0, hb⟩; refine ⟨_, rfl, ?_⟩; have HO180 := Aside0.mk (Kd.R_lower (Kd.R_new' ho0 (Kd.R_lt (tw HO174.out))) (below_size bel)); replace HO169 := rE HO169 (Kd.R_base ho0) hb; replace HO174 := rE HO174 (Kd.R_base ho0) hb; replace BK171 := blB BK171 hb; replace HB := Aside0.mk (below_step bel hb); (try clear hb); (try clear hb2); (try clear hk); (try clear hi); (try clear ho0); obtain ⟨hcz75_0, hcz75_1, hfz75_0, hfz75_1⟩ := bq2 BK171) | ((with_reducible refine gate_dst (N := 24) rfl ?_); (try (refine gate_guard (by rfl) ?_; dsimp only)); refine Kd.R_lit (Kd.int .i64) _ 3 ?hg (N := 24) ?hd (xs := ([1, 2] : List Int)) (inner := [.int .i64 1, .int .i64 2]) (ok := fun _ => True) (okp := fun _ => True) ?hr ?hp (fun _ hk => hk) trivial (Below.refl _ _) (Nat.le_refl _) (by simp) ?_; (case hd => rfl); (case hg => rfl); (case hr => first | (go_simp; done) | (go_simp; rfl)); (case hp => exact (Reps.one (show Kd.M (Kd.int .i64) _ _ _ 1 [.int .i64 1] from rfl) (Reps.one (show Kd.M (Kd.int .i64) _ _ _ 2 [.int .i64 2] from rfl) (Reps.none _ _)))); intro v182 w76 ho77 hb hg_ hnew_; clear hg_ hnew_; (first | rw [← Ny181.out] at ho77 | (simp only [Int.reduceToNat] at ho77; rw [← Ny181.out] at ho77)); have HO183 := Aside0.mk (Kd.R_lower (Kd.R_new' (Kd.R_new' ho77 (Kd.R_lt (tw HO174.out))) (Kd.R_lt (tw HO180.out))) (below_size bel)); replace HO169 := Aside0.mk (Kd.R_elder' (tw HO169.out) (Kd.R_base ho77) hb); replace HO174 := Aside0.mk (Kd.R_elder' (tw HO174.out) (Kd.R_base ho77) hb); replace HO180 := Aside0.mk (Kd.R_elder' (tw HO180.out) (Kd.R_base ho77) hb); replace BK171 := blB BK171 hb; replace HB := Aside0.mk (below_step bel hb); clear hb ho77; obtain ⟨Ao78, co78, eo78⟩ := Kd.R_slice HO183.out; subst eo78) | ((with_reducible refine gate_callee (f := 25) rfl ?_); refine gL (some 25) Tryz.func25 #[.agg #[.int .i64 t166, .slice Ao69 t167.length co69], .string (⟨#[69]⟩ : ByteArray), .slice Ao78 y181.length co78] ?_; (with_reducible refine (shape_Has.calls k t166 _ _ t167 (⟨#[69]⟩ : ByteArray) _ _ y181 t184 t185 _ ?side1 ?side2 ?side3 ?side4 A4.out).mono ?_); (case side1 => exact cS (Kd.R_reads' HO169.out).2.2); (case side2 => exact (Kd.R_reads' HO169.out).2.1); (case side3 => exact cS (Kd.R_reads' HO183.out).2.2); (case side4 => exact (Kd.R_reads' HO183.out).2.1); rintro e w79 ⟨rfl, hb⟩; refine ⟨_, rfl, ?_⟩; replace HO169 := rD HO169 hb; replace HO174 := rD HO174 hb; replace HO180 := rD HO180 hb; replace HO183 := rD HO183 hb; replace BK171 := blB BK171 hb; replace HB := Aside0.mk (below_step bel hb); (try clear hb); (try clear hb2); (try clear hk); (try clear hi); obtain ⟨hcz80_0, hcz80_1, hfz80_0, hfz80_1⟩ := bq2 BK171))
      go_ret
      exact ⟨eN, bel⟩
    ·rw [if_neg c8] at H
     have c8b0 : (t185 == 0) = false := beq_eq_false_iff_ne.mpr c8
     have c8b1 : (t185 != 0) = true := bne_iff_ne.mpr c8
     obtain rfl := Option.some.inj H
     go_enter Tryz.func10, Tryz.ntmps10
     go_wp2_with (first | ((with_reducible refine gate_callee (f := 14) rfl ?_); refine gL (some 10) Tryz.func14 #[.string (⟨#[51, 59, 32, 69, 47, 50, 32, 48, 44, 49, 32, 49, 44, 50, 59, 32, 80, 47, 49, 32, 50, 59, 32, 81, 47, 48, 32, 40, 41]⟩ : ByteArray)] ?_; (with_reducible refine (shape_Parse.calls k (⟨#[51, 59, 32, 69, 47, 50, 32, 48, 44, 49, 32, 49, 44, 50, 59, 32, 80, 47, 49, 32, 50, 59, 32, 81, 47, 48, 32, 40, 41]⟩ : ByteArray) t166 t167 t170 _ ?side1 A1.out).mono ?_); (case side1 => first | exact HG.out | exact Glob.below HG.out bel); rintro e w81 ⟨v168, rfl, ho0, hb⟩; refine ⟨_, rfl, ?_⟩; have HO169 := Aside0.mk (Kd.R_lower ho0 (below_size bel)); replace HB := Aside0.mk (below_step bel hb); (try clear hb); (try clear hb2); (try clear hk); (try clear hi); (try clear ho0)) | ((with_reducible refine gate_dst (N := 1) rfl ?_); (try (refine gate_guard (by rfl) ?_; dsimp only)); refine box_event ?hg (N := 1) ?hd (cs := #[.int .i64 0, .slice none 0 0]) (t := 24) ?hr ?_; (case hd => rfl); (case hg => rfl); (case hr => first | (go_simp; done) | (go_simp; rfl)); intro gb171 hg w82 hbox hb; have BK171 := Aside0.mk (hbox); have GW171 := geB w hg; have GE171 := geB w hg; replace HO169 := rD HO169 hb; replace HB := Aside0.mk (below_step bel hb); clear hb hbox hg; obtain ⟨hcz83_0, hcz83_1, hfz83_0, hfz83_1⟩ := bq2 BK171; obtain ⟨Ao84, co84, eo84⟩ := Kd.R_slice HO169.out; subst eo84) | ((with_reducible refine gate_dst (N := 14) rfl ?_); (try (refine gate_guard (by rfl) ?_; dsimp only)); refine Kd.R_lit (Kd.int .i64) _ 3 ?hg (N := 14) ?hd (xs := ([1, 2] : List Int)) (inner := [.int .i64 1, .int .i64 2]) (ok := fun _ => True) (okp := fun _ => True) ?hr ?hp (fun _ hk => hk) trivial (Below.refl _ _) (Nat.le_refl _) (by simp) ?_; (case hd => rfl); (case hg => rfl); (case hr => first | (go_simp; done) | (go_simp; rfl)); (case hp => exact (Reps.one (show Kd.M (Kd.int .i64) _ _ _ 1 [.int .i64 1] from rfl) (Reps.one (show Kd.M (Kd.int .i64) _ _ _ 2 [.int .i64 2] from rfl) (Reps.none _ _)))); intro v173 w85 ho86 hb hg_ hnew_; clear hg_ hnew_; (first | rw [← Ny172.out] at ho86 | (simp only [Int.reduceToNat] at ho86; rw [← Ny172.out] at ho86)); have HO174 := Aside0.mk (Kd.R_lower ho86 (below_size bel)); replace HO169 := Aside0.mk (Kd.R_elder' (by (with_reducible repeat (first | apply Kd.R_alloc | apply Kd.R_drewN | apply Kd.R_drew)); exact (Kd.R_mono (Kd.R_far (p := ⟨gb171, 1, none⟩) (Kd.R_far (p := ⟨gb171, 0, none⟩) (Kd.R_types HO169.out BK171.out (by decide)) (fun _ hk => hk.2) (.int .i64 t166)) (fun _ hk => hk.2) (.slice Ao84 t167.length co84)) (fun _ h_ => h_.1))) (Kd.R_base ho86) hb); replace BK171 := Aside0.mk (blk_below (g := gb171) (o := .cells #[.int .i64 t166, .slice Ao84 t167.length co84] 24 (0, 0)) (by (with_reducible repeat (first | refine blk_drewN ?_ _ | refine blk_drew ?_ | refine blk_alloc ?_ _)); refine blk_put (cs := #[.int .i64 t166, .slice none 0 0]) ?_ 1 _ rfl; (with_reducible repeat (first | refine blk_drewN ?_ _ | refine blk_drew ?_ | refine blk_alloc ?_ _)); refine blk_put (cs := #[.int .i64 0, .slice none 0 0]) ?_ 0 _ rfl; (with_reducible repeat (first | refine blk_drewN ?_ _ | refine blk_drew ?_ | refine blk_alloc ?_ _)); exact BK171.out) hb); replace HB := Aside0.mk (below_step bel hb); clear hb ho86; obtain ⟨Ao87, co87, eo87⟩ := Kd.R_slice HO174.out; subst eo87) | ((with_reducible refine gate_callee (f := 42) rfl ?_); refine gL (some 15) Tryz.func42 #[.int .i64 3, .slice Ao87 y172.length co87] ?_; (with_reducible refine (shape_Rank.calls k 3 _ _ y172 t175 t176 _ ?side1 ?side2 A2.out).mono ?_); (case side1 => exact cS (Kd.R_reads' HO174.out).2.2); (case side2 => exact (Kd.R_reads' HO174.out).2.1); rintro e w88 ⟨rfl, hb⟩; refine ⟨_, rfl, ?_⟩; replace HO169 := rD HO169 hb; replace HO174 := rD HO174 hb; replace BK171 := blB BK171 hb; replace HB := Aside0.mk (below_step bel hb); (try clear hb); (try clear hb2); (try clear hk); (try clear hi)) | ((with_reducible refine gate_callee (f := 43) rfl ?_); refine gL (some 19) Tryz.func43 #[.int .i64 2, .int .i64 3, .int .i64 5] ?_; (with_reducible refine (shape_Tuple.calls k 2 3 5 t177 t178 _ A3.out).mono ?_); rintro e w89 ⟨v179, rfl, ho0, hb⟩; refine ⟨_, rfl, ?_⟩; have HO180 := Aside0.mk (Kd.R_lower (Kd.R_new' ho0 (Kd.R_lt (tw HO174.out))) (below_size bel)); replace HO169 := rE HO169 (Kd.R_base ho0) hb; replace HO174 := rE HO174 (Kd.R_base ho0) hb; replace BK171 := blB BK171 hb; replace HB := Aside0.mk (below_step bel hb); (try clear hb); (try clear hb2); (try clear hk); (try clear hi); (try clear ho0); obtain ⟨hcz90_0, hcz90_1, hfz90_0, hfz90_1⟩ := bq2 BK171) | ((with_reducible refine gate_dst (N := 24) rfl ?_); (try (refine gate_guard (by rfl) ?_; dsimp only)); refine Kd.R_lit (Kd.int .i64) _ 3 ?hg (N := 24) ?hd (xs := ([1, 2] : List Int)) (inner := [.int .i64 1, .int .i64 2]) (ok := fun _ => True) (okp := fun _ => True) ?hr ?hp (fun _ hk => hk) trivial (Below.refl _ _) (Nat.le_refl _) (by simp) ?_; (case hd => rfl); (case hg => rfl); (case hr => first | (go_simp; done) | (go_simp; rfl)); (case hp => exact (Reps.one (show Kd.M (Kd.int .i64) _ _ _ 1 [.int .i64 1] from rfl) (Reps.one (show Kd.M (Kd.int .i64) _ _ _ 2 [.int .i64 2] from rfl) (Reps.none _ _)))); intro v182 w91 ho92 hb hg_ hnew_; clear hg_ hnew_; (first | rw [← Ny181.out] at ho92 | (simp only [Int.reduceToNat] at ho92; rw [← Ny181.out] at ho92)); have HO183 := Aside0.mk (Kd.R_lower (Kd.R_new' (Kd.R_new' ho92 (Kd.R_lt (tw HO174.out))) (Kd.R_lt (tw HO180.out))) (below_size bel)); replace HO169 := Aside0.mk (Kd.R_elder' (tw HO169.out) (Kd.R_base ho92) hb); replace HO174 := Aside0.mk (Kd.R_elder' (tw HO174.out) (Kd.R_base ho92) hb); replace HO180 := Aside0.mk (Kd.R_elder' (tw HO180.out) (Kd.R_base ho92) hb); replace BK171 := blB BK171 hb; replace HB := Aside0.mk (below_step bel hb); clear hb ho92; obtain ⟨Ao93, co93, eo93⟩ := Kd.R_slice HO183.out; subst eo93) | ((with_reducible refine gate_callee (f := 25) rfl ?_); refine gL (some 25) Tryz.func25 #[.agg #[.int .i64 t166, .slice Ao84 t167.length co84], .string (⟨#[69]⟩ : ByteArray), .slice Ao93 y181.length co93] ?_; (with_reducible refine (shape_Has.calls k t166 _ _ t167 (⟨#[69]⟩ : ByteArray) _ _ y181 t184 t185 _ ?side1 ?side2 ?side3 ?side4 A4.out).mono ?_); (case side1 => exact cS (Kd.R_reads' HO169.out).2.2); (case side2 => exact (Kd.R_reads' HO169.out).2.1); (case side3 => exact cS (Kd.R_reads' HO183.out).2.2); (case side4 => exact (Kd.R_reads' HO183.out).2.1); rintro e w94 ⟨rfl, hb⟩; refine ⟨_, rfl, ?_⟩; replace HO169 := rD HO169 hb; replace HO174 := rD HO174 hb; replace HO180 := rD HO180 hb; replace HO183 := rD HO183 hb; replace BK171 := blB BK171 hb; replace HB := Aside0.mk (below_step bel hb); (try clear hb); (try clear hb2); (try clear hk); (try clear hi)))
     go_ret
     exact ⟨eN, bel⟩
   ·rw [if_neg c7] at H
    have c7b0 : (t178 == 0) = false := beq_eq_false_iff_ne.mpr c7
    have c7b1 : (t178 != 0) = true := bne_iff_ne.mpr c7
    obtain rfl := Option.some.inj H
    go_enter Tryz.func10, Tryz.ntmps10
    go_wp2_with (first | ((with_reducible refine gate_callee (f := 14) rfl ?_); refine gL (some 10) Tryz.func14 #[.string (⟨#[51, 59, 32, 69, 47, 50, 32, 48, 44, 49, 32, 49, 44, 50, 59, 32, 80, 47, 49, 32, 50, 59, 32, 81, 47, 48, 32, 40, 41]⟩ : ByteArray)] ?_; (with_reducible refine (shape_Parse.calls k (⟨#[51, 59, 32, 69, 47, 50, 32, 48, 44, 49, 32, 49, 44, 50, 59, 32, 80, 47, 49, 32, 50, 59, 32, 81, 47, 48, 32, 40, 41]⟩ : ByteArray) t166 t167 t170 _ ?side1 A1.out).mono ?_); (case side1 => first | exact HG.out | exact Glob.below HG.out bel); rintro e w95 ⟨v168, rfl, ho0, hb⟩; refine ⟨_, rfl, ?_⟩; have HO169 := Aside0.mk (Kd.R_lower ho0 (below_size bel)); replace HB := Aside0.mk (below_step bel hb); (try clear hb); (try clear hb2); (try clear hk); (try clear hi); (try clear ho0)) | ((with_reducible refine gate_dst (N := 1) rfl ?_); (try (refine gate_guard (by rfl) ?_; dsimp only)); refine box_event ?hg (N := 1) ?hd (cs := #[.int .i64 0, .slice none 0 0]) (t := 24) ?hr ?_; (case hd => rfl); (case hg => rfl); (case hr => first | (go_simp; done) | (go_simp; rfl)); intro gb171 hg w96 hbox hb; have BK171 := Aside0.mk (hbox); have GW171 := geB w hg; have GE171 := geB w hg; replace HO169 := rD HO169 hb; replace HB := Aside0.mk (below_step bel hb); clear hb hbox hg; obtain ⟨hcz97_0, hcz97_1, hfz97_0, hfz97_1⟩ := bq2 BK171; obtain ⟨Ao98, co98, eo98⟩ := Kd.R_slice HO169.out; subst eo98) | ((with_reducible refine gate_dst (N := 14) rfl ?_); (try (refine gate_guard (by rfl) ?_; dsimp only)); refine Kd.R_lit (Kd.int .i64) _ 3 ?hg (N := 14) ?hd (xs := ([1, 2] : List Int)) (inner := [.int .i64 1, .int .i64 2]) (ok := fun _ => True) (okp := fun _ => True) ?hr ?hp (fun _ hk => hk) trivial (Below.refl _ _) (Nat.le_refl _) (by simp) ?_; (case hd => rfl); (case hg => rfl); (case hr => first | (go_simp; done) | (go_simp; rfl)); (case hp => exact (Reps.one (show Kd.M (Kd.int .i64) _ _ _ 1 [.int .i64 1] from rfl) (Reps.one (show Kd.M (Kd.int .i64) _ _ _ 2 [.int .i64 2] from rfl) (Reps.none _ _)))); intro v173 w99 ho100 hb hg_ hnew_; clear hg_ hnew_; (first | rw [← Ny172.out] at ho100 | (simp only [Int.reduceToNat] at ho100; rw [← Ny172.out] at ho100)); have HO174 := Aside0.mk (Kd.R_lower ho100 (below_size bel)); replace HO169 := Aside0.mk (Kd.R_elder' (by (with_reducible repeat (first | apply Kd.R_alloc | apply Kd.R_drewN | apply Kd.R_drew)); exact (Kd.R_mono (Kd.R_far (p := ⟨gb171, 1, none⟩) (Kd.R_far (p := ⟨gb171, 0, none⟩) (Kd.R_types HO169.out BK171.out (by decide)) (fun _ hk => hk.2) (.int .i64 t166)) (fun _ hk => hk.2) (.slice Ao98 t167.length co98)) (fun _ h_ => h_.1))) (Kd.R_base ho100) hb); replace BK171 := Aside0.mk (blk_below (g := gb171) (o := .cells #[.int .i64 t166, .slice Ao98 t167.length co98] 24 (0, 0)) (by (with_reducible repeat (first | refine blk_drewN ?_ _ | refine blk_drew ?_ | refine blk_alloc ?_ _)); refine blk_put (cs := #[.int .i64 t166, .slice none 0 0]) ?_ 1 _ rfl; (with_reducible repeat (first | refine blk_drewN ?_ _ | refine blk_drew ?_ | refine blk_alloc ?_ _)); refine blk_put (cs := #[.int .i64 0, .slice none 0 0]) ?_ 0 _ rfl; (with_reducible repeat (first | refine blk_drewN ?_ _ | refine blk_drew ?_ | refine blk_alloc ?_ _)); exact BK171.out) hb); replace HB := Aside0.mk (below_step bel hb); clear hb ho100; obtain ⟨Ao101, co101, eo101⟩ := Kd.R_slice HO174.out; subst eo101) | ((with_reducible refine gate_callee (f := 42) rfl ?_); refine gL (some 15) Tryz.func42 #[.int .i64 3, .slice Ao101 y172.length co101] ?_; (with_reducible refine (shape_Rank.calls k 3 _ _ y172 t175 t176 _ ?side1 ?side2 A2.out).mono ?_); (case side1 => exact cS (Kd.R_reads' HO174.out).2.2); (case side2 => exact (Kd.R_reads' HO174.out).2.1); rintro e w102 ⟨rfl, hb⟩; refine ⟨_, rfl, ?_⟩; replace HO169 := rD HO169 hb; replace HO174 := rD HO174 hb; replace BK171 := blB BK171 hb; replace HB := Aside0.mk (below_step bel hb); (try clear hb); (try clear hb2); (try clear hk); (try clear hi)) | ((with_reducible refine gate_callee (f := 43) rfl ?_); refine gL (some 19) Tryz.func43 #[.int .i64 2, .int .i64 3, .int .i64 5] ?_; (with_reducible refine (shape_Tuple.calls k 2 3 5 t177 t178 _ A3.out).mono ?_); rintro e w103 ⟨v179, rfl, ho0, hb⟩; refine ⟨_, rfl, ?_⟩; have HO180 := Aside0.mk (Kd.R_lower (Kd.R_new' ho0 (Kd.R_lt (tw HO174.out))) (below_size bel)); replace HO169 := rE HO169 (Kd.R_base ho0) hb; replace HO174 := rE HO174 (Kd.R_base ho0) hb; replace BK171 := blB BK171 hb; replace HB := Aside0.mk (below_step bel hb); (try clear hb); (try clear hb2); (try clear hk); (try clear hi); (try clear ho0); obtain ⟨hcz104_0, hcz104_1, hfz104_0, hfz104_1⟩ := bq2 BK171) | ((with_reducible refine gate_dst (N := 24) rfl ?_); (try (refine gate_guard (by rfl) ?_; dsimp only)); refine Kd.R_lit (Kd.int .i64) _ 3 ?hg (N := 24) ?hd (xs := ([1, 2] : List Int)) (inner := [.int .i64 1, .int .i64 2]) (ok := fun _ => True) (okp := fun _ => True) ?hr ?hp (fun _ hk => hk) trivial (Below.refl _ _) (Nat.le_refl _) (by simp) ?_; (case hd => rfl); (case hg => rfl); (case hr => first | (go_simp; done) | (go_simp; rfl)); (case hp => exact (Reps.one (show Kd.M (Kd.int .i64) _ _ _ 1 [.int .i64 1] from rfl) (Reps.one (show Kd.M (Kd.int .i64) _ _ _ 2 [.int .i64 2] from rfl) (Reps.none _ _)))); intro v182 w105 ho106 hb hg_ hnew_; clear hg_ hnew_; (first | rw [← Ny181.out] at ho106 | (simp only [Int.reduceToNat] at ho106; rw [← Ny181.out] at ho106)); have HO183 := Aside0.mk (Kd.R_lower (Kd.R_new' (Kd.R_new' ho106 (Kd.R_lt (tw HO174.out))) (Kd.R_lt (tw HO180.out))) (below_size bel)); replace HO169 := Aside0.mk (Kd.R_elder' (tw HO169.out) (Kd.R_base ho106) hb); replace HO174 := Aside0.mk (Kd.R_elder' (tw HO174.out) (Kd.R_base ho106) hb); replace HO180 := Aside0.mk (Kd.R_elder' (tw HO180.out) (Kd.R_base ho106) hb); replace BK171 := blB BK171 hb; replace HB := Aside0.mk (below_step bel hb); clear hb ho106; obtain ⟨Ao107, co107, eo107⟩ := Kd.R_slice HO183.out; subst eo107) | ((with_reducible refine gate_callee (f := 25) rfl ?_); refine gL (some 25) Tryz.func25 #[.agg #[.int .i64 t166, .slice Ao98 t167.length co98], .string (⟨#[69]⟩ : ByteArray), .slice Ao107 y181.length co107] ?_; (with_reducible refine (shape_Has.calls k t166 _ _ t167 (⟨#[69]⟩ : ByteArray) _ _ y181 t184 t185 _ ?side1 ?side2 ?side3 ?side4 A4.out).mono ?_); (case side1 => exact cS (Kd.R_reads' HO169.out).2.2); (case side2 => exact (Kd.R_reads' HO169.out).2.1); (case side3 => exact cS (Kd.R_reads' HO183.out).2.2); (case side4 => exact (Kd.R_reads' HO183.out).2.1); rintro e w108 ⟨rfl, hb⟩; refine ⟨_, rfl, ?_⟩; replace HO169 := rD HO169 hb; replace HO174 := rD HO174 hb; replace HO180 := rD HO180 hb; replace HO183 := rD HO183 hb; replace BK171 := blB BK171 hb; replace HB := Aside0.mk (below_step bel hb); (try clear hb); (try clear hb2); (try clear hk); (try clear hi)))
    go_ret
    exact ⟨eN, bel⟩
  ·rw [if_neg c6] at H
   have c6b0 : (t176 == 0) = false := beq_eq_false_iff_ne.mpr c6
   have c6b1 : (t176 != 0) = true := bne_iff_ne.mpr c6
   obtain rfl := Option.some.inj H
   go_enter Tryz.func10, Tryz.ntmps10
   go_wp2_with (first | ((with_reducible refine gate_callee (f := 14) rfl ?_); refine gL (some 10) Tryz.func14 #[.string (⟨#[51, 59, 32, 69, 47, 50, 32, 48, 44, 49, 32, 49, 44, 50, 59, 32, 80, 47, 49, 32, 50, 59, 32, 81, 47, 48, 32, 40, 41]⟩ : ByteArray)] ?_; (with_reducible refine (shape_Parse.calls k (⟨#[51, 59, 32, 69, 47, 50, 32, 48, 44, 49, 32, 49, 44, 50, 59, 32, 80, 47, 49, 32, 50, 59, 32, 81, 47, 48, 32, 40, 41]⟩ : ByteArray) t166 t167 t170 _ ?side1 A1.out).mono ?_); (case side1 => first | exact HG.out | exact Glob.below HG.out bel); rintro e w109 ⟨v168, rfl, ho0, hb⟩; refine ⟨_, rfl, ?_⟩; have HO169 := Aside0.mk (Kd.R_lower ho0 (below_size bel)); replace HB := Aside0.mk (below_step bel hb); (try clear hb); (try clear hb2); (try clear hk); (try clear hi); (try clear ho0)) | ((with_reducible refine gate_dst (N := 1) rfl ?_); (try (refine gate_guard (by rfl) ?_; dsimp only)); refine box_event ?hg (N := 1) ?hd (cs := #[.int .i64 0, .slice none 0 0]) (t := 24) ?hr ?_; (case hd => rfl); (case hg => rfl); (case hr => first | (go_simp; done) | (go_simp; rfl)); intro gb171 hg w110 hbox hb; have BK171 := Aside0.mk (hbox); have GW171 := geB w hg; have GE171 := geB w hg; replace HO169 := rD HO169 hb; replace HB := Aside0.mk (below_step bel hb); clear hb hbox hg; obtain ⟨hcz111_0, hcz111_1, hfz111_0, hfz111_1⟩ := bq2 BK171; obtain ⟨Ao112, co112, eo112⟩ := Kd.R_slice HO169.out; subst eo112) | ((with_reducible refine gate_dst (N := 14) rfl ?_); (try (refine gate_guard (by rfl) ?_; dsimp only)); refine Kd.R_lit (Kd.int .i64) _ 3 ?hg (N := 14) ?hd (xs := ([1, 2] : List Int)) (inner := [.int .i64 1, .int .i64 2]) (ok := fun _ => True) (okp := fun _ => True) ?hr ?hp (fun _ hk => hk) trivial (Below.refl _ _) (Nat.le_refl _) (by simp) ?_; (case hd => rfl); (case hg => rfl); (case hr => first | (go_simp; done) | (go_simp; rfl)); (case hp => exact (Reps.one (show Kd.M (Kd.int .i64) _ _ _ 1 [.int .i64 1] from rfl) (Reps.one (show Kd.M (Kd.int .i64) _ _ _ 2 [.int .i64 2] from rfl) (Reps.none _ _)))); intro v173 w113 ho114 hb hg_ hnew_; clear hg_ hnew_; (first | rw [← Ny172.out] at ho114 | (simp only [Int.reduceToNat] at ho114; rw [← Ny172.out] at ho114)); have HO174 := Aside0.mk (Kd.R_lower ho114 (below_size bel)); replace HO169 := Aside0.mk (Kd.R_elder' (by (with_reducible repeat (first | apply Kd.R_alloc | apply Kd.R_drewN | apply Kd.R_drew)); exact (Kd.R_mono (Kd.R_far (p := ⟨gb171, 1, none⟩) (Kd.R_far (p := ⟨gb171, 0, none⟩) (Kd.R_types HO169.out BK171.out (by decide)) (fun _ hk => hk.2) (.int .i64 t166)) (fun _ hk => hk.2) (.slice Ao112 t167.length co112)) (fun _ h_ => h_.1))) (Kd.R_base ho114) hb); replace BK171 := Aside0.mk (blk_below (g := gb171) (o := .cells #[.int .i64 t166, .slice Ao112 t167.length co112] 24 (0, 0)) (by (with_reducible repeat (first | refine blk_drewN ?_ _ | refine blk_drew ?_ | refine blk_alloc ?_ _)); refine blk_put (cs := #[.int .i64 t166, .slice none 0 0]) ?_ 1 _ rfl; (with_reducible repeat (first | refine blk_drewN ?_ _ | refine blk_drew ?_ | refine blk_alloc ?_ _)); refine blk_put (cs := #[.int .i64 0, .slice none 0 0]) ?_ 0 _ rfl; (with_reducible repeat (first | refine blk_drewN ?_ _ | refine blk_drew ?_ | refine blk_alloc ?_ _)); exact BK171.out) hb); replace HB := Aside0.mk (below_step bel hb); clear hb ho114; obtain ⟨Ao115, co115, eo115⟩ := Kd.R_slice HO174.out; subst eo115) | ((with_reducible refine gate_callee (f := 42) rfl ?_); refine gL (some 15) Tryz.func42 #[.int .i64 3, .slice Ao115 y172.length co115] ?_; (with_reducible refine (shape_Rank.calls k 3 _ _ y172 t175 t176 _ ?side1 ?side2 A2.out).mono ?_); (case side1 => exact cS (Kd.R_reads' HO174.out).2.2); (case side2 => exact (Kd.R_reads' HO174.out).2.1); rintro e w116 ⟨rfl, hb⟩; refine ⟨_, rfl, ?_⟩; replace HO169 := rD HO169 hb; replace HO174 := rD HO174 hb; replace BK171 := blB BK171 hb; replace HB := Aside0.mk (below_step bel hb); (try clear hb); (try clear hb2); (try clear hk); (try clear hi)) | ((with_reducible refine gate_callee (f := 43) rfl ?_); refine gL (some 19) Tryz.func43 #[.int .i64 2, .int .i64 3, .int .i64 5] ?_; (with_reducible refine (shape_Tuple.calls k 2 3 5 t177 t178 _ A3.out).mono ?_); rintro e w117 ⟨v179, rfl, ho0, hb⟩; refine ⟨_, rfl, ?_⟩; have HO180 := Aside0.mk (Kd.R_lower (Kd.R_new' ho0 (Kd.R_lt (tw HO174.out))) (below_size bel)); replace HO169 := rE HO169 (Kd.R_base ho0) hb; replace HO174 := rE HO174 (Kd.R_base ho0) hb; replace BK171 := blB BK171 hb; replace HB := Aside0.mk (below_step bel hb); (try clear hb); (try clear hb2); (try clear hk); (try clear hi); (try clear ho0); obtain ⟨hcz118_0, hcz118_1, hfz118_0, hfz118_1⟩ := bq2 BK171) | ((with_reducible refine gate_dst (N := 24) rfl ?_); (try (refine gate_guard (by rfl) ?_; dsimp only)); refine Kd.R_lit (Kd.int .i64) _ 3 ?hg (N := 24) ?hd (xs := ([1, 2] : List Int)) (inner := [.int .i64 1, .int .i64 2]) (ok := fun _ => True) (okp := fun _ => True) ?hr ?hp (fun _ hk => hk) trivial (Below.refl _ _) (Nat.le_refl _) (by simp) ?_; (case hd => rfl); (case hg => rfl); (case hr => first | (go_simp; done) | (go_simp; rfl)); (case hp => exact (Reps.one (show Kd.M (Kd.int .i64) _ _ _ 1 [.int .i64 1] from rfl) (Reps.one (show Kd.M (Kd.int .i64) _ _ _ 2 [.int .i64 2] from rfl) (Reps.none _ _)))); intro v182 w119 ho120 hb hg_ hnew_; clear hg_ hnew_; (first | rw [← Ny181.out] at ho120 | (simp only [Int.reduceToNat] at ho120; rw [← Ny181.out] at ho120)); have HO183 := Aside0.mk (Kd.R_lower (Kd.R_new' (Kd.R_new' ho120 (Kd.R_lt (tw HO174.out))) (Kd.R_lt (tw HO180.out))) (below_size bel)); replace HO169 := Aside0.mk (Kd.R_elder' (tw HO169.out) (Kd.R_base ho120) hb); replace HO174 := Aside0.mk (Kd.R_elder' (tw HO174.out) (Kd.R_base ho120) hb); replace HO180 := Aside0.mk (Kd.R_elder' (tw HO180.out) (Kd.R_base ho120) hb); replace BK171 := blB BK171 hb; replace HB := Aside0.mk (below_step bel hb); clear hb ho120; obtain ⟨Ao121, co121, eo121⟩ := Kd.R_slice HO183.out; subst eo121) | ((with_reducible refine gate_callee (f := 25) rfl ?_); refine gL (some 25) Tryz.func25 #[.agg #[.int .i64 t166, .slice Ao112 t167.length co112], .string (⟨#[69]⟩ : ByteArray), .slice Ao121 y181.length co121] ?_; (with_reducible refine (shape_Has.calls k t166 _ _ t167 (⟨#[69]⟩ : ByteArray) _ _ y181 t184 t185 _ ?side1 ?side2 ?side3 ?side4 A4.out).mono ?_); (case side1 => exact cS (Kd.R_reads' HO169.out).2.2); (case side2 => exact (Kd.R_reads' HO169.out).2.1); (case side3 => exact cS (Kd.R_reads' HO183.out).2.2); (case side4 => exact (Kd.R_reads' HO183.out).2.1); rintro e w122 ⟨rfl, hb⟩; refine ⟨_, rfl, ?_⟩; replace HO169 := rD HO169 hb; replace HO174 := rD HO174 hb; replace HO180 := rD HO180 hb; replace HO183 := rD HO183 hb; replace BK171 := blB BK171 hb; replace HB := Aside0.mk (below_step bel hb); (try clear hb); (try clear hb2); (try clear hk); (try clear hi)))
   go_ret
   exact ⟨eN, bel⟩
 ·rw [if_neg c5] at H
  have c5b0 : (t170 == 0) = false := beq_eq_false_iff_ne.mpr c5
  have c5b1 : (t170 != 0) = true := bne_iff_ne.mpr c5
  obtain rfl := Option.some.inj H
  go_enter Tryz.func10, Tryz.ntmps10
  go_wp2_with (first | ((with_reducible refine gate_callee (f := 14) rfl ?_); refine gL (some 10) Tryz.func14 #[.string (⟨#[51, 59, 32, 69, 47, 50, 32, 48, 44, 49, 32, 49, 44, 50, 59, 32, 80, 47, 49, 32, 50, 59, 32, 81, 47, 48, 32, 40, 41]⟩ : ByteArray)] ?_; (with_reducible refine (shape_Parse.calls k (⟨#[51, 59, 32, 69, 47, 50, 32, 48, 44, 49, 32, 49, 44, 50, 59, 32, 80, 47, 49, 32, 50, 59, 32, 81, 47, 48, 32, 40, 41]⟩ : ByteArray) t166 t167 t170 _ ?side1 A1.out).mono ?_); (case side1 => first | exact HG.out | exact Glob.below HG.out bel); rintro e w123 ⟨v168, rfl, ho0, hb⟩; refine ⟨_, rfl, ?_⟩; have HO169 := Aside0.mk (Kd.R_lower ho0 (below_size bel)); replace HB := Aside0.mk (below_step bel hb); (try clear hb); (try clear hb2); (try clear hk); (try clear hi); (try clear ho0)) | ((with_reducible refine gate_dst (N := 1) rfl ?_); (try (refine gate_guard (by rfl) ?_; dsimp only)); refine box_event ?hg (N := 1) ?hd (cs := #[.int .i64 0, .slice none 0 0]) (t := 24) ?hr ?_; (case hd => rfl); (case hg => rfl); (case hr => first | (go_simp; done) | (go_simp; rfl)); intro gb171 hg w124 hbox hb; have BK171 := Aside0.mk (hbox); have GW171 := geB w hg; have GE171 := geB w hg; replace HO169 := rD HO169 hb; replace HB := Aside0.mk (below_step bel hb); clear hb hbox hg; obtain ⟨hcz125_0, hcz125_1, hfz125_0, hfz125_1⟩ := bq2 BK171; obtain ⟨Ao126, co126, eo126⟩ := Kd.R_slice HO169.out; subst eo126) | ((with_reducible refine gate_dst (N := 14) rfl ?_); (try (refine gate_guard (by rfl) ?_; dsimp only)); refine Kd.R_lit (Kd.int .i64) _ 3 ?hg (N := 14) ?hd (xs := ([1, 2] : List Int)) (inner := [.int .i64 1, .int .i64 2]) (ok := fun _ => True) (okp := fun _ => True) ?hr ?hp (fun _ hk => hk) trivial (Below.refl _ _) (Nat.le_refl _) (by simp) ?_; (case hd => rfl); (case hg => rfl); (case hr => first | (go_simp; done) | (go_simp; rfl)); (case hp => exact (Reps.one (show Kd.M (Kd.int .i64) _ _ _ 1 [.int .i64 1] from rfl) (Reps.one (show Kd.M (Kd.int .i64) _ _ _ 2 [.int .i64 2] from rfl) (Reps.none _ _)))); intro v173 w127 ho128 hb hg_ hnew_; clear hg_ hnew_; (first | rw [← Ny172.out] at ho128 | (simp only [Int.reduceToNat] at ho128; rw [← Ny172.out] at ho128)); have HO174 := Aside0.mk (Kd.R_lower ho128 (below_size bel)); replace HO169 := Aside0.mk (Kd.R_elder' (by (with_reducible repeat (first | apply Kd.R_alloc | apply Kd.R_drewN | apply Kd.R_drew)); exact (Kd.R_mono (Kd.R_far (p := ⟨gb171, 1, none⟩) (Kd.R_far (p := ⟨gb171, 0, none⟩) (Kd.R_types HO169.out BK171.out (by decide)) (fun _ hk => hk.2) (.int .i64 t166)) (fun _ hk => hk.2) (.slice Ao126 t167.length co126)) (fun _ h_ => h_.1))) (Kd.R_base ho128) hb); replace BK171 := Aside0.mk (blk_below (g := gb171) (o := .cells #[.int .i64 t166, .slice Ao126 t167.length co126] 24 (0, 0)) (by (with_reducible repeat (first | refine blk_drewN ?_ _ | refine blk_drew ?_ | refine blk_alloc ?_ _)); refine blk_put (cs := #[.int .i64 t166, .slice none 0 0]) ?_ 1 _ rfl; (with_reducible repeat (first | refine blk_drewN ?_ _ | refine blk_drew ?_ | refine blk_alloc ?_ _)); refine blk_put (cs := #[.int .i64 0, .slice none 0 0]) ?_ 0 _ rfl; (with_reducible repeat (first | refine blk_drewN ?_ _ | refine blk_drew ?_ | refine blk_alloc ?_ _)); exact BK171.out) hb); replace HB := Aside0.mk (below_step bel hb); clear hb ho128; obtain ⟨Ao129, co129, eo129⟩ := Kd.R_slice HO174.out; subst eo129) | ((with_reducible refine gate_callee (f := 42) rfl ?_); refine gL (some 15) Tryz.func42 #[.int .i64 3, .slice Ao129 y172.length co129] ?_; (with_reducible refine (shape_Rank.calls k 3 _ _ y172 t175 t176 _ ?side1 ?side2 A2.out).mono ?_); (case side1 => exact cS (Kd.R_reads' HO174.out).2.2); (case side2 => exact (Kd.R_reads' HO174.out).2.1); rintro e w130 ⟨rfl, hb⟩; refine ⟨_, rfl, ?_⟩; replace HO169 := rD HO169 hb; replace HO174 := rD HO174 hb; replace BK171 := blB BK171 hb; replace HB := Aside0.mk (below_step bel hb); (try clear hb); (try clear hb2); (try clear hk); (try clear hi)) | ((with_reducible refine gate_callee (f := 43) rfl ?_); refine gL (some 19) Tryz.func43 #[.int .i64 2, .int .i64 3, .int .i64 5] ?_; (with_reducible refine (shape_Tuple.calls k 2 3 5 t177 t178 _ A3.out).mono ?_); rintro e w131 ⟨v179, rfl, ho0, hb⟩; refine ⟨_, rfl, ?_⟩; have HO180 := Aside0.mk (Kd.R_lower (Kd.R_new' ho0 (Kd.R_lt (tw HO174.out))) (below_size bel)); replace HO169 := rE HO169 (Kd.R_base ho0) hb; replace HO174 := rE HO174 (Kd.R_base ho0) hb; replace BK171 := blB BK171 hb; replace HB := Aside0.mk (below_step bel hb); (try clear hb); (try clear hb2); (try clear hk); (try clear hi); (try clear ho0); obtain ⟨hcz132_0, hcz132_1, hfz132_0, hfz132_1⟩ := bq2 BK171) | ((with_reducible refine gate_dst (N := 24) rfl ?_); (try (refine gate_guard (by rfl) ?_; dsimp only)); refine Kd.R_lit (Kd.int .i64) _ 3 ?hg (N := 24) ?hd (xs := ([1, 2] : List Int)) (inner := [.int .i64 1, .int .i64 2]) (ok := fun _ => True) (okp := fun _ => True) ?hr ?hp (fun _ hk => hk) trivial (Below.refl _ _) (Nat.le_refl _) (by simp) ?_; (case hd => rfl); (case hg => rfl); (case hr => first | (go_simp; done) | (go_simp; rfl)); (case hp => exact (Reps.one (show Kd.M (Kd.int .i64) _ _ _ 1 [.int .i64 1] from rfl) (Reps.one (show Kd.M (Kd.int .i64) _ _ _ 2 [.int .i64 2] from rfl) (Reps.none _ _)))); intro v182 w133 ho134 hb hg_ hnew_; clear hg_ hnew_; (first | rw [← Ny181.out] at ho134 | (simp only [Int.reduceToNat] at ho134; rw [← Ny181.out] at ho134)); have HO183 := Aside0.mk (Kd.R_lower (Kd.R_new' (Kd.R_new' ho134 (Kd.R_lt (tw HO174.out))) (Kd.R_lt (tw HO180.out))) (below_size bel)); replace HO169 := Aside0.mk (Kd.R_elder' (tw HO169.out) (Kd.R_base ho134) hb); replace HO174 := Aside0.mk (Kd.R_elder' (tw HO174.out) (Kd.R_base ho134) hb); replace HO180 := Aside0.mk (Kd.R_elder' (tw HO180.out) (Kd.R_base ho134) hb); replace BK171 := blB BK171 hb; replace HB := Aside0.mk (below_step bel hb); clear hb ho134; obtain ⟨Ao135, co135, eo135⟩ := Kd.R_slice HO183.out; subst eo135) | ((with_reducible refine gate_callee (f := 25) rfl ?_); refine gL (some 25) Tryz.func25 #[.agg #[.int .i64 t166, .slice Ao126 t167.length co126], .string (⟨#[69]⟩ : ByteArray), .slice Ao135 y181.length co135] ?_; (with_reducible refine (shape_Has.calls k t166 _ _ t167 (⟨#[69]⟩ : ByteArray) _ _ y181 t184 t185 _ ?side1 ?side2 ?side3 ?side4 A4.out).mono ?_); (case side1 => exact cS (Kd.R_reads' HO169.out).2.2); (case side2 => exact (Kd.R_reads' HO169.out).2.1); (case side3 => exact cS (Kd.R_reads' HO183.out).2.2); (case side4 => exact (Kd.R_reads' HO183.out).2.1); rintro e w136 ⟨rfl, hb⟩; refine ⟨_, rfl, ?_⟩; replace HO169 := rD HO169 hb; replace HO174 := rD HO174 hb; replace HO180 := rD HO180 hb; replace HO183 := rD HO183 hb; replace BK171 := blB BK171 hb; replace HB := Aside0.mk (below_step bel hb); (try clear hb); (try clear hb2); (try clear hk); (try clear hi)))
  go_ret
  exact ⟨eN, bel⟩
end Go.Proofs.YtfmpaofbnjlniaaGreatDoor.F
namespace Go.Proofs.YtfmpaofbnjlniaaGreatDoor.F
open Go.RowKit Go.Proofs.YtfmpaofbnjlniaaGreatDoorW.PrintWords Go.Proofs.YtfmpaofbnjlniaaGreatDoorW.PrintLast Go.Proofs.YtfmpaofbnjlniaaGreatDoorW.PrintMore
attribute [local go_sem] max2_int min2_int max_two min_two max_three min_three max_four min_four
set_option linter.unusedVariables false
set_option linter.unusedSimpArgs false
/-! ### paraphrastref01_Pow: function 76 -/
def paraphrastref01_Pow.l0 : Nat → Int → Int → Int → Int → Option (Int)
 | 0, _, _, _, _ => none
 | k + 1, x0, x1, x5, x6 => if x6 < x1 then (if x5 ≤ 4096 then (paraphrastref01_Pow.l0 k x0 x1 (wrap64 (x5 * x0)) (wrap64 (x6 + 1))) else (some x5)) else (some x5)
def paraphrastref01_Pow.f (k : Nat) (a0 : Int) (a1 : Int) : Option (Int) := paraphrastref01_Pow.l0 k a0 a1 1 0
theorem paraphrastref01_Pow.mono_l : ∀ k, (∀ y0 y1 y2 y3, LeO (paraphrastref01_Pow.l0 k y0 y1 y2 y3) (paraphrastref01_Pow.l0 (k + 1) y0 y1 y2 y3))
 | 0 => fun _ _ _ _ r h => by simp [paraphrastref01_Pow.l0] at h
 | k + 1 => by
  have ih0 := paraphrastref01_Pow.mono_l k
  ·intro y0 y1 y2 y3
   unfold paraphrastref01_Pow.l0
   repeat' first
   | (with_reducible exact ih0 _ _ _ _)
   | (with_reducible exact LeO.refl _)
   | (with_reducible exact LeO.none _)
   | (with_reducible refine LeO.ite ?_ ?_)
   | (with_reducible refine LeO.bind ?_ (fun _ => ?_))
   | exact ih0 _ _ _ _
   | exact LeO.none _
   | refine LeO.ite ?_ ?_
   | refine LeO.bind ?_ (fun _ => ?_)
theorem paraphrastref01_Pow.mono : ∀ a0 a1 k, LeO (paraphrastref01_Pow.f k a0 a1) (paraphrastref01_Pow.f (k + 1) a0 a1) := by
 intro a0 a1 k
 have ih0 := paraphrastref01_Pow.mono_l k
 unfold paraphrastref01_Pow.f
 repeat' first
   | (with_reducible exact ih0 _ _ _ _)
   | (with_reducible exact LeO.refl _)
   | (with_reducible exact LeO.none _)
   | (with_reducible refine LeO.ite ?_ ?_)
   | (with_reducible refine LeO.bind ?_ (fun _ => ?_))
   | exact ih0 _ _ _ _
   | exact LeO.none _
   | refine LeO.ite ?_ ?_
   | refine LeO.bind ?_ (fun _ => ?_)
end Go.Proofs.YtfmpaofbnjlniaaGreatDoor.F
/- Plain lemmas that every law of the chapter asks: powers, elements, equality, and that the examples of the chapter come out. -/
namespace Go.Proofs.YtfmpaofbnjlniaaGreatDoor.F
open Go.RowKit Go.Proofs.YtfmpaofbnjlniaaGreatDoorW.PrintWords Go.Proofs.YtfmpaofbnjlniaaGreatDoorW.PrintLast Go.Proofs.YtfmpaofbnjlniaaGreatDoorW.PrintMore
set_option linter.unusedVariables false
theorem w64 {x : Int} (h0 : -9223372036854775808 ≤ x) (h1 : x ≤ 9223372036854775807) : wrap64 x = x := by unfold wrap64; omega
theorem pow_both (n m : Int) (hn1 : 1 ≤ n) (hn2 : n ≤ 64) (hm : m ≤ 12) : ∀ (j : Nat) (p i : Int) (k : Nat), 1 ≤ p → p ≤ 4096 → 0 ≤ i → i + j = m → j + 1 ≤ k →
    ∃ q : Int, 1 ≤ q ∧ paraphrastref01_Pow.l0 k n m p i = some q ∧ shape_power.l0 k n 4096 p m i = some (if q > 4096 then -1 else q)
  | 0, p, i, k + 1, h1, h2, h3, h4, h5 => ⟨p, h1, by unfold paraphrastref01_Pow.l0; rw [if_neg (by omega)], by unfold shape_power.l0; rw [if_neg (by omega), if_neg (by omega)]⟩
  | j + 1, p, i, k + 1, h1, h2, h3, h4, h5 => by
    have e1 : p * n ≤ 4096 * 64 := Int.mul_le_mul h2 hn2 (by omega) (by omega)
    have e2 : 1 * 1 ≤ p * n := Int.mul_le_mul h1 hn1 (by omega) (by omega)
    have w1 : wrap64 (p * n) = p * n := w64 (by omega) (by omega)
    have w2 : wrap64 (i + 1) = i + 1 := w64 (by omega) (by omega)
    unfold paraphrastref01_Pow.l0 shape_power.l0
    rw [if_pos (by omega), if_pos (by omega), if_pos (by omega), w1, w2]
    by_cases hb : p * n > 4096
    · rw [if_pos hb]
      obtain ⟨k', rfl⟩ : ∃ k', k = k' + 1 := ⟨k - 1, by omega⟩
      refine ⟨p * n, by omega, ?_, by rw [if_pos hb]⟩
      unfold paraphrastref01_Pow.l0
      split
      · rw [if_neg (by omega)]
      · rfl
    · rw [if_neg hb]
      exact pow_both n m hn1 hn2 hm j (p * n) (i + 1) k (by omega) (by omega) (by omega) (by omega) (by omega)
theorem rd_nat (l : List Int) (i : Nat) (h : i < l.length) : rd l (i : Int) = l[i] := by unfold rd; rw [Int.toNat_natCast, List.getD_eq_getElem?_getD, List.getElem?_eq_getElem h]; rfl
theorem equal_refl (l : List Int) (hl : l.length ≤ 9000000000000000000) : ∀ (j i k : Nat), i + j = l.length → j + 1 ≤ k → paraphrastref01_Equal.l0 k l l (i : Int) = some true
  | 0, i, k + 1, h, hk => by unfold paraphrastref01_Equal.l0; rw [if_neg (by omega)]
  | j + 1, i, k + 1, h, hk => by
    unfold paraphrastref01_Equal.l0
    rw [if_pos (by omega), if_pos (by omega), if_pos (by omega), if_pos rfl, w64 (by omega) (by omega)]
    exact equal_refl l hl j (i + 1) k (by omega) (by omega)
theorem alive_true : ∃ K, ∀ k, K ≤ k → paraphrastlaw01_alive.f k = some true := by
  have hparse : ∀ k, 100 ≤ k → shape_Parse.f k (⟨#[51, 59, 32, 69, 47, 50, 32, 48, 44, 49, 32, 49, 44, 50, 59, 32, 80, 47, 49, 32, 50, 59, 32, 81, 47, 48, 32, 40, 41]⟩ : ByteArray) = some (3, [⟨⟨#[69]⟩, 2, [[0, 1], [1, 2]]⟩, ⟨⟨#[80]⟩, 1, [[2]]⟩, ⟨⟨#[81]⟩, 0, [[]]⟩], 0) := by
    intro k hk
    have hp : parseB (⟨#[51, 59, 32, 69, 47, 50, 32, 48, 44, 49, 32, 49, 44, 50, 59, 32, 80, 47, 49, 32, 50, 59, 32, 81, 47, 48, 32, 40, 41]⟩ : ByteArray) = some (3, [⟨⟨#[69]⟩, 2, [[0, 1], [1, 2]]⟩, ⟨⟨#[80]⟩, 1, [[2]]⟩, ⟨⟨#[81]⟩, 0, [[]]⟩]) := by kernel_rfl
    have hv : shape_Valid.f k 3 [⟨⟨#[69]⟩, 2, [[0, 1], [1, 2]]⟩, ⟨⟨#[80]⟩, 1, [[2]]⟩, ⟨⟨#[81]⟩, 0, [[]]⟩] = some true := at_rounds (shape_Valid.mono _ _) hk (by kernel_rfl)
    have hw : shape_write.f 3 [⟨⟨#[69]⟩, 2, [[0, 1], [1, 2]]⟩, ⟨⟨#[80]⟩, 1, [[2]]⟩, ⟨⟨#[81]⟩, 0, [[]]⟩] = some (⟨#[51, 59, 32, 69, 47, 50, 32, 48, 44, 49, 32, 49, 44, 50, 59, 32, 80, 47, 49, 32, 50, 59, 32, 81, 47, 48, 32, 40, 41]⟩ : ByteArray) := by
      unfold shape_write.f
      rw [if_pos]
      · kernel_rfl
      · refine ⟨by decide, ?_, ?_⟩
        · simp
        · exact of_decide_eq_true (by kernel_rfl)
    unfold shape_Parse.f
    rw [if_neg (by decide), hp]
    unfold parseEnd
    simp only [hv, Option.bind_some, if_true, hw]
  have hrank : ∀ k, 100 ≤ k → shape_Rank.f k 3 [1, 2] = some (5, 0) := fun k hk => at_rounds (shape_Rank.mono _ _) hk (by kernel_rfl)
  have htup : ∀ k, 100 ≤ k → shape_Tuple.f k 2 3 5 = some ([1, 0, 1], 0) := fun k hk => at_rounds (shape_Tuple.mono _ _ _) hk (by kernel_rfl)
  have hhas : ∀ k, 100 ≤ k → shape_Has.f k 3 [⟨⟨#[69]⟩, 2, [[0, 1], [1, 2]]⟩, ⟨⟨#[80]⟩, 1, [[2]]⟩, ⟨⟨#[81]⟩, 0, [[]]⟩] (⟨#[69]⟩ : ByteArray) [1, 2] = some (true, 0) := fun k hk => at_rounds (shape_Has.mono _ _ _ _) hk (by kernel_rfl)
  have heq : ∀ k, 100 ≤ k → paraphrastref01_Equal.f k [1, 0, 1] [1, 0, 1] = some true := fun k hk => at_rounds (paraphrastref01_Equal.mono _ _) hk (by kernel_rfl)
  refine ⟨100, fun k hk => ?_⟩
  unfold paraphrastlaw01_alive.f
  rw [hparse k hk]
  simp only [Option.bind_some]
  rw [hrank k hk, htup k hk]
  simp only [Option.bind_some]
  rw [hhas k hk]
  simp only [Option.bind_some, if_true]
  rw [heq k hk]
  rfl
end Go.Proofs.YtfmpaofbnjlniaaGreatDoor.F
/- Numbers of tuples: plain lemmas on Rank, Tuple and the lexicographic order. -/
namespace Go.Proofs.YtfmpaofbnjlniaaGreatDoor.F
open Go.RowKit Go.Proofs.YtfmpaofbnjlniaaGreatDoorW.PrintWords Go.Proofs.YtfmpaofbnjlniaaGreatDoorW.PrintLast Go.Proofs.YtfmpaofbnjlniaaGreatDoorW.PrintMore
set_option linter.unusedVariables false
def val (n a : Int) (l : List Int) : Int := l.foldl (fun a x => a * n + x) a
def lexL : List Int → List Int → Bool
  | x :: xs, y :: ys => if x = y then lexL xs ys else decide (x < y)
  | _, _ => false
theorem val_cons (n a x : Int) (l : List Int) : val n a (x :: l) = val n (a * n + x) l := rfl
theorem val_split (n : Int) : ∀ (l : List Int) (a : Int), val n a l = a * n ^ l.length + val n 0 l
  | [], a => by simp [val]
  | x :: l, a => by
    have e1 := val_split n l (a * n + x)
    have e2 := val_split n l (0 * n + x)
    rw [val_cons, val_cons, e1, e2, List.length_cons, Int.pow_succ]
    grind
theorem pow_pos' (n : Int) (hn : 1 ≤ n) : ∀ j : Nat, 1 ≤ n ^ j
  | 0 => by simp
  | j + 1 => by
    have := pow_pos' n hn j
    rw [Int.pow_succ]
    have := Int.mul_le_mul this hn (by omega) (by omega)
    omega
theorem val_cons0 (n x : Int) (l : List Int) : val n 0 (x :: l) = x * n ^ l.length + val n 0 l := by
  rw [val_cons, val_split n l (0 * n + x)]; grind
theorem val_bound (n : Int) (hn : 1 ≤ n) : ∀ (l : List Int), (∀ x ∈ l, 0 ≤ x ∧ x < n) → 0 ≤ val n 0 l ∧ val n 0 l < n ^ l.length
  | [], _ => by simp [val]
  | x :: l, h => by
    obtain ⟨h1, h2⟩ := val_bound n hn l (fun y hy => h y (List.mem_cons_of_mem _ hy))
    obtain ⟨h3, h4⟩ := h x List.mem_cons_self
    have hp := pow_pos' n hn l.length
    rw [val_cons0, List.length_cons, Int.pow_succ]
    generalize n ^ l.length = P at *
    have e1 : 0 ≤ x * P := Int.mul_nonneg h3 (by omega)
    have e2 : (x + 1) * P ≤ n * P := Int.mul_le_mul_of_nonneg_right (by omega) (by omega)
    rw [Int.add_mul, Int.one_mul, Int.mul_comm n P] at e2
    omega
theorem val_order (n : Int) (hn : 1 ≤ n) : ∀ (x y : List Int), x.length = y.length → (∀ t ∈ x, 0 ≤ t ∧ t < n) → (∀ t ∈ y, 0 ≤ t ∧ t < n) →
    decide (val n 0 x < val n 0 y) = lexL x y ∧ (val n 0 x == val n 0 y) = (x == y)
  | [], [], _, _, _ => by simp [val, lexL]
  | [], _ :: _, h, _, _ => by simp at h
  | _ :: _, [], h, _, _ => by simp at h
  | a :: x, b :: y, hl, hx, hy => by
    have hl' : x.length = y.length := by simpa using hl
    have hx' := fun t ht => hx t (List.mem_cons_of_mem _ ht)
    have hy' := fun t ht => hy t (List.mem_cons_of_mem _ ht)
    obtain ⟨i1, i2⟩ := val_order n hn x y hl' hx' hy'
    obtain ⟨b1, b2⟩ := val_bound n hn x hx'
    obtain ⟨b3, b4⟩ := val_bound n hn y hy'
    have hp := pow_pos' n hn x.length
    rw [val_cons0, val_cons0, ← hl']
    rw [← hl'] at b4
    generalize n ^ x.length = P at *
    rcases Int.lt_trichotomy a b with h | h | h
    · have e : (a + 1) * P ≤ b * P := Int.mul_le_mul_of_nonneg_right (by omega) (by omega)
      rw [Int.add_mul, Int.one_mul] at e
      refine ⟨?_, ?_⟩
      · unfold lexL
        rw [if_neg (by omega), decide_eq_true h, decide_eq_true_eq]; omega
      · rw [beq_eq_false_iff_ne.2 (by omega), beq_eq_false_iff_ne.2 (by simp; omega)]
    · subst h
      refine ⟨?_, ?_⟩
      · unfold lexL
        rw [if_pos rfl, ← i1, decide_eq_decide]; omega
      · have : (a :: x == a :: y) = (x == y) := by simp
        rw [this, ← i2]
        by_cases hv : val n 0 x = val n 0 y
        · rw [beq_iff_eq.2 hv, beq_iff_eq.2 (by omega)]
        · rw [beq_eq_false_iff_ne.2 hv, beq_eq_false_iff_ne.2 (by omega)]
    · have e : (b + 1) * P ≤ a * P := Int.mul_le_mul_of_nonneg_right (by omega) (by omega)
      rw [Int.add_mul, Int.one_mul] at e
      refine ⟨?_, ?_⟩
      · unfold lexL
        rw [if_neg (by omega), decide_eq_false (by omega : ¬ a < b), decide_eq_false_iff_not]; omega
      · rw [beq_eq_false_iff_ne.2 (by omega), beq_eq_false_iff_ne.2 (by simp; omega)]
theorem pow_exact (n m : Int) (hn1 : 1 ≤ n) (hn2 : n ≤ 64) (hm : m ≤ 12) : ∀ (j : Nat) (p i : Int) (k : Nat) (q : Int), 1 ≤ p → p ≤ 4096 → 0 ≤ i → i + j = m → paraphrastref01_Pow.l0 k n m p i = some q → q ≤ 4096 → q = p * n ^ j
  | j, p, i, 0, q, h1, h2, h3, h4, h5, h6 => by simp [paraphrastref01_Pow.l0] at h5
  | 0, p, i, k + 1, q, h1, h2, h3, h4, h5, h6 => by
    unfold paraphrastref01_Pow.l0 at h5
    rw [if_neg (by omega)] at h5
    obtain rfl := Option.some.inj h5
    simp
  | j + 1, p, i, k + 1, q, h1, h2, h3, h4, h5, h6 => by
    have e1 : p * n ≤ 4096 * 64 := Int.mul_le_mul h2 hn2 (by omega) (by omega)
    have e2 : 1 * 1 ≤ p * n := Int.mul_le_mul h1 hn1 (by omega) (by omega)
    unfold paraphrastref01_Pow.l0 at h5
    rw [if_pos (by omega), if_pos (by omega), w64 (x := p * n) (by omega) (by omega), w64 (x := i + 1) (by omega) (by omega)] at h5
    by_cases hb : p * n ≤ 4096
    · rw [pow_exact n m hn1 hn2 hm j (p * n) (i + 1) k q (by omega) hb (by omega) (by omega) h5 h6, Int.pow_succ]
      grind
    · exfalso
      cases k with
      | zero => simp [paraphrastref01_Pow.l0] at h5
      | succ k =>
        unfold paraphrastref01_Pow.l0 at h5
        split at h5
        · (try rw [if_neg hb] at h5)
          have := Option.some.inj h5; omega
        · have := Option.some.inj h5; omega
end Go.Proofs.YtfmpaofbnjlniaaGreatDoor.F
/- Names, tuples, relations, structures: what Name, tuples, rel and Valid answer, as plain Bools; the program's and the document's. -/
namespace Go.Proofs.YtfmpaofbnjlniaaGreatDoor.F
open Go.RowKit Go.Proofs.YtfmpaofbnjlniaaGreatDoorW.PrintWords Go.Proofs.YtfmpaofbnjlniaaGreatDoorW.PrintLast Go.Proofs.YtfmpaofbnjlniaaGreatDoorW.PrintMore
set_option linter.unusedVariables false
def letB (c : Int) : Bool := (decide (97 ≤ c) && decide (c ≤ 122)) || (decide (65 ≤ c) && decide (c ≤ 90))
def digB (c : Int) : Bool := decide (48 ≤ c) && decide (c ≤ 57)
theorem letter_eq (c : Int) : shape_letter.f c = some (letB c) := by
  unfold shape_letter.f letB
  simp only [ge_iff_le]
  by_cases h1 : 97 ≤ c <;> by_cases h2 : c ≤ 122 <;> by_cases h3 : 65 ≤ c <;> by_cases h4 : c ≤ 90 <;> simp [h1, h2, h3, h4]
theorem digit_eq (c : Int) : shape_digit.f c = some (digB c) := by
  unfold shape_digit.f digB
  split <;> simp <;> omega
def wordB (s : ByteArray) : Bool := (shape_word.f s).getD false
theorem word_eq (s : ByteArray) : shape_word.f s = some (wordB s) := by
  unfold wordB shape_word.f
  repeat' split
  all_goals rfl
/-- The d bytes from i on are letters or digits. -/
def restB (s : ByteArray) : Nat → Nat → Bool
  | 0, _ => true
  | d + 1, i => (letB (bt s i) || digB (bt s i)) && restB s d (i + 1)
def nameB (s : ByteArray) : Bool := decide (1 ≤ s.size) && decide (s.size ≤ 12) && letB (bt s 0) && !wordB s && restB s (s.size - 1) 1
theorem name_loop (s : ByteArray) (hs : s.size ≤ 12) : ∀ (d i k : Nat), i + d = s.size → d + 1 ≤ k → shape_Name.l0 k s (s.size : Int) (i : Int) = some (restB s d i)
  | 0, i, k + 1, h, hk => by unfold shape_Name.l0; rw [if_neg (by omega)]; rfl
  | d + 1, i, k + 1, h, hk => by
    unfold shape_Name.l0 restB
    have ih := name_loop s hs d (i + 1) k (by omega) (by omega)
    rw [show ((i + 1 : Nat) : Int) = (i : Int) + 1 by omega] at ih
    rw [if_pos (by omega), if_pos (by omega), if_pos (by omega), letter_eq, digit_eq, w64 (by omega) (by omega), ih]
    simp only [Option.bind_some]
    cases letB (bt s i) <;> cases digB (bt s i) <;> rfl
theorem toList_loop (bs : ByteArray) : ∀ (d i : Nat) (r : List UInt8), i + d = bs.size → ByteArray.toList.loop bs i r = r.reverse ++ bs.data.toList.drop i
  | 0, i, r, h => by
    have hl : bs.data.toList.length = bs.size := data_length bs
    unfold ByteArray.toList.loop
    rw [if_neg (by omega), List.drop_eq_nil_of_le (by omega), List.append_nil]
  | d + 1, i, r, h => by
    have hl : bs.data.toList.length = bs.size := data_length bs
    unfold ByteArray.toList.loop
    rw [if_pos (by omega), toList_loop bs d (i + 1) _ (by omega), List.drop_eq_getElem_cons (show i < bs.data.toList.length by omega), List.reverse_cons, List.append_assoc]
    have hi : i < bs.data.size := by rw [Array.length_toList] at hl; omega
    have : bs.get! i = bs.data.toList[i]'(by omega) := by
      show bs.data[i]! = _
      rw [getElem!_pos bs.data i hi]; simp
    rw [this]; rfl
theorem toList_data (s : ByteArray) : s.toList = s.data.toList := by
  unfold ByteArray.toList
  rw [toList_loop s s.size 0 [] (by omega)]; simp
theorem toList_inj {s t : ByteArray} (h : s.toList = t.toList) : s = t := by
  rw [toList_data, toList_data] at h
  cases s; cases t
  simp at h
  simp [h]
theorem toList_nil (s : ByteArray) : s.toList = ([] : List UInt8) ↔ s.size = 0 := by
  rw [toList_data, ← data_length s]
  exact (List.length_eq_zero_iff (l := s.data.toList)).symm
theorem name_eq (s : ByteArray) (k : Nat) (hk : 20 ≤ k) : shape_Name.f k s = some (nameB s) := by
  obtain ⟨k, rfl⟩ : ∃ k', k = k' + 1 := ⟨k - 1, by omega⟩
  unfold shape_Name.f nameB
  by_cases h0 : s.size = 0
  · rw [if_pos ((toList_nil s).2 h0)]; simp [shape_Name.j0, h0]
  · rw [if_neg (fun h => h0 ((toList_nil s).1 h))]
    by_cases h1 : (s.size : Int) > 12
    · rw [if_pos h1]; simp [shape_Name.j0, show ¬ s.size ≤ 12 by omega]
    · rw [if_neg h1, if_pos (by omega), letter_eq]
      simp only [Option.bind_some]
      cases hl : letB (bt s 0) with
      | false => simp [shape_Name.j0]
      | true =>
        rw [if_pos rfl, word_eq]
        simp only [Option.bind_some]
        cases hw : wordB s with
        | true => simp [shape_Name.j0]
        | false =>
          unfold shape_Name.j0
          simp only [Bool.false_eq_true, if_false]
          have := name_loop s (by omega) s.size 0 k (by omega) (by omega)
          rw [show ((0 : Nat) : Int) = 0 from rfl] at this
          rw [this]
          obtain ⟨m, hm⟩ : ∃ m, s.size = m + 1 := ⟨s.size - 1, by omega⟩
          rw [hm, restB, show ((0 : Nat) : Int) = 0 from rfl, hl]
          simp; omega
theorem compare_loop (x y : List Int) (hl : x.length = y.length) (hx : x.length ≤ 100000) : ∀ (j i k : Nat), i + j = x.length → j + 1 ≤ k → ∃ c, slices_Compare_int_int.l0 k x y x (x.length : Int) (i : Int) = some c ∧ decide (c ≥ 0) = !lexL (x.drop i) (y.drop i)
  | 0, i, k + 1, h, hk => by
    refine ⟨0, ?_, ?_⟩
    · unfold slices_Compare_int_int.l0; rw [if_neg (by omega), if_neg (by omega)]
    · rw [List.drop_eq_nil_of_le (by omega)]; rfl
  | j + 1, i, k + 1, h, hk => by
    have hi : i < x.length := by omega
    have hi2 : i < y.length := by omega
    unfold slices_Compare_int_int.l0
    rw [if_pos (by omega), if_pos (by omega), if_pos (by omega), if_neg (by omega), if_pos (by omega), rd_nat x i hi, rd_nat y i hi2, List.drop_eq_getElem_cons hi, List.drop_eq_getElem_cons hi2, w64 (by omega) (by omega)]
    unfold cmp_Compare_int.f cmp_isNaN_int.f lexL
    simp only [bne_self_eq_false, Option.bind_some, Bool.false_eq_true, if_false]
    rcases Int.lt_trichotomy x[i] y[i] with h1 | h1 | h1
    · exact ⟨-1, by simp [h1], by rw [if_neg (by omega), decide_eq_true h1]; rfl⟩
    · obtain ⟨c, hc, hd⟩ := compare_loop x y hl hx j (i + 1) k (by omega) (by omega)
      rw [show ((i + 1 : Nat) : Int) = (i : Int) + 1 by omega] at hc
      exact ⟨c, by simp [h1, hc], by rw [if_pos h1]; exact hd⟩
    · exact ⟨1, by simp [h1, show ¬ x[i] < y[i] by omega], by rw [if_neg (by omega), decide_eq_false (by omega : ¬ x[i] < y[i])]; rfl⟩
def tupV (n a : Int) (t : List Int) : Bool := decide ((t.length : Int) = a) && !t.any (outB n)
/-- The d tuples from i on are of this arity, in range, and each is above the one before it. -/
def tupsV (n a : Int) (l : List (List Int)) : Nat → Nat → Bool
  | 0, _ => true
  | d + 1, i => tupV n a (rd_L2 l i) && (decide (i = 0) || lexL (rd_L2 l ((i : Int) - 1)) (rd_L2 l i)) && tupsV n a l d (i + 1)
theorem elements_eq (n : Int) (t : List Int) : shape_elements.f n t = some (!t.any (outB n)) := rfl
/-- shape.tuples' loop: from i on, the tuple ahead of i having this arity. -/
theorem tuples_loop (n a : Int) (nm : ByteArray) (a1 : Int) (l : List (List Int)) (hl : l.length ≤ 9223372036854775807) (ha : a ≤ 12) : ∀ (d i k : Nat), i + d = l.length → d + 100 ≤ k → (0 < i → ((rd_L2 l ((i : Int) - 1)).length : Int) = a) →
    shape_tuples.l0 k n l (l.length : Int) (i : Int) nm a l = some (tupsV n a l d i)
  | 0, i, k + 1, h, hk, hp => by unfold shape_tuples.l0; rw [if_neg (by omega)]; rfl
  | d + 1, i, k + 1, h, hk, hp => by
    unfold shape_tuples.l0 tupsV tupV
    rw [if_pos (by omega), if_pos (by omega), if_pos (by omega), w64 (x := (i : Int) + 1) (by omega) (by omega), w64 (x := (i : Int) - 1) (by omega) (by omega)]
    by_cases h1 : ((rd_L2 l (i : Int)).length : Int) = a
    · rw [if_pos h1, elements_eq, decide_eq_true h1]
      simp only [Option.bind_some, Bool.true_and]
      have ih := tuples_loop n a nm a1 l hl ha d (i + 1) k (by omega) (by omega) (fun _ => by rw [show (((i + 1 : Nat) : Int) - 1) = (i : Int) by omega]; exact h1)
      rw [show ((i + 1 : Nat) : Int) = (i : Int) + 1 by omega] at ih
      cases hb : (rd_L2 l (i : Int)).any (outB n) with
      | true => simp
      | false =>
        simp only [Bool.not_false, if_true, Bool.true_and]
        by_cases h2 : (i : Int) > 0
        · rw [if_pos h2, if_pos (by omega), if_pos (by omega), decide_eq_false (by omega), Bool.false_or]
          have hp' := hp (by omega)
          obtain ⟨c, hc, hd⟩ := compare_loop (rd_L2 l ((i : Int) - 1)) (rd_L2 l (i : Int)) (by omega) (by omega) (rd_L2 l ((i : Int) - 1)).length 0 k (by omega) (by omega)
          unfold slices_Compare_int_int.f
          rw [show ((0 : Nat) : Int) = 0 from rfl] at hc
          rw [hc]
          simp only [Option.bind_some, List.drop_zero] at hd ⊢
          by_cases h3 : c ≥ 0
          · rw [if_pos h3]
            rw [decide_eq_true h3] at hd
            rw [show lexL (rd_L2 l ((i : Int) - 1)) (rd_L2 l (i : Int)) = false from (Bool.not_eq_true' _).mp hd.symm]
            rfl
          · rw [if_neg h3, ih]
            rw [decide_eq_false h3] at hd
            rw [show lexL (rd_L2 l ((i : Int) - 1)) (rd_L2 l (i : Int)) = true from (Bool.not_eq_false' _).mp hd.symm]
            rfl
        · rw [if_neg h2, ih, decide_eq_true (by omega)]
          rfl
    · rw [if_neg h1, decide_eq_false h1]
      rfl
/-! ### the document's functions -/
/-! ### relations and structures -/
def powOk (n a : Int) : Bool := match paraphrastref01_Pow.f 14 n a with | some q => decide (q ≤ 4096) | none => false
theorem pow_ok (n a : Int) (hn1 : 1 ≤ n) (hn2 : n ≤ 64) (h0 : 0 ≤ a) (h1 : a ≤ 12) (k : Nat) (hk : 14 ≤ k) : ∃ q, paraphrastref01_Pow.f k n a = some q ∧ shape_power.f k n a 4096 = some (if q > 4096 then -1 else q) ∧ 1 ≤ q ∧ powOk n a = decide (q ≤ 4096) := by
  obtain ⟨q, hq, e1, e2⟩ := pow_both n a hn1 hn2 h1 a.toNat 1 0 14 (by omega) (by omega) (by omega) (by omega) (by omega)
  have f1 : paraphrastref01_Pow.f 14 n a = some q := e1
  exact ⟨q, at_rounds (paraphrastref01_Pow.mono _ _) hk f1, at_rounds (shape_power.mono _ _ _) hk e2, hq, by unfold powOk; rw [f1]⟩
def relV (n : Int) (r : S52) : Bool := nameB r.f0 && decide (0 ≤ r.f1) && decide (r.f1 ≤ 12) && powOk n r.f1 && tupsV n r.f1 r.f2 r.f2.length 0
def relsV (n : Int) (l : List S52) : Nat → Nat → Bool
  | 0, _ => true
  | d + 1, i => relV n (rd_T52 l i) && !(l.take i).any (nameIs (rd_T52 l i).f0) && relsV n l d (i + 1)
def validB (n : Int) (l : List S52) : Bool := decide (1 ≤ n) && decide (n ≤ 64) && decide (l.length ≤ 8) && relsV n l l.length 0
theorem rdT_nat (l : List S52) (i : Nat) (h : i < l.length) : rd_T52 l (i : Int) = l[i] := by unfold rd_T52; rw [Int.toNat_natCast, List.getD_eq_getElem?_getD, List.getElem?_eq_getElem h]; rfl
theorem valid_j2 (k : Nat) (n : Int) (l : List S52) (i : Nat) (b : Bool) (f0 : ByteArray) (f1 : Int) (f2 : List (List Int)) (hi : i < l.length) (hl : l.length ≤ 8) :
    shape_Valid.j2 (k + 1) (i : Int) l (l.length : Int) (i : Int) b n l f0 f1 f2 = if b = true then some false else if (l.take i).any (nameIs f0) = true then some false else shape_Valid.l0 k l (l.length : Int) ((i + 1 : Nat) : Int) n l := by
  conv => lhs; unfold shape_Valid.j2
  cases b with
  | true => rfl
  | false =>
    simp only [Bool.false_eq_true, if_false]
    rw [if_pos (by omega), if_pos (by omega), w64 (by omega) (by omega), Int.toNat_natCast, show ((i + 1 : Nat) : Int) = (i : Int) + 1 by omega]
    rfl
theorem valid_loop (n : Int) (hn1 : 1 ≤ n) (hn2 : n ≤ 64) (l : List S52) (hl : l.length ≤ 8) (T : Nat) (hT : T ≤ 9223372036854775807) (hall : ∀ r ∈ l, r.f2.length ≤ T) : ∀ (d i k : Nat), i + d = l.length → d * 2 + T + 200 ≤ k →
    shape_Valid.l0 k l (l.length : Int) (i : Int) n l = some (relsV n l d i)
  | 0, i, k + 1, h, hk => by unfold shape_Valid.l0; rw [if_neg (by omega)]; rfl
  | d + 1, i, k + 1, h, hk => by
    have hi : i < l.length := by omega
    have hr := hall _ (List.getElem_mem hi)
    rw [← rdT_nat l i hi] at hr
    obtain ⟨k, rfl⟩ : ∃ k', k = k' + 1 := ⟨k - 1, by omega⟩
    have ih := valid_loop n hn1 hn2 l hl T hT hall d (i + 1) k (by omega) (by omega)
    unfold shape_Valid.l0 relsV
    rw [if_pos (by omega), if_pos (by omega), if_pos (by omega), name_eq _ _ (by omega)]
    generalize rd_T52 l (i : Int) = r at hr ⊢
    simp only [Option.bind_some, valid_j2 k n l i _ r.f0 r.f1 r.f2 hi hl, ih, if_true]
    unfold relV
    cases hn : nameB r.f0 with
    | false => simp
    | true =>
      by_cases h0 : r.f1 < 0
      · rw [if_pos rfl, if_pos h0, decide_eq_false (by omega)]; simp
      · by_cases h1 : r.f1 > 12
        · rw [if_pos rfl, if_neg h0, if_pos h1, decide_eq_false (by omega : ¬ r.f1 ≤ 12)]; simp
        · obtain ⟨q, _, e2, hq, e3⟩ := pow_ok n r.f1 hn1 hn2 (by omega) (by omega) (k + 1) (by omega)
          rw [if_pos rfl, if_neg h0, if_neg h1, e2, e3, decide_eq_true (by omega : 0 ≤ r.f1), decide_eq_true (by omega : r.f1 ≤ 12)]
          simp only [Option.bind_some]
          by_cases h2 : q > 4096
          · rw [if_pos h2, if_pos (by omega), decide_eq_false (by omega)]; simp
          · rw [if_neg h2, if_neg (by omega), decide_eq_true (by omega : q ≤ 4096)]
            have ht : shape_tuples.f (k + 1) n r.f0 r.f1 r.f2 = some (tupsV n r.f1 r.f2 r.f2.length 0) := tuples_loop n r.f1 r.f0 0 r.f2 (by omega) (by omega) r.f2.length 0 (k + 1) (by omega) (by omega) (by omega)
            rw [ht]
            simp only [Option.bind_some, Bool.true_and]
            cases tupsV n r.f1 r.f2 r.f2.length 0 <;> cases (l.take i).any (nameIs r.f0) <;> rfl
theorem valid_eq (n : Int) (l : List S52) (T : Nat) (hT : T ≤ 9223372036854775807) (hall : ∀ r ∈ l, r.f2.length ≤ T) (k : Nat) (hk : T + 300 ≤ k) : shape_Valid.f k n l = some (validB n l) := by
  obtain ⟨k, rfl⟩ : ∃ k', k = k' + 1 := ⟨k - 1, by omega⟩
  have hj : shape_Valid.j0 (k + 1) true n l = some false := rfl
  unfold shape_Valid.f validB
  by_cases h1 : n < 1
  · rw [if_pos h1, hj, decide_eq_false (by omega)]; rfl
  · rw [if_neg h1]
    by_cases h2 : n > 64
    · rw [if_pos h2, hj, decide_eq_false (by omega : ¬ n ≤ 64)]; simp
    · rw [if_neg h2, decide_eq_true (by omega : 1 ≤ n), decide_eq_true (by omega : n ≤ 64)]
      by_cases h3 : (l.length : Int) > 8
      · rw [decide_eq_true h3, hj, decide_eq_false (by omega)]; rfl
      · rw [decide_eq_false h3, decide_eq_true (by omega : l.length ≤ 8)]
        unfold shape_Valid.j0
        simp only [Bool.false_eq_true, if_false, Bool.true_and]
        exact valid_loop n (by omega) (by omega) l (by omega) T hT hall l.length 0 k (by omega) (by omega)
end Go.Proofs.YtfmpaofbnjlniaaGreatDoor.F
/- Reading back what has been written: splitting a text whose parts do not hold the separator's first byte; the numbers 0 to 99; parseB of textL. -/
namespace Go.Proofs.YtfmpaofbnjlniaaGreatDoor.F
open Go.RowKit Go.Proofs.YtfmpaofbnjlniaaGreatDoorW.PrintWords
set_option linter.unusedVariables false
/-! ### numbers -/
/-! ### names -/
/-! ### tuples, relations, structures -/
/-- What a tuple of a valid structure is like, as far as its text goes. -/
def tupOk (t : List Int) : Prop := ∀ x ∈ t, 0 ≤ x ∧ x < 100
def relOk (r : S52) : Prop := nameB r.f0 = true ∧ (0 ≤ r.f1 ∧ r.f1 < 100) ∧ ∀ t ∈ r.f2, tupOk t
/-! ### how long a text is -/
/-! ### what a valid structure is like -/
theorem tupsV_all (n a : Int) (l : List (List Int)) : ∀ (d i : Nat), tupsV n a l d i = true → i + d = l.length → ∀ j (hj : j < l.length), i ≤ j → tupV n a l[j] = true ∧ (0 < j → ∃ h : j - 1 < l.length, lexL l[j - 1] l[j] = true)
  | 0, i, _, h, j, hj, hi => by omega
  | d + 1, i, h, hl, j, hj, hi => by
    unfold tupsV at h
    simp only [Bool.and_eq_true, Bool.or_eq_true, decide_eq_true_eq] at h
    by_cases e : j = i
    · subst e
      have r1 : rd_L2 l (j : Int) = l[j] := by unfold rd_L2; rw [Int.toNat_natCast, List.getD_eq_getElem?_getD, List.getElem?_eq_getElem hj]; rfl
      rw [r1] at h
      refine ⟨h.1.1, fun h0 => ⟨by omega, ?_⟩⟩
      have h2 := h.1.2.resolve_left (by omega)
      have r2 : rd_L2 l ((j : Int) - 1) = l[j - 1]'(by omega) := by unfold rd_L2; rw [show ((j : Int) - 1).toNat = j - 1 by omega, List.getD_eq_getElem?_getD, List.getElem?_eq_getElem (by omega)]; rfl
      rw [r2] at h2
      exact h2
    · exact tupsV_all n a l d (i + 1) h.2 (by omega) j hj (by omega)
theorem tupV_in (n a : Int) (t : List Int) (h : tupV n a t = true) : (t.length : Int) = a ∧ ∀ x ∈ t, 0 ≤ x ∧ x < n := by
  unfold tupV at h
  simp only [Bool.and_eq_true, decide_eq_true_eq, Bool.not_eq_true', List.any_eq_false] at h
  refine ⟨h.1, fun x hx => ?_⟩
  have := h.2 x hx
  simp only [outB, Bool.or_eq_true, decide_eq_true_eq] at this
  omega
theorem rel_facts (n : Int) (hn1 : 1 ≤ n) (hn2 : n ≤ 64) (r : S52) (h : relV n r = true) : relOk r ∧ (0 ≤ r.f1 ∧ r.f1 ≤ 12) ∧ (∀ t ∈ r.f2, (t.length : Int) = r.f1 ∧ ∀ x ∈ t, 0 ≤ x ∧ x < n) ∧ r.f2.length ≤ 4096 := by
  unfold relV at h
  simp only [Bool.and_eq_true, decide_eq_true_eq] at h
  obtain ⟨⟨⟨⟨h1, h2⟩, h3⟩, h4⟩, h5⟩ := h
  have hA := tupsV_all n r.f1 r.f2 r.f2.length 0 h5 (by omega)
  have hT : ∀ t ∈ r.f2, (t.length : Int) = r.f1 ∧ ∀ x ∈ t, 0 ≤ x ∧ x < n := fun t ht => by
    obtain ⟨j, hj, rfl⟩ := List.getElem_of_mem ht
    exact tupV_in n r.f1 _ (hA j hj (by omega)).1
  have hV : ∀ (j : Nat) (hj : j < r.f2.length), (j : Int) ≤ val n 0 r.f2[j] := by
    intro j
    induction j with
    | zero => intro hj; exact (val_bound n hn1 _ (hT _ (List.getElem_mem hj)).2).1
    | succ j ih =>
      intro hj
      have h1 := ih (by omega)
      obtain ⟨_, h2⟩ := (hA (j + 1) hj (by omega)).2 (by omega)
      simp only [Nat.add_sub_cancel] at h2
      have t1 := hT _ (List.getElem_mem (show j < r.f2.length by omega))
      have t2 := hT _ (List.getElem_mem hj)
      have := (val_order n hn1 (r.f2[j]'(by omega)) r.f2[j + 1] (by omega) t1.2 t2.2).1
      rw [h2, decide_eq_true_eq] at this
      omega
  refine ⟨⟨h1, ⟨h2, by omega⟩, fun t ht x hx => ?_⟩, ⟨h2, h3⟩, hT, ?_⟩
  · have := (hT t ht).2 x hx; omega
  · obtain ⟨q, e1, _, hq1, e2⟩ := pow_ok n r.f1 hn1 hn2 h2 h3 14 (Nat.le_refl _)
    rw [e2, decide_eq_true_eq] at h4
    have hq := pow_exact n r.f1 hn1 hn2 h3 r.f1.toNat 1 0 14 q (by omega) (by omega) (by omega) (by omega) e1 h4
    by_cases hz : r.f2.length = 0
    · omega
    · have hj : r.f2.length - 1 < r.f2.length := by omega
      have b1 := hV _ hj
      have t1 := hT _ (List.getElem_mem hj)
      have b2 := (val_bound n hn1 _ t1.2).2
      rw [show (r.f2[r.f2.length - 1]'hj).length = r.f1.toNat by omega] at b2
      rw [Int.one_mul] at hq
      omega
theorem relsV_all (n : Int) (l : List S52) : ∀ (d i : Nat), relsV n l d i = true → i + d = l.length → ∀ j (hj : j < l.length), i ≤ j → relV n l[j] = true
  | 0, i, _, h, j, hj, hi => by omega
  | d + 1, i, h, hl, j, hj, hi => by
    unfold relsV at h
    simp only [Bool.and_eq_true] at h
    by_cases e : j = i
    · subst e
      rw [rdT_nat l j hj] at h
      exact h.1.1
    · exact relsV_all n l d (i + 1) h.2 (by omega) j hj (by omega)
theorem valid_facts (n : Int) (l : List S52) (h : validB n l = true) : 1 ≤ n ∧ n ≤ 64 ∧ l.length ≤ 8 ∧ ∀ r ∈ l, relOk r ∧ (0 ≤ r.f1 ∧ r.f1 ≤ 12) ∧ (∀ t ∈ r.f2, (t.length : Int) = r.f1 ∧ ∀ x ∈ t, 0 ≤ x ∧ x < n) ∧ r.f2.length ≤ 4096 := by
  unfold validB at h
  simp only [Bool.and_eq_true, decide_eq_true_eq] at h
  obtain ⟨⟨⟨h1, h2⟩, h3⟩, h4⟩ := h
  refine ⟨h1, h2, h3, fun r hr => ?_⟩
  obtain ⟨j, hj, rfl⟩ := List.getElem_of_mem hr
  exact rel_facts n h1 h2 _ (relsV_all n l l.length 0 h4 (by omega) j hj (by omega))
end Go.Proofs.YtfmpaofbnjlniaaGreatDoor.F
namespace Go.Proofs.YtfmpaofbnjlniaaGreatDoor.F
open Go.RowKit Go.Proofs.YtfmpaofbnjlniaaGreatDoorW.PrintWords Go.Proofs.YtfmpaofbnjlniaaGreatDoorW.PrintLast Go.Proofs.YtfmpaofbnjlniaaGreatDoorW.PrintMore
attribute [local go_sem] max2_int min2_int max_two min_two max_three min_three max_four min_four
set_option linter.unusedVariables false
set_option linter.unusedSimpArgs false
/-! ### paraphrastlaw01_Few: function 9 -/
mutual
def paraphrastlaw01_Few.l0 : Nat → List (S24) → Int → Int → Int → Option (Bool)
 | 0, _, _, _, _ => none
 | k + 1, x0, x3, x4, x5 => if x5 < (x0.length : Int) then (if 0 ≤ x5 then (if (((rd_T24 x0 x5).f1).length : Int) > 12 then (some false) else (paraphrastlaw01_Few.l1 k x0 x3 x4 x5 0)) else (none)) else (some (decide (x4 ≤ 20000)))
def paraphrastlaw01_Few.l1 : Nat → List (S24) → Int → Int → Int → Int → Option (Bool)
 | 0, _, _, _, _, _ => none
 | k + 1, x0, x3, x4, x5, x6 => if 0 ≤ x5 then (if x5 < (x0.length : Int) then (if x6 < (((rd_T24 x0 x5).f1).length : Int) then (if 0 ≤ x6 then (if (wrap64 (x3 + (((rd_T52 ((rd_T24 x0 x5).f1) x6).f2).length : Int))) > 1500 then (paraphrastlaw01_Few.j2 k x0 (wrap64 (x3 + (((rd_T52 ((rd_T24 x0 x5).f1) x6).f2).length : Int))) x4 x5 x6 true) else (paraphrastlaw01_Few.j2 k x0 (wrap64 (x3 + (((rd_T52 ((rd_T24 x0 x5).f1) x6).f2).length : Int))) x4 x5 x6 (decide ((((rd_T52 ((rd_T24 x0 x5).f1) x6).f0).size : Int) > 1000)))) else (none)) else (paraphrastlaw01_Few.l0 k x0 x3 x4 (wrap64 (x5 + 1)))) else (none)) else (none)
def paraphrastlaw01_Few.j2 : Nat → List (S24) → Int → Int → Int → Int → Bool → Option (Bool)
 | 0, _, _, _, _, _, _ => none
 | k + 1, x0, x3, x4, x5, x6, x57 => if x57 = true then (some false) else (paraphrastlaw01_Few.l2 k x0 x3 x4 x5 x6 0)
def paraphrastlaw01_Few.l2 : Nat → List (S24) → Int → Int → Int → Int → Int → Option (Bool)
 | 0, _, _, _, _, _, _ => none
 | k + 1, x0, x3, x4, x5, x6, x7 => if 0 ≤ x5 then (if x5 < (x0.length : Int) then (if 0 ≤ x6 then (if x6 < (((rd_T24 x0 x5).f1).length : Int) then (if x7 < (((rd_T52 ((rd_T24 x0 x5).f1) x6).f2).length : Int) then (if 0 ≤ x7 then (paraphrastlaw01_Few.l2 k x0 x3 (wrap64 (x4 + ((rd_L2 ((rd_T52 ((rd_T24 x0 x5).f1) x6).f2) x7).length : Int))) x5 x6 (wrap64 (x7 + 1))) else (none)) else (paraphrastlaw01_Few.l1 k x0 x3 x4 x5 (wrap64 (x6 + 1)))) else (none)) else (none)) else (none)) else (none)
end
def paraphrastlaw01_Few.f (k : Nat) (l0 : List (S24)) : Option (Bool) := paraphrastlaw01_Few.l0 k l0 0 0 0
theorem paraphrastlaw01_Few.mono_l : ∀ k, (∀ y0 y1 y2 y3, LeO (paraphrastlaw01_Few.l0 k y0 y1 y2 y3) (paraphrastlaw01_Few.l0 (k + 1) y0 y1 y2 y3)) ∧ (∀ y0 y1 y2 y3 y4, LeO (paraphrastlaw01_Few.l1 k y0 y1 y2 y3 y4) (paraphrastlaw01_Few.l1 (k + 1) y0 y1 y2 y3 y4)) ∧ (∀ y0 y1 y2 y3 y4 y5, LeO (paraphrastlaw01_Few.j2 k y0 y1 y2 y3 y4 y5) (paraphrastlaw01_Few.j2 (k + 1) y0 y1 y2 y3 y4 y5)) ∧ (∀ y0 y1 y2 y3 y4 y5, LeO (paraphrastlaw01_Few.l2 k y0 y1 y2 y3 y4 y5) (paraphrastlaw01_Few.l2 (k + 1) y0 y1 y2 y3 y4 y5))
 | 0 => ⟨fun _ _ _ _ r h => by simp [paraphrastlaw01_Few.l0] at h, fun _ _ _ _ _ r h => by simp [paraphrastlaw01_Few.l1] at h, fun _ _ _ _ _ _ r h => by simp [paraphrastlaw01_Few.j2] at h, fun _ _ _ _ _ _ r h => by simp [paraphrastlaw01_Few.l2] at h⟩
 | k + 1 => by
  obtain ⟨ih0, ih1, ih2, ih3⟩ := paraphrastlaw01_Few.mono_l k
  refine ⟨?_, ?_, ?_, ?_⟩
  ·intro y0 y1 y2 y3
   unfold paraphrastlaw01_Few.l0
   repeat' first
   | (with_reducible exact ih0 _ _ _ _)
   | (with_reducible exact ih1 _ _ _ _ _)
   | (with_reducible exact ih2 _ _ _ _ _ _)
   | (with_reducible exact ih3 _ _ _ _ _ _)
   | (with_reducible exact LeO.refl _)
   | (with_reducible exact LeO.none _)
   | (with_reducible refine LeO.ite ?_ ?_)
   | (with_reducible refine LeO.bind ?_ (fun _ => ?_))
   | exact ih0 _ _ _ _
   | exact ih1 _ _ _ _ _
   | exact ih2 _ _ _ _ _ _
   | exact ih3 _ _ _ _ _ _
   | exact LeO.none _
   | refine LeO.ite ?_ ?_
   | refine LeO.bind ?_ (fun _ => ?_)
  ·intro y0 y1 y2 y3 y4
   unfold paraphrastlaw01_Few.l1
   repeat' first
   | (with_reducible exact ih0 _ _ _ _)
   | (with_reducible exact ih1 _ _ _ _ _)
   | (with_reducible exact ih2 _ _ _ _ _ _)
   | (with_reducible exact ih3 _ _ _ _ _ _)
   | (with_reducible exact LeO.refl _)
   | (with_reducible exact LeO.none _)
   | (with_reducible refine LeO.ite ?_ ?_)
   | (with_reducible refine LeO.bind ?_ (fun _ => ?_))
   | exact ih0 _ _ _ _
   | exact ih1 _ _ _ _ _
   | exact ih2 _ _ _ _ _ _
   | exact ih3 _ _ _ _ _ _
   | exact LeO.none _
   | refine LeO.ite ?_ ?_
   | refine LeO.bind ?_ (fun _ => ?_)
  ·intro y0 y1 y2 y3 y4 y5
   unfold paraphrastlaw01_Few.j2
   repeat' first
   | (with_reducible exact ih0 _ _ _ _)
   | (with_reducible exact ih1 _ _ _ _ _)
   | (with_reducible exact ih2 _ _ _ _ _ _)
   | (with_reducible exact ih3 _ _ _ _ _ _)
   | (with_reducible exact LeO.refl _)
   | (with_reducible exact LeO.none _)
   | (with_reducible refine LeO.ite ?_ ?_)
   | (with_reducible refine LeO.bind ?_ (fun _ => ?_))
   | exact ih0 _ _ _ _
   | exact ih1 _ _ _ _ _
   | exact ih2 _ _ _ _ _ _
   | exact ih3 _ _ _ _ _ _
   | exact LeO.none _
   | refine LeO.ite ?_ ?_
   | refine LeO.bind ?_ (fun _ => ?_)
  ·intro y0 y1 y2 y3 y4 y5
   unfold paraphrastlaw01_Few.l2
   repeat' first
   | (with_reducible exact ih0 _ _ _ _)
   | (with_reducible exact ih1 _ _ _ _ _)
   | (with_reducible exact ih2 _ _ _ _ _ _)
   | (with_reducible exact ih3 _ _ _ _ _ _)
   | (with_reducible exact LeO.refl _)
   | (with_reducible exact LeO.none _)
   | (with_reducible refine LeO.ite ?_ ?_)
   | (with_reducible refine LeO.bind ?_ (fun _ => ?_))
   | exact ih0 _ _ _ _
   | exact ih1 _ _ _ _ _
   | exact ih2 _ _ _ _ _ _
   | exact ih3 _ _ _ _ _ _
   | exact LeO.none _
   | refine LeO.ite ?_ ?_
   | refine LeO.bind ?_ (fun _ => ?_)
theorem paraphrastlaw01_Few.mono : ∀ a0 k, LeO (paraphrastlaw01_Few.f k a0) (paraphrastlaw01_Few.f (k + 1) a0) := by
 intro a0 k
 obtain ⟨ih0, ih1, ih2, ih3⟩ := paraphrastlaw01_Few.mono_l k
 unfold paraphrastlaw01_Few.f
 repeat' first
   | (with_reducible exact ih0 _ _ _ _)
   | (with_reducible exact ih1 _ _ _ _ _)
   | (with_reducible exact ih2 _ _ _ _ _ _)
   | (with_reducible exact ih3 _ _ _ _ _ _)
   | (with_reducible exact LeO.refl _)
   | (with_reducible exact LeO.none _)
   | (with_reducible refine LeO.ite ?_ ?_)
   | (with_reducible refine LeO.bind ?_ (fun _ => ?_))
   | exact ih0 _ _ _ _
   | exact ih1 _ _ _ _ _
   | exact ih2 _ _ _ _ _ _
   | exact ih3 _ _ _ _ _ _
   | exact LeO.none _
   | refine LeO.ite ?_ ?_
   | refine LeO.bind ?_ (fun _ => ?_)
set_option maxHeartbeats 8000000 in
set_option maxRecDepth 100000 in
theorem paraphrastlaw01_Few.calls (k : Nat) (A0 : Option Addr) (c0 : Nat) (l0 : List (S24)) (r : Bool) (w : World) (hr0 : Kd.C k24 w A0 l0.length l0) (hc0 : l0.length ≤ c0) (h : paraphrastlaw01_Few.f k l0 = some r) :
  Calls Tryz.prog 9 #[.slice A0 l0.length c0] w fun e w' => e = .returned (.bool r) ∧ Drawn0 w w' := by
 have HR0 := Aside0.mk hr0
 have HC0 := Aside0.mk hc0
 clear hr0 hc0
 have H : (paraphrastlaw01_Few.l0 k l0 0 0 0) = some r := h
 clear h
 have H' := Aside0.mk H
 clear H
 go_enter Tryz.func9, Tryz.ntmps9
 go_wp2
 go_loopg [3, 4, 5] k (fun kq v3 v4 v5 w' => ∃ (x3_1 : Int) (x4_1 : Int) (x5_1 : Int), v3 = .int .i64 x3_1 ∧ v4 = .int .i64 x4_1 ∧ v5 = .int .i64 x5_1 ∧ Aside0 (paraphrastlaw01_Few.l0 kq l0 x3_1 x4_1 x5_1 = some r) ∧ Aside0 (kq ≤ k) ∧ Drawn0 w w')
 case atStart => exact ⟨(0), (0), (0), eS, eS, eS, H', ⟨Nat.le_refl _⟩, dr0⟩
 case round =>
  clear H'
  obtain ⟨x3_1, x4_1, x5_1, rfl, rfl, rfl, HA, HK1, ⟨m1, rfl⟩⟩ := hrel
  cases gk with
  | zero => exact absurd HA.out (by simp [paraphrastlaw01_Few.l0])
  | succ k1 =>
   have H := HA.out
   clear HA
   simp only [paraphrastlaw01_Few.l0] at H
   by_cases c2 : x5_1 < (l0.length : Int)
   ·rw [if_pos c2] at H
    have c2b0 : decide (x5_1 < (l0.length : Int)) = true := decide_eq_true c2
    clear c2
    by_cases c3 : 0 ≤ x5_1
    ·rw [if_pos c3] at H
     have c3b0 : decide (0 ≤ x5_1) = true := decide_eq_true c3
     clear c3
     by_cases c4 : (((rd_T24 l0 x5_1).f1).length : Int) > 12
     ·rw [if_pos c4] at H
      have c4b0 : decide (12 < (((rd_T24 l0 x5_1).f1).length : Int)) = true := decide_eq_true c4
      have c4b1 : decide (12 < ((rd_T24 l0 x5_1).f1).length) = true := decide_eq_true (by omega)
      clear c4
      obtain rfl := Option.some.inj H
      have p101 : 0 ≤ (x5_1 : Int) := dtr
      have q101 : x5_1 < (l0.length : Int) := dtr
      obtain ⟨ad101, A101_1, c101_1, e101, hx101_0, hx101_1, hl101_1, hi101_1⟩ := at_T24 HR0.out x5_1 p101 q101
      cases e101
      have HR101_1 := Aside0.mk hi101_1
      have HC101_1 := Aside0.mk hl101_1
      clear hi101_1 hl101_1
      replace p101 := eq_true p101
      replace q101 := eq_true q101
      go_wp2
      go_ret
      exact ⟨eS, dr0⟩
     ·rw [if_neg c4] at H
      have c4b0 : decide (12 < (((rd_T24 l0 x5_1).f1).length : Int)) = false := decide_eq_false c4
      have c4b1 : decide (12 < ((rd_T24 l0 x5_1).f1).length) = false := decide_eq_false (by omega)
      clear c4
      have H' := Aside0.mk H
      clear H
      have p101 : 0 ≤ (x5_1 : Int) := dtr
      have q101 : x5_1 < (l0.length : Int) := dtr
      obtain ⟨ad101, A101_1, c101_1, e101, hx101_0, hx101_1, hl101_1, hi101_1⟩ := at_T24 HR0.out x5_1 p101 q101
      cases e101
      have HR101_1 := Aside0.mk hi101_1
      have HC101_1 := Aside0.mk hl101_1
      clear hi101_1 hl101_1
      replace p101 := eq_true p101
      replace q101 := eq_true q101
      go_wp2
      go_loopg [3, 4, 6] k1 (fun kq v3 v4 v6 w' => ∃ (x3_2 : Int) (x4_2 : Int) (x6_2 : Int), v3 = .int .i64 x3_2 ∧ v4 = .int .i64 x4_2 ∧ v6 = .int .i64 x6_2 ∧ Aside0 (paraphrastlaw01_Few.l1 kq l0 x3_2 x4_2 x5_1 x6_2 = some r) ∧ Aside0 (kq ≤ k1) ∧ Drawn0 w w')
      case atStart => exact ⟨(x3_1), (x4_1), (0), eS, eS, eS, H', ⟨Nat.le_refl _⟩, dr0⟩
      case round =>
       clear H'
       (try clear c2); (try clear c2b0); (try clear c3); (try clear c3b0); (try clear c4); (try clear c4b0); (try clear c4b1); (try clear hx101_0); (try clear hx101_1); (try clear p101); (try clear q101)
       obtain ⟨x3_2, x4_2, x6_2, rfl, rfl, rfl, HA, HK2, ⟨m2, rfl⟩⟩ := hrel
       cases gk with
       | zero => exact absurd HA.out (by simp [paraphrastlaw01_Few.l1])
       | succ k2 =>
        have H := HA.out
        clear HA
        simp only [paraphrastlaw01_Few.l1] at H
        by_cases c5 : 0 ≤ x5_1
        ·rw [if_pos c5] at H
         have c5b0 : decide (0 ≤ x5_1) = true := decide_eq_true c5
         clear c5
         by_cases c6 : x5_1 < (l0.length : Int)
         ·rw [if_pos c6] at H
          have c6b0 : decide (x5_1 < (l0.length : Int)) = true := decide_eq_true c6
          clear c6
          by_cases c7 : x6_2 < (((rd_T24 l0 x5_1).f1).length : Int)
          ·rw [if_pos c7] at H
           have c7b0 : decide (x6_2 < (((rd_T24 l0 x5_1).f1).length : Int)) = true := decide_eq_true c7
           clear c7
           by_cases c8 : 0 ≤ x6_2
           ·rw [if_pos c8] at H
            have c8b0 : decide (0 ≤ x6_2) = true := decide_eq_true c8
            clear c8
            have HC9 := Aside0.mk H
            clear H
            have p102 : 0 ≤ (x5_1 : Int) := dtr
            have q102 : x5_1 < (l0.length : Int) := dtr
            obtain ⟨ad102, A102_1, c102_1, e102, hx102_0, hx102_1, hl102_1, hi102_1⟩ := at_T24 HR0.out x5_1 p102 q102
            obtain rfl : ad101 = ad102 := (by injection e102)
            have HR102_1 := Aside0.mk hi102_1
            have HC102_1 := Aside0.mk hl102_1
            clear hi102_1 hl102_1
            replace p102 := eq_true p102
            replace q102 := eq_true q102
            have p103 : 0 ≤ (x5_1 : Int) := dtr
            have q103 : x5_1 < (l0.length : Int) := dtr
            obtain ⟨ad103, A103_1, c103_1, e103, hx103_0, hx103_1, hl103_1, hi103_1⟩ := at_T24 HR0.out x5_1 p103 q103
            obtain rfl : ad101 = ad103 := (by injection e103)
            have HR103_1 := Aside0.mk hi103_1
            have HC103_1 := Aside0.mk hl103_1
            clear hi103_1 hl103_1
            replace p103 := eq_true p103
            replace q103 := eq_true q103
            have ea_ := Option.some.inj (hx102_1.symm.trans hx103_1)
            injection ea_ with ea_ en_ ec_
            subst ea_
            subst ec_
            clear en_
            have p104 : 0 ≤ (x6_2 : Int) := dtr
            have q104 : x6_2 < (((rd_T24 l0 x5_1).f1).length : Int) := dtr
            obtain ⟨ad104, A104_2, c104_2, e104, hx104_0, hx104_1, hx104_2, hl104_2, hi104_2⟩ := at_T52 HR103_1.out x6_2 p104 q104
            cases e104
            have HR104_2 := Aside0.mk hi104_2
            have HC104_2 := Aside0.mk hl104_2
            clear hi104_2 hl104_2
            replace p104 := eq_true p104
            replace q104 := eq_true q104
            go_upto_region 11 with (fail)
            go_cut [57] (fun v57 wc => ∃ (kq : Nat) (x57_8 : Bool), v57 = .bool x57_8 ∧ Aside0 (paraphrastlaw01_Few.j2 kq l0 (wrap64 (x3_2 + (((rd_T52 ((rd_T24 l0 x5_1).f1) x6_2).f2).length : Int))) x4_2 x5_1 x6_2 x57_8 = some r) ∧ Aside0 (kq ≤ k2) ∧ Drawn0 w wc)
            case first =>
             have H := HC9.out
             clear HC9
             by_cases c10 : (wrap64 (x3_2 + (((rd_T52 ((rd_T24 l0 x5_1).f1) x6_2).f2).length : Int))) > 1500
             ·rw [if_pos c10] at H
              have c10b0 : decide (1500 < (wrap64 (x3_2 + (((rd_T52 ((rd_T24 l0 x5_1).f1) x6_2).f2).length : Int)))) = true := decide_eq_true c10
              clear c10
              (first | rw [c10b0] | (simp only [i64_w, i32_w]; rw [c10b0]) | skip)
              have H' := Aside0.mk H
              clear H
              go_wp2
              go_meet
              case rel => exact ⟨_, (true), eS, H', ⟨by have := HK1.out; have := HK2.out; first | omega | exact Nat.le_refl _⟩, dr0⟩
             ·rw [if_neg c10] at H
              have c10b0 : decide (1500 < (wrap64 (x3_2 + (((rd_T52 ((rd_T24 l0 x5_1).f1) x6_2).f2).length : Int)))) = false := decide_eq_false c10
              clear c10
              (first | rw [c10b0] | (simp only [i64_w, i32_w]; rw [c10b0]) | skip)
              have H' := Aside0.mk H
              clear H
              have p105 : 0 ≤ (x5_1 : Int) := dtr
              have q105 : x5_1 < (l0.length : Int) := dtr
              obtain ⟨ad105, A105_1, c105_1, e105, hx105_0, hx105_1, hl105_1, hi105_1⟩ := at_T24 HR0.out x5_1 p105 q105
              obtain rfl : ad101 = ad105 := (by injection e105)
              have HR105_1 := Aside0.mk hi105_1
              have HC105_1 := Aside0.mk hl105_1
              clear hi105_1 hl105_1
              replace p105 := eq_true p105
              replace q105 := eq_true q105
              have p106 : 0 ≤ (x6_2 : Int) := dtr
              have q106 : x6_2 < (((rd_T24 l0 x5_1).f1).length : Int) := dtr
              obtain ⟨ad106, A106_2, c106_2, e106, hx106_0, hx106_1, hx106_2, hl106_2, hi106_2⟩ := at_T52 HR105_1.out x6_2 p106 q106
              cases e106
              have HR106_2 := Aside0.mk hi106_2
              have HC106_2 := Aside0.mk hl106_2
              clear hi106_2 hl106_2
              replace p106 := eq_true p106
              replace q106 := eq_true q106
              go_wp2
              go_meet
              case rel => exact ⟨_, (decide ((((rd_T52 ((rd_T24 l0 x5_1).f1) x6_2).f0).size : Int) > 1000)), eS, H', ⟨by have := HK1.out; have := HK2.out; first | omega | exact Nat.le_refl _⟩, dr0⟩
            case rest =>
             clear HC9
             (try clear c2); (try clear c2b0); (try clear c3); (try clear c3b0); (try clear c4); (try clear c4b0); (try clear c4b1); (try clear c5); (try clear c5b0); (try clear c6); (try clear c6b0); (try clear c7); (try clear c7b0); (try clear c8); (try clear c8b0); (try clear hx101_0); (try clear hx101_1); (try clear hx102_0); (try clear hx102_1); (try clear hx103_0); (try clear hx103_1); (try clear hx104_0); (try clear hx104_1); (try clear hx104_2); (try clear p101); (try clear p102); (try clear p103); (try clear p104); (try clear q101); (try clear q102); (try clear q103); (try clear q104)
             obtain ⟨kq, x57_8, rfl, HA, HJ8, ⟨mc8, rfl⟩⟩ := hcut
             cases kq with
             | zero => exact absurd HA.out (by simp [paraphrastlaw01_Few.j2])
             | succ kj8 =>
              have H := HA.out
              clear HA
              simp only [paraphrastlaw01_Few.j2] at H
              by_cases c11 : x57_8 = true
              ·subst c11
               have H1 : (some false) = some r := by rw [if_pos rfl] at H; exact H
               clear H
               have H := H1
               clear H1
               obtain rfl := Option.some.inj H
               go_wp2
               go_ret
               exact ⟨eS, dr0⟩
              ·replace c11 := Bool.eq_false_iff.mpr c11
               subst c11
               have H1 : (paraphrastlaw01_Few.l2 kj8 l0 (wrap64 (x3_2 + (((rd_T52 ((rd_T24 l0 x5_1).f1) x6_2).f2).length : Int))) x4_2 x5_1 x6_2 0) = some r := by rw [if_neg (show ¬ (false = true) by decide)] at H; exact H
               clear H
               have H := H1
               clear H1
               have H' := Aside0.mk H
               clear H
               go_wp2
               go_loopg [4, 7] kj8 (fun kq v4 v7 w' => ∃ (x4_4 : Int) (x7_4 : Int), v4 = .int .i64 x4_4 ∧ v7 = .int .i64 x7_4 ∧ Aside0 (paraphrastlaw01_Few.l2 kq l0 (wrap64 (x3_2 + (((rd_T52 ((rd_T24 l0 x5_1).f1) x6_2).f2).length : Int))) x4_4 x5_1 x6_2 x7_4 = some r) ∧ Aside0 (kq ≤ kj8) ∧ Drawn0 w w')
               case atStart => exact ⟨(x4_2), (0), eS, eS, H', ⟨Nat.le_refl _⟩, dr0⟩
               case round =>
                clear H'
                (try clear c2); (try clear c2b0); (try clear c3); (try clear c3b0); (try clear c4); (try clear c4b0); (try clear c4b1); (try clear c5); (try clear c5b0); (try clear c6); (try clear c6b0); (try clear c7); (try clear c7b0); (try clear c8); (try clear c8b0); (try clear c11); (try clear hx101_0); (try clear hx101_1); (try clear hx102_0); (try clear hx102_1); (try clear hx103_0); (try clear hx103_1); (try clear hx104_0); (try clear hx104_1); (try clear hx104_2); (try clear p101); (try clear p102); (try clear p103); (try clear p104); (try clear q101); (try clear q102); (try clear q103); (try clear q104)
                obtain ⟨x4_4, x7_4, rfl, rfl, HA, HK4, ⟨m4, rfl⟩⟩ := hrel
                cases gk with
                | zero => exact absurd HA.out (by simp [paraphrastlaw01_Few.l2])
                | succ k4 =>
                 have H := HA.out
                 clear HA
                 simp only [paraphrastlaw01_Few.l2] at H
                 by_cases c12 : 0 ≤ x5_1
                 ·rw [if_pos c12] at H
                  have c12b0 : decide (0 ≤ x5_1) = true := decide_eq_true c12
                  clear c12
                  by_cases c13 : x5_1 < (l0.length : Int)
                  ·rw [if_pos c13] at H
                   have c13b0 : decide (x5_1 < (l0.length : Int)) = true := decide_eq_true c13
                   clear c13
                   by_cases c14 : 0 ≤ x6_2
                   ·rw [if_pos c14] at H
                    have c14b0 : decide (0 ≤ x6_2) = true := decide_eq_true c14
                    clear c14
                    by_cases c15 : x6_2 < (((rd_T24 l0 x5_1).f1).length : Int)
                    ·rw [if_pos c15] at H
                     have c15b0 : decide (x6_2 < (((rd_T24 l0 x5_1).f1).length : Int)) = true := decide_eq_true c15
                     clear c15
                     by_cases c16 : x7_4 < (((rd_T52 ((rd_T24 l0 x5_1).f1) x6_2).f2).length : Int)
                     ·rw [if_pos c16] at H
                      have c16b0 : decide (x7_4 < (((rd_T52 ((rd_T24 l0 x5_1).f1) x6_2).f2).length : Int)) = true := decide_eq_true c16
                      clear c16
                      by_cases c17 : 0 ≤ x7_4
                      ·rw [if_pos c17] at H
                       have c17b0 : decide (0 ≤ x7_4) = true := decide_eq_true c17
                       clear c17
                       have H' := Aside0.mk H
                       clear H
                       have p107 : 0 ≤ (x5_1 : Int) := dtr
                       have q107 : x5_1 < (l0.length : Int) := dtr
                       obtain ⟨ad107, A107_1, c107_1, e107, hx107_0, hx107_1, hl107_1, hi107_1⟩ := at_T24 HR0.out x5_1 p107 q107
                       obtain rfl : ad101 = ad107 := (by injection e107)
                       have HR107_1 := Aside0.mk hi107_1
                       have HC107_1 := Aside0.mk hl107_1
                       clear hi107_1 hl107_1
                       replace p107 := eq_true p107
                       replace q107 := eq_true q107
                       have p108 : 0 ≤ (x6_2 : Int) := dtr
                       have q108 : x6_2 < (((rd_T24 l0 x5_1).f1).length : Int) := dtr
                       obtain ⟨ad108, A108_2, c108_2, e108, hx108_0, hx108_1, hx108_2, hl108_2, hi108_2⟩ := at_T52 HR107_1.out x6_2 p108 q108
                       cases e108
                       have HR108_2 := Aside0.mk hi108_2
                       have HC108_2 := Aside0.mk hl108_2
                       clear hi108_2 hl108_2
                       replace p108 := eq_true p108
                       replace q108 := eq_true q108
                       have p109 : 0 ≤ (x5_1 : Int) := dtr
                       have q109 : x5_1 < (l0.length : Int) := dtr
                       obtain ⟨ad109, A109_1, c109_1, e109, hx109_0, hx109_1, hl109_1, hi109_1⟩ := at_T24 HR0.out x5_1 p109 q109
                       obtain rfl : ad101 = ad109 := (by injection e109)
                       have HR109_1 := Aside0.mk hi109_1
                       have HC109_1 := Aside0.mk hl109_1
                       clear hi109_1 hl109_1
                       replace p109 := eq_true p109
                       replace q109 := eq_true q109
                       have ea_ := Option.some.inj (hx107_1.symm.trans hx109_1)
                       injection ea_ with ea_ en_ ec_
                       subst ea_
                       subst ec_
                       clear en_
                       have p110 : 0 ≤ (x6_2 : Int) := dtr
                       have q110 : x6_2 < (((rd_T24 l0 x5_1).f1).length : Int) := dtr
                       obtain ⟨ad110, A110_2, c110_2, e110, hx110_0, hx110_1, hx110_2, hl110_2, hi110_2⟩ := at_T52 HR109_1.out x6_2 p110 q110
                       cases e110
                       have HR110_2 := Aside0.mk hi110_2
                       have HC110_2 := Aside0.mk hl110_2
                       clear hi110_2 hl110_2
                       replace p110 := eq_true p110
                       replace q110 := eq_true q110
                       have ea_ := Option.some.inj (hx108_2.symm.trans hx110_2)
                       injection ea_ with ea_ en_ ec_
                       subst ea_
                       subst ec_
                       clear en_
                       have p111 : 0 ≤ (x7_4 : Int) := dtr
                       have q111 : x7_4 < (((rd_T52 ((rd_T24 l0 x5_1).f1) x6_2).f2).length : Int) := dtr
                       obtain ⟨ad111, A111_0, c111_0, e111, hx111_0, hl111_0, hi111_0⟩ := at_L2 HR110_2.out x7_4 p111 q111
                       cases e111
                       have HR111_0 := Aside0.mk hi111_0
                       have HC111_0 := Aside0.mk hl111_0
                       clear hi111_0 hl111_0
                       replace p111 := eq_true p111
                       replace q111 := eq_true q111
                       go_wp2
                       go_roundg k4
                       case measure => have := HK1.out; have := HK2.out; have := HJ8.out; have := HK4.out; omega
                       case rel => exact ⟨(wrap64 (x4_4 + ((rd_L2 ((rd_T52 ((rd_T24 l0 x5_1).f1) x6_2).f2) x7_4).length : Int))), (wrap64 (x7_4 + 1)), eS, eS, H', ⟨by have := HK1.out; have := HK2.out; have := HJ8.out; have := HK4.out; omega⟩, dr0⟩
                      ·rw [if_neg c17] at H
                       exact absurd H (by simp)
                     ·rw [if_neg c16] at H
                      have c16b0 : decide (x7_4 < (((rd_T52 ((rd_T24 l0 x5_1).f1) x6_2).f2).length : Int)) = false := decide_eq_false c16
                      clear c16
                      have H' := Aside0.mk H
                      clear H
                      have p107 : 0 ≤ (x5_1 : Int) := dtr
                      have q107 : x5_1 < (l0.length : Int) := dtr
                      obtain ⟨ad107, A107_1, c107_1, e107, hx107_0, hx107_1, hl107_1, hi107_1⟩ := at_T24 HR0.out x5_1 p107 q107
                      obtain rfl : ad101 = ad107 := (by injection e107)
                      have HR107_1 := Aside0.mk hi107_1
                      have HC107_1 := Aside0.mk hl107_1
                      clear hi107_1 hl107_1
                      replace p107 := eq_true p107
                      replace q107 := eq_true q107
                      have p108 : 0 ≤ (x6_2 : Int) := dtr
                      have q108 : x6_2 < (((rd_T24 l0 x5_1).f1).length : Int) := dtr
                      obtain ⟨ad108, A108_2, c108_2, e108, hx108_0, hx108_1, hx108_2, hl108_2, hi108_2⟩ := at_T52 HR107_1.out x6_2 p108 q108
                      cases e108
                      have HR108_2 := Aside0.mk hi108_2
                      have HC108_2 := Aside0.mk hl108_2
                      clear hi108_2 hl108_2
                      replace p108 := eq_true p108
                      replace q108 := eq_true q108
                      go_wp2
                      go_roundg k4
                      case measure => have := HK1.out; have := HK2.out; have := HJ8.out; have := HK4.out; omega
                      case rel => exact ⟨((wrap64 (x3_2 + (((rd_T52 ((rd_T24 l0 x5_1).f1) x6_2).f2).length : Int)))), (x4_4), (wrap64 (x6_2 + 1)), eS, eS, eS, H', ⟨by have := HK1.out; have := HK2.out; have := HJ8.out; have := HK4.out; omega⟩, dr0⟩
                    ·rw [if_neg c15] at H
                     exact absurd H (by simp)
                   ·rw [if_neg c14] at H
                    exact absurd H (by simp)
                  ·rw [if_neg c13] at H
                   exact absurd H (by simp)
                 ·rw [if_neg c12] at H
                  exact absurd H (by simp)
           ·rw [if_neg c8] at H
            exact absurd H (by simp)
          ·rw [if_neg c7] at H
           have c7b0 : decide (x6_2 < (((rd_T24 l0 x5_1).f1).length : Int)) = false := decide_eq_false c7
           clear c7
           have H' := Aside0.mk H
           clear H
           have p102 : 0 ≤ (x5_1 : Int) := dtr
           have q102 : x5_1 < (l0.length : Int) := dtr
           obtain ⟨ad102, A102_1, c102_1, e102, hx102_0, hx102_1, hl102_1, hi102_1⟩ := at_T24 HR0.out x5_1 p102 q102
           obtain rfl : ad101 = ad102 := (by injection e102)
           have HR102_1 := Aside0.mk hi102_1
           have HC102_1 := Aside0.mk hl102_1
           clear hi102_1 hl102_1
           replace p102 := eq_true p102
           replace q102 := eq_true q102
           go_wp2
           go_roundg k2
           case measure => have := HK1.out; have := HK2.out; omega
           case rel => exact ⟨(x3_2), (x4_2), (wrap64 (x5_1 + 1)), eS, eS, eS, H', ⟨by have := HK1.out; have := HK2.out; omega⟩, dr0⟩
         ·rw [if_neg c6] at H
          exact absurd H (by simp)
        ·rw [if_neg c5] at H
         exact absurd H (by simp)
    ·rw [if_neg c3] at H
     exact absurd H (by simp)
   ·rw [if_neg c2] at H
    have c2b0 : decide (x5_1 < (l0.length : Int)) = false := decide_eq_false c2
    clear c2
    obtain rfl := Option.some.inj H
    go_wp2
    go_ret
    exact ⟨eS, dr0⟩
end Go.Proofs.YtfmpaofbnjlniaaGreatDoor.F
/- Few always answers. -/
namespace Go.Proofs.YtfmpaofbnjlniaaGreatDoor.F
open Go.RowKit Go.Proofs.YtfmpaofbnjlniaaGreatDoorW.PrintWords Go.Proofs.YtfmpaofbnjlniaaGreatDoorW.PrintLast Go.Proofs.YtfmpaofbnjlniaaGreatDoorW.PrintMore
set_option linter.unusedVariables false
theorem few_l2 (n : Int) (l : List S52) (i : Nat) (hi : i < l.length) (h8 : l.length ≤ 12) (x3 : Int) (hM : (rd_T52 l (i : Int)).f2.length ≤ 9223372036854775807) (H : ∀ x4, ∃ k b, paraphrastlaw01_Few.l1 k [⟨n, l⟩] x3 x4 0 ((i : Int) + 1) = some b) :
    ∀ (m j : Nat) (x4 : Int), j + m = (rd_T52 l (i : Int)).f2.length → ∃ k b, paraphrastlaw01_Few.l2 k [⟨n, l⟩] x3 x4 0 (i : Int) (j : Int) = some b
  | 0, j, x4, h => by
    obtain ⟨k, b, hk⟩ := H x4
    refine ⟨k + 1, b, ?_⟩
    unfold paraphrastlaw01_Few.l2
    rw [if_pos (by omega), if_pos (by simp), if_pos (by omega), if_pos (show (i : Int) < ((rd_T24 [⟨n, l⟩] 0).f1.length : Int) from by show (i : Int) < (l.length : Int); omega), if_neg (show ¬ (j : Int) < ((rd_T52 (rd_T24 [⟨n, l⟩] 0).f1 (i : Int)).f2.length : Int) from by show ¬ (j : Int) < ((rd_T52 l (i : Int)).f2.length : Int); omega), w64 (by omega) (by omega)]
    exact hk
  | m + 1, j, x4, h => by
    obtain ⟨k, b, hk⟩ := few_l2 n l i hi h8 x3 hM H m (j + 1) (wrap64 (x4 + ((rd_L2 (rd_T52 l (i : Int)).f2 (j : Int)).length : Int))) (by omega)
    refine ⟨k + 1, b, ?_⟩
    unfold paraphrastlaw01_Few.l2
    rw [if_pos (by omega), if_pos (by simp), if_pos (by omega), if_pos (show (i : Int) < ((rd_T24 [⟨n, l⟩] 0).f1.length : Int) from by show (i : Int) < (l.length : Int); omega), if_pos (show (j : Int) < ((rd_T52 (rd_T24 [⟨n, l⟩] 0).f1 (i : Int)).f2.length : Int) from by show (j : Int) < ((rd_T52 l (i : Int)).f2.length : Int); omega), if_pos (by omega), w64 (x := (j : Int) + 1) (by omega) (by omega)]
    exact hk
theorem few_l1 (n : Int) (l : List S52) (h8 : l.length ≤ 12) (hM : ∀ r ∈ l, r.f2.length ≤ 9223372036854775807) : ∀ (d i : Nat) (x3 x4 : Int), i + d = l.length → ∃ k b, paraphrastlaw01_Few.l1 k [⟨n, l⟩] x3 x4 0 (i : Int) = some b
  | 0, i, x3, x4, h => by
    refine ⟨2, decide (x4 ≤ 20000), ?_⟩
    unfold paraphrastlaw01_Few.l1
    rw [if_pos (by omega), if_pos (by simp), if_neg (show ¬ (i : Int) < ((rd_T24 [⟨n, l⟩] 0).f1.length : Int) from by show ¬ (i : Int) < (l.length : Int); omega), show wrap64 (0 + 1) = 1 from by unfold wrap64; omega]
    unfold paraphrastlaw01_Few.l0
    rw [if_neg (by simp)]
  | d + 1, i, x3, x4, h => by
    have hi : i < l.length := by omega
    have hr := hM _ (List.getElem_mem hi)
    rw [← rdT_nat l i hi] at hr
    generalize hX : wrap64 (x3 + ((rd_T52 l (i : Int)).f2.length : Int)) = X
    have step : ∀ k, paraphrastlaw01_Few.l1 (k + 1) [⟨n, l⟩] x3 x4 0 (i : Int) = if X > 1500 then paraphrastlaw01_Few.j2 k [⟨n, l⟩] X x4 0 (i : Int) true else paraphrastlaw01_Few.j2 k [⟨n, l⟩] X x4 0 (i : Int) (decide (((rd_T52 l (i : Int)).f0.size : Int) > 1000)) := fun k => by
      conv => lhs; unfold paraphrastlaw01_Few.l1
      rw [if_pos (by omega), if_pos (by simp), if_pos (show (i : Int) < ((rd_T24 [⟨n, l⟩] 0).f1.length : Int) from by show (i : Int) < (l.length : Int); omega), if_pos (by omega)]
      show (if wrap64 (x3 + ((rd_T52 l (i : Int)).f2.length : Int)) > 1500 then paraphrastlaw01_Few.j2 k [⟨n, l⟩] (wrap64 (x3 + ((rd_T52 l (i : Int)).f2.length : Int))) x4 0 (i : Int) true else paraphrastlaw01_Few.j2 k [⟨n, l⟩] (wrap64 (x3 + ((rd_T52 l (i : Int)).f2.length : Int))) x4 0 (i : Int) (decide (((rd_T52 l (i : Int)).f0.size : Int) > 1000))) = _
      rw [hX]
    by_cases h1 : X > 1500
    · exact ⟨2, false, by rw [step, if_pos h1]; rfl⟩
    · by_cases h2 : ((rd_T52 l (i : Int)).f0.size : Int) > 1000
      · exact ⟨2, false, by rw [step, if_neg h1, decide_eq_true h2]; rfl⟩
      · obtain ⟨k, b, hk⟩ := few_l2 n l i hi h8 X hr (fun x4' => by have := few_l1 n l h8 hM d (i + 1) X x4' (by omega); rwa [show ((i + 1 : Nat) : Int) = (i : Int) + 1 by omega] at this) (rd_T52 l (i : Int)).f2.length 0 x4 (by omega)
        exact ⟨k + 2, b, by rw [step, if_neg h1, decide_eq_false h2]; exact hk⟩
theorem few_ex (n : Int) (l : List S52) (hM : ∀ r ∈ l, r.f2.length ≤ 9223372036854775807) : ∃ k b, paraphrastlaw01_Few.f k [⟨n, l⟩] = some b := by
  by_cases h : (l.length : Int) > 12
  · exact ⟨1, false, by
      unfold paraphrastlaw01_Few.f paraphrastlaw01_Few.l0
      rw [if_pos (by simp), if_pos (by omega)]
      exact if_pos h⟩
  · obtain ⟨k, b, hk⟩ := few_l1 n l (by omega) hM l.length 0 0 0 (by omega)
    exact ⟨k + 1, b, by
      unfold paraphrastlaw01_Few.f paraphrastlaw01_Few.l0
      rw [if_pos (by simp), if_pos (by omega)]
      exact (if_neg h).trans hk⟩
end Go.Proofs.YtfmpaofbnjlniaaGreatDoor.F
namespace Go.Proofs.YtfmpaofbnjlniaaGreatDoor.F
open Go.RowKit Go.Proofs.YtfmpaofbnjlniaaGreatDoorW.PrintWords Go.Proofs.YtfmpaofbnjlniaaGreatDoorW.PrintLast Go.Proofs.YtfmpaofbnjlniaaGreatDoorW.PrintMore
attribute [local go_sem] max2_int min2_int max_two min_two max_three min_three max_four min_four
set_option linter.unusedVariables false
set_option linter.unusedSimpArgs false
/-! ### paraphrastref01_SameTuples: function 69 -/
def paraphrastref01_SameTuples.l0 : Nat → List (List Int) → List (List Int) → Int → Option (Bool)
 | 0, _, _, _ => none
 | k + 1, x0, x1, x5 => if x5 < (x0.length : Int) then (if 0 ≤ x5 then (if x5 < (x1.length : Int) then ((paraphrastref01_Equal.f k (rd_L2 x0 x5) (rd_L2 x1 x5)).bind fun t253 => (if t253 = true then (paraphrastref01_SameTuples.l0 k x0 x1 (wrap64 (x5 + 1))) else (some false))) else (none)) else (none)) else (some true)
def paraphrastref01_SameTuples.f (k : Nat) (l0 : List (List Int)) (l1 : List (List Int)) : Option (Bool) := if (l0.length : Int) = (l1.length : Int) then (paraphrastref01_SameTuples.l0 k l0 l1 0) else (some false)
set_option maxHeartbeats 8000000 in
set_option maxRecDepth 100000 in
theorem paraphrastref01_SameTuples.calls (k : Nat) (A0 : Option Addr) (c0 : Nat) (l0 : List (List Int)) (A1 : Option Addr) (c1 : Nat) (l1 : List (List Int)) (r : Bool) (w : World) (hr0 : Kd.C (Kd.slice 3 (Kd.int .i64)) w A0 l0.length l0) (hc0 : l0.length ≤ c0) (hr1 : Kd.C (Kd.slice 3 (Kd.int .i64)) w A1 l1.length l1) (hc1 : l1.length ≤ c1) (h : paraphrastref01_SameTuples.f k l0 l1 = some r) :
  Calls Tryz.prog 69 #[.slice A0 l0.length c0, .slice A1 l1.length c1] w fun e w' => e = .returned (.bool r) ∧ Drawn0 w w' := by
 have HR0 := Aside0.mk hr0
 have HC0 := Aside0.mk hc0
 clear hr0 hc0
 have HR1 := Aside0.mk hr1
 have HC1 := Aside0.mk hc1
 clear hr1 hc1
 have H : (if (l0.length : Int) = (l1.length : Int) then (paraphrastref01_SameTuples.l0 k l0 l1 0) else (some false)) = some r := h
 clear h
 by_cases c3 : (l0.length : Int) = (l1.length : Int)
 ·rw [if_pos c3] at H
  have c3b0 : ((l0.length : Int) == (l1.length : Int)) = true := beq_iff_eq.mpr c3
  have c3b1 : ((l0.length : Int) != (l1.length : Int)) = false := bne_eq_false_iff_eq.mpr c3
  have c3b2 : (l0.length == l1.length) = true := by first | simpa using c3 | (simp at c3 ⊢; omega)
  clear c3
  have H' := Aside0.mk H
  clear H
  go_enter Tryz.func69, Tryz.ntmps69
  go_wp2
  repeat (go_quiet (fail); try go_wp2)
  go_loopg [5] k (fun kq v5 w' => ∃ (x5_1 : Int), v5 = .int .i64 x5_1 ∧ Aside0 (paraphrastref01_SameTuples.l0 kq l0 l1 x5_1 = some r) ∧ Aside0 (kq ≤ k) ∧ Drawn0 w w')
  case atStart => exact ⟨(0), eS, H', ⟨Nat.le_refl _⟩, dr0⟩
  case round =>
   clear H'
   (try clear c1); (try clear c3); (try clear c3b0); (try clear c3b1); (try clear c3b2)
   obtain ⟨x5_1, rfl, HA, HK1, ⟨m1, rfl⟩⟩ := hrel
   cases gk with
   | zero => exact absurd HA.out (by simp [paraphrastref01_SameTuples.l0])
   | succ k1 =>
    have H := HA.out
    clear HA
    simp only [paraphrastref01_SameTuples.l0] at H
    by_cases c4 : x5_1 < (l0.length : Int)
    ·rw [if_pos c4] at H
     have c4b0 : decide (x5_1 < (l0.length : Int)) = true := decide_eq_true c4
     clear c4
     by_cases c5 : 0 ≤ x5_1
     ·rw [if_pos c5] at H
      have c5b0 : decide (0 ≤ x5_1) = true := decide_eq_true c5
      clear c5
      by_cases c6 : x5_1 < (l1.length : Int)
      ·rw [if_pos c6] at H
       have c6b0 : decide (x5_1 < (l1.length : Int)) = true := decide_eq_true c6
       clear c6
       replace H := Option.bind_eq_some_iff.mp H
       obtain ⟨t253, A70, H⟩ := H
       replace H : (if t253 = true then (paraphrastref01_SameTuples.l0 k1 l0 l1 (wrap64 (x5_1 + 1))) else (some false)) = some r := H
       have A7 := Aside0.mk A70
       clear A70
       by_cases c8 : t253 = true
       ·subst c8
        have H1 : (paraphrastref01_SameTuples.l0 k1 l0 l1 (wrap64 (x5_1 + 1))) = some r := by rw [if_pos rfl] at H; exact H
        clear H
        have H := H1
        clear H1
        have H' := Aside0.mk H
        clear H
        have p251 : 0 ≤ (x5_1 : Int) := dtr
        have q251 : x5_1 < (l0.length : Int) := dtr
        obtain ⟨ad251, A251_0, c251_0, e251, hx251_0, hl251_0, hi251_0⟩ := at_L2 HR0.out x5_1 p251 q251
        cases e251
        have HR251_0 := Aside0.mk hi251_0
        have HC251_0 := Aside0.mk hl251_0
        clear hi251_0 hl251_0
        replace p251 := eq_true p251
        replace q251 := eq_true q251
        have p252 : 0 ≤ (x5_1 : Int) := dtr
        have q252 : x5_1 < (l1.length : Int) := dtr
        obtain ⟨ad252, A252_0, c252_0, e252, hx252_0, hl252_0, hi252_0⟩ := at_L2 HR1.out x5_1 p252 q252
        cases e252
        have HR252_0 := Aside0.mk hi252_0
        have HC252_0 := Aside0.mk hl252_0
        clear hi252_0 hl252_0
        replace p252 := eq_true p252
        replace q252 := eq_true q252
        go_wp2_with (first | (go_at_call 41; (with_reducible refine (paraphrastref01_Equal.calls k1 _ _ (rd_L2 l0 x5_1) _ _ (rd_L2 l1 x5_1) true _ ?side1 ?side2 ?side3 ?side4 A7.out).mono ?_); (case side1 => exact cS HR251_0.out); (case side2 => exact HC251_0.out); (case side3 => exact cS HR252_0.out); (case side4 => exact HC252_0.out); rintro e w' ⟨rfl, ⟨nd, rfl⟩⟩; (try first | exact ⟨rfl, _, World.drewN_drewN _ _ _⟩ | exact ⟨rfl, _, Eq.trans (World.drewN_drewN _ _ _) (congrArg (World.drewN _) (Nat.add_assoc _ _ _))⟩)))
        repeat (go_quiet (first | (go_at_call 41; (with_reducible refine (paraphrastref01_Equal.calls k1 _ _ (rd_L2 l0 x5_1) _ _ (rd_L2 l1 x5_1) true _ ?side1 ?side2 ?side3 ?side4 A7.out).mono ?_); (case side1 => exact cS HR251_0.out); (case side2 => exact HC251_0.out); (case side3 => exact cS HR252_0.out); (case side4 => exact HC252_0.out); rintro e w' ⟨rfl, ⟨nd, rfl⟩⟩; (try first | exact ⟨rfl, _, World.drewN_drewN _ _ _⟩ | exact ⟨rfl, _, Eq.trans (World.drewN_drewN _ _ _) (congrArg (World.drewN _) (Nat.add_assoc _ _ _))⟩))); try go_wp2_with (first | (go_at_call 41; (with_reducible refine (paraphrastref01_Equal.calls k1 _ _ (rd_L2 l0 x5_1) _ _ (rd_L2 l1 x5_1) true _ ?side1 ?side2 ?side3 ?side4 A7.out).mono ?_); (case side1 => exact cS HR251_0.out); (case side2 => exact HC251_0.out); (case side3 => exact cS HR252_0.out); (case side4 => exact HC252_0.out); rintro e w' ⟨rfl, ⟨nd, rfl⟩⟩; (try first | exact ⟨rfl, _, World.drewN_drewN _ _ _⟩ | exact ⟨rfl, _, Eq.trans (World.drewN_drewN _ _ _) (congrArg (World.drewN _) (Nat.add_assoc _ _ _))⟩))))
        go_roundg k1
        case measure => have := HK1.out; omega
        case rel => exact ⟨(wrap64 (x5_1 + 1)), eS, H', ⟨by have := HK1.out; omega⟩, dr0⟩
       ·replace c8 := Bool.eq_false_iff.mpr c8
        subst c8
        have H1 : (some false) = some r := by rw [if_neg (show ¬ (false = true) by decide)] at H; exact H
        clear H
        have H := H1
        clear H1
        obtain rfl := Option.some.inj H
        have p251 : 0 ≤ (x5_1 : Int) := dtr
        have q251 : x5_1 < (l0.length : Int) := dtr
        obtain ⟨ad251, A251_0, c251_0, e251, hx251_0, hl251_0, hi251_0⟩ := at_L2 HR0.out x5_1 p251 q251
        cases e251
        have HR251_0 := Aside0.mk hi251_0
        have HC251_0 := Aside0.mk hl251_0
        clear hi251_0 hl251_0
        replace p251 := eq_true p251
        replace q251 := eq_true q251
        have p252 : 0 ≤ (x5_1 : Int) := dtr
        have q252 : x5_1 < (l1.length : Int) := dtr
        obtain ⟨ad252, A252_0, c252_0, e252, hx252_0, hl252_0, hi252_0⟩ := at_L2 HR1.out x5_1 p252 q252
        cases e252
        have HR252_0 := Aside0.mk hi252_0
        have HC252_0 := Aside0.mk hl252_0
        clear hi252_0 hl252_0
        replace p252 := eq_true p252
        replace q252 := eq_true q252
        go_wp2_with (first | (go_at_call 41; (with_reducible refine (paraphrastref01_Equal.calls k1 _ _ (rd_L2 l0 x5_1) _ _ (rd_L2 l1 x5_1) false _ ?side1 ?side2 ?side3 ?side4 A7.out).mono ?_); (case side1 => exact cS HR251_0.out); (case side2 => exact HC251_0.out); (case side3 => exact cS HR252_0.out); (case side4 => exact HC252_0.out); rintro e w' ⟨rfl, ⟨nd, rfl⟩⟩; (try first | exact ⟨rfl, _, World.drewN_drewN _ _ _⟩ | exact ⟨rfl, _, Eq.trans (World.drewN_drewN _ _ _) (congrArg (World.drewN _) (Nat.add_assoc _ _ _))⟩)))
        repeat (go_quiet (first | (go_at_call 41; (with_reducible refine (paraphrastref01_Equal.calls k1 _ _ (rd_L2 l0 x5_1) _ _ (rd_L2 l1 x5_1) false _ ?side1 ?side2 ?side3 ?side4 A7.out).mono ?_); (case side1 => exact cS HR251_0.out); (case side2 => exact HC251_0.out); (case side3 => exact cS HR252_0.out); (case side4 => exact HC252_0.out); rintro e w' ⟨rfl, ⟨nd, rfl⟩⟩; (try first | exact ⟨rfl, _, World.drewN_drewN _ _ _⟩ | exact ⟨rfl, _, Eq.trans (World.drewN_drewN _ _ _) (congrArg (World.drewN _) (Nat.add_assoc _ _ _))⟩))); try go_wp2_with (first | (go_at_call 41; (with_reducible refine (paraphrastref01_Equal.calls k1 _ _ (rd_L2 l0 x5_1) _ _ (rd_L2 l1 x5_1) false _ ?side1 ?side2 ?side3 ?side4 A7.out).mono ?_); (case side1 => exact cS HR251_0.out); (case side2 => exact HC251_0.out); (case side3 => exact cS HR252_0.out); (case side4 => exact HC252_0.out); rintro e w' ⟨rfl, ⟨nd, rfl⟩⟩; (try first | exact ⟨rfl, _, World.drewN_drewN _ _ _⟩ | exact ⟨rfl, _, Eq.trans (World.drewN_drewN _ _ _) (congrArg (World.drewN _) (Nat.add_assoc _ _ _))⟩))))
        go_ret
        exact ⟨eS, dr0⟩
      ·rw [if_neg c6] at H
       exact absurd H (by simp)
     ·rw [if_neg c5] at H
      exact absurd H (by simp)
    ·rw [if_neg c4] at H
     have c4b0 : decide (x5_1 < (l0.length : Int)) = false := decide_eq_false c4
     clear c4
     obtain rfl := Option.some.inj H
     go_wp2
     repeat (go_quiet (fail); try go_wp2)
     go_ret
     exact ⟨eS, dr0⟩
 ·rw [if_neg c3] at H
  have c3b0 : ((l0.length : Int) == (l1.length : Int)) = false := beq_eq_false_iff_ne.mpr c3
  have c3b1 : ((l0.length : Int) != (l1.length : Int)) = true := bne_iff_ne.mpr c3
  have c3b2 : (l0.length == l1.length) = false := by first | simpa using c3 | (simp at c3 ⊢; omega)
  obtain rfl := Option.some.inj H
  go_enter Tryz.func69, Tryz.ntmps69
  go_wp2
  repeat (go_quiet (fail); try go_wp2)
  go_ret
  exact ⟨eS, dr0⟩
end Go.Proofs.YtfmpaofbnjlniaaGreatDoor.F
