/- Part 2 of the proof: ShapeOwn: no function modifies its arguments, and results share memory neither with arguments nor with other results; for every structure, change, list of numbers and list of symbols. -/
import Derived.Test.YtfmpaofbnjlniaaGreatDoorOwn1
import Derived.Test.YtfmpaofbnjlniaaGreatDoorProg
import Derived.WalkSmall
import Derived.ChangeAgain
import Derived.Lib.LaidTab
import Derived.Below
import Derived.Deep.Draws
import Derived.RowKit3
import Derived.Shelf.Strconv.Itoa3
import Derived.Deep.AppendLies
import Derived.Maps.AppendAt
import Derived.OwnWalk
import Derived.Laws.BytesArg
import Derived.Laws.MakeOwn
import Derived.Laws.OwnMore
import Derived.Deep.OwnRows
import Derived.Tactics
import Derived.Lib.ConvBytes
import Derived.Laws.Slices
import Derived.WalkKit
import Derived.KernelRfl
import Derived.Deep.LoopGhost
import Derived.Deep.QuietTactic
import Derived.BigQuiet
import Derived.WideLaws
import Derived.Deep.DeepCutAuto
import Derived.Deep.CutBlock
import Derived.Deep.RegionHeld3
import Derived.Laws.Rows
import Derived.Lib.AppendStr
import Derived.ArgAppend
import Derived.Laws.IdiomCopy
import Derived.OrdersHeld
import Derived.Laws.BitsLemmas
import Derived.RowKit
import Derived.Test.YtfmpaofbnjlniaaGreatDoorRows
import Derived.LaidLaws
import Derived.LaidHandle
import Derived.MakeChecks
import Derived.Lay
import Derived.Carry
import Derived.OpenShut
import Derived.Deep.Strs
import Derived.Handed
import Derived.SizedLaws
import Derived.ShutString
import Derived.ProofKit
import Derived.Outline
import Derived.Lib.Hide
import Derived.Deep.DeepMust
import Derived.Shelf.Abstract
import Derived.Test.YtfmpaofbnjlniaaGreatDoorShelf
import Derived.Lib.SplitLaws
import Derived.WalkLawsBesides
import Derived.LaidEql
import Derived.Lib.CutLaws
import Derived.Defers
import Derived.Recover
import Derived.Tactics2
import Derived.Laws.Pointers
namespace Go.Proofs.YtfmpaofbnjlniaaGreatDoor.F
open Go.RowKit
set_option linter.unusedVariables false
/-- What the package-level variables hold, as far as the contracts ask: kept by whatever leaves the old blocks alone. -/
structure Glob (w : World) : Prop where
  shaped : w.ShapedOpen Tryz.prog
  syn : ∃ tp p, w.var? Tryz.prog "strconv.ErrSyntax" = some #[.iface tp p]
  rng : ∃ tp p, w.var? Tryz.prog "strconv.ErrRange" = some #[.iface tp p]
  tab : Lib.TabIs Tryz.prog w "internal/strconv.uint64pow10" .u64 Lib.pow10Tab
theorem var_kept {P : Program} {w w' : World} {n : String} {cs : Array Value} (hb : Below w.heap.size w w') (h : w.var? P n = some cs) : w'.var? P n = some cs := by
  unfold World.var? at h ⊢
  cases hg : P.globalNamed n with
  | none => simp [hg] at h
  | some g =>
    simp only [hg, Option.bind_some] at h ⊢
    have hlt : g < w.heap.size := by
      rcases Nat.lt_or_ge g w.heap.size with h' | h'
      · exact h'
      · simp [Array.getElem?_eq_none h'] at h
    rw [hb.block g hlt]
    exact h
theorem Glob.below {w w' : World} (h : Glob w) (hb : Below w.heap.size w w') : Glob w' :=
  ⟨h.shaped.keptBut (may := fun _ => False) (hb.frame _) (fun _ hp => hp.elim), h.syn.imp fun tp hp => hp.imp fun p hq => var_kept hb hq, h.rng.imp fun tp hp => hp.imp fun p hq => var_kept hb hq, var_kept hb h.tab⟩
theorem Glob.drew {w : World} (h : Glob w) : Glob w.drew := h.below (Below.refl _ _).drew
theorem Glob.drewN {w : World} (h : Glob w) (n : Nat) : Glob (w.drewN n) := by
  induction n with
  | zero => exact h
  | succ n ih => exact ih.drew
end Go.Proofs.YtfmpaofbnjlniaaGreatDoor.F
namespace Go.Proofs.YtfmpaofbnjlniaaGreatDoor.F
open Go.RowKit Go.Proofs.YtfmpaofbnjlniaaGreatDoorW.PrintWords Go.Proofs.YtfmpaofbnjlniaaGreatDoorW.PrintLast Go.Proofs.YtfmpaofbnjlniaaGreatDoorW.PrintMore
attribute [local go_sem] max2_int min2_int max_two min_two max_three min_three max_four min_four
set_option linter.unusedVariables false
set_option linter.unusedSimpArgs false
def errW : Option Int → Value
  | none => .nilIface
  | some c => .iface 0 (.int .i64 c)
theorem errW_none : errW none = .nilIface := rfl
theorem errW_some (c : Int) : errW (some c) = .iface 0 (.int .i64 c) := rfl
theorem info3 : (Tryz.prog.info? 3).map (fun i => (i.zero, i.size, i.bytes)) = some (some (.int .i64 0), 1, 8) := by kernel_rfl
theorem info46 : (Tryz.prog.info? 46).map (fun i => (i.zero, i.size, i.bytes)) = some (some (.slice none 0 0), 1, 24) := by kernel_rfl
theorem info52 : (Tryz.prog.info? 52).map (fun i => (i.zero, i.size, i.bytes)) = some (some (.agg #[(.string ⟨#[]⟩), (.int .i64 0), (.slice none 0 0)]), 3, 48) := by kernel_rfl
theorem info96 : (Tryz.prog.info? 96).map (fun i => (i.zero, i.size, i.bytes)) = some (some (.agg #[(.string ⟨#[]⟩), (.int .i64 0)]), 2, 24) := by kernel_rfl
def rd_L2 (xs : List (List Int)) (i : Int) : (List Int) := xs.getD i.toNat ([] : List Int)
theorem at_L2 {w : World} {A : Option Addr} {n : Nat} {xs : List (List Int)} (h : Kd.C (Kd.slice 3 (Kd.int .i64)) w A n xs) (i : Int) (h0 : 0 ≤ i) (h1 : i < n) : ∃ ad A0 c0, A = some ad ∧ w.cell? (ad.add i.toNat) = some (.slice A0 (rd_L2 xs i).length c0) ∧ (rd_L2 xs i).length ≤ c0 ∧ (Kd.int .i64).C w A0 (rd_L2 xs i).length (rd_L2 xs i) := by
  obtain ⟨ad, c, e, _, hK, hc0⟩ := Kd.C_get h ([] : List Int) i h0 h1
  have hc : ∀ j u, c[j]? = some u → w.cell? (ad.add (i.toNat * 1 + j)) = some u := hc0
  obtain ⟨A0, c0, rfl, l0, g0⟩ := hK
  exact ⟨ad, A0, c0, e, by have hq := hc 0 _ rfl; rwa [Nat.mul_one, Nat.add_zero] at hq, l0, g0⟩
/-! #### struct type 52 -/
structure S52 where
  f0 : ByteArray
  f1 : Int
  f2 : (List (List Int))
def z52 : S52 := ⟨(⟨#[]⟩ : ByteArray), (0 : Int), ([] : List (List Int))⟩
def k52 : Kd S52 := Kd.iso (Kd.pair Kd.string (Kd.pair (Kd.int .i64) (Kd.slice 46 (Kd.slice 3 (Kd.int .i64))))) (fun x : S52 => (x.f0, x.f1, x.f2))
theorem k52_open {w : World} {x : S52} {cs : List Value} (h : k52.K w x cs) : ∃ A2 c2, cs = [.string x.f0, .int .i64 x.f1, .slice A2 x.f2.length c2] ∧ x.f2.length ≤ c2 ∧ (Kd.slice 3 (Kd.int .i64)).C w A2 x.f2.length x.f2 := by
  obtain ⟨_, _, rfl, rfl, ⟨_, _, rfl, rfl, ⟨A2, c2, rfl, l2, g2⟩⟩⟩ := h
  exact ⟨A2, c2, rfl, l2, g2⟩
theorem k52_openM {w : World} {base : Nat} {ok : Nat → Prop} {x : S52} {cs : List Value} (h : k52.M w base ok x cs) : ∃ v2, cs = [.string x.f0, .int .i64 x.f1, v2] ∧ (Kd.slice 3 (Kd.int .i64)).R 46 w base ok v2 x.f2 := by
  obtain ⟨_, _, rfl, rfl, ⟨_, _, rfl, rfl, ⟨v2, rfl, g2⟩⟩⟩ := h
  exact ⟨v2, rfl, g2⟩
theorem k52_mk (w : World) (x : S52) {A2 : Option Addr} {c2 : Nat} (l2 : x.f2.length ≤ c2) (g2 : (Kd.slice 3 (Kd.int .i64)).C w A2 x.f2.length x.f2) : k52.K w x [.string x.f0, .int .i64 x.f1, .slice A2 x.f2.length c2] := ⟨[.string x.f0], [.int .i64 x.f1, .slice A2 x.f2.length c2], rfl, rfl, ⟨[.int .i64 x.f1], [.slice A2 x.f2.length c2], rfl, rfl, ⟨A2, c2, rfl, l2, g2⟩⟩⟩
theorem k52_mkM (w : World) (base : Nat) (ok : Nat → Prop) (x : S52) {v2 : Value} (g2 : (Kd.slice 3 (Kd.int .i64)).R 46 w base ok v2 x.f2) : k52.M w base ok x [.string x.f0, .int .i64 x.f1, v2] := ⟨[.string x.f0], [.int .i64 x.f1, v2], rfl, rfl, ⟨[.int .i64 x.f1], [v2], rfl, rfl, ⟨v2, rfl, g2⟩⟩⟩
def rd_T52 (xs : List S52) (i : Int) : S52 := xs.getD i.toNat z52
theorem at_T52 {w : World} {A : Option Addr} {n : Nat} {xs : List S52} (h : Kd.C k52 w A n xs) (i : Int) (h0 : 0 ≤ i) (h1 : i < n) : ∃ ad A2 c2, A = some ad ∧ w.cell? (ad.add (i.toNat * 3)) = some (.string (rd_T52 xs i).f0) ∧ w.cell? ⟨(ad.add (i.toNat * 3)).block, (ad.add (i.toNat * 3)).off + 1, none⟩ = some (.int .i64 (rd_T52 xs i).f1) ∧ w.cell? ⟨(ad.add (i.toNat * 3)).block, (ad.add (i.toNat * 3)).off + 2, none⟩ = some (.slice A2 (rd_T52 xs i).f2.length c2) ∧ (rd_T52 xs i).f2.length ≤ c2 ∧ (Kd.slice 3 (Kd.int .i64)).C w A2 (rd_T52 xs i).f2.length (rd_T52 xs i).f2 := by
  obtain ⟨ad, c, e, _, hK, hc0⟩ := Kd.C_get h z52 i h0 h1
  have hc : ∀ j u, c[j]? = some u → w.cell? (ad.add (i.toNat * 3 + j)) = some u := hc0
  obtain ⟨A2, c2, rfl, l2, g2⟩ := k52_open hK
  exact ⟨ad, A2, c2, e, hc 0 _ rfl, by rw [← add_field _ _ 1 (by omega)]; exact hc 1 _ rfl, by rw [← add_field _ _ 2 (by omega)]; exact hc 2 _ rfl, l2, g2⟩
/-! #### struct type 24 -/
structure S24 where
  f0 : Int
  f1 : (List S52)
def z24 : S24 := ⟨(0 : Int), ([] : List S52)⟩
def k24 : Kd S24 := Kd.iso (Kd.pair (Kd.int .i64) (Kd.slice 52 k52)) (fun x : S24 => (x.f0, x.f1))
theorem k24_open {w : World} {x : S24} {cs : List Value} (h : k24.K w x cs) : ∃ A1 c1, cs = [.int .i64 x.f0, .slice A1 x.f1.length c1] ∧ x.f1.length ≤ c1 ∧ k52.C w A1 x.f1.length x.f1 := by
  obtain ⟨_, _, rfl, rfl, ⟨A1, c1, rfl, l1, g1⟩⟩ := h
  exact ⟨A1, c1, rfl, l1, g1⟩
theorem k24_mk (w : World) (x : S24) {A1 : Option Addr} {c1 : Nat} (l1 : x.f1.length ≤ c1) (g1 : k52.C w A1 x.f1.length x.f1) : k24.K w x [.int .i64 x.f0, .slice A1 x.f1.length c1] := ⟨[.int .i64 x.f0], [.slice A1 x.f1.length c1], rfl, rfl, ⟨A1, c1, rfl, l1, g1⟩⟩
def rd_T24 (xs : List S24) (i : Int) : S24 := xs.getD i.toNat z24
theorem at_T24 {w : World} {A : Option Addr} {n : Nat} {xs : List S24} (h : Kd.C k24 w A n xs) (i : Int) (h0 : 0 ≤ i) (h1 : i < n) : ∃ ad A1 c1, A = some ad ∧ w.cell? (ad.add (i.toNat * 2)) = some (.int .i64 (rd_T24 xs i).f0) ∧ w.cell? ⟨(ad.add (i.toNat * 2)).block, (ad.add (i.toNat * 2)).off + 1, none⟩ = some (.slice A1 (rd_T24 xs i).f1.length c1) ∧ (rd_T24 xs i).f1.length ≤ c1 ∧ k52.C w A1 (rd_T24 xs i).f1.length (rd_T24 xs i).f1 := by
  obtain ⟨ad, c, e, _, hK, hc0⟩ := Kd.C_get h z24 i h0 h1
  have hc : ∀ j u, c[j]? = some u → w.cell? (ad.add (i.toNat * 2 + j)) = some u := hc0
  obtain ⟨A1, c1, rfl, l1, g1⟩ := k24_open hK
  exact ⟨ad, A1, c1, e, hc 0 _ rfl, by rw [← add_field _ _ 1 (by omega)]; exact hc 1 _ rfl, l1, g1⟩
/-! #### struct type 96 -/
structure S96 where
  f0 : ByteArray
  f1 : Int
def z96 : S96 := ⟨(⟨#[]⟩ : ByteArray), (0 : Int)⟩
def k96 : Kd S96 := Kd.iso (Kd.pair Kd.string (Kd.int .i64)) (fun x : S96 => (x.f0, x.f1))
theorem k96_open {w : World} {x : S96} {cs : List Value} (h : k96.K w x cs) : cs = [.string x.f0, .int .i64 x.f1] := by
  obtain ⟨_, _, rfl, rfl, rfl⟩ := h
  exact rfl
theorem k96_openM {w : World} {base : Nat} {ok : Nat → Prop} {x : S96} {cs : List Value} (h : k96.M w base ok x cs) : cs = [.string x.f0, .int .i64 x.f1] := by
  obtain ⟨_, _, rfl, rfl, rfl⟩ := h
  exact rfl
theorem k96_mk (w : World) (x : S96)  : k96.K w x [.string x.f0, .int .i64 x.f1] := ⟨[.string x.f0], [.int .i64 x.f1], rfl, rfl, rfl⟩
theorem k96_mkM (w : World) (base : Nat) (ok : Nat → Prop) (x : S96)  : k96.M w base ok x [.string x.f0, .int .i64 x.f1] := ⟨[.string x.f0], [.int .i64 x.f1], rfl, rfl, rfl⟩
def rd_T96 (xs : List S96) (i : Int) : S96 := xs.getD i.toNat z96
theorem at_T96 {w : World} {A : Option Addr} {n : Nat} {xs : List S96} (h : Kd.C k96 w A n xs) (i : Int) (h0 : 0 ≤ i) (h1 : i < n) : ∃ ad , A = some ad ∧ w.cell? (ad.add (i.toNat * 2)) = some (.string (rd_T96 xs i).f0) ∧ w.cell? ⟨(ad.add (i.toNat * 2)).block, (ad.add (i.toNat * 2)).off + 1, none⟩ = some (.int .i64 (rd_T96 xs i).f1) := by
  obtain ⟨ad, c, e, _, hK, hc0⟩ := Kd.C_get h z96 i h0 h1
  have hc : ∀ j u, c[j]? = some u → w.cell? (ad.add (i.toNat * 2 + j)) = some u := hc0
  obtain rfl := k96_open hK
  exact ⟨ad, e, hc 0 _ rfl, by rw [← add_field _ _ 1 (by omega)]; exact hc 1 _ rfl⟩
end Go.Proofs.YtfmpaofbnjlniaaGreatDoor.F
/- The rows' arguments opened into the kinds; what the listed variables hold. -/
namespace Go.Proofs.YtfmpaofbnjlniaaGreatDoor.F
open Go.RowKit Go.WideShapes Go.ChangeShapes Go.ChangeAt Go.Proofs.YtfmpaofbnjlniaaGreatDoorW.PrintWords Go.Proofs.YtfmpaofbnjlniaaGreatDoorW.PrintLast Go.Proofs.YtfmpaofbnjlniaaGreatDoorW.PrintMore
set_option linter.unusedVariables false
theorem own : ownKnob Tryz.prog.godebug = none := by kernel_rfl
theorem laidOut : laidOutB Tryz.prog = true := by kernel_rfl
/-- What can be read as data at type t is of kind d. -/
def Opens (P : Program) (w : World) {α : Type} (d : Kd α) (t : TypeId) : Prop :=
  ∀ {H : Type} (enc : TypeId × Value → H) (m : Nat) (cs : List Value) (x : DataW H × List MemPlace), DataW.trod enc P w 0 (fun _ => true) true m t cs = some x → ∃ y, d.K w y cs
variable {P : Program} {w : World}
theorem opens_int {t : TypeId} {k : IntKind} (ht : P.underlying t = some (.int k)) : Opens P w (Kd.int k) t := fun enc m cs x h => by
  obtain ⟨n, rfl, _, _⟩ := DataW.trod_int ht h
  exact ⟨n, rfl⟩
theorem opens_string {t : TypeId} (ht : P.underlying t = some .string) : Opens P w Kd.string t := fun enc m cs x h => by
  obtain ⟨s, rfl, _, _⟩ := DataW.trod_string ht h
  exact ⟨s, rfl⟩
theorem list_of {α : Type} {Q : Nat → α → Prop} : ∀ n : Nat, (∀ i, i < n → ∃ y, Q i y) → ∃ ys : List α, ys.length = n ∧ ∀ j p, ys[j]? = some p → Q j p
  | 0, _ => ⟨[], rfl, fun j p h => by simp at h⟩
  | n + 1, h => by
    obtain ⟨ys, hl, hq⟩ := list_of n (fun i hi => h i (by omega))
    obtain ⟨y, hy⟩ := h n (by omega)
    refine ⟨ys ++ [y], by simp [hl], fun j p hj => ?_⟩
    by_cases hjn : j < ys.length
    · rw [List.getElem?_append_left hjn] at hj; exact hq j p hj
    · rw [List.getElem?_append_right (by omega)] at hj
      obtain rfl : j = n := by
        have := (List.getElem?_eq_some_iff.1 hj).1; simp at this; omega
      simp [hl] at hj
      exact hj ▸ hy
theorem opens_slice {t e : TypeId} {α : Type} {d : Kd α} (ht : P.underlying t = some (.slice e)) (hc : P.cellsOf e = d.sz) (hd : Opens P w d e) : Opens P w (Kd.slice e d) t := fun enc m cs x h => by
  rcases DataW.trod_slice ht h with ⟨rfl, _⟩ | ⟨a, len, cap, elems, rest, n, _, rfl, _, _, hle, hmax, hlen, hel, _, _⟩
  · exact ⟨[], none, 0, rfl, Nat.le_refl _, rfl, Nat.zero_le _, fun h => absurd h (by simp)⟩
  · obtain ⟨ys, hl, hy⟩ := list_of (Q := fun i y => ∃ c, c.length = d.sz ∧ d.K w y c ∧ ∀ j u, c[j]? = some u → w.cell? (a.add (i * d.sz + j)) = some u) len (fun i hi => by
      have he := hel i hi
      rw [List.getElem?_eq_getElem (by omega : i < elems.length)] at he
      obtain ⟨c, hc1, hc2⟩ := Option.bind_eq_some_iff.1 he
      obtain ⟨_, h1, h2⟩ := World.cells?_some hc1
      obtain ⟨y, hy⟩ := hd enc _ _ _ hc2
      refine ⟨y, c, by rw [h1, hc], hy, fun j u hj => ?_⟩
      have hjl := (List.getElem?_eq_some_iff.1 hj).1
      have := h2 j (by omega)
      rw [hc] at this
      rw [← hj, ← this]
      exact congrArg w.cell? (Addr.add_add a _ _).symm)
    refine ⟨ys, some a, cap, by rw [hl], by omega, hl ▸ rfl, by rw [hl]; exact Nat.le_trans hle hmax, fun _ => ⟨a, rfl, fun j p hj => hy j p hj⟩⟩
theorem one_cell {cs : List Value} {v : Value} {n : Nat} (h : (cs.drop n).take 1 = [v]) : cs[n]? = some v := by
  have := congrArg (·[0]?) h
  simpa [List.getElem?_take, List.getElem?_drop] using this
theorem of_cells2 {cs : List Value} {a b : Value} (hl : cs.length = 2) (h0 : cs[0]? = some a) (h1 : cs[1]? = some b) : cs = [a, b] := by
  match cs, hl with
  | [x, y], _ => simp at h0 h1; simp [h0, h1]
theorem of_cells3 {cs : List Value} {a b c : Value} (hl : cs.length = 3) (h0 : cs[0]? = some a) (h1 : cs[1]? = some b) (h2 : cs[2]? = some c) : cs = [a, b, c] := by
  match cs, hl with
  | [x, y, z], _ => simp at h0 h1 h2; simp [h0, h1, h2]
theorem opens_int_ : Opens Tryz.prog w (Kd.int .i64) 3 := opens_int Tryz.underlying3
theorem opens_ints : Opens Tryz.prog w (Kd.slice 3 (Kd.int .i64)) 46 := opens_slice Tryz.underlying46 (by kernel_rfl) opens_int_
def laidL : List (String × DataW Unit) := [("math/bits.deBruijn32tab", Rows.laid_math_bits_deBruijn32tab), ("math/bits.deBruijn64tab", Rows.laid_math_bits_deBruijn64tab), ("internal/strconv.uint64pow10", Rows.laid_internal_strconv_uint64pow10), ("unicode/utf8.acceptRanges", Rows.laid_unicode_utf8_acceptRanges), ("strconv.ErrRange", Rows.laid_strconv_ErrRange), ("strconv.ErrSyntax", Rows.laid_strconv_ErrSyntax), ("unicode/utf8.first", Rows.laid_unicode_utf8_first)]
theorem type_of {n : String} {g t T : Nat} (hT : ((Tryz.prog.globalNamed n).bind fun g => (Tryz.prog.globals[g]?).map (·.type)) = some T) (hg : Tryz.prog.globalNamed n = some g) (ht : (Tryz.prog.globals[g]?).map (·.type) = some t) : t = T := by
  rw [hg] at hT
  exact Option.some.inj (ht.symm.trans hT)
theorem glob_of_laid {W : World} (hsh : W.ShapedOpen Tryz.prog) (h : laidMetH Tryz.prog laidL W) : Glob W := by
  rw [MakeChecks.laidMetH_plain _ _ _ (by kernel_rfl)] at h
  obtain ⟨ps, ⟨g1, t1, c1, f1, p1, q1, _, _, _, _, ⟨g2, t2, c2, f2, p2, q2, _, _, _, _, ⟨g3, t3, c3, f3, p3, q3, hg3, ht3, hv3, hd3, ⟨g4, t4, c4, f4, p4, q4, _, _, _, _, ⟨g5, t5, c5, f5, p5, q5, hg5, ht5, hv5, hd5, ⟨g6, t6, c6, f6, p6, q6, hg6, ht6, hv6, hd6, _⟩, _⟩, _⟩, _⟩, _⟩, _⟩, _⟩ := h
  obtain rfl := type_of (T := 178) (by kernel_rfl) hg3 ht3
  obtain rfl := type_of (T := 120) (by kernel_rfl) hg5 ht5
  obtain rfl := type_of (T := 120) (by kernel_rfl) hg6 ht6
  refine ⟨hsh, ?_, ?_, ?_⟩
  · obtain ⟨_, u, v, hc, _⟩ := iface_of_trod Tryz.underlying120 hd6
    exact ⟨u, v, by rw [hv6]; congr 1; exact Array.ext' (by simpa using hc)⟩
  · obtain ⟨_, u, v, hc, _⟩ := iface_of_trod Tryz.underlying120 hd5
    exact ⟨u, v, by rw [hv5]; congr 1; exact Array.ext' (by simpa using hc)⟩
  · have hd : DataW.trod (fun _ => ()) Tryz.prog W 0 (fun _ => true) false f3 178 c3.toList = some (Lib.tabData .u64 Lib.pow10Tab, p3) := hd3
    unfold Lib.TabIs
    rw [hv3, ← Lib.cells_of_tab Tryz.underlying178 Tryz.underlying154 (by kernel_rfl) (by kernel_rfl) hd]
end Go.Proofs.YtfmpaofbnjlniaaGreatDoor.F
/- Arguments of seat ZD's rows: a change, symbols, bytes. -/
namespace Go.Proofs.YtfmpaofbnjlniaaGreatDoor.F
open Go.RowKit Go.WideShapes Go.ChangeShapes Go.ChangeAt Go.Proofs.YtfmpaofbnjlniaaGreatDoorW.PrintWords Go.Proofs.YtfmpaofbnjlniaaGreatDoorW.PrintLast Go.Proofs.YtfmpaofbnjlniaaGreatDoorW.PrintMore
set_option linter.unusedVariables false
theorem opens_bool_ {w : World} : Opens Tryz.prog w Kd.bool 4 := fun enc m cs x h => by
  obtain ⟨b, rfl, _, _⟩ := DataW.trod_bool Tryz.underlying4 h
  exact ⟨b, rfl⟩
theorem opens_change {w : World} {H : Type} (enc : TypeId × Value → H) (m : Nat) (cs : List Value) (x : DataW H × List MemPlace) (h : DataW.trod enc Tryz.prog w 0 (fun _ => true) true m 48 cs = some x) :
    ∃ (s : ByteArray) (l : List Int) (A : Option Addr) (c : Nat) (b : Bool), cs = [.string s, .slice A l.length c, .bool b] ∧ l.length ≤ c ∧ (Kd.int .i64).C w A l.length l := by
  obtain ⟨y0, y1, y2, n, _, hl, h0, h1, h2⟩ := Go.Deep.trod_struct3 Tryz.underlying48 h
  rw [show Tryz.prog.cellsOf 48 = 3 by kernel_rfl] at hl
  rw [show Tryz.prog.cellsOf 9 = 1 by kernel_rfl] at h0
  rw [show Tryz.prog.cellsOf 46 = 1 by kernel_rfl] at h1
  rw [show Tryz.prog.cellsOf 4 = 1 by kernel_rfl] at h2
  obtain ⟨s, e0⟩ := opens_string Tryz.underlying9 enc _ _ _ h0
  obtain ⟨l, A, c, e1, hlc, hC⟩ := opens_ints enc _ _ _ h1
  obtain ⟨b, e2⟩ := opens_bool_ enc _ _ _ h2
  rw [of_cells3 hl (one_cell e0) (one_cell e1) (one_cell e2)]
  exact ⟨s, l, A, c, b, rfl, hlc, hC⟩
theorem opens_symbol {w : World} : Opens Tryz.prog w k96 96 := fun enc m cs x h => by
  obtain ⟨y0, y1, n, _, hl, h0, h1⟩ := trod_struct2 Tryz.underlying96 h
  rw [show Tryz.prog.cellsOf 96 = 2 by kernel_rfl] at hl
  rw [show Tryz.prog.cellsOf 9 = 1 by kernel_rfl] at h0
  rw [show Tryz.prog.cellsOf 3 = 1 by kernel_rfl] at h1
  obtain ⟨s, e0⟩ := opens_string Tryz.underlying9 enc _ _ _ h0
  obtain ⟨a, e1⟩ := opens_int_ enc _ _ _ h1
  rw [of_cells2 hl (one_cell e0) (one_cell e1)]
  exact ⟨⟨s, a⟩, k96_mk w ⟨s, a⟩⟩
theorem opens_symbols {w : World} : Opens Tryz.prog w (Kd.slice 96 k96) 38 := opens_slice Tryz.underlying38 (by kernel_rfl) opens_symbol
end Go.Proofs.YtfmpaofbnjlniaaGreatDoor.F
/- Arguments of seat ZD's rows: numbers, with their range. -/
namespace Go.Proofs.YtfmpaofbnjlniaaGreatDoor.F
open Go.RowKit Go.WideShapes Go.ChangeShapes Go.ChangeAt Go.Proofs.YtfmpaofbnjlniaaGreatDoorW.PrintWords Go.Proofs.YtfmpaofbnjlniaaGreatDoorW.PrintLast Go.Proofs.YtfmpaofbnjlniaaGreatDoorW.PrintMore
set_option linter.unusedVariables false
def kI : Kd Int where
  sz := 1
  E := []
  K := fun _ x cs => cs = [.int .i64 x] ∧ (-9223372036854775808 ≤ x ∧ x ≤ 9223372036854775807)
  M := fun _ _ _ x cs => cs = [.int .i64 x] ∧ (-9223372036854775808 ≤ x ∧ x ≤ 9223372036854775807)
  K_len := by
    rintro w x cs ⟨rfl, _⟩
    rfl
  K_one := by
    rintro w x cs ⟨rfl, _⟩ u hu
    rw [List.mem_singleton.1 hu]
    rfl
  K_below := fun _ h => h
  K_of_M := fun h => h
  M_mono := fun _ h => h
  M_bound := fun h => h
  M_move := fun _ h => h
  M_lower := fun _ h => h
theorem opens_kI {w : World} : Opens Tryz.prog w kI 3 := fun enc m cs x h => by
  obtain ⟨n, rfl, _, hw⟩ := DataW.trod_int Tryz.underlying3 h
  refine ⟨n, rfl, ?_⟩
  simp only [Lit.wf, IntKind.min, IntKind.max, IntKind.signed, IntKind.bits, Bool.and_eq_true, decide_eq_true_eq] at hw
  simpa using hw
theorem opens_kIs {w : World} : Opens Tryz.prog w (Kd.slice 3 kI) 46 := opens_slice Tryz.underlying46 (by kernel_rfl) opens_kI
theorem opens_intsR {w : World} {H : Type} (enc : TypeId × Value → H) (m : Nat) (cs : List Value) (x : DataW H × List MemPlace) (h : DataW.trod enc Tryz.prog w 0 (fun _ => true) true m 46 cs = some x) :
    ∃ (l : List Int) (A : Option Addr) (c : Nat), cs = [.slice A l.length c] ∧ l.length ≤ c ∧ (Kd.int .i64).C w A l.length l ∧ ∀ x ∈ l, -9223372036854775808 ≤ x ∧ x ≤ 9223372036854775807 := by
  obtain ⟨l, A, c, e, hlc, hC⟩ := opens_kIs enc _ _ _ h
  refine ⟨l, A, c, e, hlc, ReadsRow.imp_ hC (Below.refl _ _) (fun x cs hp => ?_), fun x hx => ?_⟩
  · exact hp.1
  · obtain ⟨_, _, h2⟩ := hC
    obtain ⟨j, hj, rfl⟩ := List.mem_iff_getElem.1 hx
    obtain ⟨ad, _, h3⟩ := h2 (by omega)
    obtain ⟨cc, _, hK, _⟩ := h3 j _ (List.getElem?_eq_getElem hj)
    exact hK.2
def kB : Kd Int where
  sz := 1
  E := []
  K := fun _ x cs => cs = [.int .u8 x] ∧ (0 ≤ x ∧ x ≤ 255)
  M := fun _ _ _ x cs => cs = [.int .u8 x] ∧ (0 ≤ x ∧ x ≤ 255)
  K_len := by
    rintro w x cs ⟨rfl, _⟩
    rfl
  K_one := by
    rintro w x cs ⟨rfl, _⟩ u hu
    rw [List.mem_singleton.1 hu]
    rfl
  K_below := fun _ h => h
  K_of_M := fun h => h
  M_mono := fun _ h => h
  M_bound := fun h => h
  M_move := fun _ h => h
  M_lower := fun _ h => h
end Go.Proofs.YtfmpaofbnjlniaaGreatDoor.F
/- The rows' arguments opened into the kinds, with the bounds that the form's own reach gives. -/
namespace Go.Proofs.YtfmpaofbnjlniaaGreatDoor.F
open Go.RowKit Go.WideShapes Go.ChangeShapes Go.ChangeAt Go.Proofs.YtfmpaofbnjlniaaGreatDoorW.PrintWords Go.Proofs.YtfmpaofbnjlniaaGreatDoorW.PrintLast Go.Proofs.YtfmpaofbnjlniaaGreatDoorW.PrintMore
set_option linter.unusedVariables false
/-- What can be read as data at type t, and weighs no more than the reach, is of kind d and meets p. -/
def OpensB (P : Program) (w : World) {α : Type} (d : Kd α) (t : TypeId) (p : α → Prop) : Prop :=
  ∀ {H : Type} (enc : TypeId × Value → H) (m : Nat) (cs : List Value) (x : DataW H × List MemPlace), DataW.trod enc P w 0 (fun _ => true) true m t cs = some x → (∀ n ∈ x.1.weights P t, n ≤ reachBytes) → ∃ y, d.K w y cs ∧ p y
section
variable {P : Program} {w : World}
theorem OpensB.of {α : Type} {d : Kd α} {t : TypeId} (h : Opens P w d t) : OpensB P w d t (fun _ => True) := fun enc m cs x hx _ => by
  obtain ⟨y, hy⟩ := h enc m cs x hx
  exact ⟨y, hy, trivial⟩
theorem mem_weightsAll {H : Type} {e : TypeId} {d : DataW H} : ∀ {l : List (DataW H)}, d ∈ l → ∀ n ∈ d.weights P e, n ∈ DataW.weightsAll P e l
  | a :: l, h, n, hn => by
    simp only [DataW.weightsAll, List.mem_append]
    rcases List.mem_cons.1 h with rfl | h
    · exact Or.inl hn
    · exact Or.inr (mem_weightsAll h n hn)
theorem opensB_slice {t e : TypeId} {α : Type} {d : Kd α} {p : α → Prop} (ht : P.underlying t = some (.slice e)) (hc : P.cellsOf e = d.sz) (hd : OpensB P w d e p) : OpensB P w (Kd.slice e d) t (fun l => l.length * P.bytesOf e ≤ reachBytes ∧ ∀ y ∈ l, p y) := fun enc m cs x h hw => by
  rcases DataW.trod_slice ht h with ⟨rfl, _⟩ | ⟨a, len, cap, elems, rest, n, _, rfl, hx, _, hle, hmax, hlen, hel, _, _⟩
  · exact ⟨[], ⟨none, 0, rfl, Nat.le_refl _, rfl, Nat.zero_le _, fun h => absurd h (by simp)⟩, by simp, fun y hy => by cases hy⟩
  · subst hx
    simp only [DataW.weights, ht, List.length_map, List.mem_cons, List.mem_append] at hw
    have hb := hw _ (Or.inl rfl)
    obtain ⟨ys, hl, hy⟩ := list_of (Q := fun i y => p y ∧ ∃ c, c.length = d.sz ∧ d.K w y c ∧ ∀ j u, c[j]? = some u → w.cell? (a.add (i * d.sz + j)) = some u) len (fun i hi => by
      have he := hel i hi
      rw [List.getElem?_eq_getElem (by omega : i < elems.length)] at he
      obtain ⟨c, hc1, hc2⟩ := Option.bind_eq_some_iff.1 he
      obtain ⟨_, h1, h2⟩ := World.cells?_some hc1
      obtain ⟨y, hy, hp⟩ := hd enc _ _ _ hc2 (fun n hn => hw n (Or.inr (Or.inl (mem_weightsAll (List.mem_map.2 ⟨_, List.getElem_mem _, rfl⟩) n hn))))
      refine ⟨y, hp, c, by rw [h1, hc], hy, fun j u hj => ?_⟩
      have hjl := (List.getElem?_eq_some_iff.1 hj).1
      have := h2 j (by omega)
      rw [hc] at this
      rw [← hj, ← this]
      exact congrArg w.cell? (Addr.add_add a _ _).symm)
    refine ⟨ys, ⟨some a, cap, by rw [hl], by omega, hl ▸ rfl, by rw [hl]; exact Nat.le_trans hle hmax, fun _ => ⟨a, rfl, fun j q hj => (hy j q hj).2⟩⟩, ?_, fun y hy' => ?_⟩
    · rw [hl, ← hlen]
      exact Nat.le_trans (Nat.mul_le_mul_right _ (Nat.le_add_right _ _)) hb
    · obtain ⟨j, hj, rfl⟩ := List.mem_iff_getElem.1 hy'
      exact (hy j _ (List.getElem?_eq_getElem hj)).1
end
variable {w : World}
theorem opensB_ints : OpensB Tryz.prog w (Kd.slice 3 (Kd.int .i64)) 46 (fun l => l.length ≤ 17592186044416) := fun enc m cs x h hw => by
  obtain ⟨y, hy, h1, _⟩ := opensB_slice Tryz.underlying46 (by kernel_rfl) (OpensB.of opens_int_) enc m cs x h hw
  refine ⟨y, hy, ?_⟩
  rw [show Tryz.prog.bytesOf 3 = 8 by kernel_rfl] at h1
  have := reachBytes_lt
  omega
theorem opensB_tuples : OpensB Tryz.prog w (Kd.slice 46 (Kd.slice 3 (Kd.int .i64))) 50 (fun l => l.length ≤ 17592186044416 ∧ ∀ t ∈ l, t.length ≤ 17592186044416) := fun enc m cs x h hw => by
  obtain ⟨y, hy, h1, h2⟩ := opensB_slice Tryz.underlying50 (by kernel_rfl) opensB_ints enc m cs x h hw
  refine ⟨y, hy, ?_, h2⟩
  rw [show Tryz.prog.bytesOf 46 = 24 by kernel_rfl] at h1
  have := reachBytes_lt
  omega
theorem opensB_rel : OpensB Tryz.prog w k52 52 (fun r => r.f2.length ≤ 17592186044416 ∧ ∀ t ∈ r.f2, t.length ≤ 17592186044416) := fun enc m cs x h hw => by
  obtain ⟨y0, y1, y2, n, hx, hl, h0, h1, h2⟩ := Go.Deep.trod_struct3 Tryz.underlying52 h
  subst hx
  rw [show Tryz.prog.cellsOf 52 = 3 by kernel_rfl] at hl
  rw [show Tryz.prog.cellsOf 9 = 1 by kernel_rfl] at h0
  rw [show Tryz.prog.cellsOf 3 = 1 by kernel_rfl] at h1
  rw [show Tryz.prog.cellsOf 50 = 1 by kernel_rfl] at h2
  obtain ⟨s, e0⟩ := opens_string Tryz.underlying9 enc _ _ _ h0
  obtain ⟨a, e1⟩ := opens_int_ enc _ _ _ h1
  obtain ⟨l, ⟨A, c, e2, hlc, hC⟩, hq⟩ := opensB_tuples enc _ _ _ h2 (fun n hn => hw n (by
    simp only [DataW.weights, Tryz.underlying52]
    exact DataW.weights_mem_each (j := 2) rfl rfl n hn))
  rw [of_cells3 hl (one_cell e0) (one_cell e1) (one_cell e2)]
  exact ⟨⟨s, a, l⟩, k52_mk w ⟨s, a, l⟩ hlc hC, hq⟩
theorem opensB_structure : OpensB Tryz.prog w k24 24 (fun s => ∀ r ∈ s.f1, r.f2.length ≤ 17592186044416 ∧ ∀ t ∈ r.f2, t.length ≤ 17592186044416) := fun enc m cs x h hw => by
  obtain ⟨y0, y1, n, hx, hl, h0, h1⟩ := trod_struct2 Tryz.underlying24 h
  subst hx
  rw [show Tryz.prog.cellsOf 24 = 2 by kernel_rfl] at hl
  rw [show Tryz.prog.cellsOf 3 = 1 by kernel_rfl] at h0
  rw [show Tryz.prog.cellsOf 22 = 1 by kernel_rfl] at h1
  obtain ⟨a, e0⟩ := opens_int_ enc _ _ _ h0
  obtain ⟨l, ⟨A, c, e1, hlc, hC⟩, _, hq⟩ := opensB_slice Tryz.underlying22 (by kernel_rfl) opensB_rel enc _ _ _ h1 (fun n hn => hw n (by
    simp only [DataW.weights, Tryz.underlying24]
    exact DataW.weights_mem_each (j := 1) rfl rfl n hn))
  rw [of_cells2 hl (one_cell e0) (one_cell e1)]
  exact ⟨⟨a, l⟩, k24_mk w ⟨a, l⟩ hlc hC, hq⟩
theorem opens_own {H : Type} (enc : TypeId × Value → H) (m : Nat) (cs : List Value) (x : DataW H × List MemPlace) (h : DataW.trod enc Tryz.prog w 0 (fun _ => true) true m 68 cs = some x) :
    ∃ (pm : List Int) (A : Option Addr) (c : Nat) (sy : List S96) (B : Option Addr) (d : Nat), cs = [.slice A pm.length c, .slice B sy.length d] ∧ pm.length ≤ c ∧ (Kd.int .i64).C w A pm.length pm ∧ (∀ x ∈ pm, -9223372036854775808 ≤ x ∧ x ≤ 9223372036854775807) ∧ sy.length ≤ d ∧ Kd.C k96 w B sy.length sy := by
  obtain ⟨y0, y1, n, _, hl, h0, h1⟩ := trod_struct2 Tryz.underlying68 h
  rw [show Tryz.prog.cellsOf 68 = 2 by kernel_rfl] at hl
  rw [show Tryz.prog.cellsOf 46 = 1 by kernel_rfl] at h0
  rw [show Tryz.prog.cellsOf 38 = 1 by kernel_rfl] at h1
  obtain ⟨pm, A, c, e0, hlc, hC, hR⟩ := opens_intsR enc _ _ _ h0
  obtain ⟨sy, B, d, e1, hld, hD⟩ := opens_symbols enc _ _ _ h1
  rw [of_cells2 hl (one_cell e0) (one_cell e1)]
  exact ⟨pm, A, c, sy, B, d, rfl, hlc, hC, hR, hld, hD⟩
/-- The wrap that hands on the listed variables' condition, the world's shape and the reach. -/
theorem returns_and_sized {H : Type} {enc : TypeId × Value → H} {a : Assume} {C : Checked} {os : Os} {f : FuncId} {fn : Func} {s : ChangeSpec} {conds : List PathCond} {apart fresh handsOn again : Bool} {X : World → Array Value → Prop}
    (hX : ∀ (w w' : World) (args : Array Value), w.heap = w'.heap → X w args → X w' args)
    (own : ownKnob C.prog.godebug = none) (started : os.Started) (noInit : C.prog.inits.idxOf? f = none) (hfn : C.prog.funcs[f]? = some fn)
    (witness : ∃ (w : World) (tape : Tape) (i : Input), w.os = os ∧ (w.forCall tape i).Shaped C.prog ∧ i.vars = [] ∧ Input.okWide C.prog (w.forCall tape i) .any w.heap.size f i ∧
      ((s.pre enc C.prog fn conds apart (w.forCall tape i).memory i.args ∧ X (w.forCall tape i).memory i.args) ∧ sizedMet enc C.prog fn (OpenSpec.ofChange s) apart (w.forCall tape i).memory i.args) ∧ a.holds C.prog (lone (Frame.enter C.prog f i.args .normal) [] (w.forCall tape i)))
    (contract : ∀ (W : World) (base : Nat) (args : Array Value) (ds gs : List (DataW H)) (before : List MemPlace),
      (∀ (j : Nat) t v, fn.params[j]? = some t → args[j]? = some v → Value.okWide C.prog W .any base t v) →
      DataW.Whole enc C.prog fn.params.toList s.vars apart W args.toList ds gs before →
      (DataW.weightsEach C.prog (fn.params.toList ++ s.plain.varTypes C.prog) (ds ++ gs)).all (· ≤ reachBytes) = true →
      W.ShapedOpen C.prog → X W args →
      Calls C.prog f args W fun e W' => ∃ v, e = .returned v ∧ s.post enc C.prog fn apart fresh handsOn again W args v W') :
    ReturnsInHanded a C os f .any (fun w args => (s.pre enc C.prog fn conds apart w args ∧ X w args) ∧ sizedMet enc C.prog fn (OpenSpec.ofChange s) apart w args) (s.post enc C.prog fn apart fresh handsOn again) := by
  refine returnsInHanded_of_calls own started noInit witness ?_
  intro w tape i _ hsh _ hok hpre hholds
  obtain ⟨_, _, _, fn', hfn', _, _, _, _, hval⟩ := hok
  have e : fn' = fn := Option.some.inj (hfn'.symm.trans hfn)
  subst e
  obtain ⟨⟨⟨ds, gs, before, hw, hc⟩, hx⟩, hz⟩ := hpre
  have hw' := DataW.Whole.of_heap (w' := w.forCall tape i) (by rfl) hw
  refine (contract (w.forCall tape i) w.heap.size i.args ds gs before hval hw' (hz.weights hw) hsh (hX _ _ _ (by rfl) hx)).mono fun e W' ⟨v, he, hp⟩ => ?_
  subst he
  exact ChangeSpec.post_blind hp
end Go.Proofs.YtfmpaofbnjlniaaGreatDoor.F
/- Short words for the printed proofs (squeeze.py): the steps of a region, and what lies where behind an event. -/
namespace Go.Proofs.YtfmpaofbnjlniaaGreatDoor.F
open Go.RowKit Go.Proofs.YtfmpaofbnjlniaaGreatDoorW.PrintWords Go.Proofs.YtfmpaofbnjlniaaGreatDoorW.PrintLast Go.Proofs.YtfmpaofbnjlniaaGreatDoorW.PrintMore
set_option linter.unusedVariables false
section
variable {P : Program} {ops : Array Oper} {Q : Exit → Act → World → Prop} {md : Region.Mode} {S : World → Prop} {ds : List Nat}
theorem sPu (i : Nat) (N : Option Tmp) {oi : Oper} {v : Value} {fuel : Nat} {l : Array Bool} {a : Act} {w : World} {T : Bool × List (List Nat × List Nat)} {a' : Act} (h : wpAnyLast P md ops Q S ds fuel (l.toList.set i true).toArray a' w)
    (HT : rtab md ops = T := by exact HT_.out)
    (hi : ops[i]? = some oi := by rfl) (hN : oi.dst = N := by rfl) (hc : anyT T l.toList (l.toList.set i true) i = true := by kernel_rfl) (hq : ∀ c a w, Q (.panic c) (a.put oi.dst v) w → Q (.panic c) a w := by exact fun _ _ _ h => h)
    (hw : Region.wanted oi (yielded ops a.tmps) = true := by rfl) (hy : ∀ w, (execOp a.eval oi).run P w = .ok (.value v) w := by (intro w'; go_simp; with_reducible rfl)) (ha : a.put N v = a' := by (simp only [Act.put, List.setIfInBounds_toArray, List.set_cons_zero, List.set_cons_succ, i64_w, i32_w]; rfl)) : wpAnyLast P md ops Q S ds (fuel + 1) l a w :=
  pure_ (l.toList.set i true).toArray hi hN (any_of HT hc) hq (Or.inl ⟨hw, hy⟩) ha h
theorem sTk (i : Nat) (N : Option Tmp) {oi : Oper} {v : Value} {fuel : Nat} {l : Array Bool} {a : Act} {w : World} {T : Bool × List (List Nat × List Nat)} {B : List Nat} {a' : Act} (h : wpAnyLast P md ops Q S ds fuel (l.toList.set i true).toArray a' w)
    (HT : rtab md ops = T := by exact HT_.out) (HW : waitsOk T.2 B = true := by exact HW_.out)
    (hi : ops[i]? = some oi := by rfl) (hN : oi.dst = N := by rfl) (hc : takeW T B ds l.toList (l.toList.set i true) i = true := by kernel_rfl) (hq : ∀ c a w, Q (.panic c) (a.put oi.dst v) w → Q (.panic c) a w := by exact fun _ _ _ h => h)
    (hw : Region.wanted oi (yielded ops a.tmps) = true := by rfl) (hy : ∀ w, S w → (execOp a.eval oi).run P w = .ok (.value v) w := by (intro w' s0; go_simp; with_reducible rfl)) (hS : S w := by exact hHeld) (ha : a.put N v = a' := by (simp only [Act.put, List.setIfInBounds_toArray, List.set_cons_zero, List.set_cons_succ, i64_w, i32_w]; rfl)) : wpAnyLast P md ops Q S ds (fuel + 1) l a w :=
  take_ (l.toList.set i true).toArray hi hN (take_ofW HT HW hc) hq (Or.inl ⟨hw, hy⟩) hS ha h
theorem sOn (i : Nat) (N : Option Tmp) {oi : Oper} {fuel : Nat} {l : Array Bool} {a : Act} {w : World} {T : Bool × List (List Nat × List Nat)} (h : ∀ K : Act → World → Prop, Shut (∀ a' w', S w' → (S w' → wpAnyLast P md ops Q S ds fuel (l.toList.set i true).toArray a' w') → K a' w') → if Region.wanted oi (yielded ops a.tmps) = true then Oper.wp P oi a w K Q else K (a.put N undef) w)
    (HT : rtab md ops = T := by exact HT_.out)
    (hi : ops[i]? = some oi := by rfl) (hN : oi.dst = N := by rfl) (hc : (readyT T.2 l.toList == [i] && l.toList.set i true == l.toList.set i true) = true := by kernel_rfl) (hd : i ∉ ds := by decide) :
    wpAnyLast P md ops Q S ds (fuel + 1) l a w := one_ (l.toList.set i true).toArray hi hN (one_of HT hc) hd h
end
theorem bel {b : Nat} {w W : World} (h : Below b w W := by repeat (first | (with_reducible first | exact HB.out | apply below_alloc | apply pw_below_drewN | apply below_drew1 | refine below_set ?_ (Aside0.out (by assumption))) | exact HB.out)) : Below b w W := h
theorem bk {p q : Prop} (B : Aside0 p) (h : p → q := by (intro h_; (with_reducible repeat (first | refine blk_drewN ?_ _ | refine blk_drew ?_ | refine blk_alloc ?_ _)); exact h_)) : q := h B.out
theorem blB {W W' W2 : World} {g : Nat} {o : Obj} (B : Aside0 (W.heap[g]? = some o)) (hb : Below W'.heap.size W' W2) (h : W.heap[g]? = some o → W'.heap[g]? = some o := by (intro h_; (with_reducible repeat (first | refine blk_drewN ?_ _ | refine blk_drew ?_ | refine blk_alloc ?_ _)); exact h_)) : Aside0 (W2.heap[g]? = some o) := ⟨blk_below (h B.out) hb⟩
theorem neL {W W' : World} {g g2 : Nat} {o : Obj} (B : Aside0 (W.heap[g]? = some o)) (hg : g2 = W'.heap.size) (h : W.heap[g]? = some o → W'.heap[g]? = some o := by (intro h_; (with_reducible repeat (first | refine blk_drewN ?_ _ | refine blk_drew ?_ | refine blk_alloc ?_ _)); exact h_)) : Aside0 (g ≠ g2) := ⟨hg ▸ Nat.ne_of_lt (blk_lt (h B.out))⟩
theorem neG {W W' : World} {g g2 : Nat} {o : Obj} (B : Aside0 (W.heap[g]? = some o)) (hg : g2 = W'.heap.size) (h : W.heap[g]? = some o → W'.heap[g]? = some o := by (intro h_; (with_reducible repeat (first | refine blk_drewN ?_ _ | refine blk_drew ?_ | refine blk_alloc ?_ _)); exact h_)) : Aside0 (g2 ≠ g) := ⟨hg ▸ Nat.ne_of_gt (blk_lt (h B.out))⟩
theorem geB {W' : World} (w : World) {g2 : Nat} (hg : g2 = W'.heap.size) (h : Below w.heap.size w W' := by exact bel) : Aside0 (w.heap.size ≤ g2) := ⟨hg ▸ below_size h⟩
theorem bq2 {W : World} {g : Nat} {t : TypeId} {a b : Value} (h : Aside0 (W.heap[g]? = some (.cells #[a, b] t (0, 0)))) : W.cell? ⟨g, 0, none⟩ = some a ∧ W.cell? ⟨g, 1, none⟩ = some b ∧ W.frozen? ⟨g, 0, none⟩ = false ∧ W.frozen? ⟨g, 1, none⟩ = false := ⟨blk_cell h.out 0, blk_cell h.out 1, blk_frozen h.out 0, blk_frozen h.out 1⟩
theorem bq3 {W : World} {g : Nat} {t : TypeId} {a b c : Value} (h : Aside0 (W.heap[g]? = some (.cells #[a, b, c] t (0, 0)))) : W.cell? ⟨g, 0, none⟩ = some a ∧ W.cell? ⟨g, 1, none⟩ = some b ∧ W.cell? ⟨g, 2, none⟩ = some c ∧ W.frozen? ⟨g, 0, none⟩ = false ∧ W.frozen? ⟨g, 1, none⟩ = false ∧ W.frozen? ⟨g, 2, none⟩ = false := ⟨blk_cell h.out 0, blk_cell h.out 1, blk_cell h.out 2, blk_frozen h.out 0, blk_frozen h.out 1, blk_frozen h.out 2⟩
/-- An old cell, behind what was made since. -/
theorem oc {w W : World} {p : Addr} {v : Value} (h : w.cell? p = some v) (hb : Below w.heap.size w W := by first | exact HB.out | exact bel) : W.cell? p = some v := (hb.cell (World.block_lt_of_cell? w _ h)).trans h
theorem dtr {p : Prop} [Decidable p] (h : decide p = true := by first | (with_reducible assumption) | assumption) : p := of_decide_eq_true h
theorem eN {p : Prop} (h : p := by first | rfl | (simp [errW_none, errW_some] <;> rfl) | (simp [*, errW_none, errW_some] <;> rfl)) : p := h
theorem eS {p : Prop} (h : p := by first | rfl | (simp; done) | (simp [*]; done)) : p := h
theorem kle {a b : Nat} (h : a ≤ b := by first | omega | exact Nat.le_refl _) : a ≤ b := h
theorem dr0 {w W : World} (h : Drawn0 w W := by repeat (first | exact Drawn0.refl _ | apply Drawn0.step)) : Drawn0 w W := h
theorem hb0 {W : World} {v : Value} {g : Nat} (h : ∀ k, v.ownBlock = some k → g ≤ k) : ∀ k, v.ownBlock = some k → g ≤ k := h
theorem tw {p q : Prop} (x : p) (h : p → q := by (intro h_; (with_reducible repeat (first | apply Kd.V_alloc | apply Kd.V_drewN | apply Kd.V_drew | apply Kd.N_alloc | apply Kd.N_drewN | apply Kd.N_drew | apply Kd.R_alloc | apply Kd.R_drewN | apply Kd.R_drew)); exact h_)) : q := h x
theorem cS {α : Type} {d : Kd α} {A : Option Addr} {n : Nat} {xs : List α} {W W' : World} (x : d.C W A n xs) (h : d.C W A n xs → d.C W' A n xs := by (intro h_; repeat (first | exact h_ | (with_reducible refine Kd.C_alloc ?_ _) | (with_reducible refine Kd.C_drewN ?_ _) | (with_reducible refine Kd.C_drew ?_)))) : d.C W' A n xs := h x
section
variable {P : Program} {ops : Array Oper} {Q : Exit → Act → World → Prop}
theorem gL {rest : List Oper} {oi : Oper} {a : Act} {w : World} (N : Option Tmp) {f : FuncId} {fn : Func} {as_ : Array Operand} {ts : Array TypeId} (hf : P.funcs[f]? = some fn) (args : Array Value) (h : Calls P f args w fun e w' => ∃ v, e = .returned v ∧ wpList P ops Q rest (a.put N v) w')
    (hd : oi.dst = N := by rfl) (hg : oi.guard = none := by rfl)
    (hname : (fn.name == "runtime.NumGoroutine") = false := by kernel_rfl) (hb : fn.body.isSome = true := by rfl) (hop : oi.op = .call { callee := .value (.func f), args := as_, argTypes := ts } := by rfl)
    (hargs : as_.map a.eval = args := by ((try simp only [List.map_toArray, List.map_cons, List.map_nil]); first | done | rfl | (simp only [List.length_drop, List.length_take]; rfl))) : wpList P ops Q (oi :: rest) a w := goesL_ N hd hg hf hname hb args hop hargs h
end
theorem rD {α : Type} {d : Kd α} {e base : Nat} {ok : Nat → Prop} {W W' W2 : World} {v : Value} {xs : List α} (B : Aside0 (d.R e W base ok v xs)) (hb : Below W'.heap.size W' W2)
    (h : d.R e W base ok v xs → d.R e W' base ok v xs := by (intro h_; (with_reducible repeat (first | apply Kd.R_alloc | apply Kd.R_drewN | apply Kd.R_drew)); exact h_)) : Aside0 (d.R e W2 base ok v xs) := ⟨Kd.R_below (h B.out) hb⟩
theorem rE {α : Type} {d : Kd α} {e base : Nat} {ok : Nat → Prop} {W W' W2 : World} {v : Value} {xs : List α} (B : Aside0 (d.R e W base ok v xs)) {u : Value} (hu : ∀ k, u.ownBlock = some k → W'.heap.size ≤ k) (hb : Below W'.heap.size W' W2)
    (h : d.R e W base ok v xs → d.R e W' base ok v xs := by (intro h_; (with_reducible repeat (first | apply Kd.R_alloc | apply Kd.R_drewN | apply Kd.R_drew)); exact h_)) : Aside0 (d.R e W2 base (fun k => ok k ∧ some k ≠ u.ownBlock) v xs) := ⟨Kd.R_elder' (h B.out) hu hb⟩
end Go.Proofs.YtfmpaofbnjlniaaGreatDoor.F
namespace Go.Proofs.YtfmpaofbnjlniaaGreatDoor.F
open Go.RowKit Go.Proofs.YtfmpaofbnjlniaaGreatDoorW.PrintWords Go.Proofs.YtfmpaofbnjlniaaGreatDoorW.PrintLast Go.Proofs.YtfmpaofbnjlniaaGreatDoorW.PrintMore
attribute [local go_sem] max2_int min2_int max_two min_two max_three min_three max_four min_four
set_option linter.unusedVariables false
set_option linter.unusedSimpArgs false
/-! ### shape_letter: function 92 -/
def shape_letter.f (a0 : Int) : Option (Bool) := if a0 ≥ 97 then (if a0 ≤ 122 then (some true) else (if a0 ≥ 65 then (some (decide (a0 ≤ 90))) else (some false))) else (if a0 ≥ 65 then (some (decide (a0 ≤ 90))) else (some false))
set_option maxHeartbeats 8000000 in
set_option maxRecDepth 100000 in
theorem shape_letter.calls (a0 : Int) (r : Bool) (w : World) (h : shape_letter.f a0 = some r) :
  Calls Tryz.prog 92 #[.int .u8 a0] w fun e w' => e = .returned (.bool r) ∧ Drawn0 w w' := by
 have H : (if a0 ≥ 97 then (if a0 ≤ 122 then (some true) else (if a0 ≥ 65 then (some (decide (a0 ≤ 90))) else (some false))) else (if a0 ≥ 65 then (some (decide (a0 ≤ 90))) else (some false))) = some r := h
 clear h
 by_cases c2 : a0 ≥ 97
 ·rw [if_pos c2] at H
  have c2b0 : decide (97 ≤ a0) = true := decide_eq_true c2
  clear c2
  by_cases c3 : a0 ≤ 122
  ·rw [if_pos c3] at H
   have c3b0 : decide (a0 ≤ 122) = true := decide_eq_true c3
   clear c3
   obtain rfl := Option.some.inj H
   go_enter Tryz.func92, Tryz.ntmps92
   go_wp2
   go_ret
   exact ⟨eS, dr0⟩
  ·rw [if_neg c3] at H
   have c3b0 : decide (a0 ≤ 122) = false := decide_eq_false c3
   clear c3
   by_cases c4 : a0 ≥ 65
   ·rw [if_pos c4] at H
    have c4b0 : decide (65 ≤ a0) = true := decide_eq_true c4
    clear c4
    obtain rfl := Option.some.inj H
    go_enter Tryz.func92, Tryz.ntmps92
    go_wp2
    go_ret
    exact ⟨eS, dr0⟩
   ·rw [if_neg c4] at H
    have c4b0 : decide (65 ≤ a0) = false := decide_eq_false c4
    clear c4
    obtain rfl := Option.some.inj H
    go_enter Tryz.func92, Tryz.ntmps92
    go_wp2
    go_ret
    exact ⟨eS, dr0⟩
 ·rw [if_neg c2] at H
  have c2b0 : decide (97 ≤ a0) = false := decide_eq_false c2
  clear c2
  by_cases c5 : a0 ≥ 65
  ·rw [if_pos c5] at H
   have c5b0 : decide (65 ≤ a0) = true := decide_eq_true c5
   clear c5
   obtain rfl := Option.some.inj H
   go_enter Tryz.func92, Tryz.ntmps92
   go_wp2
   go_ret
   exact ⟨eS, dr0⟩
  ·rw [if_neg c5] at H
   have c5b0 : decide (65 ≤ a0) = false := decide_eq_false c5
   clear c5
   obtain rfl := Option.some.inj H
   go_enter Tryz.func92, Tryz.ntmps92
   go_wp2
   go_ret
   exact ⟨eS, dr0⟩
end Go.Proofs.YtfmpaofbnjlniaaGreatDoor.F
namespace Go.Proofs.YtfmpaofbnjlniaaGreatDoor.F
open Go.RowKit Go.Proofs.YtfmpaofbnjlniaaGreatDoorW.PrintWords Go.Proofs.YtfmpaofbnjlniaaGreatDoorW.PrintLast Go.Proofs.YtfmpaofbnjlniaaGreatDoorW.PrintMore
attribute [local go_sem] max2_int min2_int max_two min_two max_three min_three max_four min_four
set_option linter.unusedVariables false
set_option linter.unusedSimpArgs false
/-! ### shape_word: function 93 -/
def shape_word.f (a0 : ByteArray) : Option (Bool) := if a0.toList = ([97, 110, 100] : List UInt8) then (some true) else (if a0.toList = ([111, 114] : List UInt8) then (some true) else (if a0.toList = ([110, 111, 116] : List UInt8) then (some true) else (if a0.toList = ([115, 111, 109, 101] : List UInt8) then (some true) else (if a0.toList = ([97, 108, 108] : List UInt8) then (some true) else (if a0.toList = ([108, 102, 112] : List UInt8) then (some true) else (if a0.toList = ([112, 102, 112] : List UInt8) then (some true) else (if a0.toList = ([116, 99] : List UInt8) then (some true) else (if a0.toList = ([101, 120, 105, 115, 116, 115] : List UInt8) then (some true) else (if a0.toList = ([116, 114, 117, 101] : List UInt8) then (some true) else (if a0.toList = ([102, 97, 108, 115, 101] : List UInt8) then (some true) else (some false)))))))))))
set_option maxHeartbeats 8000000 in
set_option maxRecDepth 100000 in
theorem shape_word.calls (a0 : ByteArray) (r : Bool) (w : World) (h : shape_word.f a0 = some r) :
  Calls Tryz.prog 93 #[.string a0] w fun e w' => e = .returned (.bool r) ∧ Drawn0 w w' := by
 have H : (if a0.toList = ([97, 110, 100] : List UInt8) then (some true) else (if a0.toList = ([111, 114] : List UInt8) then (some true) else (if a0.toList = ([110, 111, 116] : List UInt8) then (some true) else (if a0.toList = ([115, 111, 109, 101] : List UInt8) then (some true) else (if a0.toList = ([97, 108, 108] : List UInt8) then (some true) else (if a0.toList = ([108, 102, 112] : List UInt8) then (some true) else (if a0.toList = ([112, 102, 112] : List UInt8) then (some true) else (if a0.toList = ([116, 99] : List UInt8) then (some true) else (if a0.toList = ([101, 120, 105, 115, 116, 115] : List UInt8) then (some true) else (if a0.toList = ([116, 114, 117, 101] : List UInt8) then (some true) else (if a0.toList = ([102, 97, 108, 115, 101] : List UInt8) then (some true) else (some false)))))))))))) = some r := h
 clear h
 by_cases c2 : a0.toList = ([97, 110, 100] : List UInt8)
 ·rw [if_pos c2] at H
  have c2b0 : (a0.toList == ([97, 110, 100] : List UInt8)) = true := beq_iff_eq.mpr c2
  have c2b1 : (a0.toList != ([97, 110, 100] : List UInt8)) = false := bne_eq_false_iff_eq.mpr c2
  clear c2
  obtain rfl := Option.some.inj H
  go_enter Tryz.func93, Tryz.ntmps93
  go_wp2
  go_ret
  exact ⟨eS, dr0⟩
 ·rw [if_neg c2] at H
  have c2b0 : (a0.toList == ([97, 110, 100] : List UInt8)) = false := beq_eq_false_iff_ne.mpr c2
  have c2b1 : (a0.toList != ([97, 110, 100] : List UInt8)) = true := bne_iff_ne.mpr c2
  by_cases c3 : a0.toList = ([111, 114] : List UInt8)
  ·rw [if_pos c3] at H
   have c3b0 : (a0.toList == ([111, 114] : List UInt8)) = true := beq_iff_eq.mpr c3
   have c3b1 : (a0.toList != ([111, 114] : List UInt8)) = false := bne_eq_false_iff_eq.mpr c3
   clear c3
   obtain rfl := Option.some.inj H
   go_enter Tryz.func93, Tryz.ntmps93
   go_wp2
   go_ret
   exact ⟨eS, dr0⟩
  ·rw [if_neg c3] at H
   have c3b0 : (a0.toList == ([111, 114] : List UInt8)) = false := beq_eq_false_iff_ne.mpr c3
   have c3b1 : (a0.toList != ([111, 114] : List UInt8)) = true := bne_iff_ne.mpr c3
   by_cases c4 : a0.toList = ([110, 111, 116] : List UInt8)
   ·rw [if_pos c4] at H
    have c4b0 : (a0.toList == ([110, 111, 116] : List UInt8)) = true := beq_iff_eq.mpr c4
    have c4b1 : (a0.toList != ([110, 111, 116] : List UInt8)) = false := bne_eq_false_iff_eq.mpr c4
    clear c4
    obtain rfl := Option.some.inj H
    go_enter Tryz.func93, Tryz.ntmps93
    go_wp2
    go_ret
    exact ⟨eS, dr0⟩
   ·rw [if_neg c4] at H
    have c4b0 : (a0.toList == ([110, 111, 116] : List UInt8)) = false := beq_eq_false_iff_ne.mpr c4
    have c4b1 : (a0.toList != ([110, 111, 116] : List UInt8)) = true := bne_iff_ne.mpr c4
    by_cases c5 : a0.toList = ([115, 111, 109, 101] : List UInt8)
    ·rw [if_pos c5] at H
     have c5b0 : (a0.toList == ([115, 111, 109, 101] : List UInt8)) = true := beq_iff_eq.mpr c5
     have c5b1 : (a0.toList != ([115, 111, 109, 101] : List UInt8)) = false := bne_eq_false_iff_eq.mpr c5
     clear c5
     obtain rfl := Option.some.inj H
     go_enter Tryz.func93, Tryz.ntmps93
     go_wp2
     go_ret
     exact ⟨eS, dr0⟩
    ·rw [if_neg c5] at H
     have c5b0 : (a0.toList == ([115, 111, 109, 101] : List UInt8)) = false := beq_eq_false_iff_ne.mpr c5
     have c5b1 : (a0.toList != ([115, 111, 109, 101] : List UInt8)) = true := bne_iff_ne.mpr c5
     by_cases c6 : a0.toList = ([97, 108, 108] : List UInt8)
     ·rw [if_pos c6] at H
      have c6b0 : (a0.toList == ([97, 108, 108] : List UInt8)) = true := beq_iff_eq.mpr c6
      have c6b1 : (a0.toList != ([97, 108, 108] : List UInt8)) = false := bne_eq_false_iff_eq.mpr c6
      clear c6
      obtain rfl := Option.some.inj H
      go_enter Tryz.func93, Tryz.ntmps93
      go_wp2
      go_ret
      exact ⟨eS, dr0⟩
     ·rw [if_neg c6] at H
      have c6b0 : (a0.toList == ([97, 108, 108] : List UInt8)) = false := beq_eq_false_iff_ne.mpr c6
      have c6b1 : (a0.toList != ([97, 108, 108] : List UInt8)) = true := bne_iff_ne.mpr c6
      by_cases c7 : a0.toList = ([108, 102, 112] : List UInt8)
      ·rw [if_pos c7] at H
       have c7b0 : (a0.toList == ([108, 102, 112] : List UInt8)) = true := beq_iff_eq.mpr c7
       have c7b1 : (a0.toList != ([108, 102, 112] : List UInt8)) = false := bne_eq_false_iff_eq.mpr c7
       clear c7
       obtain rfl := Option.some.inj H
       go_enter Tryz.func93, Tryz.ntmps93
       go_wp2
       go_ret
       exact ⟨eS, dr0⟩
      ·rw [if_neg c7] at H
       have c7b0 : (a0.toList == ([108, 102, 112] : List UInt8)) = false := beq_eq_false_iff_ne.mpr c7
       have c7b1 : (a0.toList != ([108, 102, 112] : List UInt8)) = true := bne_iff_ne.mpr c7
       by_cases c8 : a0.toList = ([112, 102, 112] : List UInt8)
       ·rw [if_pos c8] at H
        have c8b0 : (a0.toList == ([112, 102, 112] : List UInt8)) = true := beq_iff_eq.mpr c8
        have c8b1 : (a0.toList != ([112, 102, 112] : List UInt8)) = false := bne_eq_false_iff_eq.mpr c8
        clear c8
        obtain rfl := Option.some.inj H
        go_enter Tryz.func93, Tryz.ntmps93
        go_wp2
        go_ret
        exact ⟨eS, dr0⟩
       ·rw [if_neg c8] at H
        have c8b0 : (a0.toList == ([112, 102, 112] : List UInt8)) = false := beq_eq_false_iff_ne.mpr c8
        have c8b1 : (a0.toList != ([112, 102, 112] : List UInt8)) = true := bne_iff_ne.mpr c8
        by_cases c9 : a0.toList = ([116, 99] : List UInt8)
        ·rw [if_pos c9] at H
         have c9b0 : (a0.toList == ([116, 99] : List UInt8)) = true := beq_iff_eq.mpr c9
         have c9b1 : (a0.toList != ([116, 99] : List UInt8)) = false := bne_eq_false_iff_eq.mpr c9
         clear c9
         obtain rfl := Option.some.inj H
         go_enter Tryz.func93, Tryz.ntmps93
         go_wp2
         go_ret
         exact ⟨eS, dr0⟩
        ·rw [if_neg c9] at H
         have c9b0 : (a0.toList == ([116, 99] : List UInt8)) = false := beq_eq_false_iff_ne.mpr c9
         have c9b1 : (a0.toList != ([116, 99] : List UInt8)) = true := bne_iff_ne.mpr c9
         by_cases c10 : a0.toList = ([101, 120, 105, 115, 116, 115] : List UInt8)
         ·rw [if_pos c10] at H
          have c10b0 : (a0.toList == ([101, 120, 105, 115, 116, 115] : List UInt8)) = true := beq_iff_eq.mpr c10
          have c10b1 : (a0.toList != ([101, 120, 105, 115, 116, 115] : List UInt8)) = false := bne_eq_false_iff_eq.mpr c10
          clear c10
          obtain rfl := Option.some.inj H
          go_enter Tryz.func93, Tryz.ntmps93
          go_wp2
          go_ret
          exact ⟨eS, dr0⟩
         ·rw [if_neg c10] at H
          have c10b0 : (a0.toList == ([101, 120, 105, 115, 116, 115] : List UInt8)) = false := beq_eq_false_iff_ne.mpr c10
          have c10b1 : (a0.toList != ([101, 120, 105, 115, 116, 115] : List UInt8)) = true := bne_iff_ne.mpr c10
          by_cases c11 : a0.toList = ([116, 114, 117, 101] : List UInt8)
          ·rw [if_pos c11] at H
           have c11b0 : (a0.toList == ([116, 114, 117, 101] : List UInt8)) = true := beq_iff_eq.mpr c11
           have c11b1 : (a0.toList != ([116, 114, 117, 101] : List UInt8)) = false := bne_eq_false_iff_eq.mpr c11
           clear c11
           obtain rfl := Option.some.inj H
           go_enter Tryz.func93, Tryz.ntmps93
           go_wp2
           go_ret
           exact ⟨eS, dr0⟩
          ·rw [if_neg c11] at H
           have c11b0 : (a0.toList == ([116, 114, 117, 101] : List UInt8)) = false := beq_eq_false_iff_ne.mpr c11
           have c11b1 : (a0.toList != ([116, 114, 117, 101] : List UInt8)) = true := bne_iff_ne.mpr c11
           by_cases c12 : a0.toList = ([102, 97, 108, 115, 101] : List UInt8)
           ·rw [if_pos c12] at H
            have c12b0 : (a0.toList == ([102, 97, 108, 115, 101] : List UInt8)) = true := beq_iff_eq.mpr c12
            have c12b1 : (a0.toList != ([102, 97, 108, 115, 101] : List UInt8)) = false := bne_eq_false_iff_eq.mpr c12
            clear c12
            obtain rfl := Option.some.inj H
            go_enter Tryz.func93, Tryz.ntmps93
            go_wp2
            go_ret
            exact ⟨eS, dr0⟩
           ·rw [if_neg c12] at H
            have c12b0 : (a0.toList == ([102, 97, 108, 115, 101] : List UInt8)) = false := beq_eq_false_iff_ne.mpr c12
            have c12b1 : (a0.toList != ([102, 97, 108, 115, 101] : List UInt8)) = true := bne_iff_ne.mpr c12
            obtain rfl := Option.some.inj H
            go_enter Tryz.func93, Tryz.ntmps93
            go_wp2
            go_ret
            exact ⟨eS, dr0⟩
end Go.Proofs.YtfmpaofbnjlniaaGreatDoor.F
namespace Go.Proofs.YtfmpaofbnjlniaaGreatDoor.F
open Go.RowKit Go.Proofs.YtfmpaofbnjlniaaGreatDoorW.PrintWords Go.Proofs.YtfmpaofbnjlniaaGreatDoorW.PrintLast Go.Proofs.YtfmpaofbnjlniaaGreatDoorW.PrintMore
attribute [local go_sem] max2_int min2_int max_two min_two max_three min_three max_four min_four
set_option linter.unusedVariables false
set_option linter.unusedSimpArgs false
/-! ### shape_digit: function 94 -/
def shape_digit.f (a0 : Int) : Option (Bool) := if a0 ≥ 48 then (some (decide (a0 ≤ 57))) else (some false)
set_option maxHeartbeats 8000000 in
set_option maxRecDepth 100000 in
theorem shape_digit.calls (a0 : Int) (r : Bool) (w : World) (h : shape_digit.f a0 = some r) :
  Calls Tryz.prog 94 #[.int .u8 a0] w fun e w' => e = .returned (.bool r) ∧ Drawn0 w w' := by
 have H : (if a0 ≥ 48 then (some (decide (a0 ≤ 57))) else (some false)) = some r := h
 clear h
 by_cases c2 : a0 ≥ 48
 ·rw [if_pos c2] at H
  have c2b0 : decide (48 ≤ a0) = true := decide_eq_true c2
  clear c2
  obtain rfl := Option.some.inj H
  go_enter Tryz.func94, Tryz.ntmps94
  go_wp2
  go_ret
  exact ⟨eS, dr0⟩
 ·rw [if_neg c2] at H
  have c2b0 : decide (48 ≤ a0) = false := decide_eq_false c2
  clear c2
  obtain rfl := Option.some.inj H
  go_enter Tryz.func94, Tryz.ntmps94
  go_wp2
  go_ret
  exact ⟨eS, dr0⟩
end Go.Proofs.YtfmpaofbnjlniaaGreatDoor.F
namespace Go.Proofs.YtfmpaofbnjlniaaGreatDoor.F
open Go.RowKit Go.Proofs.YtfmpaofbnjlniaaGreatDoorW.PrintWords Go.Proofs.YtfmpaofbnjlniaaGreatDoorW.PrintLast Go.Proofs.YtfmpaofbnjlniaaGreatDoorW.PrintMore
attribute [local go_sem] max2_int min2_int max_two min_two max_three min_three max_four min_four
set_option linter.unusedVariables false
set_option linter.unusedSimpArgs false
/-! ### shape_Name: function 64 -/
mutual
def shape_Name.j0 : Nat → ByteArray → Bool → Option (Bool)
 | 0, _, _ => none
 | k + 1, x0, x20 => if x20 = true then (some false) else (shape_Name.l0 k x0 (x0.size : Int) 0)
def shape_Name.l0 : Nat → ByteArray → Int → Int → Option (Bool)
 | 0, _, _, _ => none
 | k + 1, x0, x22, x23 => if x23 < x22 then (if 0 ≤ x23 then (if x23 < (x0.size : Int) then ((shape_letter.f (bt x0 x23)).bind fun t114 => (if t114 = true then (shape_Name.l0 k x0 x22 (wrap64 (x23 + 1))) else ((shape_digit.f (bt x0 x23)).bind fun t115 => (if t115 = true then (shape_Name.l0 k x0 x22 (wrap64 (x23 + 1))) else (some false))))) else (none)) else (none)) else (some true)
end
def shape_Name.f (k : Nat) (a0 : ByteArray) : Option (Bool) := if a0.toList = ([] : List UInt8) then (shape_Name.j0 k a0 true) else (if (a0.size : Int) > 12 then (shape_Name.j0 k a0 true) else (if 0 < (a0.size : Int) then ((shape_letter.f (bt a0 0)).bind fun t112 => (if t112 = true then ((shape_word.f a0).bind fun t113 => (shape_Name.j0 k a0 t113)) else (shape_Name.j0 k a0 true))) else (none)))
theorem shape_Name.mono_l : ∀ k, (∀ y0 y1, LeO (shape_Name.j0 k y0 y1) (shape_Name.j0 (k + 1) y0 y1)) ∧ (∀ y0 y1 y2, LeO (shape_Name.l0 k y0 y1 y2) (shape_Name.l0 (k + 1) y0 y1 y2))
 | 0 => ⟨fun _ _ r h => by simp [shape_Name.j0] at h, fun _ _ _ r h => by simp [shape_Name.l0] at h⟩
 | k + 1 => by
  obtain ⟨ih0, ih1⟩ := shape_Name.mono_l k
  refine ⟨?_, ?_⟩
  ·intro y0 y1
   unfold shape_Name.j0
   repeat' first
   | (with_reducible exact ih0 _ _)
   | (with_reducible exact ih1 _ _ _)
   | (with_reducible exact LeO.refl _)
   | (with_reducible exact LeO.none _)
   | (with_reducible refine LeO.ite ?_ ?_)
   | (with_reducible refine LeO.bind ?_ (fun _ => ?_))
   | exact ih0 _ _
   | exact ih1 _ _ _
   | exact LeO.none _
   | refine LeO.ite ?_ ?_
   | refine LeO.bind ?_ (fun _ => ?_)
  ·intro y0 y1 y2
   unfold shape_Name.l0
   repeat' first
   | (with_reducible exact ih0 _ _)
   | (with_reducible exact ih1 _ _ _)
   | (with_reducible exact LeO.refl _)
   | (with_reducible exact LeO.none _)
   | (with_reducible refine LeO.ite ?_ ?_)
   | (with_reducible refine LeO.bind ?_ (fun _ => ?_))
   | exact ih0 _ _
   | exact ih1 _ _ _
   | exact LeO.none _
   | refine LeO.ite ?_ ?_
   | refine LeO.bind ?_ (fun _ => ?_)
theorem shape_Name.mono : ∀ a0 k, LeO (shape_Name.f k a0) (shape_Name.f (k + 1) a0) := by
 intro a0 k
 obtain ⟨ih0, ih1⟩ := shape_Name.mono_l k
 unfold shape_Name.f
 repeat' first
   | (with_reducible exact ih0 _ _)
   | (with_reducible exact ih1 _ _ _)
   | (with_reducible exact LeO.refl _)
   | (with_reducible exact LeO.none _)
   | (with_reducible refine LeO.ite ?_ ?_)
   | (with_reducible refine LeO.bind ?_ (fun _ => ?_))
   | exact ih0 _ _
   | exact ih1 _ _ _
   | exact LeO.none _
   | refine LeO.ite ?_ ?_
   | refine LeO.bind ?_ (fun _ => ?_)
set_option maxHeartbeats 8000000 in
set_option maxRecDepth 100000 in
theorem shape_Name.calls (k : Nat) (a0 : ByteArray) (r : Bool) (w : World) (h : shape_Name.f k a0 = some r) :
  Calls Tryz.prog 64 #[.string a0] w fun e w' => e = .returned (.bool r) ∧ Drawn0 w w' := by
 have H : (if a0.toList = ([] : List UInt8) then (shape_Name.j0 k a0 true) else (if (a0.size : Int) > 12 then (shape_Name.j0 k a0 true) else (if 0 < (a0.size : Int) then ((shape_letter.f (bt a0 0)).bind fun t112 => (if t112 = true then ((shape_word.f a0).bind fun t113 => (shape_Name.j0 k a0 t113)) else (shape_Name.j0 k a0 true))) else (none)))) = some r := h
 clear h
 have HC2 := Aside0.mk H
 clear H
 go_enter Tryz.func64, Tryz.ntmps64
 go_upto_region 1 with (fail)
 go_cut [20] (fun v20 wc => ∃ (kq : Nat) (x20_1 : Bool), v20 = .bool x20_1 ∧ Aside0 (shape_Name.j0 kq a0 x20_1 = some r) ∧ Aside0 (kq ≤ k) ∧ Drawn0 w wc)
 case first =>
  have H := HC2.out
  clear HC2
  by_cases c3 : a0.toList = ([] : List UInt8)
  ·rw [if_pos c3] at H
   have c3b0 : (a0.toList == ([] : List UInt8)) = true := beq_iff_eq.mpr c3
   have c3b1 : (a0.toList != ([] : List UInt8)) = false := bne_eq_false_iff_eq.mpr c3
   clear c3
   (first | rw [c3b0] | (simp only [i64_w, i32_w]; rw [c3b0]) | skip)
   have H' := Aside0.mk H
   clear H
   go_wp2
   go_meet
   case rel => exact ⟨_, (true), eS, H', ⟨kle⟩, dr0⟩
  ·rw [if_neg c3] at H
   have c3b0 : (a0.toList == ([] : List UInt8)) = false := beq_eq_false_iff_ne.mpr c3
   have c3b1 : (a0.toList != ([] : List UInt8)) = true := bne_iff_ne.mpr c3
   (first | rw [c3b0] | (simp only [i64_w, i32_w]; rw [c3b0]) | skip)
   by_cases c4 : (a0.size : Int) > 12
   ·rw [if_pos c4] at H
    have c4b0 : decide (12 < (a0.size : Int)) = true := decide_eq_true c4
    have c4b1 : decide (12 < a0.size) = true := decide_eq_true (by omega)
    clear c4
    have H' := Aside0.mk H
    clear H
    go_wp2
    go_meet
    case rel => exact ⟨_, (true), eS, H', ⟨kle⟩, dr0⟩
   ·rw [if_neg c4] at H
    have c4b0 : decide (12 < (a0.size : Int)) = false := decide_eq_false c4
    have c4b1 : decide (12 < a0.size) = false := decide_eq_false (by omega)
    clear c4
    by_cases c5 : 0 < (a0.size : Int)
    ·rw [if_pos c5] at H
     have c5b0 : decide (0 < (a0.size : Int)) = true := decide_eq_true c5
     have c5b1 : decide (0 < a0.size) = true := decide_eq_true (by omega)
     clear c5
     replace H := Option.bind_eq_some_iff.mp H
     obtain ⟨t112, A70, H⟩ := H
     replace H : (if t112 = true then ((shape_word.f a0).bind fun t113 => (shape_Name.j0 k a0 t113)) else (shape_Name.j0 k a0 true)) = some r := H
     have A7 := Aside0.mk A70
     clear A70
     by_cases c8 : t112 = true
     ·subst c8
      have H1 : ((shape_word.f a0).bind fun t113 => (shape_Name.j0 k a0 t113)) = some r := by rw [if_pos rfl] at H; exact H
      clear H
      have H := H1
      clear H1
      replace H := Option.bind_eq_some_iff.mp H
      obtain ⟨t113, A90, H⟩ := H
      replace H : (shape_Name.j0 k a0 t113) = some r := H
      have A9 := Aside0.mk A90
      clear A90
      have H' := Aside0.mk H
      clear H
      have p6 : 0 ≤ (0 : Int) := (by omega)
      have q6 : 0 < a0.size := (by have : (0 : Int) < (a0.size : Int) := dtr; omega)
      have hx6 : ∀ h : 0 < a0.size, ((a0[0]'h).toNat : Int) = bt a0 0 := bt_at a0 0
      clear p6
      have qi6 : (0 < (a0.size : Int)) = True := eq_true (dtr)
      replace q6 := eq_true q6
      go_wp2_with (first | (go_at_call 92; (with_reducible refine (shape_letter.calls (bt a0 0) true _ A7.out).mono ?_); rintro e w' ⟨rfl, ⟨nd, rfl⟩⟩) | (go_at_call 93; (with_reducible refine (shape_word.calls a0 t113 _ A9.out).mono ?_); rintro e w' ⟨rfl, ⟨nd, rfl⟩⟩))
      go_meet
      case rel => exact ⟨_, (t113), eS, H', ⟨kle⟩, dr0⟩
     ·replace c8 := Bool.eq_false_iff.mpr c8
      subst c8
      have H1 : (shape_Name.j0 k a0 true) = some r := by rw [if_neg (show ¬ (false = true) by decide)] at H; exact H
      clear H
      have H := H1
      clear H1
      have H' := Aside0.mk H
      clear H
      have p6 : 0 ≤ (0 : Int) := (by omega)
      have q6 : 0 < a0.size := (by have : (0 : Int) < (a0.size : Int) := dtr; omega)
      have hx6 : ∀ h : 0 < a0.size, ((a0[0]'h).toNat : Int) = bt a0 0 := bt_at a0 0
      clear p6
      have qi6 : (0 < (a0.size : Int)) = True := eq_true (dtr)
      replace q6 := eq_true q6
      go_wp2_with (first | (go_at_call 92; (with_reducible refine (shape_letter.calls (bt a0 0) false _ A7.out).mono ?_); rintro e w' ⟨rfl, ⟨nd, rfl⟩⟩))
      go_meet
      case rel => exact ⟨_, (true), eS, H', ⟨kle⟩, dr0⟩
    ·rw [if_neg c5] at H
     exact absurd H (by simp)
 case rest =>
  clear HC2
  obtain ⟨kq, x20_1, rfl, HA, HJ1, ⟨mc1, rfl⟩⟩ := hcut
  cases kq with
  | zero => exact absurd HA.out (by simp [shape_Name.j0])
  | succ kj1 =>
   have H := HA.out
   clear HA
   simp only [shape_Name.j0] at H
   by_cases c10 : x20_1 = true
   ·subst c10
    have H1 : (some false) = some r := by rw [if_pos rfl] at H; exact H
    clear H
    have H := H1
    clear H1
    obtain rfl := Option.some.inj H
    go_wp2
    go_ret
    exact ⟨eS, dr0⟩
   ·replace c10 := Bool.eq_false_iff.mpr c10
    subst c10
    have H1 : (shape_Name.l0 kj1 a0 (a0.size : Int) 0) = some r := by rw [if_neg (show ¬ (false = true) by decide)] at H; exact H
    clear H
    have H := H1
    clear H1
    have H' := Aside0.mk H
    clear H
    go_wp2
    go_loopg [23] kj1 (fun kq v23 w' => ∃ (x23_2 : Int), v23 = .int .i64 x23_2 ∧ Aside0 (shape_Name.l0 kq a0 (a0.size : Int) x23_2 = some r) ∧ Aside0 (kq ≤ kj1) ∧ Drawn0 w w')
    case atStart => exact ⟨(0), eS, H', ⟨Nat.le_refl _⟩, dr0⟩
    case round =>
     clear H'
     (try clear c10)
     obtain ⟨x23_2, rfl, HA, HK2, ⟨m2, rfl⟩⟩ := hrel
     cases gk with
     | zero => exact absurd HA.out (by simp [shape_Name.l0])
     | succ k2 =>
      have H := HA.out
      clear HA
      simp only [shape_Name.l0] at H
      by_cases c11 : x23_2 < (a0.size : Int)
      ·rw [if_pos c11] at H
       have c11b0 : decide (x23_2 < (a0.size : Int)) = true := decide_eq_true c11
       clear c11
       by_cases c12 : 0 ≤ x23_2
       ·rw [if_pos c12] at H
        have c12b0 : decide (0 ≤ x23_2) = true := decide_eq_true c12
        clear c12
        by_cases c13 : x23_2 < (a0.size : Int)
        ·rw [if_pos c13] at H
         have c13b0 : decide (x23_2 < (a0.size : Int)) = true := decide_eq_true c13
         clear c13
         replace H := Option.bind_eq_some_iff.mp H
         obtain ⟨t114, A150, H⟩ := H
         replace H : (if t114 = true then (shape_Name.l0 k2 a0 (a0.size : Int) (wrap64 (x23_2 + 1))) else ((shape_digit.f (bt a0 x23_2)).bind fun t115 => (if t115 = true then (shape_Name.l0 k2 a0 (a0.size : Int) (wrap64 (x23_2 + 1))) else (some false)))) = some r := H
         have A15 := Aside0.mk A150
         clear A150
         by_cases c16 : t114 = true
         ·subst c16
          have H1 : (shape_Name.l0 k2 a0 (a0.size : Int) (wrap64 (x23_2 + 1))) = some r := by rw [if_pos rfl] at H; exact H
          clear H
          have H := H1
          clear H1
          have H' := Aside0.mk H
          clear H
          have p14 : 0 ≤ (x23_2 : Int) := dtr
          have q14 : x23_2 < (a0.size : Int) := dtr
          have hx14 := bt_at a0 x23_2
          replace p14 := eq_true p14
          replace q14 := eq_true q14
          go_wp2_with (first | ((with_reducible refine gate_callee (f := 92) rfl ?_); refine gL (some 29) Tryz.func92 #[.int .u8 (bt a0 x23_2)] ?_; (with_reducible refine (shape_letter.calls (bt a0 x23_2) true _ A15.out).mono ?_); rintro e w' ⟨rfl, ⟨nd, rfl⟩⟩; refine ⟨_, rfl, ?_⟩))
          go_roundg k2
          case measure => have := HJ1.out; have := HK2.out; omega
          case rel => exact ⟨(wrap64 (x23_2 + 1)), eS, H', ⟨by have := HJ1.out; have := HK2.out; omega⟩, dr0⟩
         ·replace c16 := Bool.eq_false_iff.mpr c16
          subst c16
          have H1 : ((shape_digit.f (bt a0 x23_2)).bind fun t115 => (if t115 = true then (shape_Name.l0 k2 a0 (a0.size : Int) (wrap64 (x23_2 + 1))) else (some false))) = some r := by rw [if_neg (show ¬ (false = true) by decide)] at H; exact H
          clear H
          have H := H1
          clear H1
          replace H := Option.bind_eq_some_iff.mp H
          obtain ⟨t115, A180, H⟩ := H
          replace H : (if t115 = true then (shape_Name.l0 k2 a0 (a0.size : Int) (wrap64 (x23_2 + 1))) else (some false)) = some r := H
          have A18 := Aside0.mk A180
          clear A180
          by_cases c19 : t115 = true
          ·subst c19
           have H1 : (shape_Name.l0 k2 a0 (a0.size : Int) (wrap64 (x23_2 + 1))) = some r := by rw [if_pos rfl] at H; exact H
           clear H
           have H := H1
           clear H1
           have H' := Aside0.mk H
           clear H
           have p14 : 0 ≤ (x23_2 : Int) := dtr
           have q14 : x23_2 < (a0.size : Int) := dtr
           have hx14 := bt_at a0 x23_2
           replace p14 := eq_true p14
           replace q14 := eq_true q14
           go_wp2_with (first | ((with_reducible refine gate_callee (f := 92) rfl ?_); refine gL (some 29) Tryz.func92 #[.int .u8 (bt a0 x23_2)] ?_; (with_reducible refine (shape_letter.calls (bt a0 x23_2) false _ A15.out).mono ?_); rintro e w' ⟨rfl, ⟨nd, rfl⟩⟩; refine ⟨_, rfl, ?_⟩; have p17 : 0 ≤ (x23_2 : Int) := dtr; have q17 : x23_2 < (a0.size : Int) := dtr; have hx17 := bt_at a0 x23_2; replace p17 := eq_true p17; replace q17 := eq_true q17) | (go_at_call 94; (with_reducible refine (shape_digit.calls (bt a0 x23_2) true _ A18.out).mono ?_); rintro e w' ⟨rfl, ⟨nd, rfl⟩⟩))
           go_roundg k2
           case measure => have := HJ1.out; have := HK2.out; omega
           case rel => exact ⟨(wrap64 (x23_2 + 1)), eS, H', ⟨by have := HJ1.out; have := HK2.out; omega⟩, dr0⟩
          ·replace c19 := Bool.eq_false_iff.mpr c19
           subst c19
           have H1 : (some false) = some r := by rw [if_neg (show ¬ (false = true) by decide)] at H; exact H
           clear H
           have H := H1
           clear H1
           obtain rfl := Option.some.inj H
           have p14 : 0 ≤ (x23_2 : Int) := dtr
           have q14 : x23_2 < (a0.size : Int) := dtr
           have hx14 := bt_at a0 x23_2
           replace p14 := eq_true p14
           replace q14 := eq_true q14
           go_wp2_with (first | ((with_reducible refine gate_callee (f := 92) rfl ?_); refine gL (some 29) Tryz.func92 #[.int .u8 (bt a0 x23_2)] ?_; (with_reducible refine (shape_letter.calls (bt a0 x23_2) false _ A15.out).mono ?_); rintro e w' ⟨rfl, ⟨nd, rfl⟩⟩; refine ⟨_, rfl, ?_⟩; have p17 : 0 ≤ (x23_2 : Int) := dtr; have q17 : x23_2 < (a0.size : Int) := dtr; have hx17 := bt_at a0 x23_2; replace p17 := eq_true p17; replace q17 := eq_true q17) | (go_at_call 94; (with_reducible refine (shape_digit.calls (bt a0 x23_2) false _ A18.out).mono ?_); rintro e w' ⟨rfl, ⟨nd, rfl⟩⟩))
           go_ret
           exact ⟨eS, dr0⟩
        ·rw [if_neg c13] at H
         exact absurd H (by simp)
       ·rw [if_neg c12] at H
        exact absurd H (by simp)
      ·rw [if_neg c11] at H
       have c11b0 : decide (x23_2 < (a0.size : Int)) = false := decide_eq_false c11
       clear c11
       obtain rfl := Option.some.inj H
       go_wp2
       go_ret
       exact ⟨eS, dr0⟩
end Go.Proofs.YtfmpaofbnjlniaaGreatDoor.F
namespace Go.Proofs.YtfmpaofbnjlniaaGreatDoor.F
open Go.RowKit Go.Proofs.YtfmpaofbnjlniaaGreatDoorW.PrintWords Go.Proofs.YtfmpaofbnjlniaaGreatDoorW.PrintLast Go.Proofs.YtfmpaofbnjlniaaGreatDoorW.PrintMore
attribute [local go_sem] max2_int min2_int max_two min_two max_three min_three max_four min_four
set_option linter.unusedVariables false
set_option linter.unusedSimpArgs false
/-! ### shape_power: function 65 -/
def shape_power.l0 : Nat → Int → Int → Int → Int → Int → Option (Int)
 | 0, _, _, _, _, _ => none
 | k + 1, x0, x2, x7, x8, x9 => if x9 < x8 then (if (wrap64 (x7 * x0)) > x2 then (some (-1)) else (shape_power.l0 k x0 x2 (wrap64 (x7 * x0)) x8 (wrap64 (x9 + 1)))) else (some x7)
def shape_power.f (k : Nat) (a0 : Int) (a1 : Int) (a2 : Int) : Option (Int) := shape_power.l0 k a0 a2 1 a1 0
theorem shape_power.mono_l : ∀ k, (∀ y0 y1 y2 y3 y4, LeO (shape_power.l0 k y0 y1 y2 y3 y4) (shape_power.l0 (k + 1) y0 y1 y2 y3 y4))
 | 0 => fun _ _ _ _ _ r h => by simp [shape_power.l0] at h
 | k + 1 => by
  have ih0 := shape_power.mono_l k
  ·intro y0 y1 y2 y3 y4
   unfold shape_power.l0
   repeat' first
   | (with_reducible exact ih0 _ _ _ _ _)
   | (with_reducible exact LeO.refl _)
   | (with_reducible exact LeO.none _)
   | (with_reducible refine LeO.ite ?_ ?_)
   | (with_reducible refine LeO.bind ?_ (fun _ => ?_))
   | exact ih0 _ _ _ _ _
   | exact LeO.none _
   | refine LeO.ite ?_ ?_
   | refine LeO.bind ?_ (fun _ => ?_)
theorem shape_power.mono : ∀ a0 a1 a2 k, LeO (shape_power.f k a0 a1 a2) (shape_power.f (k + 1) a0 a1 a2) := by
 intro a0 a1 a2 k
 have ih0 := shape_power.mono_l k
 unfold shape_power.f
 repeat' first
   | (with_reducible exact ih0 _ _ _ _ _)
   | (with_reducible exact LeO.refl _)
   | (with_reducible exact LeO.none _)
   | (with_reducible refine LeO.ite ?_ ?_)
   | (with_reducible refine LeO.bind ?_ (fun _ => ?_))
   | exact ih0 _ _ _ _ _
   | exact LeO.none _
   | refine LeO.ite ?_ ?_
   | refine LeO.bind ?_ (fun _ => ?_)
set_option maxHeartbeats 8000000 in
set_option maxRecDepth 100000 in
theorem shape_power.calls (k : Nat) (a0 : Int) (a1 : Int) (a2 : Int) (r : Int) (w : World) (h : shape_power.f k a0 a1 a2 = some r) :
  Calls Tryz.prog 65 #[.int .i64 a0, .int .i64 a1, .int .i64 a2] w fun e w' => e = .returned (.int .i64 r) ∧ Drawn0 w w' := by
 have H : (shape_power.l0 k a0 a2 1 a1 0) = some r := h
 clear h
 have H' := Aside0.mk H
 clear H
 go_enter Tryz.func65, Tryz.ntmps65
 go_wp2
 go_loopg [7, 9] k (fun kq v7 v9 w' => ∃ (x7_1 : Int) (x9_1 : Int), v7 = .int .i64 x7_1 ∧ v9 = .int .i64 x9_1 ∧ Aside0 (shape_power.l0 kq a0 a2 x7_1 a1 x9_1 = some r) ∧ Aside0 (kq ≤ k) ∧ Drawn0 w w')
 case atStart => exact ⟨(1), (0), eS, eS, H', ⟨Nat.le_refl _⟩, dr0⟩
 case round =>
  clear H'
  obtain ⟨x7_1, x9_1, rfl, rfl, HA, HK1, ⟨m1, rfl⟩⟩ := hrel
  cases gk with
  | zero => exact absurd HA.out (by simp [shape_power.l0])
  | succ k1 =>
   have H := HA.out
   clear HA
   simp only [shape_power.l0] at H
   by_cases c4 : x9_1 < a1
   ·rw [if_pos c4] at H
    have c4b0 : decide (x9_1 < a1) = true := decide_eq_true c4
    clear c4
    by_cases c5 : (wrap64 (x7_1 * a0)) > a2
    ·rw [if_pos c5] at H
     have c5b0 : decide (a2 < (wrap64 (x7_1 * a0))) = true := decide_eq_true c5
     clear c5
     obtain rfl := Option.some.inj H
     go_wp2
     go_ret
     exact ⟨eS, dr0⟩
    ·rw [if_neg c5] at H
     have c5b0 : decide (a2 < (wrap64 (x7_1 * a0))) = false := decide_eq_false c5
     clear c5
     have H' := Aside0.mk H
     clear H
     go_wp2
     go_roundg k1
     case measure => have := HK1.out; omega
     case rel => exact ⟨(wrap64 (x7_1 * a0)), (wrap64 (x9_1 + 1)), eS, eS, H', ⟨by have := HK1.out; omega⟩, dr0⟩
   ·rw [if_neg c4] at H
    have c4b0 : decide (x9_1 < a1) = false := decide_eq_false c4
    clear c4
    obtain rfl := Option.some.inj H
    go_wp2
    go_ret
    exact ⟨eS, dr0⟩
end Go.Proofs.YtfmpaofbnjlniaaGreatDoor.F
namespace Go.Proofs.YtfmpaofbnjlniaaGreatDoor.F
open Go.RowKit Go.Proofs.YtfmpaofbnjlniaaGreatDoorW.PrintWords Go.Proofs.YtfmpaofbnjlniaaGreatDoorW.PrintLast Go.Proofs.YtfmpaofbnjlniaaGreatDoorW.PrintMore
attribute [local go_sem] max2_int min2_int max_two min_two max_three min_three max_four min_four
set_option linter.unusedVariables false
set_option linter.unusedSimpArgs false
/-! ### cmp_isNaN_int: function 106 -/
def cmp_isNaN_int.f (a0 : Int) : Option (Bool) := some (a0 != a0)
set_option maxHeartbeats 8000000 in
set_option maxRecDepth 100000 in
theorem cmp_isNaN_int.calls (a0 : Int) (r : Bool) (w : World) (h : cmp_isNaN_int.f a0 = some r) :
  Calls Tryz.prog 106 #[.int .i64 a0] w fun e w' => e = .returned (.bool r) ∧ Drawn0 w w' := by
 have H : (some (a0 != a0)) = some r := h
 clear h
 obtain rfl := Option.some.inj H
 go_enter Tryz.func106, Tryz.ntmps106
 go_wp2
 go_ret
 exact ⟨eS, dr0⟩
end Go.Proofs.YtfmpaofbnjlniaaGreatDoor.F
namespace Go.Proofs.YtfmpaofbnjlniaaGreatDoor.F
open Go.RowKit Go.Proofs.YtfmpaofbnjlniaaGreatDoorW.PrintWords Go.Proofs.YtfmpaofbnjlniaaGreatDoorW.PrintLast Go.Proofs.YtfmpaofbnjlniaaGreatDoorW.PrintMore
attribute [local go_sem] max2_int min2_int max_two min_two max_three min_three max_four min_four
set_option linter.unusedVariables false
set_option linter.unusedSimpArgs false
/-! ### cmp_Compare_int: function 85 -/
def cmp_Compare_int.f (a0 : Int) (a1 : Int) : Option (Int) := (cmp_isNaN_int.f a0).bind fun t116 => ((cmp_isNaN_int.f a1).bind fun t117 => (if t116 = true then (if t117 = true then (some 0) else (some (-1))) else (if t117 = true then (some 1) else (if a0 < a1 then (some (-1)) else (if a0 > a1 then (some 1) else (some 0))))))
set_option maxHeartbeats 8000000 in
set_option maxRecDepth 100000 in
theorem cmp_Compare_int.calls (a0 : Int) (a1 : Int) (r : Int) (w : World) (h : cmp_Compare_int.f a0 a1 = some r) :
  Calls Tryz.prog 85 #[.int .i64 a0, .int .i64 a1] w fun e w' => e = .returned (.int .i64 r) ∧ Drawn0 w w' := by
 have H : ((cmp_isNaN_int.f a0).bind fun t116 => ((cmp_isNaN_int.f a1).bind fun t117 => (if t116 = true then (if t117 = true then (some 0) else (some (-1))) else (if t117 = true then (some 1) else (if a0 < a1 then (some (-1)) else (if a0 > a1 then (some 1) else (some 0))))))) = some r := h
 clear h
 replace H := Option.bind_eq_some_iff.mp H
 obtain ⟨t116, A30, H⟩ := H
 replace H : ((cmp_isNaN_int.f a1).bind fun t117 => (if t116 = true then (if t117 = true then (some 0) else (some (-1))) else (if t117 = true then (some 1) else (if a0 < a1 then (some (-1)) else (if a0 > a1 then (some 1) else (some 0)))))) = some r := H
 have A3 := Aside0.mk A30
 clear A30
 replace H := Option.bind_eq_some_iff.mp H
 obtain ⟨t117, A40, H⟩ := H
 replace H : (if t116 = true then (if t117 = true then (some 0) else (some (-1))) else (if t117 = true then (some 1) else (if a0 < a1 then (some (-1)) else (if a0 > a1 then (some 1) else (some 0))))) = some r := H
 have A4 := Aside0.mk A40
 clear A40
 by_cases c5 : t116 = true
 ·subst c5
  have H1 : (if t117 = true then (some 0) else (some (-1))) = some r := by rw [if_pos rfl] at H; exact H
  clear H
  have H := H1
  clear H1
  by_cases c6 : t117 = true
  ·subst c6
   have H1 : (some 0) = some r := by rw [if_pos rfl] at H; exact H
   clear H
   have H := H1
   clear H1
   obtain rfl := Option.some.inj H
   go_enter Tryz.func85, Tryz.ntmps85
   go_wp2_with (first | ((with_reducible refine gate_callee (f := 106) rfl ?_); refine gL (some 8) Tryz.func106 #[.int .i64 a0] ?_; (with_reducible refine (cmp_isNaN_int.calls a0 true _ A3.out).mono ?_); rintro e w' ⟨rfl, ⟨nd, rfl⟩⟩; refine ⟨_, rfl, ?_⟩) | ((with_reducible refine gate_callee (f := 106) rfl ?_); refine gL (some 10) Tryz.func106 #[.int .i64 a1] ?_; (with_reducible refine (cmp_isNaN_int.calls a1 true _ A4.out).mono ?_); rintro e w' ⟨rfl, ⟨nd, rfl⟩⟩; refine ⟨_, rfl, ?_⟩))
   go_ret
   exact ⟨eS, dr0⟩
  ·replace c6 := Bool.eq_false_iff.mpr c6
   subst c6
   have H1 : (some (-1)) = some r := by rw [if_neg (show ¬ (false = true) by decide)] at H; exact H
   clear H
   have H := H1
   clear H1
   obtain rfl := Option.some.inj H
   go_enter Tryz.func85, Tryz.ntmps85
   go_wp2_with (first | ((with_reducible refine gate_callee (f := 106) rfl ?_); refine gL (some 8) Tryz.func106 #[.int .i64 a0] ?_; (with_reducible refine (cmp_isNaN_int.calls a0 true _ A3.out).mono ?_); rintro e w' ⟨rfl, ⟨nd, rfl⟩⟩; refine ⟨_, rfl, ?_⟩) | ((with_reducible refine gate_callee (f := 106) rfl ?_); refine gL (some 10) Tryz.func106 #[.int .i64 a1] ?_; (with_reducible refine (cmp_isNaN_int.calls a1 false _ A4.out).mono ?_); rintro e w' ⟨rfl, ⟨nd, rfl⟩⟩; refine ⟨_, rfl, ?_⟩))
   go_ret
   exact ⟨eS, dr0⟩
 ·replace c5 := Bool.eq_false_iff.mpr c5
  subst c5
  have H1 : (if t117 = true then (some 1) else (if a0 < a1 then (some (-1)) else (if a0 > a1 then (some 1) else (some 0)))) = some r := by rw [if_neg (show ¬ (false = true) by decide)] at H; exact H
  clear H
  have H := H1
  clear H1
  by_cases c7 : t117 = true
  ·subst c7
   have H1 : (some 1) = some r := by rw [if_pos rfl] at H; exact H
   clear H
   have H := H1
   clear H1
   obtain rfl := Option.some.inj H
   go_enter Tryz.func85, Tryz.ntmps85
   go_wp2_with (first | ((with_reducible refine gate_callee (f := 106) rfl ?_); refine gL (some 8) Tryz.func106 #[.int .i64 a0] ?_; (with_reducible refine (cmp_isNaN_int.calls a0 false _ A3.out).mono ?_); rintro e w' ⟨rfl, ⟨nd, rfl⟩⟩; refine ⟨_, rfl, ?_⟩) | ((with_reducible refine gate_callee (f := 106) rfl ?_); refine gL (some 10) Tryz.func106 #[.int .i64 a1] ?_; (with_reducible refine (cmp_isNaN_int.calls a1 true _ A4.out).mono ?_); rintro e w' ⟨rfl, ⟨nd, rfl⟩⟩; refine ⟨_, rfl, ?_⟩))
   go_ret
   exact ⟨eS, dr0⟩
  ·replace c7 := Bool.eq_false_iff.mpr c7
   subst c7
   have H1 : (if a0 < a1 then (some (-1)) else (if a0 > a1 then (some 1) else (some 0))) = some r := by rw [if_neg (show ¬ (false = true) by decide)] at H; exact H
   clear H
   have H := H1
   clear H1
   by_cases c8 : a0 < a1
   ·rw [if_pos c8] at H
    have c8b0 : decide (a0 < a1) = true := decide_eq_true c8
    clear c8
    obtain rfl := Option.some.inj H
    go_enter Tryz.func85, Tryz.ntmps85
    go_wp2_with (first | ((with_reducible refine gate_callee (f := 106) rfl ?_); refine gL (some 8) Tryz.func106 #[.int .i64 a0] ?_; (with_reducible refine (cmp_isNaN_int.calls a0 false _ A3.out).mono ?_); rintro e w' ⟨rfl, ⟨nd, rfl⟩⟩; refine ⟨_, rfl, ?_⟩) | ((with_reducible refine gate_callee (f := 106) rfl ?_); refine gL (some 10) Tryz.func106 #[.int .i64 a1] ?_; (with_reducible refine (cmp_isNaN_int.calls a1 false _ A4.out).mono ?_); rintro e w' ⟨rfl, ⟨nd, rfl⟩⟩; refine ⟨_, rfl, ?_⟩))
    go_ret
    exact ⟨eS, dr0⟩
   ·rw [if_neg c8] at H
    have c8b0 : decide (a0 < a1) = false := decide_eq_false c8
    clear c8
    by_cases c9 : a0 > a1
    ·rw [if_pos c9] at H
     have c9b0 : decide (a1 < a0) = true := decide_eq_true c9
     clear c9
     obtain rfl := Option.some.inj H
     go_enter Tryz.func85, Tryz.ntmps85
     go_wp2_with (first | ((with_reducible refine gate_callee (f := 106) rfl ?_); refine gL (some 8) Tryz.func106 #[.int .i64 a0] ?_; (with_reducible refine (cmp_isNaN_int.calls a0 false _ A3.out).mono ?_); rintro e w' ⟨rfl, ⟨nd, rfl⟩⟩; refine ⟨_, rfl, ?_⟩) | ((with_reducible refine gate_callee (f := 106) rfl ?_); refine gL (some 10) Tryz.func106 #[.int .i64 a1] ?_; (with_reducible refine (cmp_isNaN_int.calls a1 false _ A4.out).mono ?_); rintro e w' ⟨rfl, ⟨nd, rfl⟩⟩; refine ⟨_, rfl, ?_⟩))
     go_ret
     exact ⟨eS, dr0⟩
    ·rw [if_neg c9] at H
     have c9b0 : decide (a1 < a0) = false := decide_eq_false c9
     clear c9
     obtain rfl := Option.some.inj H
     go_enter Tryz.func85, Tryz.ntmps85
     go_wp2_with (first | ((with_reducible refine gate_callee (f := 106) rfl ?_); refine gL (some 8) Tryz.func106 #[.int .i64 a0] ?_; (with_reducible refine (cmp_isNaN_int.calls a0 false _ A3.out).mono ?_); rintro e w' ⟨rfl, ⟨nd, rfl⟩⟩; refine ⟨_, rfl, ?_⟩) | ((with_reducible refine gate_callee (f := 106) rfl ?_); refine gL (some 10) Tryz.func106 #[.int .i64 a1] ?_; (with_reducible refine (cmp_isNaN_int.calls a1 false _ A4.out).mono ?_); rintro e w' ⟨rfl, ⟨nd, rfl⟩⟩; refine ⟨_, rfl, ?_⟩))
     go_ret
     exact ⟨eS, dr0⟩
end Go.Proofs.YtfmpaofbnjlniaaGreatDoor.F
namespace Go.Proofs.YtfmpaofbnjlniaaGreatDoor.F
open Go.RowKit Go.Proofs.YtfmpaofbnjlniaaGreatDoorW.PrintWords Go.Proofs.YtfmpaofbnjlniaaGreatDoorW.PrintLast Go.Proofs.YtfmpaofbnjlniaaGreatDoorW.PrintMore
attribute [local go_sem] max2_int min2_int max_two min_two max_three min_three max_four min_four
set_option linter.unusedVariables false
set_option linter.unusedSimpArgs false
/-! ### slices_Compare_int_int: function 57 -/
def slices_Compare_int_int.l0 : Nat → List Int → List Int → List Int → Int → Int → Option (Int)
 | 0, _, _, _, _, _ => none
 | k + 1, x0, x1, x9, x10, x11 => if x11 < x10 then (if 0 ≤ x11 then (if x11 < (x9.length : Int) then (if x11 ≥ (x1.length : Int) then (some 1) else (if x11 < (x1.length : Int) then ((cmp_Compare_int.f (rd x9 x11) (rd x1 x11)).bind fun t120 => (if t120 = 0 then (slices_Compare_int_int.l0 k x0 x1 x9 x10 (wrap64 (x11 + 1))) else (some t120))) else (none))) else (none)) else (none)) else (if (x0.length : Int) < (x1.length : Int) then (some (-1)) else (some 0))
def slices_Compare_int_int.f (k : Nat) (l0 : List Int) (l1 : List Int) : Option (Int) := slices_Compare_int_int.l0 k l0 l1 l0 (l0.length : Int) 0
theorem slices_Compare_int_int.mono_l : ∀ k, (∀ y0 y1 y2 y3 y4, LeO (slices_Compare_int_int.l0 k y0 y1 y2 y3 y4) (slices_Compare_int_int.l0 (k + 1) y0 y1 y2 y3 y4))
 | 0 => fun _ _ _ _ _ r h => by simp [slices_Compare_int_int.l0] at h
 | k + 1 => by
  have ih0 := slices_Compare_int_int.mono_l k
  ·intro y0 y1 y2 y3 y4
   unfold slices_Compare_int_int.l0
   repeat' first
   | (with_reducible exact ih0 _ _ _ _ _)
   | (with_reducible exact LeO.refl _)
   | (with_reducible exact LeO.none _)
   | (with_reducible refine LeO.ite ?_ ?_)
   | (with_reducible refine LeO.bind ?_ (fun _ => ?_))
   | exact ih0 _ _ _ _ _
   | exact LeO.none _
   | refine LeO.ite ?_ ?_
   | refine LeO.bind ?_ (fun _ => ?_)
theorem slices_Compare_int_int.mono : ∀ a0 a1 k, LeO (slices_Compare_int_int.f k a0 a1) (slices_Compare_int_int.f (k + 1) a0 a1) := by
 intro a0 a1 k
 have ih0 := slices_Compare_int_int.mono_l k
 unfold slices_Compare_int_int.f
 repeat' first
   | (with_reducible exact ih0 _ _ _ _ _)
   | (with_reducible exact LeO.refl _)
   | (with_reducible exact LeO.none _)
   | (with_reducible refine LeO.ite ?_ ?_)
   | (with_reducible refine LeO.bind ?_ (fun _ => ?_))
   | exact ih0 _ _ _ _ _
   | exact LeO.none _
   | refine LeO.ite ?_ ?_
   | refine LeO.bind ?_ (fun _ => ?_)
set_option maxHeartbeats 8000000 in
set_option maxRecDepth 100000 in
theorem slices_Compare_int_int.calls (k : Nat) (A0 : Option Addr) (c0 : Nat) (l0 : List Int) (A1 : Option Addr) (c1 : Nat) (l1 : List Int) (r : Int) (w : World) (hr0 : Kd.C (Kd.int .i64) w A0 l0.length l0) (hc0 : l0.length ≤ c0) (hr1 : Kd.C (Kd.int .i64) w A1 l1.length l1) (hc1 : l1.length ≤ c1) (h : slices_Compare_int_int.f k l0 l1 = some r) :
  Calls Tryz.prog 57 #[.slice A0 l0.length c0, .slice A1 l1.length c1] w fun e w' => e = .returned (.int .i64 r) ∧ Drawn0 w w' := by
 have HR0 := Aside0.mk hr0
 have HC0 := Aside0.mk hc0
 clear hr0 hc0
 have HR1 := Aside0.mk hr1
 have HC1 := Aside0.mk hc1
 clear hr1 hc1
 have H : (slices_Compare_int_int.l0 k l0 l1 l0 (l0.length : Int) 0) = some r := h
 clear h
 have H' := Aside0.mk H
 clear H
 go_enter Tryz.func57, Tryz.ntmps57
 go_wp2
 go_loopg [11] k (fun kq v11 w' => ∃ (x11_1 : Int), v11 = .int .i64 x11_1 ∧ Aside0 (slices_Compare_int_int.l0 kq l0 l1 l0 (l0.length : Int) x11_1 = some r) ∧ Aside0 (kq ≤ k) ∧ Drawn0 w w')
 case atStart => exact ⟨(0), eS, H', ⟨Nat.le_refl _⟩, dr0⟩
 case round =>
  clear H'
  (try clear c1)
  obtain ⟨x11_1, rfl, HA, HK1, ⟨m1, rfl⟩⟩ := hrel
  cases gk with
  | zero => exact absurd HA.out (by simp [slices_Compare_int_int.l0])
  | succ k1 =>
   have H := HA.out
   clear HA
   simp only [slices_Compare_int_int.l0] at H
   by_cases c3 : x11_1 < (l0.length : Int)
   ·rw [if_pos c3] at H
    have c3b0 : decide (x11_1 < (l0.length : Int)) = true := decide_eq_true c3
    clear c3
    by_cases c4 : 0 ≤ x11_1
    ·rw [if_pos c4] at H
     have c4b0 : decide (0 ≤ x11_1) = true := decide_eq_true c4
     clear c4
     by_cases c5 : x11_1 < (l0.length : Int)
     ·rw [if_pos c5] at H
      have c5b0 : decide (x11_1 < (l0.length : Int)) = true := decide_eq_true c5
      clear c5
      by_cases c6 : x11_1 ≥ (l1.length : Int)
      ·rw [if_pos c6] at H
       have c6b0 : decide ((l1.length : Int) ≤ x11_1) = true := decide_eq_true c6
       clear c6
       obtain rfl := Option.some.inj H
       have p118 : 0 ≤ (x11_1 : Int) := dtr
       have q118 : x11_1 < (l0.length : Int) := dtr
       obtain ⟨ad118, e118, hx118_0⟩ := Kd.at_int HR0.out x11_1 p118 q118
       cases e118
       replace p118 := eq_true p118
       replace q118 := eq_true q118
       go_wp2
       go_ret
       exact ⟨eS, dr0⟩
      ·rw [if_neg c6] at H
       have c6b0 : decide ((l1.length : Int) ≤ x11_1) = false := decide_eq_false c6
       clear c6
       by_cases c7 : x11_1 < (l1.length : Int)
       ·rw [if_pos c7] at H
        have c7b0 : decide (x11_1 < (l1.length : Int)) = true := decide_eq_true c7
        clear c7
        replace H := Option.bind_eq_some_iff.mp H
        obtain ⟨t120, A80, H⟩ := H
        replace H : (if t120 = 0 then (slices_Compare_int_int.l0 k1 l0 l1 l0 (l0.length : Int) (wrap64 (x11_1 + 1))) else (some t120)) = some r := H
        have A8 := Aside0.mk A80
        clear A80
        by_cases c9 : t120 = 0
        ·rw [if_pos c9] at H
         have c9b0 : (t120 == 0) = true := beq_iff_eq.mpr c9
         have c9b1 : (t120 != 0) = false := bne_eq_false_iff_eq.mpr c9
         clear c9
         have H' := Aside0.mk H
         clear H
         have p118 : 0 ≤ (x11_1 : Int) := dtr
         have q118 : x11_1 < (l0.length : Int) := dtr
         obtain ⟨ad118, e118, hx118_0⟩ := Kd.at_int HR0.out x11_1 p118 q118
         cases e118
         replace p118 := eq_true p118
         replace q118 := eq_true q118
         have p119 : 0 ≤ (x11_1 : Int) := dtr
         have q119 : x11_1 < (l1.length : Int) := dtr
         obtain ⟨ad119, e119, hx119_0⟩ := Kd.at_int HR1.out x11_1 p119 q119
         cases e119
         replace p119 := eq_true p119
         replace q119 := eq_true q119
         go_wp2_with (first | ((with_reducible refine gate_callee (f := 85) rfl ?_); refine gL (some 26) Tryz.func85 #[.int .i64 (rd l0 x11_1), .int .i64 (rd l1 x11_1)] ?_; (with_reducible refine (cmp_Compare_int.calls (rd l0 x11_1) (rd l1 x11_1) t120 _ A8.out).mono ?_); rintro e w' ⟨rfl, ⟨nd, rfl⟩⟩; refine ⟨_, rfl, ?_⟩))
         go_roundg k1
         case measure => have := HK1.out; omega
         case rel => exact ⟨(wrap64 (x11_1 + 1)), eS, H', ⟨by have := HK1.out; omega⟩, dr0⟩
        ·rw [if_neg c9] at H
         have c9b0 : (t120 == 0) = false := beq_eq_false_iff_ne.mpr c9
         have c9b1 : (t120 != 0) = true := bne_iff_ne.mpr c9
         obtain rfl := Option.some.inj H
         have p118 : 0 ≤ (x11_1 : Int) := dtr
         have q118 : x11_1 < (l0.length : Int) := dtr
         obtain ⟨ad118, e118, hx118_0⟩ := Kd.at_int HR0.out x11_1 p118 q118
         cases e118
         replace p118 := eq_true p118
         replace q118 := eq_true q118
         have p119 : 0 ≤ (x11_1 : Int) := dtr
         have q119 : x11_1 < (l1.length : Int) := dtr
         obtain ⟨ad119, e119, hx119_0⟩ := Kd.at_int HR1.out x11_1 p119 q119
         cases e119
         replace p119 := eq_true p119
         replace q119 := eq_true q119
         go_wp2_with (first | ((with_reducible refine gate_callee (f := 85) rfl ?_); refine gL (some 26) Tryz.func85 #[.int .i64 (rd l0 x11_1), .int .i64 (rd l1 x11_1)] ?_; (with_reducible refine (cmp_Compare_int.calls (rd l0 x11_1) (rd l1 x11_1) t120 _ A8.out).mono ?_); rintro e w' ⟨rfl, ⟨nd, rfl⟩⟩; refine ⟨_, rfl, ?_⟩))
         go_ret
         exact ⟨eS, dr0⟩
       ·rw [if_neg c7] at H
        exact absurd H (by simp)
     ·rw [if_neg c5] at H
      exact absurd H (by simp)
    ·rw [if_neg c4] at H
     exact absurd H (by simp)
   ·rw [if_neg c3] at H
    have c3b0 : decide (x11_1 < (l0.length : Int)) = false := decide_eq_false c3
    clear c3
    by_cases c10 : (l0.length : Int) < (l1.length : Int)
    ·rw [if_pos c10] at H
     have c10b0 : decide ((l0.length : Int) < (l1.length : Int)) = true := decide_eq_true c10
     have c10b1 : decide (l0.length < l1.length) = true := decide_eq_true (Int.ofNat_lt.mp c10)
     clear c10
     obtain rfl := Option.some.inj H
     go_wp2
     go_ret
     exact ⟨eS, dr0⟩
    ·rw [if_neg c10] at H
     have c10b0 : decide ((l0.length : Int) < (l1.length : Int)) = false := decide_eq_false c10
     have c10b1 : decide (l0.length < l1.length) = false := decide_eq_false (fun h => c10 (Int.ofNat_lt.mpr h))
     clear c10
     obtain rfl := Option.some.inj H
     go_wp2
     go_ret
     exact ⟨eS, dr0⟩
end Go.Proofs.YtfmpaofbnjlniaaGreatDoor.F
/- slices.IndexFunc and slices.ContainsFunc at []int and at []api.Rel, for a function value that answers p and leaves what was. -/
namespace Go.Proofs.YtfmpaofbnjlniaaGreatDoor.F
open Go.RowKit Go.Proofs.YtfmpaofbnjlniaaGreatDoorW.PrintWords Go.Proofs.YtfmpaofbnjlniaaGreatDoorW.PrintLast Go.Proofs.YtfmpaofbnjlniaaGreatDoorW.PrintMore
set_option linter.unusedVariables false
set_option linter.unusedSimpArgs false
/-- Where the first element is of which p holds; -1. -/
def fidx {α : Type} (p : α → Bool) (l : List α) : Int := match l.findIdx? p with | some i => (i : Int) | none => -1
theorem fidx_at {α : Type} {p : α → Bool} {l : List α} {k : Nat} {x : α} (hk : l[k]? = some x) (hx : p x = true) (h : ∀ j y, j < k → l[j]? = some y → p y = false) : fidx p l = k := by
  have hlt := (List.getElem?_eq_some_iff.1 hk).1
  have he := (List.getElem?_eq_some_iff.1 hk).2
  unfold fidx
  have : l.findIdx? p = some k := by
    rw [List.findIdx?_eq_some_iff_getElem]
    refine ⟨hlt, by rw [he]; exact hx, fun j hj => ?_⟩
    have := h j _ hj (List.getElem?_eq_getElem (by omega))
    simp [this]
  rw [this]
theorem fidx_none {α : Type} {p : α → Bool} {l : List α} (h : ∀ j y, j < l.length → l[j]? = some y → p y = false) : fidx p l = -1 := by
  unfold fidx
  have : l.findIdx? p = none := by
    rw [List.findIdx?_eq_none_iff]
    intro x hx
    obtain ⟨j, hj, he⟩ := List.getElem_of_mem hx
    have := h j x hj (by rw [List.getElem?_eq_getElem hj, he])
    simp [this]
  rw [this]
theorem fidx_any {α : Type} (p : α → Bool) (l : List α) : decide (0 ≤ fidx p l) = l.any p := by
  unfold fidx
  cases h : l.findIdx? p with
  | none =>
    have := List.findIdx?_eq_none_iff.1 h
    have h2 : l.any p = false := by rw [List.any_eq_false]; intro x hx; simp [this x hx]
    simp [h2]
  | some i =>
    obtain ⟨hi, hp, _⟩ := List.findIdx?_eq_some_iff_getElem.1 h
    have h2 : l.any p = true := List.any_eq_true.2 ⟨_, List.getElem_mem hi, hp⟩
    simp [h2]
/-- A function value that answers 'p x' at an int, in every world in which all that lay lies. -/
def PredI (g : Nat) (lb : Array Value) (p : Int → Bool) (w : World) : Prop :=
  ∀ (W : World) (x : Int), Below w.heap.size w W → Calls Tryz.prog g (#[.int .i64 x] ++ lb) W fun e w' => e = .returned (.bool (p x)) ∧ Below W.heap.size W w'
theorem rd_some {l : List Int} {k : Nat} (h : k < l.length) : l[k]? = some (rd l (k : Int)) := by
  unfold rd
  rw [List.getElem?_eq_getElem h, List.getD_eq_getElem?_getD, Int.toNat_natCast, List.getElem?_eq_getElem h]
  rfl
set_option maxHeartbeats 1000000 in
theorem index_int (g : Nat) (lb : Array Value) (p : Int → Bool) (A : Option Addr) (c : Nat) (l : List Int) (w : World)
    (eg : ∀ args w, (callFunc g args).run Tryz.prog w = .ok (.enter g args) w) (hr : Kd.C (Kd.int .i64) w A l.length l) (hc : l.length ≤ c) (hp : PredI g lb p w) :
    Calls Tryz.prog 107 #[.slice A l.length c, .func (.func g) #[] lb] w fun e w' => e = .returned (.int .i64 (fidx p l)) ∧ Below w.heap.size w w' := by
  have HR := Lib.hid hr
  have HP := Lib.hid hp
  have hm := Kd.C_max hr
  clear hr hp
  go_enter Tryz.func107, Tryz.ntmps107
  go_wp2
  go_loopw [8] (fun v8 wr => ∃ k : Nat, v8 = .int .i64 k ∧ k ≤ l.length ∧ Aside0 (∀ j y, j < k → l[j]? = some y → p y = false) ∧ Aside0 (Below w.heap.size w wr)) (fun v8 _ => l.length - (intOf v8).toNat)
  case atStart => exact ⟨0, rfl, Nat.zero_le _, ⟨fun j y hj => absurd hj (Nat.not_lt_zero _)⟩, ⟨Below.refl _ _⟩⟩
  case round =>
    obtain ⟨k, rfl, hk, HN, HB⟩ := hrel
    by_cases hlt : k < l.length
    · obtain ⟨ad, hA, hcell⟩ := Kd.at_int (Kd.C_below HR.out HB.out) (k : Int) (by omega) (by omega)
      subst hA
      simp only [Int.toNat_natCast] at hcell
      have hx := rd_some hlt
      have HX := Lib.hid hx
      clear hx
      obtain ⟨b, hb⟩ : ∃ b, p (rd l (k : Int)) = b := ⟨_, rfl⟩
      have hcall := HP.out wr (rd l (k : Int)) HB.out
      rw [hb] at hcall
      have HC := Lib.hid hcall
      have Hb := Lib.hid hb
      clear hcall hb
      cases b with
      | true =>
        go_wp2_with fail
        refine HC.out.mono ?_
        rintro e w' ⟨rfl, hbw⟩
        go_wp2
        go_ret
        exact ⟨by rw [fidx_at HX.out Hb.out HN.out]; rfl, below_step HB.out hbw⟩
      | false =>
        go_wp2_with fail
        refine HC.out.mono ?_
        rintro e w' ⟨rfl, hbw⟩
        go_wp2
        go_roundw
        case rel => exact ⟨k + 1, by go_num, by omega, ⟨fun j y hj hy => by rcases Nat.lt_or_ge j k with h | h; exact HN.out j y h hy; obtain rfl : j = k := (by omega); rw [HX.out] at hy; injection hy with hy; rw [← hy]; exact Hb.out⟩, ⟨below_step HB.out hbw⟩⟩
        case measure => simp [intOf]; omega
    · go_wp2
      go_ret
      exact ⟨by rw [fidx_none fun j y hj => HN.out j y (by omega)]; rfl, HB.out⟩
set_option maxHeartbeats 1000000 in
theorem contains_int (g : Nat) (lb : Array Value) (p : Int → Bool) (A : Option Addr) (c : Nat) (l : List Int) (w : World)
    (eg : ∀ args w, (callFunc g args).run Tryz.prog w = .ok (.enter g args) w) (hr : Kd.C (Kd.int .i64) w A l.length l) (hc : l.length ≤ c) (hp : PredI g lb p w) :
    Calls Tryz.prog 86 #[.slice A l.length c, .func (.func g) #[] lb] w fun e w' => e = .returned (.bool (l.any p)) ∧ Below w.heap.size w w' := by
  have HI := Lib.hid (index_int g lb p A c l w eg hr hc hp)
  clear hr hp eg
  have HA := Lib.hid (fidx_any p l)
  generalize fidx p l = z at HI HA
  go_enter Tryz.func86, Tryz.ntmps86
  go_wp2_with (go_at_call 107; refine HI.out.mono ?_; rintro e w' ⟨rfl, hbw⟩)
  go_ret
  exact ⟨by rw [← HA.out]; rfl, hbw⟩
/-- A function value that answers 'p x' at a relation, in every world in which all that lay lies. -/
def PredR (g : Nat) (lb : Array Value) (p : S52 → Bool) (w : World) : Prop :=
  ∀ (W : World) (x : S52) (A2 : Option Addr) (c2 : Nat), Below w.heap.size w W → Calls Tryz.prog g (#[.agg #[.string x.f0, .int .i64 x.f1, .slice A2 x.f2.length c2]] ++ lb) W fun e w' => e = .returned (.bool (p x)) ∧ Below W.heap.size W w'
theorem rdr_some {l : List S52} {k : Nat} (h : k < l.length) : l[k]? = some (rd_T52 l (k : Int)) := by
  unfold rd_T52
  rw [List.getElem?_eq_getElem h, List.getD_eq_getElem?_getD, Int.toNat_natCast, List.getElem?_eq_getElem h]
  rfl
set_option maxHeartbeats 1000000 in
theorem index_rel (g : Nat) (lb : Array Value) (p : S52 → Bool) (A : Option Addr) (c : Nat) (l : List S52) (w : World)
    (eg : ∀ args w, (callFunc g args).run Tryz.prog w = .ok (.enter g args) w) (hr : Kd.C k52 w A l.length l) (hc : l.length ≤ c) (hp : PredR g lb p w) :
    Calls Tryz.prog 83 #[.slice A l.length c, .func (.func g) #[] lb] w fun e w' => e = .returned (.int .i64 (fidx p l)) ∧ Below w.heap.size w w' := by
  have HR := Lib.hid hr
  have HP := Lib.hid hp
  have hm := Kd.C_max hr
  clear hr hp
  go_enter Tryz.func83, Tryz.ntmps83
  go_wp2
  go_loopw [8] (fun v8 wr => ∃ k : Nat, v8 = .int .i64 k ∧ k ≤ l.length ∧ Aside0 (∀ j y, j < k → l[j]? = some y → p y = false) ∧ Aside0 (Below w.heap.size w wr)) (fun v8 _ => l.length - (intOf v8).toNat)
  case atStart => exact ⟨0, rfl, Nat.zero_le _, ⟨fun j y hj => absurd hj (Nat.not_lt_zero _)⟩, ⟨Below.refl _ _⟩⟩
  case round =>
    obtain ⟨k, rfl, hk, HN, HB⟩ := hrel
    by_cases hlt : k < l.length
    · obtain ⟨ad, A2, c2, hA, hcell, hcell1, hcell2, hl2, _⟩ := at_T52 (Kd.C_below HR.out HB.out) (k : Int) (by omega) (by omega)
      subst hA
      simp only [Int.toNat_natCast] at hcell hcell1 hcell2
      have hx := rdr_some hlt
      have HX := Lib.hid hx
      clear hx
      obtain ⟨b, hb⟩ : ∃ b, p (rd_T52 l (k : Int)) = b := ⟨_, rfl⟩
      have hcall := HP.out wr (rd_T52 l (k : Int)) A2 c2 HB.out
      rw [hb] at hcall
      have HC := Lib.hid hcall
      have Hb := Lib.hid hb
      clear hcall hb
      cases b with
      | true =>
        go_wp2_with fail
        refine HC.out.mono ?_
        rintro e w' ⟨rfl, hbw⟩
        go_wp2
        go_ret
        exact ⟨by rw [fidx_at HX.out Hb.out HN.out]; rfl, below_step HB.out hbw⟩
      | false =>
        go_wp2_with fail
        refine HC.out.mono ?_
        rintro e w' ⟨rfl, hbw⟩
        go_wp2
        go_roundw
        case rel => exact ⟨k + 1, by go_num, by omega, ⟨fun j y hj hy => by rcases Nat.lt_or_ge j k with h | h; exact HN.out j y h hy; obtain rfl : j = k := (by omega); rw [HX.out] at hy; injection hy with hy; rw [← hy]; exact Hb.out⟩, ⟨below_step HB.out hbw⟩⟩
        case measure => simp [intOf]; omega
    · go_wp2
      go_ret
      exact ⟨by rw [fidx_none fun j y hj => HN.out j y (by omega)]; rfl, HB.out⟩
set_option maxHeartbeats 1000000 in
theorem contains_rel (g : Nat) (lb : Array Value) (p : S52 → Bool) (A : Option Addr) (c : Nat) (l : List S52) (w : World)
    (eg : ∀ args w, (callFunc g args).run Tryz.prog w = .ok (.enter g args) w) (hr : Kd.C k52 w A l.length l) (hc : l.length ≤ c) (hp : PredR g lb p w) :
    Calls Tryz.prog 67 #[.slice A l.length c, .func (.func g) #[] lb] w fun e w' => e = .returned (.bool (l.any p)) ∧ Below w.heap.size w w' := by
  have HI := Lib.hid (index_rel g lb p A c l w eg hr hc hp)
  clear hr hp eg
  have HA := Lib.hid (fidx_any p l)
  generalize fidx p l = z at HI HA
  go_enter Tryz.func67, Tryz.ntmps67
  go_wp2_with (go_at_call 83; refine HI.out.mono ?_; rintro e w' ⟨rfl, hbw⟩)
  go_ret
  exact ⟨by rw [← HA.out]; rfl, hbw⟩
end Go.Proofs.YtfmpaofbnjlniaaGreatDoor.F
/- The function literals of package shape that are handed to slices.ContainsFunc and slices.IndexFunc, by hand. -/
namespace Go.Proofs.YtfmpaofbnjlniaaGreatDoor.F
open Go.RowKit Go.Proofs.YtfmpaofbnjlniaaGreatDoorW.PrintWords Go.Proofs.YtfmpaofbnjlniaaGreatDoorW.PrintLast Go.Proofs.YtfmpaofbnjlniaaGreatDoorW.PrintMore
set_option linter.unusedVariables false
set_option linter.unusedSimpArgs false
theorem cell_of_blk {w : World} {g : Nat} {cs : Array Value} {t : TypeId} {j : Nat} {v : Value} (h : w.heap[g]? = some (.cells cs t (0, 0))) (hj : cs[j]? = some v) : w.cell? ⟨g, j, none⟩ = some v := by simp [World.cell?, h, hj]
theorem blk_lt' {w : World} {g : Nat} {o : Obj} (h : w.heap[g]? = some o) : g < w.heap.size := (Array.getElem?_eq_some_iff.1 h).1
/-- Is x no element of n? -/
def outB (n x : Int) : Bool := decide (x < 0) || decide (n ≤ x)
theorem outB_eq (n x : Int) (h : ¬ x < 0) : outB n x = decide (n ≤ x) := by simp [outB, h]
theorem outB_lt (n x : Int) (h : x < 0) : outB n x = true := by simp [outB, h]
def shape_elements_1_any.f (l : List Int) (n : Int) : Option Bool := some (l.any (outB n))
theorem elements_pred (n : Int) (B : Nat) (w : World) (hB : B < w.heap.size) (hcell : w.cell? ⟨B, 0, none⟩ = some (.int .i64 n)) :
    PredI 87 #[.pointer (some ⟨B, 0, none⟩)] (outB n) w := fun W x hb => by
  have hc : W.cell? ⟨B, 0, none⟩ = some (.int .i64 n) := (hb.cell (p := ⟨B, 0, none⟩) hB).trans hcell
  have h1 := Lib.hid (outB_eq n x)
  have h2 := Lib.hid (outB_lt n x)
  clear hcell hb
  generalize outB n x = r at h1 h2
  show Calls Tryz.prog 87 #[.int .i64 x, .pointer (some ⟨B, 0, none⟩)] W _
  by_cases h : x < 0
  · have hr := h2.out h
    subst hr
    go_enter Tryz.func87, Tryz.ntmps87
    go_wp2
    go_ret
    exact ⟨rfl, Below.refl _ _⟩
  · have hr := h1.out h
    subst hr
    have hb0 : decide (x < 0) = false := decide_eq_false h
    clear h
    go_enter Tryz.func87, Tryz.ntmps87
    go_wp2
    go_ret
    exact ⟨rfl, Below.refl _ _⟩
theorem shape_elements_1_any.calls (A : Option Addr) (c : Nat) (l : List Int) (B : Nat) (n : Int) (r : Bool) (w : World) (hr : Kd.C (Kd.int .i64) w A l.length l) (hc : l.length ≤ c)
    (hB : w.heap[B]? = some (.cells #[.int .i64 n] 3 (0, 0))) (h : shape_elements_1_any.f l n = some r) :
    Calls Tryz.prog 86 #[.slice A l.length c, .func (.func 87) #[] #[.pointer (some ⟨B, 0, none⟩)]] w fun e w' => e = .returned (.bool r) ∧ Below w.heap.size w w' := by
  obtain rfl := Option.some.inj h
  exact contains_int _ _ _ A c l w (enters_of Tryz.func87 (by kernel_rfl) rfl) hr hc (elements_pred n B w (blk_lt' hB) (cell_of_blk hB rfl))
/-- Has a relation this name? -/
def nameIs (f0 : ByteArray) (x : S52) : Bool := x.f0.toList == f0.toList
def shape_Valid_1_any.f (l : List S52) (f0 : ByteArray) (f1 : Int) (f2 : List (List Int)) : Option Bool := some (l.any (nameIs f0))
theorem valid_pred (f0 : ByteArray) (B : Nat) (w : World) (hB : B < w.heap.size) (hcell : w.cell? ⟨B, 0, none⟩ = some (.string f0)) :
    PredR 68 #[.pointer (some ⟨B, 0, none⟩)] (nameIs f0) w := fun W x A2 c2 hb => by
  have hc : W.cell? ⟨B, 0, none⟩ = some (.string f0) := (hb.cell (p := ⟨B, 0, none⟩) hB).trans hcell
  have hBW : B < W.heap.size := Nat.lt_of_lt_of_le hB hb.size
  clear hcell hb hB
  show Calls Tryz.prog 68 #[.agg #[.string x.f0, .int .i64 x.f1, .slice A2 x.f2.length c2], .pointer (some ⟨B, 0, none⟩)] W _
  go_enter Tryz.func68, Tryz.ntmps68
  go_wp2
  go_ret
  exact ⟨rfl, below_alloc (Below.refl _ _) _⟩
theorem shape_Valid_1_any.calls (A : Option Addr) (c : Nat) (l : List S52) (B : Nat) (f0 : ByteArray) (f1 : Int) (A2 : Option Addr) (c2 : Nat) (f2 : List (List Int)) (r : Bool) (w : World) (hr : Kd.C k52 w A l.length l) (hc : l.length ≤ c)
    (hB : w.heap[B]? = some (.cells #[.string f0, .int .i64 f1, .slice A2 f2.length c2] 52 (0, 0))) (h : shape_Valid_1_any.f l f0 f1 f2 = some r) :
    Calls Tryz.prog 67 #[.slice A l.length c, .func (.func 68) #[] #[.pointer (some ⟨B, 0, none⟩)]] w fun e w' => e = .returned (.bool r) ∧ Below w.heap.size w w' := by
  obtain rfl := Option.some.inj h
  exact contains_rel _ _ _ A c l w (enters_of Tryz.func68 (by kernel_rfl) rfl) hr hc (valid_pred f0 B w (blk_lt' hB) (cell_of_blk hB rfl))
/-- Has a relation this name and arity? -/
def symIs (f0 : ByteArray) (n : Int) (x : S52) : Bool := (x.f0.toList == f0.toList) && (x.f1 == n)
def shape_Find_1_idx.f (l : List S52) (f0 : ByteArray) (n : Int) : Option Int := some (fidx (symIs f0 n) l)
set_option maxHeartbeats 1000000 in
theorem find_pred (f0 : ByteArray) (n : Int) (B B2 : Nat) (w : World) (hB : B < w.heap.size) (hB2 : B2 < w.heap.size) (hcell : w.cell? ⟨B, 0, none⟩ = some (.string f0)) (hcell2 : w.cell? ⟨B2, 0, none⟩ = some (.int .i64 n)) :
    PredR 84 #[.pointer (some ⟨B, 0, none⟩), .pointer (some ⟨B2, 0, none⟩)] (symIs f0 n) w := fun W x A2 c2 hb => by
  have hc : W.cell? ⟨B, 0, none⟩ = some (.string f0) := (hb.cell (p := ⟨B, 0, none⟩) hB).trans hcell
  have hc2 : W.cell? ⟨B2, 0, none⟩ = some (.int .i64 n) := (hb.cell (p := ⟨B2, 0, none⟩) hB2).trans hcell2
  have hBW : B < W.heap.size := Nat.lt_of_lt_of_le hB hb.size
  have hBW2 : B2 < W.heap.size := Nat.lt_of_lt_of_le hB2 hb.size
  clear hcell hcell2 hb hB hB2
  show Calls Tryz.prog 84 #[.agg #[.string x.f0, .int .i64 x.f1, .slice A2 x.f2.length c2], .pointer (some ⟨B, 0, none⟩), .pointer (some ⟨B2, 0, none⟩)] W _
  cases h : (x.f0.toList == f0.toList) with
  | true =>
    have hs : symIs f0 n x = (x.f1 == n) := by unfold symIs; rw [h]; rfl
    rw [hs]
    go_enter Tryz.func84, Tryz.ntmps84
    go_wp2
    go_ret
    exact ⟨rfl, below_alloc (Below.refl _ _) _⟩
  | false =>
    have hs : symIs f0 n x = false := by unfold symIs; rw [h]; rfl
    rw [hs]
    go_enter Tryz.func84, Tryz.ntmps84
    go_wp2
    go_ret
    exact ⟨rfl, below_alloc (Below.refl _ _) _⟩
theorem shape_Find_1_idx.calls (A : Option Addr) (c : Nat) (l : List S52) (B B2 : Nat) (f0 : ByteArray) (n : Int) (r : Int) (w : World) (hr : Kd.C k52 w A l.length l) (hc : l.length ≤ c)
    (hB : w.heap[B]? = some (.cells #[.string f0] 9 (0, 0))) (hB2 : w.heap[B2]? = some (.cells #[.int .i64 n] 3 (0, 0))) (h : shape_Find_1_idx.f l f0 n = some r) :
    Calls Tryz.prog 83 #[.slice A l.length c, .func (.func 84) #[] #[.pointer (some ⟨B, 0, none⟩), .pointer (some ⟨B2, 0, none⟩)]] w fun e w' => e = .returned (.int .i64 r) ∧ Below w.heap.size w w' := by
  obtain rfl := Option.some.inj h
  exact index_rel _ _ _ A c l w (enters_of Tryz.func84 (by kernel_rfl) rfl) hr hc (find_pred f0 n B B2 w (blk_lt' hB) (blk_lt' hB2) (cell_of_blk hB rfl) (cell_of_blk hB2 rfl))
end Go.Proofs.YtfmpaofbnjlniaaGreatDoor.F
namespace Go.Proofs.YtfmpaofbnjlniaaGreatDoor.F
open Go.RowKit Go.Proofs.YtfmpaofbnjlniaaGreatDoorW.PrintWords Go.Proofs.YtfmpaofbnjlniaaGreatDoorW.PrintLast Go.Proofs.YtfmpaofbnjlniaaGreatDoorW.PrintMore
attribute [local go_sem] max2_int min2_int max_two min_two max_three min_three max_four min_four
set_option linter.unusedVariables false
set_option linter.unusedSimpArgs false
/-! ### shape_elements: function 58 -/
def shape_elements.f (a0 : Int) (l1 : List Int) : Option (Bool) := (shape_elements_1_any.f l1 a0).bind fun t122 => (some (!t122))
set_option maxHeartbeats 8000000 in
set_option maxRecDepth 100000 in
theorem shape_elements.calls (a0 : Int) (A1 : Option Addr) (c1 : Nat) (l1 : List Int) (r : Bool) (w : World) (hr1 : Kd.C (Kd.int .i64) w A1 l1.length l1) (hc1 : l1.length ≤ c1) (h : shape_elements.f a0 l1 = some r) :
  Calls Tryz.prog 58 #[.int .i64 a0, .slice A1 l1.length c1] w fun e w' => e = .returned (.bool r) ∧ Below w.heap.size w w' := by
 have HR1 := Aside0.mk hr1
 have HC1 := Aside0.mk hc1
 clear hr1 hc1
 have HB := Aside0.mk (Below.refl w.heap.size w)
 have H : ((shape_elements_1_any.f l1 a0).bind fun t122 => (some (!t122))) = some r := h
 clear h
 replace H := Option.bind_eq_some_iff.mp H
 obtain ⟨t122, A30, H⟩ := H
 replace H : (some (!t122)) = some r := H
 have A3 := Aside0.mk A30
 clear A30
 obtain rfl := Option.some.inj H
 go_enter Tryz.func58, Tryz.ntmps58
 go_wp2_with (first | ((with_reducible refine gate_dst (N := 2) rfl ?_); refine box_event ?hg (N := 2) ?hd (cs := #[.int .i64 a0]) (t := 3) ?hr ?_; (case hd => rfl); (case hg => rfl); (case hr => first | (go_simp; done) | (go_simp; rfl)); intro gb121 hg w4 hbox hb; have BK121 := Aside0.mk (hbox); have GW121 := geB w hg; have GE121 := geB w hg; replace HB := Aside0.mk (below_step bel hb); clear hb hbox hg) | ((with_reducible refine gate_callee (f := 86) rfl ?_); refine gL (some 7) Tryz.func86 #[.slice A1 l1.length c1, .func (.func 87) #[] #[.pointer (some ⟨gb121, 0, none⟩)]] ?_; (with_reducible refine (shape_elements_1_any.calls _ _ l1 gb121 a0 t122 _ ?side1 ?side2 ?side3 A3.out).mono ?_); (case side1 => exact cS (Kd.C_below HR1.out HB.out)); (case side2 => exact HC1.out); (case side3 => exact (bk BK121)); rintro e w5 ⟨rfl, hb⟩; refine ⟨_, rfl, ?_⟩; replace BK121 := blB BK121 hb; replace HB := Aside0.mk (below_step bel hb); (try clear hb); (try clear hb2); (try clear hk); (try clear hi)))
 go_ret
 exact ⟨eN, bel⟩
end Go.Proofs.YtfmpaofbnjlniaaGreatDoor.F
namespace Go.Proofs.YtfmpaofbnjlniaaGreatDoor.F
open Go.RowKit Go.Proofs.YtfmpaofbnjlniaaGreatDoorW.PrintWords Go.Proofs.YtfmpaofbnjlniaaGreatDoorW.PrintLast Go.Proofs.YtfmpaofbnjlniaaGreatDoorW.PrintMore
attribute [local go_sem] max2_int min2_int max_two min_two max_three min_three max_four min_four
set_option linter.unusedVariables false
set_option linter.unusedSimpArgs false
/-! ### shape_tuples: function 66 -/
def shape_tuples.l0 : Nat → Int → List (List Int) → Int → Int → ByteArray → Int → List (List Int) → Option (Bool)
 | 0, _, _, _, _, _, _, _ => none
 | k + 1, x0, x8, x9, x10, x124000, x124001, x124002 => if x10 < x9 then (if 0 ≤ x10 then (if x10 < (x8.length : Int) then (if ((rd_L2 x8 x10).length : Int) = x124001 then ((shape_elements.f x0 (rd_L2 x8 x10)).bind fun t125 => (if t125 = true then (if x10 > 0 then (if 0 ≤ (wrap64 (x10 - 1)) then (if (wrap64 (x10 - 1)) < (x124002.length : Int) then ((slices_Compare_int_int.f k (rd_L2 x124002 (wrap64 (x10 - 1))) (rd_L2 x8 x10)).bind fun t127 => (if t127 ≥ 0 then (some false) else (shape_tuples.l0 k x0 x8 x9 (wrap64 (x10 + 1)) x124000 x124001 x124002))) else (none)) else (none)) else (shape_tuples.l0 k x0 x8 x9 (wrap64 (x10 + 1)) x124000 x124001 x124002)) else (some false))) else (some false)) else (none)) else (none)) else (some true)
def shape_tuples.f (k : Nat) (a0 : Int) (a1_0 : ByteArray) (a1_1 : Int) (l1_2 : List (List Int)) : Option (Bool) := shape_tuples.l0 k a0 l1_2 (l1_2.length : Int) 0 a1_0 a1_1 l1_2
theorem shape_tuples.mono_l : ∀ k, (∀ y0 y1 y2 y3 y4 y5 y6, LeO (shape_tuples.l0 k y0 y1 y2 y3 y4 y5 y6) (shape_tuples.l0 (k + 1) y0 y1 y2 y3 y4 y5 y6))
 | 0 => fun _ _ _ _ _ _ _ r h => by simp [shape_tuples.l0] at h
 | k + 1 => by
  have ih0 := shape_tuples.mono_l k
  ·intro y0 y1 y2 y3 y4 y5 y6
   unfold shape_tuples.l0
   repeat' first
   | (with_reducible exact ih0 _ _ _ _ _ _ _)
   | (with_reducible exact slices_Compare_int_int.mono _ _ _)
   | (with_reducible exact LeO.refl _)
   | (with_reducible exact LeO.none _)
   | (with_reducible refine LeO.ite ?_ ?_)
   | (with_reducible refine LeO.bind ?_ (fun _ => ?_))
   | exact ih0 _ _ _ _ _ _ _
   | exact slices_Compare_int_int.mono _ _ _
   | exact LeO.none _
   | refine LeO.ite ?_ ?_
   | refine LeO.bind ?_ (fun _ => ?_)
theorem shape_tuples.mono : ∀ a0 a1 a2 a3 k, LeO (shape_tuples.f k a0 a1 a2 a3) (shape_tuples.f (k + 1) a0 a1 a2 a3) := by
 intro a0 a1 a2 a3 k
 have ih0 := shape_tuples.mono_l k
 unfold shape_tuples.f
 repeat' first
   | (with_reducible exact ih0 _ _ _ _ _ _ _)
   | (with_reducible exact slices_Compare_int_int.mono _ _ _)
   | (with_reducible exact LeO.refl _)
   | (with_reducible exact LeO.none _)
   | (with_reducible refine LeO.ite ?_ ?_)
   | (with_reducible refine LeO.bind ?_ (fun _ => ?_))
   | exact ih0 _ _ _ _ _ _ _
   | exact slices_Compare_int_int.mono _ _ _
   | exact LeO.none _
   | refine LeO.ite ?_ ?_
   | refine LeO.bind ?_ (fun _ => ?_)
set_option maxHeartbeats 8000000 in
set_option maxRecDepth 100000 in
theorem shape_tuples.calls (k : Nat) (a0 : Int) (a1_0 : ByteArray) (a1_1 : Int) (A1_2 : Option Addr) (c1_2 : Nat) (l1_2 : List (List Int)) (r : Bool) (w : World) (hr1_2 : Kd.C (Kd.slice 3 (Kd.int .i64)) w A1_2 l1_2.length l1_2) (hc1_2 : l1_2.length ≤ c1_2) (h : shape_tuples.f k a0 a1_0 a1_1 l1_2 = some r) :
  Calls Tryz.prog 66 #[.int .i64 a0, .agg #[.string a1_0, .int .i64 a1_1, .slice A1_2 l1_2.length c1_2]] w fun e w' => e = .returned (.bool r) ∧ Below w.heap.size w w' := by
 have hu52 := Tryz.underlying52
 have HR1_2 := Aside0.mk hr1_2
 have HC1_2 := Aside0.mk hc1_2
 clear hr1_2 hc1_2
 have HB := Aside0.mk (Below.refl w.heap.size w)
 have H : (shape_tuples.l0 k a0 l1_2 (l1_2.length : Int) 0 a1_0 a1_1 l1_2) = some r := h
 clear h
 have H' := Aside0.mk H
 clear H
 go_enter Tryz.func66, Tryz.ntmps66
 go_wp2_with (first | ((with_reducible refine gate_dst (N := 3) rfl ?_); refine box_event ?hg (N := 3) ?hd (cs := #[.string a1_0, .int .i64 a1_1, .slice A1_2 l1_2.length c1_2]) (t := 52) ?hr ?_; (case hd => rfl); (case hg => rfl); (case hr => first | (go_simp; done) | (go_simp; rfl)); intro gb123 hg w3 hbox hb; have BK123 := Aside0.mk (hbox); have GW123 := geB w hg; have GE123 := geB w hg; replace HB := Aside0.mk (below_step bel hb); clear hb hbox hg; obtain ⟨hcz4_0, hcz4_1, hcz4_2, hfz4_0, hfz4_1, hfz4_2⟩ := bq3 BK123))
 go_loopg [10] k (fun kq v10 w' => ∃ (x10_1 : Int), v10 = .int .i64 x10_1 ∧ Aside0 (shape_tuples.l0 kq a0 l1_2 (l1_2.length : Int) x10_1 a1_0 a1_1 l1_2 = some r) ∧ Aside0 (kq ≤ k) ∧ Aside0 (w'.heap[gb123]? = some (.cells #[.string a1_0, .int .i64 a1_1, (.slice A1_2 l1_2.length c1_2)] 52 (0, 0))) ∧ Aside0 (Below w.heap.size w w'))
 case atStart => exact ⟨(0), eS, H', ⟨Nat.le_refl _⟩, ⟨bk BK123⟩, ⟨bel⟩⟩
 case round =>
  clear H'
  (try clear hcz4_0); (try clear hcz4_1); (try clear hcz4_2); (try clear hfz4_0); (try clear hfz4_1); (try clear hfz4_2)
  obtain ⟨x10_1, rfl, HA, HK1, BK123, HB⟩ := hrel
  cases gk with
  | zero => exact absurd HA.out (by simp [shape_tuples.l0])
  | succ k1 =>
   have H := HA.out
   clear HA
   simp only [shape_tuples.l0] at H
   by_cases c5 : x10_1 < (l1_2.length : Int)
   ·rw [if_pos c5] at H
    have c5b0 : decide (x10_1 < (l1_2.length : Int)) = true := decide_eq_true c5
    clear c5
    by_cases c6 : 0 ≤ x10_1
    ·rw [if_pos c6] at H
     have c6b0 : decide (0 ≤ x10_1) = true := decide_eq_true c6
     clear c6
     by_cases c7 : x10_1 < (l1_2.length : Int)
     ·rw [if_pos c7] at H
      have c7b0 : decide (x10_1 < (l1_2.length : Int)) = true := decide_eq_true c7
      clear c7
      by_cases c8 : ((rd_L2 l1_2 x10_1).length : Int) = a1_1
      ·rw [if_pos c8] at H
       have c8b0 : (((rd_L2 l1_2 x10_1).length : Int) == a1_1) = true := beq_iff_eq.mpr c8
       have c8b1 : (((rd_L2 l1_2 x10_1).length : Int) != a1_1) = false := bne_eq_false_iff_eq.mpr c8
       clear c8
       replace H := Option.bind_eq_some_iff.mp H
       obtain ⟨t125, A90, H⟩ := H
       replace H : (if t125 = true then (if x10_1 > 0 then (if 0 ≤ (wrap64 (x10_1 - 1)) then (if (wrap64 (x10_1 - 1)) < (l1_2.length : Int) then ((slices_Compare_int_int.f k1 (rd_L2 l1_2 (wrap64 (x10_1 - 1))) (rd_L2 l1_2 x10_1)).bind fun t127 => (if t127 ≥ 0 then (some false) else (shape_tuples.l0 k1 a0 l1_2 (l1_2.length : Int) (wrap64 (x10_1 + 1)) a1_0 a1_1 l1_2))) else (none)) else (none)) else (shape_tuples.l0 k1 a0 l1_2 (l1_2.length : Int) (wrap64 (x10_1 + 1)) a1_0 a1_1 l1_2)) else (some false)) = some r := H
       have A9 := Aside0.mk A90
       clear A90
       by_cases c10 : t125 = true
       ·subst c10
        have H1 : (if x10_1 > 0 then (if 0 ≤ (wrap64 (x10_1 - 1)) then (if (wrap64 (x10_1 - 1)) < (l1_2.length : Int) then ((slices_Compare_int_int.f k1 (rd_L2 l1_2 (wrap64 (x10_1 - 1))) (rd_L2 l1_2 x10_1)).bind fun t127 => (if t127 ≥ 0 then (some false) else (shape_tuples.l0 k1 a0 l1_2 (l1_2.length : Int) (wrap64 (x10_1 + 1)) a1_0 a1_1 l1_2))) else (none)) else (none)) else (shape_tuples.l0 k1 a0 l1_2 (l1_2.length : Int) (wrap64 (x10_1 + 1)) a1_0 a1_1 l1_2)) = some r := by rw [if_pos rfl] at H; exact H
        clear H
        have H := H1
        clear H1
        by_cases c11 : x10_1 > 0
        ·rw [if_pos c11] at H
         have c11b0 : decide (0 < x10_1) = true := decide_eq_true c11
         clear c11
         obtain ⟨ji12, hji12⟩ : ∃ j_ : Int, (wrap64 (x10_1 - 1)) = j_ := ⟨_, rfl⟩
         replace H : (if 0 ≤ (ji12) then (if (ji12) < (l1_2.length : Int) then ((slices_Compare_int_int.f k1 (rd_L2 l1_2 (ji12)) (rd_L2 l1_2 x10_1)).bind fun t127 => (if t127 ≥ 0 then (some false) else (shape_tuples.l0 k1 a0 l1_2 (l1_2.length : Int) (wrap64 (x10_1 + 1)) a1_0 a1_1 l1_2))) else (none)) else (none)) = some r := by first | (rw [hji12] at H; exact H) | (simp only [hji12] at H ⊢; exact H)
         (try rw [hji12] at A9)
         have hji12w : (IntKind.i64.wrap (x10_1 - 1)) = ji12 := (i64_w _).trans hji12
         by_cases c13 : 0 ≤ (ji12)
         ·rw [if_pos c13] at H
          have c13b0 : decide (0 ≤ (ji12)) = true := decide_eq_true c13
          clear c13
          by_cases c14 : (ji12) < (l1_2.length : Int)
          ·rw [if_pos c14] at H
           have c14b0 : decide ((ji12) < (l1_2.length : Int)) = true := decide_eq_true c14
           clear c14
           replace H := Option.bind_eq_some_iff.mp H
           obtain ⟨t127, A150, H⟩ := H
           replace H : (if t127 ≥ 0 then (some false) else (shape_tuples.l0 k1 a0 l1_2 (l1_2.length : Int) (wrap64 (x10_1 + 1)) a1_0 a1_1 l1_2)) = some r := H
           have A15 := Aside0.mk A150
           clear A150
           by_cases c16 : t127 ≥ 0
           ·rw [if_pos c16] at H
            have c16b0 : decide (0 ≤ t127) = true := decide_eq_true c16
            clear c16
            obtain rfl := Option.some.inj H
            have p124 : 0 ≤ (x10_1 : Int) := dtr
            have q124 : x10_1 < (l1_2.length : Int) := dtr
            obtain ⟨ad124, A124_0, c124_0, e124, hx124_0, hl124_0, hi124_0⟩ := at_L2 HR1_2.out x10_1 p124 q124
            cases e124
            replace hx124_0 := oc hx124_0
            have HR124_0 := Aside0.mk hi124_0
            have HC124_0 := Aside0.mk hl124_0
            clear hi124_0 hl124_0
            replace p124 := eq_true p124
            replace q124 := eq_true q124
            obtain ⟨hcz17_0, hcz17_1, hcz17_2, hfz17_0, hfz17_1, hfz17_2⟩ := bq3 BK123
            go_wp2_with (first | (go_at_call 58; (with_reducible refine (shape_elements.calls a0 _ _ (rd_L2 l1_2 x10_1) true _ ?side1 ?side2 A9.out).mono ?_); (case side1 => exact cS (Kd.C_below HR124_0.out HB.out)); (case side2 => exact HC124_0.out); rintro e w18 ⟨rfl, hb⟩; replace BK123 := blB BK123 hb; replace HB := Aside0.mk (below_step bel hb); (try clear hb); (try clear hb2); (try clear hk); (try clear hi); obtain ⟨hcz19_0, hcz19_1, hcz19_2, hfz19_0, hfz19_1, hfz19_2⟩ := bq3 BK123; have p126 : 0 ≤ ((ji12) : Int) := dtr; have q126 : (ji12) < (l1_2.length : Int) := dtr; obtain ⟨ad126, A126_0, c126_0, e126, hx126_0, hl126_0, hi126_0⟩ := at_L2 HR1_2.out (ji12) p126 q126; obtain rfl : ad124 = ad126 := (by injection e126); replace hx126_0 := oc hx126_0; have HR126_0 := Aside0.mk hi126_0; have HC126_0 := Aside0.mk hl126_0; clear hi126_0 hl126_0; replace p126 := eq_true p126; replace q126 := eq_true q126) | (go_at_call 57; (with_reducible refine (slices_Compare_int_int.calls k1 _ _ (rd_L2 l1_2 (ji12)) _ _ (rd_L2 l1_2 x10_1) t127 _ ?side1 ?side2 ?side3 ?side4 A15.out).mono ?_); (case side1 => exact cS (Kd.C_below HR126_0.out HB.out)); (case side2 => exact HC126_0.out); (case side3 => exact cS (Kd.C_below HR124_0.out HB.out)); (case side4 => exact HC124_0.out); rintro e w' ⟨rfl, ⟨nd, rfl⟩⟩))
            go_ret
            exact ⟨by first | rfl | (simp [errW_none, errW_some] <;> rfl) | (simp only [← hji12]; first | rfl | (simp [errW_none, errW_some] <;> rfl)) | (simp [*, errW_none, errW_some] <;> rfl), bel⟩
           ·rw [if_neg c16] at H
            have c16b0 : decide (0 ≤ t127) = false := decide_eq_false c16
            clear c16
            have H' := Aside0.mk H
            clear H
            have p124 : 0 ≤ (x10_1 : Int) := dtr
            have q124 : x10_1 < (l1_2.length : Int) := dtr
            obtain ⟨ad124, A124_0, c124_0, e124, hx124_0, hl124_0, hi124_0⟩ := at_L2 HR1_2.out x10_1 p124 q124
            cases e124
            replace hx124_0 := oc hx124_0
            have HR124_0 := Aside0.mk hi124_0
            have HC124_0 := Aside0.mk hl124_0
            clear hi124_0 hl124_0
            replace p124 := eq_true p124
            replace q124 := eq_true q124
            obtain ⟨hcz20_0, hcz20_1, hcz20_2, hfz20_0, hfz20_1, hfz20_2⟩ := bq3 BK123
            go_wp2_with (first | (go_at_call 58; (with_reducible refine (shape_elements.calls a0 _ _ (rd_L2 l1_2 x10_1) true _ ?side1 ?side2 A9.out).mono ?_); (case side1 => exact cS (Kd.C_below HR124_0.out HB.out)); (case side2 => exact HC124_0.out); rintro e w21 ⟨rfl, hb⟩; replace BK123 := blB BK123 hb; replace HB := Aside0.mk (below_step bel hb); (try clear hb); (try clear hb2); (try clear hk); (try clear hi); obtain ⟨hcz22_0, hcz22_1, hcz22_2, hfz22_0, hfz22_1, hfz22_2⟩ := bq3 BK123; have p126 : 0 ≤ ((ji12) : Int) := dtr; have q126 : (ji12) < (l1_2.length : Int) := dtr; obtain ⟨ad126, A126_0, c126_0, e126, hx126_0, hl126_0, hi126_0⟩ := at_L2 HR1_2.out (ji12) p126 q126; obtain rfl : ad124 = ad126 := (by injection e126); replace hx126_0 := oc hx126_0; have HR126_0 := Aside0.mk hi126_0; have HC126_0 := Aside0.mk hl126_0; clear hi126_0 hl126_0; replace p126 := eq_true p126; replace q126 := eq_true q126) | (go_at_call 57; (with_reducible refine (slices_Compare_int_int.calls k1 _ _ (rd_L2 l1_2 (ji12)) _ _ (rd_L2 l1_2 x10_1) t127 _ ?side1 ?side2 ?side3 ?side4 A15.out).mono ?_); (case side1 => exact cS (Kd.C_below HR126_0.out HB.out)); (case side2 => exact HC126_0.out); (case side3 => exact cS (Kd.C_below HR124_0.out HB.out)); (case side4 => exact HC124_0.out); rintro e w' ⟨rfl, ⟨nd, rfl⟩⟩))
            go_roundg k1
            case measure => have := HK1.out; omega
            case rel => exact ⟨(wrap64 (x10_1 + 1)), eS, H', ⟨by have := HK1.out; omega⟩, ⟨bk BK123⟩, ⟨bel⟩⟩
          ·rw [if_neg c14] at H
           exact absurd H (by simp)
         ·rw [if_neg c13] at H
          exact absurd H (by simp)
        ·rw [if_neg c11] at H
         have c11b0 : decide (0 < x10_1) = false := decide_eq_false c11
         clear c11
         have H' := Aside0.mk H
         clear H
         have p124 : 0 ≤ (x10_1 : Int) := dtr
         have q124 : x10_1 < (l1_2.length : Int) := dtr
         obtain ⟨ad124, A124_0, c124_0, e124, hx124_0, hl124_0, hi124_0⟩ := at_L2 HR1_2.out x10_1 p124 q124
         cases e124
         replace hx124_0 := oc hx124_0
         have HR124_0 := Aside0.mk hi124_0
         have HC124_0 := Aside0.mk hl124_0
         clear hi124_0 hl124_0
         replace p124 := eq_true p124
         replace q124 := eq_true q124
         obtain ⟨hcz23_0, hcz23_1, hcz23_2, hfz23_0, hfz23_1, hfz23_2⟩ := bq3 BK123
         go_wp2_with (first | (go_at_call 58; (with_reducible refine (shape_elements.calls a0 _ _ (rd_L2 l1_2 x10_1) true _ ?side1 ?side2 A9.out).mono ?_); (case side1 => exact cS (Kd.C_below HR124_0.out HB.out)); (case side2 => exact HC124_0.out); rintro e w24 ⟨rfl, hb⟩; replace BK123 := blB BK123 hb; replace HB := Aside0.mk (below_step bel hb); (try clear hb); (try clear hb2); (try clear hk); (try clear hi)))
         go_roundg k1
         case measure => have := HK1.out; omega
         case rel => exact ⟨(wrap64 (x10_1 + 1)), eS, H', ⟨by have := HK1.out; omega⟩, ⟨bk BK123⟩, ⟨bel⟩⟩
       ·replace c10 := Bool.eq_false_iff.mpr c10
        subst c10
        have H1 : (some false) = some r := by rw [if_neg (show ¬ (false = true) by decide)] at H; exact H
        clear H
        have H := H1
        clear H1
        obtain rfl := Option.some.inj H
        have p124 : 0 ≤ (x10_1 : Int) := dtr
        have q124 : x10_1 < (l1_2.length : Int) := dtr
        obtain ⟨ad124, A124_0, c124_0, e124, hx124_0, hl124_0, hi124_0⟩ := at_L2 HR1_2.out x10_1 p124 q124
        cases e124
        replace hx124_0 := oc hx124_0
        have HR124_0 := Aside0.mk hi124_0
        have HC124_0 := Aside0.mk hl124_0
        clear hi124_0 hl124_0
        replace p124 := eq_true p124
        replace q124 := eq_true q124
        obtain ⟨hcz25_0, hcz25_1, hcz25_2, hfz25_0, hfz25_1, hfz25_2⟩ := bq3 BK123
        go_wp2_with (first | (go_at_call 58; (with_reducible refine (shape_elements.calls a0 _ _ (rd_L2 l1_2 x10_1) false _ ?side1 ?side2 A9.out).mono ?_); (case side1 => exact cS (Kd.C_below HR124_0.out HB.out)); (case side2 => exact HC124_0.out); rintro e w26 ⟨rfl, hb⟩; replace BK123 := blB BK123 hb; replace HB := Aside0.mk (below_step bel hb); (try clear hb); (try clear hb2); (try clear hk); (try clear hi)))
        go_ret
        exact ⟨eN, bel⟩
      ·rw [if_neg c8] at H
       have c8b0 : (((rd_L2 l1_2 x10_1).length : Int) == a1_1) = false := beq_eq_false_iff_ne.mpr c8
       have c8b1 : (((rd_L2 l1_2 x10_1).length : Int) != a1_1) = true := bne_iff_ne.mpr c8
       obtain rfl := Option.some.inj H
       have p124 : 0 ≤ (x10_1 : Int) := dtr
       have q124 : x10_1 < (l1_2.length : Int) := dtr
       obtain ⟨ad124, A124_0, c124_0, e124, hx124_0, hl124_0, hi124_0⟩ := at_L2 HR1_2.out x10_1 p124 q124
       cases e124
       replace hx124_0 := oc hx124_0
       have HR124_0 := Aside0.mk hi124_0
       have HC124_0 := Aside0.mk hl124_0
       clear hi124_0 hl124_0
       replace p124 := eq_true p124
       replace q124 := eq_true q124
       obtain ⟨hcz27_0, hcz27_1, hcz27_2, hfz27_0, hfz27_1, hfz27_2⟩ := bq3 BK123
       go_wp2
       go_ret
       exact ⟨eN, bel⟩
     ·rw [if_neg c7] at H
      exact absurd H (by simp)
    ·rw [if_neg c6] at H
     exact absurd H (by simp)
   ·rw [if_neg c5] at H
    have c5b0 : decide (x10_1 < (l1_2.length : Int)) = false := decide_eq_false c5
    clear c5
    obtain rfl := Option.some.inj H
    go_wp2
    go_ret
    exact ⟨eN, bel⟩
end Go.Proofs.YtfmpaofbnjlniaaGreatDoor.F
namespace Go.Proofs.YtfmpaofbnjlniaaGreatDoor.F
open Go.RowKit Go.Proofs.YtfmpaofbnjlniaaGreatDoorW.PrintWords Go.Proofs.YtfmpaofbnjlniaaGreatDoorW.PrintLast Go.Proofs.YtfmpaofbnjlniaaGreatDoorW.PrintMore
attribute [local go_sem] max2_int min2_int max_two min_two max_three min_three max_four min_four
set_option linter.unusedVariables false
set_option linter.unusedSimpArgs false
/-! ### shape_Valid: function 33 -/
mutual
def shape_Valid.j0 : Nat → Bool → Int → List (S52) → Option (Bool)
 | 0, _, _, _ => none
 | k + 1, x18, x129000, x129001 => if x18 = true then (some false) else (shape_Valid.l0 k x129001 (x129001.length : Int) 0 x129000 x129001)
def shape_Valid.l0 : Nat → List (S52) → Int → Int → Int → List (S52) → Option (Bool)
 | 0, _, _, _, _, _ => none
 | k + 1, x20, x21, x22, x129000, x129001 => if x22 < x21 then (if 0 ≤ x22 then (if x22 < (x20.length : Int) then ((shape_Name.f k ((rd_T52 x20 x22).f0)).bind fun t131 => (if t131 = true then (if ((rd_T52 x20 x22).f1) < 0 then (shape_Valid.j2 k x22 x20 x21 x22 true x129000 x129001 ((rd_T52 x20 x22).f0) ((rd_T52 x20 x22).f1) ((rd_T52 x20 x22).f2)) else (if ((rd_T52 x20 x22).f1) > 12 then (shape_Valid.j2 k x22 x20 x21 x22 true x129000 x129001 ((rd_T52 x20 x22).f0) ((rd_T52 x20 x22).f1) ((rd_T52 x20 x22).f2)) else ((shape_power.f k x129000 ((rd_T52 x20 x22).f1) 4096).bind fun t132 => (if t132 < 0 then (shape_Valid.j2 k x22 x20 x21 x22 true x129000 x129001 ((rd_T52 x20 x22).f0) ((rd_T52 x20 x22).f1) ((rd_T52 x20 x22).f2)) else ((shape_tuples.f k x129000 ((rd_T52 x20 x22).f0) ((rd_T52 x20 x22).f1) ((rd_T52 x20 x22).f2)).bind fun t133 => (shape_Valid.j2 k x22 x20 x21 x22 (!t133) x129000 x129001 ((rd_T52 x20 x22).f0) ((rd_T52 x20 x22).f1) ((rd_T52 x20 x22).f2))))))) else (shape_Valid.j2 k x22 x20 x21 x22 true x129000 x129001 ((rd_T52 x20 x22).f0) ((rd_T52 x20 x22).f1) ((rd_T52 x20 x22).f2)))) else (none)) else (none)) else (some true)
def shape_Valid.j2 : Nat → Int → List (S52) → Int → Int → Bool → Int → List (S52) → ByteArray → Int → List (List Int) → Option (Bool)
 | 0, _, _, _, _, _, _, _, _, _, _ => none
 | k + 1, x3, x20, x21, x22, x55, x129000, x129001, x131000, x131001, x131002 => if x55 = true then (some false) else (if 0 ≤ x3 then (if x3 ≤ (x129001.length : Int) then ((shape_Valid_1_any.f (x129001.take (x3 : Int).toNat) x131000 x131001 x131002).bind fun t138 => (if t138 = true then (some false) else (shape_Valid.l0 k x20 x21 (wrap64 (x22 + 1)) x129000 x129001))) else (none)) else (none))
end
def shape_Valid.f (k : Nat) (a0_0 : Int) (l0_1 : List (S52)) : Option (Bool) := if a0_0 < 1 then (shape_Valid.j0 k true a0_0 l0_1) else (if a0_0 > 64 then (shape_Valid.j0 k true a0_0 l0_1) else (shape_Valid.j0 k (decide ((l0_1.length : Int) > 8)) a0_0 l0_1))
theorem shape_Valid.mono_l : ∀ k, (∀ y0 y1 y2, LeO (shape_Valid.j0 k y0 y1 y2) (shape_Valid.j0 (k + 1) y0 y1 y2)) ∧ (∀ y0 y1 y2 y3 y4, LeO (shape_Valid.l0 k y0 y1 y2 y3 y4) (shape_Valid.l0 (k + 1) y0 y1 y2 y3 y4)) ∧ (∀ y0 y1 y2 y3 y4 y5 y6 y7 y8 y9, LeO (shape_Valid.j2 k y0 y1 y2 y3 y4 y5 y6 y7 y8 y9) (shape_Valid.j2 (k + 1) y0 y1 y2 y3 y4 y5 y6 y7 y8 y9))
 | 0 => ⟨fun _ _ _ r h => by simp [shape_Valid.j0] at h, fun _ _ _ _ _ r h => by simp [shape_Valid.l0] at h, fun _ _ _ _ _ _ _ _ _ _ r h => by simp [shape_Valid.j2] at h⟩
 | k + 1 => by
  obtain ⟨ih0, ih1, ih2⟩ := shape_Valid.mono_l k
  refine ⟨?_, ?_, ?_⟩
  ·intro y0 y1 y2
   unfold shape_Valid.j0
   repeat' first
   | (with_reducible exact ih0 _ _ _)
   | (with_reducible exact ih1 _ _ _ _ _)
   | (with_reducible exact ih2 _ _ _ _ _ _ _ _ _ _)
   | (with_reducible exact shape_Name.mono _ _)
   | (with_reducible exact shape_power.mono _ _ _ _)
   | (with_reducible exact shape_tuples.mono _ _ _ _ _)
   | (with_reducible exact LeO.refl _)
   | (with_reducible exact LeO.none _)
   | (with_reducible refine LeO.ite ?_ ?_)
   | (with_reducible refine LeO.bind ?_ (fun _ => ?_))
   | exact ih0 _ _ _
   | exact ih1 _ _ _ _ _
   | exact ih2 _ _ _ _ _ _ _ _ _ _
   | exact shape_Name.mono _ _
   | exact shape_power.mono _ _ _ _
   | exact shape_tuples.mono _ _ _ _ _
   | exact LeO.none _
   | refine LeO.ite ?_ ?_
   | refine LeO.bind ?_ (fun _ => ?_)
  ·intro y0 y1 y2 y3 y4
   unfold shape_Valid.l0
   repeat' first
   | (with_reducible exact ih0 _ _ _)
   | (with_reducible exact ih1 _ _ _ _ _)
   | (with_reducible exact ih2 _ _ _ _ _ _ _ _ _ _)
   | (with_reducible exact shape_Name.mono _ _)
   | (with_reducible exact shape_power.mono _ _ _ _)
   | (with_reducible exact shape_tuples.mono _ _ _ _ _)
   | (with_reducible exact LeO.refl _)
   | (with_reducible exact LeO.none _)
   | (with_reducible refine LeO.ite ?_ ?_)
   | (with_reducible refine LeO.bind ?_ (fun _ => ?_))
   | exact ih0 _ _ _
   | exact ih1 _ _ _ _ _
   | exact ih2 _ _ _ _ _ _ _ _ _ _
   | exact shape_Name.mono _ _
   | exact shape_power.mono _ _ _ _
   | exact shape_tuples.mono _ _ _ _ _
   | exact LeO.none _
   | refine LeO.ite ?_ ?_
   | refine LeO.bind ?_ (fun _ => ?_)
  ·intro y0 y1 y2 y3 y4 y5 y6 y7 y8 y9
   unfold shape_Valid.j2
   repeat' first
   | (with_reducible exact ih0 _ _ _)
   | (with_reducible exact ih1 _ _ _ _ _)
   | (with_reducible exact ih2 _ _ _ _ _ _ _ _ _ _)
   | (with_reducible exact shape_Name.mono _ _)
   | (with_reducible exact shape_power.mono _ _ _ _)
   | (with_reducible exact shape_tuples.mono _ _ _ _ _)
   | (with_reducible exact LeO.refl _)
   | (with_reducible exact LeO.none _)
   | (with_reducible refine LeO.ite ?_ ?_)
   | (with_reducible refine LeO.bind ?_ (fun _ => ?_))
   | exact ih0 _ _ _
   | exact ih1 _ _ _ _ _
   | exact ih2 _ _ _ _ _ _ _ _ _ _
   | exact shape_Name.mono _ _
   | exact shape_power.mono _ _ _ _
   | exact shape_tuples.mono _ _ _ _ _
   | exact LeO.none _
   | refine LeO.ite ?_ ?_
   | refine LeO.bind ?_ (fun _ => ?_)
theorem shape_Valid.mono : ∀ a0 a1 k, LeO (shape_Valid.f k a0 a1) (shape_Valid.f (k + 1) a0 a1) := by
 intro a0 a1 k
 obtain ⟨ih0, ih1, ih2⟩ := shape_Valid.mono_l k
 unfold shape_Valid.f
 repeat' first
   | (with_reducible exact ih0 _ _ _)
   | (with_reducible exact ih1 _ _ _ _ _)
   | (with_reducible exact ih2 _ _ _ _ _ _ _ _ _ _)
   | (with_reducible exact shape_Name.mono _ _)
   | (with_reducible exact shape_power.mono _ _ _ _)
   | (with_reducible exact shape_tuples.mono _ _ _ _ _)
   | (with_reducible exact LeO.refl _)
   | (with_reducible exact LeO.none _)
   | (with_reducible refine LeO.ite ?_ ?_)
   | (with_reducible refine LeO.bind ?_ (fun _ => ?_))
   | exact ih0 _ _ _
   | exact ih1 _ _ _ _ _
   | exact ih2 _ _ _ _ _ _ _ _ _ _
   | exact shape_Name.mono _ _
   | exact shape_power.mono _ _ _ _
   | exact shape_tuples.mono _ _ _ _ _
   | exact LeO.none _
   | refine LeO.ite ?_ ?_
   | refine LeO.bind ?_ (fun _ => ?_)
set_option maxHeartbeats 8000000 in
set_option maxRecDepth 100000 in
theorem shape_Valid.calls (k : Nat) (a0_0 : Int) (A0_1 : Option Addr) (c0_1 : Nat) (l0_1 : List (S52)) (r : Bool) (w : World) (hr0_1 : Kd.C k52 w A0_1 l0_1.length l0_1) (hc0_1 : l0_1.length ≤ c0_1) (h : shape_Valid.f k a0_0 l0_1 = some r) :
  Calls Tryz.prog 33 #[.agg #[.int .i64 a0_0, .slice A0_1 l0_1.length c0_1]] w fun e w' => e = .returned (.bool r) ∧ Below w.heap.size w w' := by
 have hu24 := Tryz.underlying24
 have hu52 := Tryz.underlying52
 have HR0_1 := Aside0.mk hr0_1
 have HC0_1 := Aside0.mk hc0_1
 clear hr0_1 hc0_1
 have HB := Aside0.mk (Below.refl w.heap.size w)
 have H : (if a0_0 < 1 then (shape_Valid.j0 k true a0_0 l0_1) else (if a0_0 > 64 then (shape_Valid.j0 k true a0_0 l0_1) else (shape_Valid.j0 k (decide ((l0_1.length : Int) > 8)) a0_0 l0_1))) = some r := h
 clear h
 have HC2 := Aside0.mk H
 clear H
 go_enter Tryz.func33, Tryz.ntmps33
 go_upto_region 1 with (first | ((with_reducible refine gate_dst (N := 1) rfl ?_); (try (refine gate_guard (by rfl) ?_; dsimp only)); refine box_event ?hg (N := 1) ?hd (cs := #[.int .i64 a0_0, .slice A0_1 l0_1.length c0_1]) (t := 24) ?hr ?_; (case hd => rfl); (case hg => rfl); (case hr => first | (go_simp; done) | (go_simp; rfl)); intro gb128 hg w3 hbox hb; have BK128 := Aside0.mk (hbox); have GW128 := geB w hg; have GE128 := geB w hg; replace HB := Aside0.mk (below_step bel hb); clear hb hbox hg))
 (try simp only [Act.put, List.setIfInBounds_toArray, List.set_cons_zero, List.set_cons_succ])
 go_cut [18] (fun v18 wc => ∃ (kq : Nat) (x18_1 : Bool), v18 = .bool x18_1 ∧ Aside0 (shape_Valid.j0 kq x18_1 a0_0 l0_1 = some r) ∧ Aside0 (kq ≤ k) ∧ Aside0 (wc.heap[gb128]? = some (.cells #[.int .i64 a0_0, (.slice A0_1 l0_1.length c0_1)] 24 (0, 0))) ∧ Aside0 (Below w.heap.size w wc))
 case first =>
  have H := HC2.out
  clear HC2
  by_cases c4 : a0_0 < 1
  ·rw [if_pos c4] at H
   have c4b0 : decide (a0_0 < 1) = true := decide_eq_true c4
   clear c4
   (first | rw [c4b0] | (simp only [i64_w, i32_w]; rw [c4b0]) | skip)
   have H' := Aside0.mk H
   clear H
   obtain ⟨hcz5_0, hcz5_1, hfz5_0, hfz5_1⟩ := bq2 BK128
   go_wp2
   go_meet
   case rel => exact ⟨_, (true), eS, H', ⟨kle⟩, ⟨bk BK128⟩, ⟨bel⟩⟩
  ·rw [if_neg c4] at H
   have c4b0 : decide (a0_0 < 1) = false := decide_eq_false c4
   clear c4
   (first | rw [c4b0] | (simp only [i64_w, i32_w]; rw [c4b0]) | skip)
   by_cases c6 : a0_0 > 64
   ·rw [if_pos c6] at H
    have c6b0 : decide (64 < a0_0) = true := decide_eq_true c6
    clear c6
    have H' := Aside0.mk H
    clear H
    obtain ⟨hcz7_0, hcz7_1, hfz7_0, hfz7_1⟩ := bq2 BK128
    go_wp2
    go_meet
    case rel => exact ⟨_, (true), eS, H', ⟨kle⟩, ⟨bk BK128⟩, ⟨bel⟩⟩
   ·rw [if_neg c6] at H
    have c6b0 : decide (64 < a0_0) = false := decide_eq_false c6
    clear c6
    have H' := Aside0.mk H
    clear H
    obtain ⟨hcz8_0, hcz8_1, hfz8_0, hfz8_1⟩ := bq2 BK128
    go_wp2
    go_meet
    case rel => exact ⟨_, (decide ((l0_1.length : Int) > 8)), eS, H', ⟨kle⟩, ⟨bk BK128⟩, ⟨bel⟩⟩
 case rest =>
  clear HC2
  obtain ⟨kq, x18_1, rfl, HA, HJ1, BK128, HB⟩ := hcut
  cases kq with
  | zero => exact absurd HA.out (by simp [shape_Valid.j0])
  | succ kj1 =>
   have H := HA.out
   clear HA
   simp only [shape_Valid.j0] at H
   by_cases c9 : x18_1 = true
   ·subst c9
    have H1 : (some false) = some r := by rw [if_pos rfl] at H; exact H
    clear H
    have H := H1
    clear H1
    obtain rfl := Option.some.inj H
    go_wp2
    go_ret
    exact ⟨eN, bel⟩
   ·replace c9 := Bool.eq_false_iff.mpr c9
    subst c9
    have H1 : (shape_Valid.l0 kj1 l0_1 (l0_1.length : Int) 0 a0_0 l0_1) = some r := by rw [if_neg (show ¬ (false = true) by decide)] at H; exact H
    clear H
    have H := H1
    clear H1
    have H' := Aside0.mk H
    clear H
    obtain ⟨hcz10_0, hcz10_1, hfz10_0, hfz10_1⟩ := bq2 BK128
    go_wp2
    go_loopg [22] kj1 (fun kq v22 w' => ∃ (x22_2 : Int), v22 = .int .i64 x22_2 ∧ Aside0 (shape_Valid.l0 kq l0_1 (l0_1.length : Int) x22_2 a0_0 l0_1 = some r) ∧ Aside0 (kq ≤ kj1) ∧ Aside0 (w'.heap[gb128]? = some (.cells #[.int .i64 a0_0, (.slice A0_1 l0_1.length c0_1)] 24 (0, 0))) ∧ Aside0 (Below w.heap.size w w'))
    case atStart => exact ⟨(0), eS, H', ⟨Nat.le_refl _⟩, ⟨bk BK128⟩, ⟨bel⟩⟩
    case round =>
     clear H'
     (try clear c9); (try clear hcz10_0); (try clear hcz10_1); (try clear hfz10_0); (try clear hfz10_1)
     obtain ⟨x22_2, rfl, HA, HK2, BK128, HB⟩ := hrel
     cases gk with
     | zero => exact absurd HA.out (by simp [shape_Valid.l0])
     | succ k2 =>
      have H := HA.out
      clear HA
      simp only [shape_Valid.l0] at H
      by_cases c11 : x22_2 < (l0_1.length : Int)
      ·rw [if_pos c11] at H
       have c11b0 : decide (x22_2 < (l0_1.length : Int)) = true := decide_eq_true c11
       clear c11
       by_cases c12 : 0 ≤ x22_2
       ·rw [if_pos c12] at H
        have c12b0 : decide (0 ≤ x22_2) = true := decide_eq_true c12
        clear c12
        by_cases c13 : x22_2 < (l0_1.length : Int)
        ·rw [if_pos c13] at H
         have c13b0 : decide (x22_2 < (l0_1.length : Int)) = true := decide_eq_true c13
         clear c13
         have HC14 := Aside0.mk H
         clear H
         have p129 : 0 ≤ (x22_2 : Int) := dtr
         have q129 : x22_2 < (l0_1.length : Int) := dtr
         obtain ⟨ad129, A129_2, c129_2, e129, hx129_0, hx129_1, hx129_2, hl129_2, hi129_2⟩ := at_T52 HR0_1.out x22_2 p129 q129
         cases e129
         replace hx129_0 := oc hx129_0
         replace hx129_1 := oc hx129_1
         replace hx129_2 := oc hx129_2
         have HR129_2 := Aside0.mk hi129_2
         have HC129_2 := Aside0.mk hl129_2
         clear hi129_2 hl129_2
         replace p129 := eq_true p129
         replace q129 := eq_true q129
         go_upto_region 6 with (first | ((with_reducible refine gate_dst (N := 4) rfl ?_); (try (refine gate_guard (by rfl) ?_; dsimp only)); refine box_event ?hg (N := 4) ?hd (cs := #[.string (⟨#[]⟩ : ByteArray), .int .i64 0, .slice none 0 0]) (t := 52) ?hr ?_; (case hd => rfl); (case hg => rfl); (case hr => first | (go_simp; done) | (go_simp; rfl)); intro gb130 hg w15 hbox hb; have BK130 := Aside0.mk (hbox); have GW130 := geB w hg; have GE130 := geB w hg; have NB128_130 := neL BK128 hg; have NB130_128 := neG BK128 hg; replace BK128 := blB BK128 hb; replace HB := Aside0.mk (below_step bel hb); clear hb hbox hg; have hnb16 := NB130_128.out; have hnc16 := NB128_130.out; obtain ⟨hcz17_0, hcz17_1, hcz17_2, hfz17_0, hfz17_1, hfz17_2⟩ := bq3 BK130))
         (try simp only [Act.put, List.setIfInBounds_toArray, List.set_cons_zero, List.set_cons_succ])
         go_cut [55] (fun v55 wc => ∃ (kq : Nat) (x55_13 : Bool), v55 = .bool x55_13 ∧ Aside0 (shape_Valid.j2 kq x22_2 l0_1 (l0_1.length : Int) x22_2 x55_13 a0_0 l0_1 ((rd_T52 l0_1 x22_2).f0) ((rd_T52 l0_1 x22_2).f1) ((rd_T52 l0_1 x22_2).f2) = some r) ∧ Aside0 (kq ≤ k2) ∧ Aside0 (wc.heap[gb128]? = some (.cells #[.int .i64 a0_0, (.slice (some ad129) l0_1.length c0_1)] 24 (0, 0))) ∧ Aside0 (wc.heap[gb130]? = some (.cells #[.string ((rd_T52 l0_1 x22_2).f0), .int .i64 ((rd_T52 l0_1 x22_2).f1), (.slice A129_2 ((rd_T52 l0_1 x22_2).f2).length c129_2)] 52 (0, 0))) ∧ Aside0 (Below w.heap.size w wc))
         case first =>
          have H := HC14.out
          clear HC14
          replace H := Option.bind_eq_some_iff.mp H
          obtain ⟨t131, A180, H⟩ := H
          replace H : (if t131 = true then (if ((rd_T52 l0_1 x22_2).f1) < 0 then (shape_Valid.j2 k2 x22_2 l0_1 (l0_1.length : Int) x22_2 true a0_0 l0_1 ((rd_T52 l0_1 x22_2).f0) ((rd_T52 l0_1 x22_2).f1) ((rd_T52 l0_1 x22_2).f2)) else (if ((rd_T52 l0_1 x22_2).f1) > 12 then (shape_Valid.j2 k2 x22_2 l0_1 (l0_1.length : Int) x22_2 true a0_0 l0_1 ((rd_T52 l0_1 x22_2).f0) ((rd_T52 l0_1 x22_2).f1) ((rd_T52 l0_1 x22_2).f2)) else ((shape_power.f k2 a0_0 ((rd_T52 l0_1 x22_2).f1) 4096).bind fun t132 => (if t132 < 0 then (shape_Valid.j2 k2 x22_2 l0_1 (l0_1.length : Int) x22_2 true a0_0 l0_1 ((rd_T52 l0_1 x22_2).f0) ((rd_T52 l0_1 x22_2).f1) ((rd_T52 l0_1 x22_2).f2)) else ((shape_tuples.f k2 a0_0 ((rd_T52 l0_1 x22_2).f0) ((rd_T52 l0_1 x22_2).f1) ((rd_T52 l0_1 x22_2).f2)).bind fun t133 => (shape_Valid.j2 k2 x22_2 l0_1 (l0_1.length : Int) x22_2 (!t133) a0_0 l0_1 ((rd_T52 l0_1 x22_2).f0) ((rd_T52 l0_1 x22_2).f1) ((rd_T52 l0_1 x22_2).f2))))))) else (shape_Valid.j2 k2 x22_2 l0_1 (l0_1.length : Int) x22_2 true a0_0 l0_1 ((rd_T52 l0_1 x22_2).f0) ((rd_T52 l0_1 x22_2).f1) ((rd_T52 l0_1 x22_2).f2))) = some r := H
          have A18 := Aside0.mk A180
          clear A180
          by_cases c19 : t131 = true
          ·subst c19
           have H1 : (if ((rd_T52 l0_1 x22_2).f1) < 0 then (shape_Valid.j2 k2 x22_2 l0_1 (l0_1.length : Int) x22_2 true a0_0 l0_1 ((rd_T52 l0_1 x22_2).f0) ((rd_T52 l0_1 x22_2).f1) ((rd_T52 l0_1 x22_2).f2)) else (if ((rd_T52 l0_1 x22_2).f1) > 12 then (shape_Valid.j2 k2 x22_2 l0_1 (l0_1.length : Int) x22_2 true a0_0 l0_1 ((rd_T52 l0_1 x22_2).f0) ((rd_T52 l0_1 x22_2).f1) ((rd_T52 l0_1 x22_2).f2)) else ((shape_power.f k2 a0_0 ((rd_T52 l0_1 x22_2).f1) 4096).bind fun t132 => (if t132 < 0 then (shape_Valid.j2 k2 x22_2 l0_1 (l0_1.length : Int) x22_2 true a0_0 l0_1 ((rd_T52 l0_1 x22_2).f0) ((rd_T52 l0_1 x22_2).f1) ((rd_T52 l0_1 x22_2).f2)) else ((shape_tuples.f k2 a0_0 ((rd_T52 l0_1 x22_2).f0) ((rd_T52 l0_1 x22_2).f1) ((rd_T52 l0_1 x22_2).f2)).bind fun t133 => (shape_Valid.j2 k2 x22_2 l0_1 (l0_1.length : Int) x22_2 (!t133) a0_0 l0_1 ((rd_T52 l0_1 x22_2).f0) ((rd_T52 l0_1 x22_2).f1) ((rd_T52 l0_1 x22_2).f2))))))) = some r := by rw [if_pos rfl] at H; exact H
           clear H
           have H := H1
           clear H1
           by_cases c20 : ((rd_T52 l0_1 x22_2).f1) < 0
           ·rw [if_pos c20] at H
            have c20b0 : decide (((rd_T52 l0_1 x22_2).f1) < 0) = true := decide_eq_true c20
            clear c20
            (first | rw [c20b0] | (simp only [i64_w, i32_w]; rw [c20b0]) | skip)
            have H' := Aside0.mk H
            clear H
            have hnb21 := NB130_128.out
            have hnc21 := NB128_130.out
            obtain ⟨hcz22_0, hcz22_1, hcz22_2, hfz22_0, hfz22_1, hfz22_2⟩ := bq3 BK130
            go_wp2_with (first | ((with_reducible refine gate_callee (f := 64) rfl ?_); refine gL (some 29) Tryz.func64 #[.string ((rd_T52 l0_1 x22_2).f0)] ?_; (with_reducible refine (shape_Name.calls k2 ((rd_T52 l0_1 x22_2).f0) true _ A18.out).mono ?_); rintro e w' ⟨rfl, ⟨nd, rfl⟩⟩; refine ⟨_, rfl, ?_⟩))
            go_meet
            case rel => exact ⟨_, (true), eS, H', ⟨by have := HJ1.out; have := HK2.out; first | omega | exact Nat.le_refl _⟩, ⟨by (with_reducible repeat (first | refine blk_drewN ?_ _ | refine blk_drew ?_ | refine blk_alloc ?_ _)); refine blk_far ?_ NB128_130.out _; (with_reducible repeat (first | refine blk_drewN ?_ _ | refine blk_drew ?_ | refine blk_alloc ?_ _)); refine blk_far ?_ NB128_130.out _; (with_reducible repeat (first | refine blk_drewN ?_ _ | refine blk_drew ?_ | refine blk_alloc ?_ _)); refine blk_far ?_ NB128_130.out _; (with_reducible repeat (first | refine blk_drewN ?_ _ | refine blk_drew ?_ | refine blk_alloc ?_ _)); exact BK128.out⟩, ⟨by (with_reducible repeat (first | refine blk_drewN ?_ _ | refine blk_drew ?_ | refine blk_alloc ?_ _)); refine blk_put (cs := #[.string ((rd_T52 l0_1 x22_2).f0), .int .i64 ((rd_T52 l0_1 x22_2).f1), .slice none 0 0]) ?_ 2 _ rfl; (with_reducible repeat (first | refine blk_drewN ?_ _ | refine blk_drew ?_ | refine blk_alloc ?_ _)); refine blk_put (cs := #[.string ((rd_T52 l0_1 x22_2).f0), .int .i64 0, .slice none 0 0]) ?_ 1 _ rfl; (with_reducible repeat (first | refine blk_drewN ?_ _ | refine blk_drew ?_ | refine blk_alloc ?_ _)); refine blk_put (cs := #[.string (⟨#[]⟩ : ByteArray), .int .i64 0, .slice none 0 0]) ?_ 0 _ rfl; (with_reducible repeat (first | refine blk_drewN ?_ _ | refine blk_drew ?_ | refine blk_alloc ?_ _)); exact BK130.out⟩, ⟨bel⟩⟩
           ·rw [if_neg c20] at H
            have c20b0 : decide (((rd_T52 l0_1 x22_2).f1) < 0) = false := decide_eq_false c20
            clear c20
            (first | rw [c20b0] | (simp only [i64_w, i32_w]; rw [c20b0]) | skip)
            by_cases c23 : ((rd_T52 l0_1 x22_2).f1) > 12
            ·rw [if_pos c23] at H
             have c23b0 : decide (12 < ((rd_T52 l0_1 x22_2).f1)) = true := decide_eq_true c23
             clear c23
             have H' := Aside0.mk H
             clear H
             have hnb24 := NB130_128.out
             have hnc24 := NB128_130.out
             obtain ⟨hcz25_0, hcz25_1, hcz25_2, hfz25_0, hfz25_1, hfz25_2⟩ := bq3 BK130
             go_wp2_with (first | ((with_reducible refine gate_callee (f := 64) rfl ?_); refine gL (some 29) Tryz.func64 #[.string ((rd_T52 l0_1 x22_2).f0)] ?_; (with_reducible refine (shape_Name.calls k2 ((rd_T52 l0_1 x22_2).f0) true _ A18.out).mono ?_); rintro e w' ⟨rfl, ⟨nd, rfl⟩⟩; refine ⟨_, rfl, ?_⟩))
             go_meet
             case rel => exact ⟨_, (true), eS, H', ⟨by have := HJ1.out; have := HK2.out; first | omega | exact Nat.le_refl _⟩, ⟨by (with_reducible repeat (first | refine blk_drewN ?_ _ | refine blk_drew ?_ | refine blk_alloc ?_ _)); refine blk_far ?_ NB128_130.out _; (with_reducible repeat (first | refine blk_drewN ?_ _ | refine blk_drew ?_ | refine blk_alloc ?_ _)); refine blk_far ?_ NB128_130.out _; (with_reducible repeat (first | refine blk_drewN ?_ _ | refine blk_drew ?_ | refine blk_alloc ?_ _)); refine blk_far ?_ NB128_130.out _; (with_reducible repeat (first | refine blk_drewN ?_ _ | refine blk_drew ?_ | refine blk_alloc ?_ _)); exact BK128.out⟩, ⟨by (with_reducible repeat (first | refine blk_drewN ?_ _ | refine blk_drew ?_ | refine blk_alloc ?_ _)); refine blk_put (cs := #[.string ((rd_T52 l0_1 x22_2).f0), .int .i64 ((rd_T52 l0_1 x22_2).f1), .slice none 0 0]) ?_ 2 _ rfl; (with_reducible repeat (first | refine blk_drewN ?_ _ | refine blk_drew ?_ | refine blk_alloc ?_ _)); refine blk_put (cs := #[.string ((rd_T52 l0_1 x22_2).f0), .int .i64 0, .slice none 0 0]) ?_ 1 _ rfl; (with_reducible repeat (first | refine blk_drewN ?_ _ | refine blk_drew ?_ | refine blk_alloc ?_ _)); refine blk_put (cs := #[.string (⟨#[]⟩ : ByteArray), .int .i64 0, .slice none 0 0]) ?_ 0 _ rfl; (with_reducible repeat (first | refine blk_drewN ?_ _ | refine blk_drew ?_ | refine blk_alloc ?_ _)); exact BK130.out⟩, ⟨bel⟩⟩
            ·rw [if_neg c23] at H
             have c23b0 : decide (12 < ((rd_T52 l0_1 x22_2).f1)) = false := decide_eq_false c23
             clear c23
             replace H := Option.bind_eq_some_iff.mp H
             obtain ⟨t132, A260, H⟩ := H
             replace H : (if t132 < 0 then (shape_Valid.j2 k2 x22_2 l0_1 (l0_1.length : Int) x22_2 true a0_0 l0_1 ((rd_T52 l0_1 x22_2).f0) ((rd_T52 l0_1 x22_2).f1) ((rd_T52 l0_1 x22_2).f2)) else ((shape_tuples.f k2 a0_0 ((rd_T52 l0_1 x22_2).f0) ((rd_T52 l0_1 x22_2).f1) ((rd_T52 l0_1 x22_2).f2)).bind fun t133 => (shape_Valid.j2 k2 x22_2 l0_1 (l0_1.length : Int) x22_2 (!t133) a0_0 l0_1 ((rd_T52 l0_1 x22_2).f0) ((rd_T52 l0_1 x22_2).f1) ((rd_T52 l0_1 x22_2).f2)))) = some r := H
             have A26 := Aside0.mk A260
             clear A260
             by_cases c27 : t132 < 0
             ·rw [if_pos c27] at H
              have c27b0 : decide (t132 < 0) = true := decide_eq_true c27
              clear c27
              have H' := Aside0.mk H
              clear H
              have hnb28 := NB130_128.out
              have hnc28 := NB128_130.out
              obtain ⟨hcz29_0, hcz29_1, hcz29_2, hfz29_0, hfz29_1, hfz29_2⟩ := bq3 BK130
              go_wp2_with (first | ((with_reducible refine gate_callee (f := 64) rfl ?_); refine gL (some 29) Tryz.func64 #[.string ((rd_T52 l0_1 x22_2).f0)] ?_; (with_reducible refine (shape_Name.calls k2 ((rd_T52 l0_1 x22_2).f0) true _ A18.out).mono ?_); rintro e w' ⟨rfl, ⟨nd, rfl⟩⟩; refine ⟨_, rfl, ?_⟩; obtain ⟨hcz30_0, hcz30_1, hfz30_0, hfz30_1⟩ := bq2 BK128) | (go_at_call 65; (with_reducible refine (shape_power.calls k2 a0_0 ((rd_T52 l0_1 x22_2).f1) 4096 t132 _ A26.out).mono ?_); rintro e w' ⟨rfl, ⟨nd, rfl⟩⟩))
              go_meet
              case rel => exact ⟨_, (true), eS, H', ⟨by have := HJ1.out; have := HK2.out; first | omega | exact Nat.le_refl _⟩, ⟨by (with_reducible repeat (first | refine blk_drewN ?_ _ | refine blk_drew ?_ | refine blk_alloc ?_ _)); refine blk_far ?_ NB128_130.out _; (with_reducible repeat (first | refine blk_drewN ?_ _ | refine blk_drew ?_ | refine blk_alloc ?_ _)); refine blk_far ?_ NB128_130.out _; (with_reducible repeat (first | refine blk_drewN ?_ _ | refine blk_drew ?_ | refine blk_alloc ?_ _)); refine blk_far ?_ NB128_130.out _; (with_reducible repeat (first | refine blk_drewN ?_ _ | refine blk_drew ?_ | refine blk_alloc ?_ _)); exact BK128.out⟩, ⟨by (with_reducible repeat (first | refine blk_drewN ?_ _ | refine blk_drew ?_ | refine blk_alloc ?_ _)); refine blk_put (cs := #[.string ((rd_T52 l0_1 x22_2).f0), .int .i64 ((rd_T52 l0_1 x22_2).f1), .slice none 0 0]) ?_ 2 _ rfl; (with_reducible repeat (first | refine blk_drewN ?_ _ | refine blk_drew ?_ | refine blk_alloc ?_ _)); refine blk_put (cs := #[.string ((rd_T52 l0_1 x22_2).f0), .int .i64 0, .slice none 0 0]) ?_ 1 _ rfl; (with_reducible repeat (first | refine blk_drewN ?_ _ | refine blk_drew ?_ | refine blk_alloc ?_ _)); refine blk_put (cs := #[.string (⟨#[]⟩ : ByteArray), .int .i64 0, .slice none 0 0]) ?_ 0 _ rfl; (with_reducible repeat (first | refine blk_drewN ?_ _ | refine blk_drew ?_ | refine blk_alloc ?_ _)); exact BK130.out⟩, ⟨bel⟩⟩
             ·rw [if_neg c27] at H
              have c27b0 : decide (t132 < 0) = false := decide_eq_false c27
              clear c27
              replace H := Option.bind_eq_some_iff.mp H
              obtain ⟨t133, A310, H⟩ := H
              replace H : (shape_Valid.j2 k2 x22_2 l0_1 (l0_1.length : Int) x22_2 (!t133) a0_0 l0_1 ((rd_T52 l0_1 x22_2).f0) ((rd_T52 l0_1 x22_2).f1) ((rd_T52 l0_1 x22_2).f2)) = some r := H
              have A31 := Aside0.mk A310
              clear A310
              have H' := Aside0.mk H
              clear H
              have hnb32 := NB130_128.out
              have hnc32 := NB128_130.out
              obtain ⟨hcz33_0, hcz33_1, hcz33_2, hfz33_0, hfz33_1, hfz33_2⟩ := bq3 BK130
              go_wp2_with (first | ((with_reducible refine gate_callee (f := 64) rfl ?_); refine gL (some 29) Tryz.func64 #[.string ((rd_T52 l0_1 x22_2).f0)] ?_; (with_reducible refine (shape_Name.calls k2 ((rd_T52 l0_1 x22_2).f0) true _ A18.out).mono ?_); rintro e w' ⟨rfl, ⟨nd, rfl⟩⟩; refine ⟨_, rfl, ?_⟩; obtain ⟨hcz34_0, hcz34_1, hfz34_0, hfz34_1⟩ := bq2 BK128) | (go_at_call 65; (with_reducible refine (shape_power.calls k2 a0_0 ((rd_T52 l0_1 x22_2).f1) 4096 t132 _ A26.out).mono ?_); rintro e w' ⟨rfl, ⟨nd, rfl⟩⟩) | (go_at_call 66; (with_reducible refine (shape_tuples.calls k2 a0_0 ((rd_T52 l0_1 x22_2).f0) ((rd_T52 l0_1 x22_2).f1) _ _ ((rd_T52 l0_1 x22_2).f2) t133 _ ?side1 ?side2 A31.out).mono ?_); (case side1 => exact Kd.C_below HR129_2.out bel); (case side2 => exact HC129_2.out); rintro e w35 ⟨rfl, hb⟩; replace BK128 := Aside0.mk (blk_below (g := gb128) (o := .cells #[.int .i64 a0_0, .slice (some ad129) l0_1.length c0_1] 24 (0, 0)) (by (with_reducible repeat (first | refine blk_drewN ?_ _ | refine blk_drew ?_ | refine blk_alloc ?_ _)); refine blk_far ?_ NB128_130.out _; (with_reducible repeat (first | refine blk_drewN ?_ _ | refine blk_drew ?_ | refine blk_alloc ?_ _)); refine blk_far ?_ NB128_130.out _; (with_reducible repeat (first | refine blk_drewN ?_ _ | refine blk_drew ?_ | refine blk_alloc ?_ _)); refine blk_far ?_ NB128_130.out _; (with_reducible repeat (first | refine blk_drewN ?_ _ | refine blk_drew ?_ | refine blk_alloc ?_ _)); exact BK128.out) hb); replace BK130 := Aside0.mk (blk_below (g := gb130) (o := .cells #[.string ((rd_T52 l0_1 x22_2).f0), .int .i64 ((rd_T52 l0_1 x22_2).f1), .slice A129_2 ((rd_T52 l0_1 x22_2).f2).length c129_2] 52 (0, 0)) (by (with_reducible repeat (first | refine blk_drewN ?_ _ | refine blk_drew ?_ | refine blk_alloc ?_ _)); refine blk_put (cs := #[.string ((rd_T52 l0_1 x22_2).f0), .int .i64 ((rd_T52 l0_1 x22_2).f1), .slice none 0 0]) ?_ 2 _ rfl; (with_reducible repeat (first | refine blk_drewN ?_ _ | refine blk_drew ?_ | refine blk_alloc ?_ _)); refine blk_put (cs := #[.string ((rd_T52 l0_1 x22_2).f0), .int .i64 0, .slice none 0 0]) ?_ 1 _ rfl; (with_reducible repeat (first | refine blk_drewN ?_ _ | refine blk_drew ?_ | refine blk_alloc ?_ _)); refine blk_put (cs := #[.string (⟨#[]⟩ : ByteArray), .int .i64 0, .slice none 0 0]) ?_ 0 _ rfl; (with_reducible repeat (first | refine blk_drewN ?_ _ | refine blk_drew ?_ | refine blk_alloc ?_ _)); exact BK130.out) hb); replace HB := Aside0.mk (below_step bel hb); (try clear hb); (try clear hb2); (try clear hk); (try clear hi)))
              go_meet
              case rel => exact ⟨_, (!t133), eS, H', ⟨by have := HJ1.out; have := HK2.out; first | omega | exact Nat.le_refl _⟩, ⟨bk BK128⟩, ⟨bk BK130⟩, ⟨bel⟩⟩
          ·replace c19 := Bool.eq_false_iff.mpr c19
           subst c19
           have H1 : (shape_Valid.j2 k2 x22_2 l0_1 (l0_1.length : Int) x22_2 true a0_0 l0_1 ((rd_T52 l0_1 x22_2).f0) ((rd_T52 l0_1 x22_2).f1) ((rd_T52 l0_1 x22_2).f2)) = some r := by rw [if_neg (show ¬ (false = true) by decide)] at H; exact H
           clear H
           have H := H1
           clear H1
           have H' := Aside0.mk H
           clear H
           have hnb36 := NB130_128.out
           have hnc36 := NB128_130.out
           obtain ⟨hcz37_0, hcz37_1, hcz37_2, hfz37_0, hfz37_1, hfz37_2⟩ := bq3 BK130
           go_wp2_with (first | ((with_reducible refine gate_callee (f := 64) rfl ?_); refine gL (some 29) Tryz.func64 #[.string ((rd_T52 l0_1 x22_2).f0)] ?_; (with_reducible refine (shape_Name.calls k2 ((rd_T52 l0_1 x22_2).f0) false _ A18.out).mono ?_); rintro e w' ⟨rfl, ⟨nd, rfl⟩⟩; refine ⟨_, rfl, ?_⟩))
           go_meet
           case rel => exact ⟨_, (true), eS, H', ⟨by have := HJ1.out; have := HK2.out; first | omega | exact Nat.le_refl _⟩, ⟨by (with_reducible repeat (first | refine blk_drewN ?_ _ | refine blk_drew ?_ | refine blk_alloc ?_ _)); refine blk_far ?_ NB128_130.out _; (with_reducible repeat (first | refine blk_drewN ?_ _ | refine blk_drew ?_ | refine blk_alloc ?_ _)); refine blk_far ?_ NB128_130.out _; (with_reducible repeat (first | refine blk_drewN ?_ _ | refine blk_drew ?_ | refine blk_alloc ?_ _)); refine blk_far ?_ NB128_130.out _; (with_reducible repeat (first | refine blk_drewN ?_ _ | refine blk_drew ?_ | refine blk_alloc ?_ _)); exact BK128.out⟩, ⟨by (with_reducible repeat (first | refine blk_drewN ?_ _ | refine blk_drew ?_ | refine blk_alloc ?_ _)); refine blk_put (cs := #[.string ((rd_T52 l0_1 x22_2).f0), .int .i64 ((rd_T52 l0_1 x22_2).f1), .slice none 0 0]) ?_ 2 _ rfl; (with_reducible repeat (first | refine blk_drewN ?_ _ | refine blk_drew ?_ | refine blk_alloc ?_ _)); refine blk_put (cs := #[.string ((rd_T52 l0_1 x22_2).f0), .int .i64 0, .slice none 0 0]) ?_ 1 _ rfl; (with_reducible repeat (first | refine blk_drewN ?_ _ | refine blk_drew ?_ | refine blk_alloc ?_ _)); refine blk_put (cs := #[.string (⟨#[]⟩ : ByteArray), .int .i64 0, .slice none 0 0]) ?_ 0 _ rfl; (with_reducible repeat (first | refine blk_drewN ?_ _ | refine blk_drew ?_ | refine blk_alloc ?_ _)); exact BK130.out⟩, ⟨bel⟩⟩
         case rest =>
          clear HC14
          (try clear c9); (try clear c11); (try clear c11b0); (try clear c12); (try clear c12b0); (try clear c13); (try clear c13b0); (try clear hcz10_0); (try clear hcz10_1); (try clear hcz17_0); (try clear hcz17_1); (try clear hcz17_2); (try clear hfz10_0); (try clear hfz10_1); (try clear hfz17_0); (try clear hfz17_1); (try clear hfz17_2); (try clear hx129_0); (try clear hx129_1); (try clear hx129_2); (try clear p129); (try clear q129)
          obtain ⟨kq, x55_13, rfl, HA, HJ13, BK128, BK130, HB⟩ := hcut
          cases kq with
          | zero => exact absurd HA.out (by simp [shape_Valid.j2])
          | succ kj13 =>
           have H := HA.out
           clear HA
           simp only [shape_Valid.j2] at H
           by_cases c38 : x55_13 = true
           ·subst c38
            have H1 : (some false) = some r := by rw [if_pos rfl] at H; exact H
            clear H
            have H := H1
            clear H1
            obtain rfl := Option.some.inj H
            go_wp2
            go_ret
            exact ⟨eN, bel⟩
           ·replace c38 := Bool.eq_false_iff.mpr c38
            subst c38
            have H1 : (if 0 ≤ x22_2 then (if x22_2 ≤ (l0_1.length : Int) then ((shape_Valid_1_any.f (l0_1.take (x22_2 : Int).toNat) ((rd_T52 l0_1 x22_2).f0) ((rd_T52 l0_1 x22_2).f1) ((rd_T52 l0_1 x22_2).f2)).bind fun t138 => (if t138 = true then (some false) else (shape_Valid.l0 kj13 l0_1 (l0_1.length : Int) (wrap64 (x22_2 + 1)) a0_0 l0_1))) else (none)) else (none)) = some r := by rw [if_neg (show ¬ (false = true) by decide)] at H; exact H
            clear H
            have H := H1
            clear H1
            by_cases c39 : 0 ≤ x22_2
            ·rw [if_pos c39] at H
             have c39b0 := eq_true c39
             have c39b1 : decide (0 ≤ x22_2) = true := decide_eq_true c39
             clear c39
             by_cases c40 : x22_2 ≤ (l0_1.length : Int)
             ·rw [if_pos c40] at H
              have c40b0 := eq_true c40
              have c40b1 : decide (x22_2 ≤ (l0_1.length : Int)) = true := decide_eq_true c40
              clear c40
              obtain ⟨y134, hy134⟩ : ∃ y_ : List (S52), y_ = (l0_1.take (x22_2 : Int).toNat) := ⟨_, rfl⟩
              replace H : ((shape_Valid_1_any.f y134 ((rd_T52 l0_1 x22_2).f0) ((rd_T52 l0_1 x22_2).f1) ((rd_T52 l0_1 x22_2).f2)).bind fun t138 => (if t138 = true then (some false) else (shape_Valid.l0 kj13 l0_1 (l0_1.length : Int) (wrap64 (x22_2 + 1)) a0_0 l0_1))) = some r := by first | (rw [hy134]; with_reducible exact H) | (have H2_ := (Option.bind_some _ _).symm.trans H; rw [hy134]; with_reducible exact H2_) | (have H2_ := (Option.bind_some _ _).symm.trans H; with_reducible exact H2_) | with_reducible exact H | (rw [hy134]; exact H) | exact H
              have Ny134 := Aside0.mk hy134
              clear hy134
              replace H := Option.bind_eq_some_iff.mp H
              obtain ⟨t138, A410, H⟩ := H
              replace H : (if t138 = true then (some false) else (shape_Valid.l0 kj13 l0_1 (l0_1.length : Int) (wrap64 (x22_2 + 1)) a0_0 l0_1)) = some r := H
              have A41 := Aside0.mk A410
              clear A410
              by_cases c42 : t138 = true
              ·subst c42
               have H1 : (some false) = some r := by rw [if_pos rfl] at H; exact H
               clear H
               have H := H1
               clear H1
               obtain rfl := Option.some.inj H
               have hnb43 := NB128_130.out
               have hnc43 := NB130_128.out
               obtain ⟨hcz44_0, hcz44_1, hfz44_0, hfz44_1⟩ := bq2 BK128
               have q45 : (x22_2 : Int) ≤ ((l0_1.length : Int) : Int) := dtr
               obtain ⟨i045, hi045, _, hsz45, _⟩ := info_parts info52
               have hroom45 : l0_1.length ≤ c0_1 := HC0_1.out
               have hC45 : Kd.C k52 _ (some ad129) l0_1.length l0_1 := HR0_1.out
               have hcut45 := cut_to (P := Tryz.prog) 22 52 .i64 Tryz.underlying22 hi045 (some ad129) l0_1.length c0_1 x22_2 (dtr) q45 hroom45
               have hr45 := Kd.C_take (m := (x22_2 : Int).toNat) hC45 (by omega)
               have hy45 : y134.length = (x22_2 : Int).toNat := (by rw [Ny134.out, List.length_take]; omega)
               rw [← Ny134.out] at hr45
               rw [← hy45] at hcut45
               have HR137 := Aside0.mk hr45
               have HC137 := Aside0.mk (show y134.length ≤ c0_1 from by omega)
               clear hr45 hC45 hroom45 hi045 hsz45
               have KY45 := Aside0.mk hy45
               clear hy45
               replace q45 := eq_true q45
               go_wp2_with (first | ((with_reducible refine gate_callee (f := 67) rfl ?_); refine gL (some 61) Tryz.func67 #[.slice (some ad129) y134.length c0_1, .func (.func 68) #[] #[.pointer (some ⟨gb130, 0, none⟩)]] ?_; (with_reducible refine (shape_Valid_1_any.calls _ _ y134 gb130 ((rd_T52 l0_1 x22_2).f0) ((rd_T52 l0_1 x22_2).f1) A129_2 c129_2 ((rd_T52 l0_1 x22_2).f2) true _ ?side1 ?side2 ?side3 A41.out).mono ?_); (case side1 => exact cS (Kd.C_below HR137.out HB.out)); (case side2 => exact HC137.out); (case side3 => exact (bk BK130)); rintro e w46 ⟨rfl, hb⟩; refine ⟨_, rfl, ?_⟩; replace BK128 := blB BK128 hb; replace BK130 := blB BK130 hb; replace HB := Aside0.mk (below_step bel hb); (try clear hb); (try clear hb2); (try clear hk); (try clear hi)))
               go_ret
               exact ⟨eN, bel⟩
              ·replace c42 := Bool.eq_false_iff.mpr c42
               subst c42
               have H1 : (shape_Valid.l0 kj13 l0_1 (l0_1.length : Int) (wrap64 (x22_2 + 1)) a0_0 l0_1) = some r := by rw [if_neg (show ¬ (false = true) by decide)] at H; exact H
               clear H
               have H := H1
               clear H1
               have H' := Aside0.mk H
               clear H
               have hnb47 := NB128_130.out
               have hnc47 := NB130_128.out
               obtain ⟨hcz48_0, hcz48_1, hfz48_0, hfz48_1⟩ := bq2 BK128
               have q49 : (x22_2 : Int) ≤ ((l0_1.length : Int) : Int) := dtr
               obtain ⟨i049, hi049, _, hsz49, _⟩ := info_parts info52
               have hroom49 : l0_1.length ≤ c0_1 := HC0_1.out
               have hC49 : Kd.C k52 _ (some ad129) l0_1.length l0_1 := HR0_1.out
               have hcut49 := cut_to (P := Tryz.prog) 22 52 .i64 Tryz.underlying22 hi049 (some ad129) l0_1.length c0_1 x22_2 (dtr) q49 hroom49
               have hr49 := Kd.C_take (m := (x22_2 : Int).toNat) hC49 (by omega)
               have hy49 : y134.length = (x22_2 : Int).toNat := (by rw [Ny134.out, List.length_take]; omega)
               rw [← Ny134.out] at hr49
               rw [← hy49] at hcut49
               have HR137 := Aside0.mk hr49
               have HC137 := Aside0.mk (show y134.length ≤ c0_1 from by omega)
               clear hr49 hC49 hroom49 hi049 hsz49
               have KY49 := Aside0.mk hy49
               clear hy49
               replace q49 := eq_true q49
               go_wp2_with (first | ((with_reducible refine gate_callee (f := 67) rfl ?_); refine gL (some 61) Tryz.func67 #[.slice (some ad129) y134.length c0_1, .func (.func 68) #[] #[.pointer (some ⟨gb130, 0, none⟩)]] ?_; (with_reducible refine (shape_Valid_1_any.calls _ _ y134 gb130 ((rd_T52 l0_1 x22_2).f0) ((rd_T52 l0_1 x22_2).f1) A129_2 c129_2 ((rd_T52 l0_1 x22_2).f2) false _ ?side1 ?side2 ?side3 A41.out).mono ?_); (case side1 => exact cS (Kd.C_below HR137.out HB.out)); (case side2 => exact HC137.out); (case side3 => exact (bk BK130)); rintro e w50 ⟨rfl, hb⟩; refine ⟨_, rfl, ?_⟩; replace BK128 := blB BK128 hb; replace BK130 := blB BK130 hb; replace HB := Aside0.mk (below_step bel hb); (try clear hb); (try clear hb2); (try clear hk); (try clear hi)))
               go_roundg kj13
               case measure => have := HJ1.out; have := HK2.out; have := HJ13.out; omega
               case rel => exact ⟨(wrap64 (x22_2 + 1)), eS, H', ⟨by have := HJ1.out; have := HK2.out; have := HJ13.out; omega⟩, ⟨bk BK128⟩, ⟨bel⟩⟩
             ·rw [if_neg c40] at H
              exact absurd H (by simp)
            ·rw [if_neg c39] at H
             exact absurd H (by simp)
        ·rw [if_neg c13] at H
         exact absurd H (by simp)
       ·rw [if_neg c12] at H
        exact absurd H (by simp)
      ·rw [if_neg c11] at H
       have c11b0 : decide (x22_2 < (l0_1.length : Int)) = false := decide_eq_false c11
       clear c11
       obtain rfl := Option.some.inj H
       go_wp2
       go_ret
       exact ⟨eN, bel⟩
end Go.Proofs.YtfmpaofbnjlniaaGreatDoor.F
namespace Go.Proofs.YtfmpaofbnjlniaaGreatDoor.F
open Go.RowKit Go.Proofs.YtfmpaofbnjlniaaGreatDoorW.PrintWords Go.Proofs.YtfmpaofbnjlniaaGreatDoorW.PrintLast Go.Proofs.YtfmpaofbnjlniaaGreatDoorW.PrintMore
attribute [local go_sem] max2_int min2_int max_two min_two max_three min_three max_four min_four
set_option linter.unusedVariables false
set_option linter.unusedSimpArgs false
/-! ### shape_Find: function 55 -/
def shape_Find.f (a0_0 : Int) (l0_1 : List (S52)) (a1 : ByteArray) (a2 : Int) : Option (Int) := (shape_Find_1_idx.f l0_1 a1 a2).bind fun t142 => (some t142)
set_option maxHeartbeats 8000000 in
set_option maxRecDepth 100000 in
theorem shape_Find.calls (a0_0 : Int) (A0_1 : Option Addr) (c0_1 : Nat) (l0_1 : List (S52)) (a1 : ByteArray) (a2 : Int) (r : Int) (w : World) (hr0_1 : Kd.C k52 w A0_1 l0_1.length l0_1) (hc0_1 : l0_1.length ≤ c0_1) (h : shape_Find.f a0_0 l0_1 a1 a2 = some r) :
  Calls Tryz.prog 55 #[.agg #[.int .i64 a0_0, .slice A0_1 l0_1.length c0_1], .string a1, .int .i64 a2] w fun e w' => e = .returned (.int .i64 r) ∧ Below w.heap.size w w' := by
 have hu24 := Tryz.underlying24
 have HR0_1 := Aside0.mk hr0_1
 have HC0_1 := Aside0.mk hc0_1
 clear hr0_1 hc0_1
 have HB := Aside0.mk (Below.refl w.heap.size w)
 have H : ((shape_Find_1_idx.f l0_1 a1 a2).bind fun t142 => (some t142)) = some r := h
 clear h
 replace H := Option.bind_eq_some_iff.mp H
 obtain ⟨t142, A40, H⟩ := H
 replace H : (some t142) = some r := H
 have A4 := Aside0.mk A40
 clear A40
 obtain rfl := Option.some.inj H
 go_enter Tryz.func55, Tryz.ntmps55
 go_wp2_with (first | ((with_reducible refine gate_dst (N := 3) rfl ?_); refine box_event ?hg (N := 3) ?hd (cs := #[.int .i64 a0_0, .slice A0_1 l0_1.length c0_1]) (t := 24) ?hr ?_; (case hd => rfl); (case hg => rfl); (case hr => first | (go_simp; done) | (go_simp; rfl)); intro gb139 hg w5 hbox hb; have BK139 := Aside0.mk (hbox); have GW139 := geB w hg; have GE139 := geB w hg; replace HB := Aside0.mk (below_step bel hb); clear hb hbox hg) | ((with_reducible refine gate_dst (N := 4) rfl ?_); refine box_event ?hg (N := 4) ?hd (cs := #[.string a1]) (t := 9) ?hr ?_; (case hd => rfl); (case hg => rfl); (case hr => first | (go_simp; done) | (go_simp; rfl)); intro gb140 hg w6 hbox hb; have BK140 := Aside0.mk (hbox); have GW140 := geB w hg; have GE140 := geB w hg; have NB139_140 := neL BK139 hg; have NB140_139 := neG BK139 hg; replace BK139 := blB BK139 hb; replace HB := Aside0.mk (below_step bel hb); clear hb hbox hg) | ((with_reducible refine gate_dst (N := 5) rfl ?_); refine box_event ?hg (N := 5) ?hd (cs := #[.int .i64 a2]) (t := 3) ?hr ?_; (case hd => rfl); (case hg => rfl); (case hr => first | (go_simp; done) | (go_simp; rfl)); intro gb141 hg w7 hbox hb; have BK141 := Aside0.mk (hbox); have GW141 := geB w hg; have GE141 := geB w hg; have NB139_141 := neL BK139 hg; have NB141_139 := neG BK139 hg; have NB140_141 := neL BK140 hg; have NB141_140 := neG BK140 hg; replace BK139 := blB BK139 hb; replace BK140 := blB BK140 hb; replace HB := Aside0.mk (below_step bel hb); clear hb hbox hg; have hnb8 := NB139_140.out; have hnc8 := NB140_139.out; have hnb9 := NB139_141.out; have hnc9 := NB141_139.out; obtain ⟨hcz10_0, hcz10_1, hfz10_0, hfz10_1⟩ := bq2 BK139) | ((with_reducible refine gate_callee (f := 83) rfl ?_); refine gL (some 10) Tryz.func83 #[.slice A0_1 l0_1.length c0_1, .func (.func 84) #[] #[.pointer (some ⟨gb140, 0, none⟩), .pointer (some ⟨gb141, 0, none⟩)]] ?_; (with_reducible refine (shape_Find_1_idx.calls _ _ l0_1 gb140 gb141 a1 a2 t142 _ ?side1 ?side2 ?side3 ?side4 A4.out).mono ?_); (case side1 => exact cS (Kd.C_below HR0_1.out HB.out)); (case side2 => exact HC0_1.out); (case side3 => exact (bk BK140)); (case side4 => exact (bk BK141)); rintro e w11 ⟨rfl, hb⟩; refine ⟨_, rfl, ?_⟩; replace BK139 := blB BK139 hb; replace BK140 := blB BK140 hb; replace BK141 := blB BK141 hb; replace HB := Aside0.mk (below_step bel hb); (try clear hb); (try clear hb2); (try clear hk); (try clear hi)))
 go_ret
 exact ⟨eN, bel⟩
end Go.Proofs.YtfmpaofbnjlniaaGreatDoor.F
namespace Go.Proofs.YtfmpaofbnjlniaaGreatDoor.F
open Go.RowKit Go.Proofs.YtfmpaofbnjlniaaGreatDoorW.PrintWords Go.Proofs.YtfmpaofbnjlniaaGreatDoorW.PrintLast Go.Proofs.YtfmpaofbnjlniaaGreatDoorW.PrintMore
attribute [local go_sem] max2_int min2_int max_two min_two max_three min_three max_four min_four
set_option linter.unusedVariables false
set_option linter.unusedSimpArgs false
/-! ### slices_BinarySearchFunc_int_int_int: function 56 -/
def slices_BinarySearchFunc_int_int_int.l0 : Nat → List (List Int) → List Int → Int → Int → Int → Option (Int × Bool)
 | 0, _, _, _, _, _ => none
 | k + 1, x0, x1, x8, x9, x10 => if x9 < x10 then (if 0 ≤ (wrap64 ((IntKind.u64.wrap (wrap64 (x9 + x10))) / 2)) then (if (wrap64 ((IntKind.u64.wrap (wrap64 (x9 + x10))) / 2)) < (x0.length : Int) then ((slices_Compare_int_int.f k (rd_L2 x0 (wrap64 ((IntKind.u64.wrap (wrap64 (x9 + x10))) / 2))) x1).bind fun t144 => (if t144 < 0 then (slices_BinarySearchFunc_int_int_int.l0 k x0 x1 x8 (wrap64 ((wrap64 ((IntKind.u64.wrap (wrap64 (x9 + x10))) / 2)) + 1)) x10) else (slices_BinarySearchFunc_int_int_int.l0 k x0 x1 x8 x9 (wrap64 ((IntKind.u64.wrap (wrap64 (x9 + x10))) / 2))))) else (none)) else (none)) else (if x9 < x8 then (if 0 ≤ x9 then (if x9 < (x0.length : Int) then ((slices_Compare_int_int.f k (rd_L2 x0 x9) x1).bind fun t146 => (some (x9, (t146 == 0)))) else (none)) else (none)) else (some (x9, false)))
def slices_BinarySearchFunc_int_int_int.f (k : Nat) (l0 : List (List Int)) (l1 : List Int)  : Option (Int × Bool) := slices_BinarySearchFunc_int_int_int.l0 k l0 l1 (l0.length : Int) 0 (l0.length : Int)
theorem slices_BinarySearchFunc_int_int_int.mono_l : ∀ k, (∀ y0 y1 y2 y3 y4, LeO (slices_BinarySearchFunc_int_int_int.l0 k y0 y1 y2 y3 y4) (slices_BinarySearchFunc_int_int_int.l0 (k + 1) y0 y1 y2 y3 y4))
 | 0 => fun _ _ _ _ _ r h => by simp [slices_BinarySearchFunc_int_int_int.l0] at h
 | k + 1 => by
  have ih0 := slices_BinarySearchFunc_int_int_int.mono_l k
  ·intro y0 y1 y2 y3 y4
   unfold slices_BinarySearchFunc_int_int_int.l0
   repeat' first
   | (with_reducible exact ih0 _ _ _ _ _)
   | (with_reducible exact slices_Compare_int_int.mono _ _ _)
   | (with_reducible exact LeO.refl _)
   | (with_reducible exact LeO.none _)
   | (with_reducible refine LeO.ite ?_ ?_)
   | (with_reducible refine LeO.bind ?_ (fun _ => ?_))
   | exact ih0 _ _ _ _ _
   | exact slices_Compare_int_int.mono _ _ _
   | exact LeO.none _
   | refine LeO.ite ?_ ?_
   | refine LeO.bind ?_ (fun _ => ?_)
theorem slices_BinarySearchFunc_int_int_int.mono : ∀ a0 a1 k, LeO (slices_BinarySearchFunc_int_int_int.f k a0 a1) (slices_BinarySearchFunc_int_int_int.f (k + 1) a0 a1) := by
 intro a0 a1 k
 have ih0 := slices_BinarySearchFunc_int_int_int.mono_l k
 unfold slices_BinarySearchFunc_int_int_int.f
 repeat' first
   | (with_reducible exact ih0 _ _ _ _ _)
   | (with_reducible exact slices_Compare_int_int.mono _ _ _)
   | (with_reducible exact LeO.refl _)
   | (with_reducible exact LeO.none _)
   | (with_reducible refine LeO.ite ?_ ?_)
   | (with_reducible refine LeO.bind ?_ (fun _ => ?_))
   | exact ih0 _ _ _ _ _
   | exact slices_Compare_int_int.mono _ _ _
   | exact LeO.none _
   | refine LeO.ite ?_ ?_
   | refine LeO.bind ?_ (fun _ => ?_)
set_option maxHeartbeats 8000000 in
set_option maxRecDepth 100000 in
theorem slices_BinarySearchFunc_int_int_int.calls (k : Nat) (A0 : Option Addr) (c0 : Nat) (l0 : List (List Int)) (A1 : Option Addr) (c1 : Nat) (l1 : List Int)  (r1 : Int) (r2 : Bool) (w : World) (hr0 : Kd.C (Kd.slice 3 (Kd.int .i64)) w A0 l0.length l0) (hc0 : l0.length ≤ c0) (hr1 : Kd.C (Kd.int .i64) w A1 l1.length l1) (hc1 : l1.length ≤ c1) (h : slices_BinarySearchFunc_int_int_int.f k l0 l1 = some (r1, r2)) :
  Calls Tryz.prog 56 #[.slice A0 l0.length c0, .slice A1 l1.length c1, .func (.func 57) #[] #[]] w fun e w' => e = .returned (.tuple #[.int .i64 r1, .bool r2]) ∧ Drawn0 w w' := by
 have HR0 := Aside0.mk hr0
 have HC0 := Aside0.mk hc0
 clear hr0 hc0
 have HR1 := Aside0.mk hr1
 have HC1 := Aside0.mk hc1
 clear hr1 hc1
 have H : (slices_BinarySearchFunc_int_int_int.l0 k l0 l1 (l0.length : Int) 0 (l0.length : Int)) = some (r1, r2) := h
 clear h
 have H' := Aside0.mk H
 clear H
 go_enter Tryz.func56, Tryz.ntmps56
 go_wp2
 go_loopg [9, 10] k (fun kq v9 v10 w' => ∃ (x9_1 : Int) (x10_1 : Int), v9 = .int .i64 x9_1 ∧ v10 = .int .i64 x10_1 ∧ Aside0 (slices_BinarySearchFunc_int_int_int.l0 kq l0 l1 (l0.length : Int) x9_1 x10_1 = some (r1, r2)) ∧ Aside0 (kq ≤ k) ∧ Drawn0 w w')
 case atStart => exact ⟨(0), ((l0.length : Int)), eS, eS, H', ⟨Nat.le_refl _⟩, dr0⟩
 case round =>
  clear H'
  (try clear c1)
  obtain ⟨x9_1, x10_1, rfl, rfl, HA, HK1, ⟨m1, rfl⟩⟩ := hrel
  cases gk with
  | zero => exact absurd HA.out (by simp [slices_BinarySearchFunc_int_int_int.l0])
  | succ k1 =>
   have H := HA.out
   clear HA
   simp only [slices_BinarySearchFunc_int_int_int.l0] at H
   by_cases c4 : x9_1 < x10_1
   ·rw [if_pos c4] at H
    have c4b0 : decide (x9_1 < x10_1) = true := decide_eq_true c4
    clear c4
    obtain ⟨ji5, hji5⟩ : ∃ j_ : Int, (wrap64 ((IntKind.u64.wrap (wrap64 (x9_1 + x10_1))) / 2)) = j_ := ⟨_, rfl⟩
    replace H : (if 0 ≤ (ji5) then (if (ji5) < (l0.length : Int) then ((slices_Compare_int_int.f k1 (rd_L2 l0 (ji5)) l1).bind fun t144 => (if t144 < 0 then (slices_BinarySearchFunc_int_int_int.l0 k1 l0 l1 (l0.length : Int) (wrap64 ((ji5) + 1)) x10_1) else (slices_BinarySearchFunc_int_int_int.l0 k1 l0 l1 (l0.length : Int) x9_1 ji5))) else (none)) else (none)) = some (r1, r2) := by first | (rw [hji5] at H; exact H) | (simp only [hji5] at H ⊢; exact H)
    have hji5w : (IntKind.i64.wrap ((IntKind.u64.wrap (wrap64 (x9_1 + x10_1))) / 2)) = ji5 := (i64_w _).trans hji5
    by_cases c6 : 0 ≤ (ji5)
    ·rw [if_pos c6] at H
     have c6b0 : decide (0 ≤ (ji5)) = true := decide_eq_true c6
     clear c6
     by_cases c7 : (ji5) < (l0.length : Int)
     ·rw [if_pos c7] at H
      have c7b0 : decide ((ji5) < (l0.length : Int)) = true := decide_eq_true c7
      clear c7
      replace H := Option.bind_eq_some_iff.mp H
      obtain ⟨t144, A80, H⟩ := H
      replace H : (if t144 < 0 then (slices_BinarySearchFunc_int_int_int.l0 k1 l0 l1 (l0.length : Int) (wrap64 ((ji5) + 1)) x10_1) else (slices_BinarySearchFunc_int_int_int.l0 k1 l0 l1 (l0.length : Int) x9_1 ji5)) = some (r1, r2) := H
      have A8 := Aside0.mk A80
      clear A80
      by_cases c9 : t144 < 0
      ·rw [if_pos c9] at H
       have c9b0 : decide (t144 < 0) = true := decide_eq_true c9
       clear c9
       have H' := Aside0.mk H
       clear H
       have p143 : 0 ≤ ((ji5) : Int) := dtr
       have q143 : (ji5) < (l0.length : Int) := dtr
       obtain ⟨ad143, A143_0, c143_0, e143, hx143_0, hl143_0, hi143_0⟩ := at_L2 HR0.out (ji5) p143 q143
       cases e143
       have HR143_0 := Aside0.mk hi143_0
       have HC143_0 := Aside0.mk hl143_0
       clear hi143_0 hl143_0
       replace p143 := eq_true p143
       replace q143 := eq_true q143
       go_wp2_with (first | (go_at_call 57; (with_reducible refine (slices_Compare_int_int.calls k1 _ _ (rd_L2 l0 (ji5)) _ _ l1 t144 _ ?side1 ?side2 ?side3 ?side4 A8.out).mono ?_); (case side1 => exact cS HR143_0.out); (case side2 => exact HC143_0.out); (case side3 => exact cS HR1.out); (case side4 => exact HC1.out); rintro e w' ⟨rfl, ⟨nd, rfl⟩⟩))
       go_roundg k1
       case measure => have := HK1.out; omega
       case rel => exact ⟨(wrap64 ((ji5) + 1)), (x10_1), (by first | rfl | (simp; done) | (simp only [← hji5] <;> (first | rfl | simp)) | (simp [*]; done)), eS, H', ⟨by have := HK1.out; omega⟩, dr0⟩
      ·rw [if_neg c9] at H
       have c9b0 : decide (t144 < 0) = false := decide_eq_false c9
       clear c9
       have H' := Aside0.mk H
       clear H
       have p143 : 0 ≤ ((ji5) : Int) := dtr
       have q143 : (ji5) < (l0.length : Int) := dtr
       obtain ⟨ad143, A143_0, c143_0, e143, hx143_0, hl143_0, hi143_0⟩ := at_L2 HR0.out (ji5) p143 q143
       cases e143
       have HR143_0 := Aside0.mk hi143_0
       have HC143_0 := Aside0.mk hl143_0
       clear hi143_0 hl143_0
       replace p143 := eq_true p143
       replace q143 := eq_true q143
       go_wp2_with (first | (go_at_call 57; (with_reducible refine (slices_Compare_int_int.calls k1 _ _ (rd_L2 l0 (ji5)) _ _ l1 t144 _ ?side1 ?side2 ?side3 ?side4 A8.out).mono ?_); (case side1 => exact cS HR143_0.out); (case side2 => exact HC143_0.out); (case side3 => exact cS HR1.out); (case side4 => exact HC1.out); rintro e w' ⟨rfl, ⟨nd, rfl⟩⟩))
       go_roundg k1
       case measure => have := HK1.out; omega
       case rel => exact ⟨(x9_1), (ji5), eS, (by first | rfl | (simp; done) | (simp only [← hji5] <;> (first | rfl | simp)) | (simp [*]; done)), H', ⟨by have := HK1.out; omega⟩, dr0⟩
     ·rw [if_neg c7] at H
      exact absurd H (by simp)
    ·rw [if_neg c6] at H
     exact absurd H (by simp)
   ·rw [if_neg c4] at H
    have c4b0 : decide (x9_1 < x10_1) = false := decide_eq_false c4
    clear c4
    by_cases c10 : x9_1 < (l0.length : Int)
    ·rw [if_pos c10] at H
     have c10b0 : decide (x9_1 < (l0.length : Int)) = true := decide_eq_true c10
     clear c10
     by_cases c11 : 0 ≤ x9_1
     ·rw [if_pos c11] at H
      have c11b0 : decide (0 ≤ x9_1) = true := decide_eq_true c11
      clear c11
      by_cases c12 : x9_1 < (l0.length : Int)
      ·rw [if_pos c12] at H
       have c12b0 : decide (x9_1 < (l0.length : Int)) = true := decide_eq_true c12
       clear c12
       replace H := Option.bind_eq_some_iff.mp H
       obtain ⟨t146, A130, H⟩ := H
       replace H : (some (x9_1, (t146 == 0))) = some (r1, r2) := H
       have A13 := Aside0.mk A130
       clear A130
       simp only [Option.some.injEq, Prod.mk.injEq] at H
       obtain ⟨rfl, rfl⟩ := H
       have p145 : 0 ≤ (x9_1 : Int) := dtr
       have q145 : x9_1 < (l0.length : Int) := dtr
       obtain ⟨ad145, A145_0, c145_0, e145, hx145_0, hl145_0, hi145_0⟩ := at_L2 HR0.out x9_1 p145 q145
       cases e145
       have HR145_0 := Aside0.mk hi145_0
       have HC145_0 := Aside0.mk hl145_0
       clear hi145_0 hl145_0
       replace p145 := eq_true p145
       replace q145 := eq_true q145
       go_wp2_with (first | (go_at_call 57; (with_reducible refine (slices_Compare_int_int.calls k1 _ _ (rd_L2 l0 x9_1) _ _ l1 t146 _ ?side1 ?side2 ?side3 ?side4 A13.out).mono ?_); (case side1 => exact cS HR145_0.out); (case side2 => exact HC145_0.out); (case side3 => exact cS HR1.out); (case side4 => exact HC1.out); rintro e w' ⟨rfl, ⟨nd, rfl⟩⟩))
       go_ret2
       exact ⟨eS, dr0⟩
      ·rw [if_neg c12] at H
       exact absurd H (by simp)
     ·rw [if_neg c11] at H
      exact absurd H (by simp)
    ·rw [if_neg c10] at H
     have c10b0 : decide (x9_1 < (l0.length : Int)) = false := decide_eq_false c10
     clear c10
     simp only [Option.some.injEq, Prod.mk.injEq] at H
     obtain ⟨rfl, rfl⟩ := H
     go_wp2
     go_ret2
     exact ⟨eS, dr0⟩
end Go.Proofs.YtfmpaofbnjlniaaGreatDoor.F
namespace Go.Proofs.YtfmpaofbnjlniaaGreatDoor.F
open Go.RowKit Go.Proofs.YtfmpaofbnjlniaaGreatDoorW.PrintWords Go.Proofs.YtfmpaofbnjlniaaGreatDoorW.PrintLast Go.Proofs.YtfmpaofbnjlniaaGreatDoorW.PrintMore
attribute [local go_sem] max2_int min2_int max_two min_two max_three min_three max_four min_four
set_option linter.unusedVariables false
set_option linter.unusedSimpArgs false
/-! ### shape_Has: function 25 -/
def shape_Has.f (k : Nat) (a0_0 : Int) (l0_1 : List (S52)) (a1 : ByteArray) (l2 : List Int) : Option (Bool × Int) := (shape_Valid.f k a0_0 l0_1).bind fun t148 => (if t148 = true then ((shape_Find.f a0_0 l0_1 a1 (l2.length : Int)).bind fun t149 => (if t149 < 0 then (some (false, 4)) else (if 0 ≤ t149 then (if t149 < (l0_1.length : Int) then ((slices_BinarySearchFunc_int_int_int.f k ((rd_T52 l0_1 t149).f2) l2).bind fun bt151 => (some (bt151.2, 0))) else (none)) else (none)))) else (some (false, 1)))
theorem shape_Has.mono : ∀ a0 a1 a2 a3 k, LeO (shape_Has.f k a0 a1 a2 a3) (shape_Has.f (k + 1) a0 a1 a2 a3) := by
 intro a0 a1 a2 a3 k
 unfold shape_Has.f
 repeat' first
   | (with_reducible exact shape_Valid.mono _ _ _)
   | (with_reducible exact slices_BinarySearchFunc_int_int_int.mono _ _ _)
   | (with_reducible exact LeO.refl _)
   | (with_reducible exact LeO.none _)
   | (with_reducible refine LeO.ite ?_ ?_)
   | (with_reducible refine LeO.bind ?_ (fun _ => ?_))
   | exact shape_Valid.mono _ _ _
   | exact slices_BinarySearchFunc_int_int_int.mono _ _ _
   | exact LeO.none _
   | refine LeO.ite ?_ ?_
   | refine LeO.bind ?_ (fun _ => ?_)
set_option maxHeartbeats 8000000 in
set_option maxRecDepth 100000 in
theorem shape_Has.calls (k : Nat) (a0_0 : Int) (A0_1 : Option Addr) (c0_1 : Nat) (l0_1 : List (S52)) (a1 : ByteArray) (A2 : Option Addr) (c2 : Nat) (l2 : List Int) (r1 : Bool) (r2 : Int) (w : World) (hr0_1 : Kd.C k52 w A0_1 l0_1.length l0_1) (hc0_1 : l0_1.length ≤ c0_1) (hr2 : Kd.C (Kd.int .i64) w A2 l2.length l2) (hc2 : l2.length ≤ c2) (h : shape_Has.f k a0_0 l0_1 a1 l2 = some (r1, r2)) :
  Calls Tryz.prog 25 #[.agg #[.int .i64 a0_0, .slice A0_1 l0_1.length c0_1], .string a1, .slice A2 l2.length c2] w fun e w' => e = .returned (.tuple #[.bool r1, .int .i64 r2]) ∧ Below w.heap.size w w' := by
 have hu24 := Tryz.underlying24
 have HR0_1 := Aside0.mk hr0_1
 have HC0_1 := Aside0.mk hc0_1
 clear hr0_1 hc0_1
 have HR2 := Aside0.mk hr2
 have HC2 := Aside0.mk hc2
 clear hr2 hc2
 have HB := Aside0.mk (Below.refl w.heap.size w)
 have H : ((shape_Valid.f k a0_0 l0_1).bind fun t148 => (if t148 = true then ((shape_Find.f a0_0 l0_1 a1 (l2.length : Int)).bind fun t149 => (if t149 < 0 then (some (false, 4)) else (if 0 ≤ t149 then (if t149 < (l0_1.length : Int) then ((slices_BinarySearchFunc_int_int_int.f k ((rd_T52 l0_1 t149).f2) l2).bind fun bt151 => (some (bt151.2, 0))) else (none)) else (none)))) else (some (false, 1)))) = some (r1, r2) := h
 clear h
 replace H := Option.bind_eq_some_iff.mp H
 obtain ⟨t148, A40, H⟩ := H
 replace H : (if t148 = true then ((shape_Find.f a0_0 l0_1 a1 (l2.length : Int)).bind fun t149 => (if t149 < 0 then (some (false, 4)) else (if 0 ≤ t149 then (if t149 < (l0_1.length : Int) then ((slices_BinarySearchFunc_int_int_int.f k ((rd_T52 l0_1 t149).f2) l2).bind fun bt151 => (some (bt151.2, 0))) else (none)) else (none)))) else (some (false, 1))) = some (r1, r2) := H
 have A4 := Aside0.mk A40
 clear A40
 by_cases c5 : t148 = true
 ·subst c5
  have H1 : ((shape_Find.f a0_0 l0_1 a1 (l2.length : Int)).bind fun t149 => (if t149 < 0 then (some (false, 4)) else (if 0 ≤ t149 then (if t149 < (l0_1.length : Int) then ((slices_BinarySearchFunc_int_int_int.f k ((rd_T52 l0_1 t149).f2) l2).bind fun bt151 => (some (bt151.2, 0))) else (none)) else (none)))) = some (r1, r2) := by rw [if_pos rfl] at H; exact H
  clear H
  have H := H1
  clear H1
  replace H := Option.bind_eq_some_iff.mp H
  obtain ⟨t149, A60, H⟩ := H
  replace H : (if t149 < 0 then (some (false, 4)) else (if 0 ≤ t149 then (if t149 < (l0_1.length : Int) then ((slices_BinarySearchFunc_int_int_int.f k ((rd_T52 l0_1 t149).f2) l2).bind fun bt151 => (some (bt151.2, 0))) else (none)) else (none))) = some (r1, r2) := H
  have A6 := Aside0.mk A60
  clear A60
  by_cases c7 : t149 < 0
  ·rw [if_pos c7] at H
   have c7b0 : decide (t149 < 0) = true := decide_eq_true c7
   clear c7
   simp only [Option.some.injEq, Prod.mk.injEq] at H
   obtain ⟨rfl, rfl⟩ := H
   go_enter Tryz.func25, Tryz.ntmps25
   go_wp2_with (first | ((with_reducible refine gate_dst (N := 3) rfl ?_); refine box_event ?hg (N := 3) ?hd (cs := #[.int .i64 a0_0, .slice A0_1 l0_1.length c0_1]) (t := 24) ?hr ?_; (case hd => rfl); (case hg => rfl); (case hr => first | (go_simp; done) | (go_simp; rfl)); intro gb147 hg w8 hbox hb; have BK147 := Aside0.mk (hbox); have GW147 := geB w hg; have GE147 := geB w hg; replace HB := Aside0.mk (below_step bel hb); clear hb hbox hg; obtain ⟨hcz9_0, hcz9_1, hfz9_0, hfz9_1⟩ := bq2 BK147) | ((with_reducible refine gate_callee (f := 33) rfl ?_); refine gL (some 12) Tryz.func33 #[.agg #[.int .i64 a0_0, .slice A0_1 l0_1.length c0_1]] ?_; (with_reducible refine (shape_Valid.calls k a0_0 _ _ l0_1 true _ ?side1 ?side2 A4.out).mono ?_); (case side1 => exact cS (Kd.C_below HR0_1.out HB.out)); (case side2 => exact HC0_1.out); rintro e w10 ⟨rfl, hb⟩; refine ⟨_, rfl, ?_⟩; replace BK147 := blB BK147 hb; replace HB := Aside0.mk (below_step bel hb); (try clear hb); (try clear hb2); (try clear hk); (try clear hi); obtain ⟨hcz11_0, hcz11_1, hfz11_0, hfz11_1⟩ := bq2 BK147) | ((with_reducible refine gate_callee (f := 55) rfl ?_); refine gL (some 18) Tryz.func55 #[.agg #[.int .i64 a0_0, .slice A0_1 l0_1.length c0_1], .string a1, .int .i64 (l2.length : Int)] ?_; (with_reducible refine (shape_Find.calls a0_0 _ _ l0_1 a1 (l2.length : Int) t149 _ ?side1 ?side2 A6.out).mono ?_); (case side1 => exact cS (Kd.C_below HR0_1.out HB.out)); (case side2 => exact HC0_1.out); rintro e w12 ⟨rfl, hb⟩; refine ⟨_, rfl, ?_⟩; replace BK147 := blB BK147 hb; replace HB := Aside0.mk (below_step bel hb); (try clear hb); (try clear hb2); (try clear hk); (try clear hi)))
   go_ret2
   exact ⟨eN, bel⟩
  ·rw [if_neg c7] at H
   have c7b0 : decide (t149 < 0) = false := decide_eq_false c7
   clear c7
   by_cases c13 : 0 ≤ t149
   ·rw [if_pos c13] at H
    have c13b0 : decide (0 ≤ t149) = true := decide_eq_true c13
    clear c13
    by_cases c14 : t149 < (l0_1.length : Int)
    ·rw [if_pos c14] at H
     have c14b0 : decide (t149 < (l0_1.length : Int)) = true := decide_eq_true c14
     clear c14
     replace H := Option.bind_eq_some_iff.mp H
     obtain ⟨⟨t151, t152⟩, A150, H⟩ := H
     replace H : (some (t152, 0)) = some (r1, r2) := H
     have A15 := Aside0.mk A150
     clear A150
     simp only [Option.some.injEq, Prod.mk.injEq] at H
     obtain ⟨rfl, rfl⟩ := H
     go_enter Tryz.func25, Tryz.ntmps25
     go_wp2_with (first | ((with_reducible refine gate_dst (N := 3) rfl ?_); refine box_event ?hg (N := 3) ?hd (cs := #[.int .i64 a0_0, .slice A0_1 l0_1.length c0_1]) (t := 24) ?hr ?_; (case hd => rfl); (case hg => rfl); (case hr => first | (go_simp; done) | (go_simp; rfl)); intro gb147 hg w16 hbox hb; have BK147 := Aside0.mk (hbox); have GW147 := geB w hg; have GE147 := geB w hg; replace HB := Aside0.mk (below_step bel hb); clear hb hbox hg; obtain ⟨hcz17_0, hcz17_1, hfz17_0, hfz17_1⟩ := bq2 BK147) | ((with_reducible refine gate_callee (f := 33) rfl ?_); refine gL (some 12) Tryz.func33 #[.agg #[.int .i64 a0_0, .slice A0_1 l0_1.length c0_1]] ?_; (with_reducible refine (shape_Valid.calls k a0_0 _ _ l0_1 true _ ?side1 ?side2 A4.out).mono ?_); (case side1 => exact cS (Kd.C_below HR0_1.out HB.out)); (case side2 => exact HC0_1.out); rintro e w18 ⟨rfl, hb⟩; refine ⟨_, rfl, ?_⟩; replace BK147 := blB BK147 hb; replace HB := Aside0.mk (below_step bel hb); (try clear hb); (try clear hb2); (try clear hk); (try clear hi); obtain ⟨hcz19_0, hcz19_1, hfz19_0, hfz19_1⟩ := bq2 BK147) | ((with_reducible refine gate_callee (f := 55) rfl ?_); refine gL (some 18) Tryz.func55 #[.agg #[.int .i64 a0_0, .slice A0_1 l0_1.length c0_1], .string a1, .int .i64 (l2.length : Int)] ?_; (with_reducible refine (shape_Find.calls a0_0 _ _ l0_1 a1 (l2.length : Int) t149 _ ?side1 ?side2 A6.out).mono ?_); (case side1 => exact cS (Kd.C_below HR0_1.out HB.out)); (case side2 => exact HC0_1.out); rintro e w20 ⟨rfl, hb⟩; refine ⟨_, rfl, ?_⟩; replace BK147 := blB BK147 hb; replace HB := Aside0.mk (below_step bel hb); (try clear hb); (try clear hb2); (try clear hk); (try clear hi); obtain ⟨hcz21_0, hcz21_1, hfz21_0, hfz21_1⟩ := bq2 BK147; have p150 : 0 ≤ (t149 : Int) := dtr; have q150 : t149 < (l0_1.length : Int) := dtr; obtain ⟨ad150, A150_2, c150_2, e150, hx150_0, hx150_1, hx150_2, hl150_2, hi150_2⟩ := at_T52 HR0_1.out t149 p150 q150; cases e150; replace hx150_0 := oc hx150_0; replace hx150_1 := oc hx150_1; replace hx150_2 := oc hx150_2; have HR150_2 := Aside0.mk hi150_2; have HC150_2 := Aside0.mk hl150_2; clear hi150_2 hl150_2; replace p150 := eq_true p150; replace q150 := eq_true q150) | ((with_reducible refine gate_callee (f := 56) rfl ?_); refine gL (some 29) Tryz.func56 #[.slice A150_2 ((rd_T52 l0_1 t149).f2).length c150_2, .slice A2 l2.length c2, .func (.func 57) #[] #[]] ?_; (with_reducible refine (slices_BinarySearchFunc_int_int_int.calls k _ _ ((rd_T52 l0_1 t149).f2) _ _ l2  t151 t152 _ ?side1 ?side2 ?side3 ?side4 A15.out).mono ?_); (case side1 => exact cS (Kd.C_below HR150_2.out HB.out)); (case side2 => exact HC150_2.out); (case side3 => exact cS (Kd.C_below HR2.out HB.out)); (case side4 => exact HC2.out); rintro e w' ⟨rfl, ⟨nd, rfl⟩⟩; refine ⟨_, rfl, ?_⟩))
     go_ret2
     exact ⟨eN, bel⟩
    ·rw [if_neg c14] at H
     exact absurd H (by simp)
   ·rw [if_neg c13] at H
    exact absurd H (by simp)
 ·replace c5 := Bool.eq_false_iff.mpr c5
  subst c5
  have H1 : (some (false, 1)) = some (r1, r2) := by rw [if_neg (show ¬ (false = true) by decide)] at H; exact H
  clear H
  have H := H1
  clear H1
  simp only [Option.some.injEq, Prod.mk.injEq] at H
  obtain ⟨rfl, rfl⟩ := H
  go_enter Tryz.func25, Tryz.ntmps25
  go_wp2_with (first | ((with_reducible refine gate_dst (N := 3) rfl ?_); refine box_event ?hg (N := 3) ?hd (cs := #[.int .i64 a0_0, .slice A0_1 l0_1.length c0_1]) (t := 24) ?hr ?_; (case hd => rfl); (case hg => rfl); (case hr => first | (go_simp; done) | (go_simp; rfl)); intro gb147 hg w22 hbox hb; have BK147 := Aside0.mk (hbox); have GW147 := geB w hg; have GE147 := geB w hg; replace HB := Aside0.mk (below_step bel hb); clear hb hbox hg; obtain ⟨hcz23_0, hcz23_1, hfz23_0, hfz23_1⟩ := bq2 BK147) | ((with_reducible refine gate_callee (f := 33) rfl ?_); refine gL (some 12) Tryz.func33 #[.agg #[.int .i64 a0_0, .slice A0_1 l0_1.length c0_1]] ?_; (with_reducible refine (shape_Valid.calls k a0_0 _ _ l0_1 false _ ?side1 ?side2 A4.out).mono ?_); (case side1 => exact cS (Kd.C_below HR0_1.out HB.out)); (case side2 => exact HC0_1.out); rintro e w24 ⟨rfl, hb⟩; refine ⟨_, rfl, ?_⟩; replace BK147 := blB BK147 hb; replace HB := Aside0.mk (below_step bel hb); (try clear hb); (try clear hb2); (try clear hk); (try clear hi)))
  go_ret2
  exact ⟨eN, bel⟩
end Go.Proofs.YtfmpaofbnjlniaaGreatDoor.F
namespace Go.Proofs.YtfmpaofbnjlniaaGreatDoor.F
open Go.RowKit Go.Proofs.YtfmpaofbnjlniaaGreatDoorW.PrintWords Go.Proofs.YtfmpaofbnjlniaaGreatDoorW.PrintLast Go.Proofs.YtfmpaofbnjlniaaGreatDoorW.PrintMore
attribute [local go_sem] max2_int min2_int max_two min_two max_three min_three max_four min_four
set_option linter.unusedVariables false
set_option linter.unusedSimpArgs false
/-! ### paraphrastref01_Equal: function 41 -/
def paraphrastref01_Equal.l0 : Nat → List Int → List Int → Int → Option (Bool)
 | 0, _, _, _ => none
 | k + 1, x0, x1, x5 => if x5 < (x0.length : Int) then (if 0 ≤ x5 then (if x5 < (x1.length : Int) then (if (rd x0 x5) = (rd x1 x5) then (paraphrastref01_Equal.l0 k x0 x1 (wrap64 (x5 + 1))) else (some false)) else (none)) else (none)) else (some true)
def paraphrastref01_Equal.f (k : Nat) (l0 : List Int) (l1 : List Int) : Option (Bool) := if (l0.length : Int) = (l1.length : Int) then (paraphrastref01_Equal.l0 k l0 l1 0) else (some false)
theorem paraphrastref01_Equal.mono_l : ∀ k, (∀ y0 y1 y2, LeO (paraphrastref01_Equal.l0 k y0 y1 y2) (paraphrastref01_Equal.l0 (k + 1) y0 y1 y2))
 | 0 => fun _ _ _ r h => by simp [paraphrastref01_Equal.l0] at h
 | k + 1 => by
  have ih0 := paraphrastref01_Equal.mono_l k
  ·intro y0 y1 y2
   unfold paraphrastref01_Equal.l0
   repeat' first
   | (with_reducible exact ih0 _ _ _)
   | (with_reducible exact LeO.refl _)
   | (with_reducible exact LeO.none _)
   | (with_reducible refine LeO.ite ?_ ?_)
   | (with_reducible refine LeO.bind ?_ (fun _ => ?_))
   | exact ih0 _ _ _
   | exact LeO.none _
   | refine LeO.ite ?_ ?_
   | refine LeO.bind ?_ (fun _ => ?_)
theorem paraphrastref01_Equal.mono : ∀ a0 a1 k, LeO (paraphrastref01_Equal.f k a0 a1) (paraphrastref01_Equal.f (k + 1) a0 a1) := by
 intro a0 a1 k
 have ih0 := paraphrastref01_Equal.mono_l k
 unfold paraphrastref01_Equal.f
 repeat' first
   | (with_reducible exact ih0 _ _ _)
   | (with_reducible exact LeO.refl _)
   | (with_reducible exact LeO.none _)
   | (with_reducible refine LeO.ite ?_ ?_)
   | (with_reducible refine LeO.bind ?_ (fun _ => ?_))
   | exact ih0 _ _ _
   | exact LeO.none _
   | refine LeO.ite ?_ ?_
   | refine LeO.bind ?_ (fun _ => ?_)
set_option maxHeartbeats 8000000 in
set_option maxRecDepth 100000 in
theorem paraphrastref01_Equal.calls (k : Nat) (A0 : Option Addr) (c0 : Nat) (l0 : List Int) (A1 : Option Addr) (c1 : Nat) (l1 : List Int) (r : Bool) (w : World) (hr0 : Kd.C (Kd.int .i64) w A0 l0.length l0) (hc0 : l0.length ≤ c0) (hr1 : Kd.C (Kd.int .i64) w A1 l1.length l1) (hc1 : l1.length ≤ c1) (h : paraphrastref01_Equal.f k l0 l1 = some r) :
  Calls Tryz.prog 41 #[.slice A0 l0.length c0, .slice A1 l1.length c1] w fun e w' => e = .returned (.bool r) ∧ Drawn0 w w' := by
 have HR0 := Aside0.mk hr0
 have HC0 := Aside0.mk hc0
 clear hr0 hc0
 have HR1 := Aside0.mk hr1
 have HC1 := Aside0.mk hc1
 clear hr1 hc1
 have H : (if (l0.length : Int) = (l1.length : Int) then (paraphrastref01_Equal.l0 k l0 l1 0) else (some false)) = some r := h
 clear h
 by_cases c3 : (l0.length : Int) = (l1.length : Int)
 ·rw [if_pos c3] at H
  have c3b0 : ((l0.length : Int) == (l1.length : Int)) = true := beq_iff_eq.mpr c3
  have c3b1 : ((l0.length : Int) != (l1.length : Int)) = false := bne_eq_false_iff_eq.mpr c3
  have c3b2 : (l0.length == l1.length) = true := by first | simpa using c3 | (simp at c3 ⊢; omega)
  clear c3
  have H' := Aside0.mk H
  clear H
  go_enter Tryz.func41, Tryz.ntmps41
  go_wp2
  repeat (go_quiet (fail); try go_wp2)
  go_loopg [5] k (fun kq v5 w' => ∃ (x5_1 : Int), v5 = .int .i64 x5_1 ∧ Aside0 (paraphrastref01_Equal.l0 kq l0 l1 x5_1 = some r) ∧ Aside0 (kq ≤ k) ∧ Drawn0 w w')
  case atStart => exact ⟨(0), eS, H', ⟨Nat.le_refl _⟩, dr0⟩
  case round =>
   clear H'
   (try clear c1); (try clear c3); (try clear c3b0); (try clear c3b1); (try clear c3b2)
   obtain ⟨x5_1, rfl, HA, HK1, ⟨m1, rfl⟩⟩ := hrel
   cases gk with
   | zero => exact absurd HA.out (by simp [paraphrastref01_Equal.l0])
   | succ k1 =>
    have H := HA.out
    clear HA
    simp only [paraphrastref01_Equal.l0] at H
    by_cases c4 : x5_1 < (l0.length : Int)
    ·rw [if_pos c4] at H
     have c4b0 : decide (x5_1 < (l0.length : Int)) = true := decide_eq_true c4
     clear c4
     by_cases c5 : 0 ≤ x5_1
     ·rw [if_pos c5] at H
      have c5b0 : decide (0 ≤ x5_1) = true := decide_eq_true c5
      clear c5
      by_cases c6 : x5_1 < (l1.length : Int)
      ·rw [if_pos c6] at H
       have c6b0 : decide (x5_1 < (l1.length : Int)) = true := decide_eq_true c6
       clear c6
       by_cases c7 : (rd l0 x5_1) = (rd l1 x5_1)
       ·rw [if_pos c7] at H
        have c7b0 : ((rd l0 x5_1) == (rd l1 x5_1)) = true := beq_iff_eq.mpr c7
        have c7b1 : ((rd l0 x5_1) != (rd l1 x5_1)) = false := bne_eq_false_iff_eq.mpr c7
        clear c7
        have H' := Aside0.mk H
        clear H
        have p153 : 0 ≤ (x5_1 : Int) := dtr
        have q153 : x5_1 < (l0.length : Int) := dtr
        obtain ⟨ad153, e153, hx153_0⟩ := Kd.at_int HR0.out x5_1 p153 q153
        cases e153
        replace p153 := eq_true p153
        replace q153 := eq_true q153
        have p154 : 0 ≤ (x5_1 : Int) := dtr
        have q154 : x5_1 < (l1.length : Int) := dtr
        obtain ⟨ad154, e154, hx154_0⟩ := Kd.at_int HR1.out x5_1 p154 q154
        cases e154
        replace p154 := eq_true p154
        replace q154 := eq_true q154
        go_wp2
        repeat (go_quiet (fail); try go_wp2)
        go_roundg k1
        case measure => have := HK1.out; omega
        case rel => exact ⟨(wrap64 (x5_1 + 1)), eS, H', ⟨by have := HK1.out; omega⟩, dr0⟩
       ·rw [if_neg c7] at H
        have c7b0 : ((rd l0 x5_1) == (rd l1 x5_1)) = false := beq_eq_false_iff_ne.mpr c7
        have c7b1 : ((rd l0 x5_1) != (rd l1 x5_1)) = true := bne_iff_ne.mpr c7
        obtain rfl := Option.some.inj H
        have p153 : 0 ≤ (x5_1 : Int) := dtr
        have q153 : x5_1 < (l0.length : Int) := dtr
        obtain ⟨ad153, e153, hx153_0⟩ := Kd.at_int HR0.out x5_1 p153 q153
        cases e153
        replace p153 := eq_true p153
        replace q153 := eq_true q153
        have p154 : 0 ≤ (x5_1 : Int) := dtr
        have q154 : x5_1 < (l1.length : Int) := dtr
        obtain ⟨ad154, e154, hx154_0⟩ := Kd.at_int HR1.out x5_1 p154 q154
        cases e154
        replace p154 := eq_true p154
        replace q154 := eq_true q154
        go_wp2
        repeat (go_quiet (fail); try go_wp2)
        go_ret
        exact ⟨eS, dr0⟩
      ·rw [if_neg c6] at H
       exact absurd H (by simp)
     ·rw [if_neg c5] at H
      exact absurd H (by simp)
    ·rw [if_neg c4] at H
     have c4b0 : decide (x5_1 < (l0.length : Int)) = false := decide_eq_false c4
     clear c4
     obtain rfl := Option.some.inj H
     go_wp2
     repeat (go_quiet (fail); try go_wp2)
     go_ret
     exact ⟨eS, dr0⟩
 ·rw [if_neg c3] at H
  have c3b0 : ((l0.length : Int) == (l1.length : Int)) = false := beq_eq_false_iff_ne.mpr c3
  have c3b1 : ((l0.length : Int) != (l1.length : Int)) = true := bne_iff_ne.mpr c3
  have c3b2 : (l0.length == l1.length) = false := by first | simpa using c3 | (simp at c3 ⊢; omega)
  obtain rfl := Option.some.inj H
  go_enter Tryz.func41, Tryz.ntmps41
  go_wp2
  repeat (go_quiet (fail); try go_wp2)
  go_ret
  exact ⟨eS, dr0⟩
end Go.Proofs.YtfmpaofbnjlniaaGreatDoor.F
namespace Go.Proofs.YtfmpaofbnjlniaaGreatDoor.F
open Go.RowKit Go.Proofs.YtfmpaofbnjlniaaGreatDoorW.PrintWords Go.Proofs.YtfmpaofbnjlniaaGreatDoorW.PrintLast Go.Proofs.YtfmpaofbnjlniaaGreatDoorW.PrintMore
attribute [local go_sem] max2_int min2_int max_two min_two max_three min_three max_four min_four
set_option linter.unusedVariables false
set_option linter.unusedSimpArgs false
/-! ### shape_Power: function 71 -/
def shape_Power.j0 : Nat → Int → Int → Bool → Option (Int × Int)
 | 0, _, _, _ => none
 | k + 1, x0, x1, x20 => if x20 = true then (some (0, 2)) else ((shape_power.f k x0 x1 4096).bind fun t155 => (if t155 < 0 then (some (0, 5)) else (some (t155, 0))))
def shape_Power.f (k : Nat) (a0 : Int) (a1 : Int) : Option (Int × Int) := if a0 < 1 then (shape_Power.j0 k a0 a1 true) else (if a0 > 64 then (shape_Power.j0 k a0 a1 true) else (if a1 < 0 then (shape_Power.j0 k a0 a1 true) else (shape_Power.j0 k a0 a1 (decide (a1 > 12)))))
theorem shape_Power.mono_l : ∀ k, (∀ y0 y1 y2, LeO (shape_Power.j0 k y0 y1 y2) (shape_Power.j0 (k + 1) y0 y1 y2))
 | 0 => fun _ _ _ r h => by simp [shape_Power.j0] at h
 | k + 1 => by
  have ih0 := shape_Power.mono_l k
  ·intro y0 y1 y2
   unfold shape_Power.j0
   repeat' first
   | (with_reducible exact ih0 _ _ _)
   | (with_reducible exact shape_power.mono _ _ _ _)
   | (with_reducible exact LeO.refl _)
   | (with_reducible exact LeO.none _)
   | (with_reducible refine LeO.ite ?_ ?_)
   | (with_reducible refine LeO.bind ?_ (fun _ => ?_))
   | exact ih0 _ _ _
   | exact shape_power.mono _ _ _ _
   | exact LeO.none _
   | refine LeO.ite ?_ ?_
   | refine LeO.bind ?_ (fun _ => ?_)
theorem shape_Power.mono : ∀ a0 a1 k, LeO (shape_Power.f k a0 a1) (shape_Power.f (k + 1) a0 a1) := by
 intro a0 a1 k
 have ih0 := shape_Power.mono_l k
 unfold shape_Power.f
 repeat' first
   | (with_reducible exact ih0 _ _ _)
   | (with_reducible exact shape_power.mono _ _ _ _)
   | (with_reducible exact LeO.refl _)
   | (with_reducible exact LeO.none _)
   | (with_reducible refine LeO.ite ?_ ?_)
   | (with_reducible refine LeO.bind ?_ (fun _ => ?_))
   | exact ih0 _ _ _
   | exact shape_power.mono _ _ _ _
   | exact LeO.none _
   | refine LeO.ite ?_ ?_
   | refine LeO.bind ?_ (fun _ => ?_)
set_option maxHeartbeats 8000000 in
set_option maxRecDepth 100000 in
theorem shape_Power.calls (k : Nat) (a0 : Int) (a1 : Int) (r1 : Int) (r2 : Int) (w : World) (h : shape_Power.f k a0 a1 = some (r1, r2)) :
  Calls Tryz.prog 71 #[.int .i64 a0, .int .i64 a1] w fun e w' => e = .returned (.tuple #[.int .i64 r1, .int .i64 r2]) ∧ Drawn0 w w' := by
 have H : (if a0 < 1 then (shape_Power.j0 k a0 a1 true) else (if a0 > 64 then (shape_Power.j0 k a0 a1 true) else (if a1 < 0 then (shape_Power.j0 k a0 a1 true) else (shape_Power.j0 k a0 a1 (decide (a1 > 12)))))) = some (r1, r2) := h
 clear h
 have HC3 := Aside0.mk H
 clear H
 go_enter Tryz.func71, Tryz.ntmps71
 go_upto_region 1 with (fail)
 go_cut [20] (fun v20 wc => ∃ (kq : Nat) (x20_2 : Bool), v20 = .bool x20_2 ∧ Aside0 (shape_Power.j0 kq a0 a1 x20_2 = some (r1, r2)) ∧ Aside0 (kq ≤ k) ∧ Drawn0 w wc)
 case first =>
  have H := HC3.out
  clear HC3
  by_cases c4 : a0 < 1
  ·rw [if_pos c4] at H
   have c4b0 : decide (a0 < 1) = true := decide_eq_true c4
   clear c4
   (first | rw [c4b0] | (simp only [i64_w, i32_w]; rw [c4b0]) | skip)
   have H' := Aside0.mk H
   clear H
   go_wp2
   go_meet
   case rel => exact ⟨_, (true), eS, H', ⟨kle⟩, dr0⟩
  ·rw [if_neg c4] at H
   have c4b0 : decide (a0 < 1) = false := decide_eq_false c4
   clear c4
   (first | rw [c4b0] | (simp only [i64_w, i32_w]; rw [c4b0]) | skip)
   by_cases c5 : a0 > 64
   ·rw [if_pos c5] at H
    have c5b0 : decide (64 < a0) = true := decide_eq_true c5
    clear c5
    have H' := Aside0.mk H
    clear H
    go_wp2
    go_meet
    case rel => exact ⟨_, (true), eS, H', ⟨kle⟩, dr0⟩
   ·rw [if_neg c5] at H
    have c5b0 : decide (64 < a0) = false := decide_eq_false c5
    clear c5
    by_cases c6 : a1 < 0
    ·rw [if_pos c6] at H
     have c6b0 : decide (a1 < 0) = true := decide_eq_true c6
     clear c6
     have H' := Aside0.mk H
     clear H
     go_wp2
     go_meet
     case rel => exact ⟨_, (true), eS, H', ⟨kle⟩, dr0⟩
    ·rw [if_neg c6] at H
     have c6b0 : decide (a1 < 0) = false := decide_eq_false c6
     clear c6
     have H' := Aside0.mk H
     clear H
     go_wp2
     go_meet
     case rel => exact ⟨_, (decide (a1 > 12)), eS, H', ⟨kle⟩, dr0⟩
 case rest =>
  clear HC3
  obtain ⟨kq, x20_2, rfl, HA, HJ2, ⟨mc2, rfl⟩⟩ := hcut
  cases kq with
  | zero => exact absurd HA.out (by simp [shape_Power.j0])
  | succ kj2 =>
   have H := HA.out
   clear HA
   simp only [shape_Power.j0] at H
   by_cases c7 : x20_2 = true
   ·subst c7
    have H1 : (some (0, 2)) = some (r1, r2) := by rw [if_pos rfl] at H; exact H
    clear H
    have H := H1
    clear H1
    simp only [Option.some.injEq, Prod.mk.injEq] at H
    obtain ⟨rfl, rfl⟩ := H
    go_wp2
    go_ret2
    exact ⟨eS, dr0⟩
   ·replace c7 := Bool.eq_false_iff.mpr c7
    subst c7
    have H1 : ((shape_power.f kj2 a0 a1 4096).bind fun t155 => (if t155 < 0 then (some (0, 5)) else (some (t155, 0)))) = some (r1, r2) := by rw [if_neg (show ¬ (false = true) by decide)] at H; exact H
    clear H
    have H := H1
    clear H1
    replace H := Option.bind_eq_some_iff.mp H
    obtain ⟨t155, A80, H⟩ := H
    replace H : (if t155 < 0 then (some (0, 5)) else (some (t155, 0))) = some (r1, r2) := H
    have A8 := Aside0.mk A80
    clear A80
    by_cases c9 : t155 < 0
    ·rw [if_pos c9] at H
     have c9b0 : decide (t155 < 0) = true := decide_eq_true c9
     clear c9
     simp only [Option.some.injEq, Prod.mk.injEq] at H
     obtain ⟨rfl, rfl⟩ := H
     go_wp2_with (first | ((with_reducible refine gate_callee (f := 65) rfl ?_); refine gL (some 23) Tryz.func65 #[.int .i64 a0, .int .i64 a1, .int .i64 4096] ?_; (with_reducible refine (shape_power.calls kj2 a0 a1 4096 t155 _ A8.out).mono ?_); rintro e w' ⟨rfl, ⟨nd, rfl⟩⟩; refine ⟨_, rfl, ?_⟩))
     go_ret2
     exact ⟨eS, dr0⟩
    ·rw [if_neg c9] at H
     have c9b0 : decide (t155 < 0) = false := decide_eq_false c9
     clear c9
     simp only [Option.some.injEq, Prod.mk.injEq] at H
     obtain ⟨rfl, rfl⟩ := H
     go_wp2_with (first | ((with_reducible refine gate_callee (f := 65) rfl ?_); refine gL (some 23) Tryz.func65 #[.int .i64 a0, .int .i64 a1, .int .i64 4096] ?_; (with_reducible refine (shape_power.calls kj2 a0 a1 4096 t155 _ A8.out).mono ?_); rintro e w' ⟨rfl, ⟨nd, rfl⟩⟩; refine ⟨_, rfl, ?_⟩))
     go_ret2
     exact ⟨eS, dr0⟩
end Go.Proofs.YtfmpaofbnjlniaaGreatDoor.F
namespace Go.Proofs.YtfmpaofbnjlniaaGreatDoor.F
open Go.RowKit Go.Proofs.YtfmpaofbnjlniaaGreatDoorW.PrintWords Go.Proofs.YtfmpaofbnjlniaaGreatDoorW.PrintLast Go.Proofs.YtfmpaofbnjlniaaGreatDoorW.PrintMore
attribute [local go_sem] max2_int min2_int max_two min_two max_three min_three max_four min_four
set_option linter.unusedVariables false
set_option linter.unusedSimpArgs false
/-! ### shape_Rank: function 42 -/
def shape_Rank.l0 : Nat → Int → Int → List Int → Int → Int → Option (Int × Int)
 | 0, _, _, _, _, _ => none
 | k + 1, x0, x8, x25, x26, x27 => if x27 < x26 then (if 0 ≤ x27 then (if x27 < (x25.length : Int) then (shape_Rank.l0 k x0 (wrap64 ((wrap64 (x8 * x0)) + (rd x25 x27))) x25 x26 (wrap64 (x27 + 1))) else (none)) else (none)) else (some (x8, 0))
def shape_Rank.f (k : Nat) (a0 : Int) (l1 : List Int) : Option (Int × Int) := (shape_Power.f k a0 (l1.length : Int)).bind fun bt156 => (if bt156.2 = 0 then ((shape_elements.f a0 l1).bind fun t158 => (if t158 = true then (shape_Rank.l0 k a0 0 l1 (l1.length : Int) 0) else (some (0, 2)))) else (some (0, bt156.2)))
theorem shape_Rank.mono_l : ∀ k, (∀ y0 y1 y2 y3 y4, LeO (shape_Rank.l0 k y0 y1 y2 y3 y4) (shape_Rank.l0 (k + 1) y0 y1 y2 y3 y4))
 | 0 => fun _ _ _ _ _ r h => by simp [shape_Rank.l0] at h
 | k + 1 => by
  have ih0 := shape_Rank.mono_l k
  ·intro y0 y1 y2 y3 y4
   unfold shape_Rank.l0
   repeat' first
   | (with_reducible exact ih0 _ _ _ _ _)
   | (with_reducible exact shape_Power.mono _ _ _)
   | (with_reducible exact LeO.refl _)
   | (with_reducible exact LeO.none _)
   | (with_reducible refine LeO.ite ?_ ?_)
   | (with_reducible refine LeO.bind ?_ (fun _ => ?_))
   | exact ih0 _ _ _ _ _
   | exact shape_Power.mono _ _ _
   | exact LeO.none _
   | refine LeO.ite ?_ ?_
   | refine LeO.bind ?_ (fun _ => ?_)
theorem shape_Rank.mono : ∀ a0 a1 k, LeO (shape_Rank.f k a0 a1) (shape_Rank.f (k + 1) a0 a1) := by
 intro a0 a1 k
 have ih0 := shape_Rank.mono_l k
 unfold shape_Rank.f
 repeat' first
   | (with_reducible exact ih0 _ _ _ _ _)
   | (with_reducible exact shape_Power.mono _ _ _)
   | (with_reducible exact LeO.refl _)
   | (with_reducible exact LeO.none _)
   | (with_reducible refine LeO.ite ?_ ?_)
   | (with_reducible refine LeO.bind ?_ (fun _ => ?_))
   | exact ih0 _ _ _ _ _
   | exact shape_Power.mono _ _ _
   | exact LeO.none _
   | refine LeO.ite ?_ ?_
   | refine LeO.bind ?_ (fun _ => ?_)
set_option maxHeartbeats 8000000 in
set_option maxRecDepth 100000 in
theorem shape_Rank.calls (k : Nat) (a0 : Int) (A1 : Option Addr) (c1 : Nat) (l1 : List Int) (r1 : Int) (r2 : Int) (w : World) (hr1 : Kd.C (Kd.int .i64) w A1 l1.length l1) (hc1 : l1.length ≤ c1) (h : shape_Rank.f k a0 l1 = some (r1, r2)) :
  Calls Tryz.prog 42 #[.int .i64 a0, .slice A1 l1.length c1] w fun e w' => e = .returned (.tuple #[.int .i64 r1, .int .i64 r2]) ∧ Below w.heap.size w w' := by
 have HR1 := Aside0.mk hr1
 have HC1 := Aside0.mk hc1
 clear hr1 hc1
 have HB := Aside0.mk (Below.refl w.heap.size w)
 have H : ((shape_Power.f k a0 (l1.length : Int)).bind fun bt156 => (if bt156.2 = 0 then ((shape_elements.f a0 l1).bind fun t158 => (if t158 = true then (shape_Rank.l0 k a0 0 l1 (l1.length : Int) 0) else (some (0, 2)))) else (some (0, bt156.2)))) = some (r1, r2) := h
 clear h
 replace H := Option.bind_eq_some_iff.mp H
 obtain ⟨⟨t156, t157⟩, A30, H⟩ := H
 replace H : (if t157 = 0 then ((shape_elements.f a0 l1).bind fun t158 => (if t158 = true then (shape_Rank.l0 k a0 0 l1 (l1.length : Int) 0) else (some (0, 2)))) else (some (0, t157))) = some (r1, r2) := H
 have A3 := Aside0.mk A30
 clear A30
 by_cases c4 : t157 = 0
 ·rw [if_pos c4] at H
  have c4b0 : (t157 == 0) = true := beq_iff_eq.mpr c4
  have c4b1 : (t157 != 0) = false := bne_eq_false_iff_eq.mpr c4
  clear c4
  replace H := Option.bind_eq_some_iff.mp H
  obtain ⟨t158, A50, H⟩ := H
  replace H : (if t158 = true then (shape_Rank.l0 k a0 0 l1 (l1.length : Int) 0) else (some (0, 2))) = some (r1, r2) := H
  have A5 := Aside0.mk A50
  clear A50
  by_cases c6 : t158 = true
  ·subst c6
   have H1 : (shape_Rank.l0 k a0 0 l1 (l1.length : Int) 0) = some (r1, r2) := by rw [if_pos rfl] at H; exact H
   clear H
   have H := H1
   clear H1
   have H' := Aside0.mk H
   clear H
   go_enter Tryz.func42, Tryz.ntmps42
   go_wp2_with (first | ((with_reducible refine gate_callee (f := 71) rfl ?_); refine gL (some 15) Tryz.func71 #[.int .i64 a0, .int .i64 (l1.length : Int)] ?_; (with_reducible refine (shape_Power.calls k a0 (l1.length : Int) t156 t157 _ A3.out).mono ?_); rintro e w' ⟨rfl, ⟨nd, rfl⟩⟩; refine ⟨_, rfl, ?_⟩) | ((with_reducible refine gate_callee (f := 58) rfl ?_); refine gL (some 23) Tryz.func58 #[.int .i64 a0, .slice A1 l1.length c1] ?_; (with_reducible refine (shape_elements.calls a0 _ _ l1 true _ ?side1 ?side2 A5.out).mono ?_); (case side1 => exact cS HR1.out); (case side2 => exact HC1.out); rintro e w7 ⟨rfl, hb⟩; refine ⟨_, rfl, ?_⟩; replace HB := Aside0.mk (below_step bel hb); (try clear hb); (try clear hb2); (try clear hk); (try clear hi)))
   go_loopg [8, 27] k (fun kq v8 v27 w' => ∃ (x8_1 : Int) (x27_1 : Int), v8 = .int .i64 x8_1 ∧ v27 = .int .i64 x27_1 ∧ Aside0 (shape_Rank.l0 kq a0 x8_1 l1 (l1.length : Int) x27_1 = some (r1, r2)) ∧ Aside0 (kq ≤ k) ∧ Aside0 (Below w.heap.size w w'))
   case atStart => exact ⟨(0), (0), eS, eS, H', ⟨Nat.le_refl _⟩, ⟨bel⟩⟩
   case round =>
    clear H'
    (try clear c1); (try clear c4); (try clear c4b0); (try clear c4b1); (try clear c6)
    obtain ⟨x8_1, x27_1, rfl, rfl, HA, HK1, HB⟩ := hrel
    cases gk with
    | zero => exact absurd HA.out (by simp [shape_Rank.l0])
    | succ k1 =>
     have H := HA.out
     clear HA
     simp only [shape_Rank.l0] at H
     by_cases c8 : x27_1 < (l1.length : Int)
     ·rw [if_pos c8] at H
      have c8b0 : decide (x27_1 < (l1.length : Int)) = true := decide_eq_true c8
      clear c8
      by_cases c9 : 0 ≤ x27_1
      ·rw [if_pos c9] at H
       have c9b0 : decide (0 ≤ x27_1) = true := decide_eq_true c9
       clear c9
       by_cases c10 : x27_1 < (l1.length : Int)
       ·rw [if_pos c10] at H
        have c10b0 : decide (x27_1 < (l1.length : Int)) = true := decide_eq_true c10
        clear c10
        have H' := Aside0.mk H
        clear H
        have p159 : 0 ≤ (x27_1 : Int) := dtr
        have q159 : x27_1 < (l1.length : Int) := dtr
        obtain ⟨ad159, e159, hx159_0⟩ := Kd.at_int HR1.out x27_1 p159 q159
        cases e159
        replace hx159_0 := oc hx159_0
        replace p159 := eq_true p159
        replace q159 := eq_true q159
        go_wp2
        go_roundg k1
        case measure => have := HK1.out; omega
        case rel => exact ⟨(wrap64 ((wrap64 (x8_1 * a0)) + (rd l1 x27_1))), (wrap64 (x27_1 + 1)), eS, eS, H', ⟨by have := HK1.out; omega⟩, ⟨bel⟩⟩
       ·rw [if_neg c10] at H
        exact absurd H (by simp)
      ·rw [if_neg c9] at H
       exact absurd H (by simp)
     ·rw [if_neg c8] at H
      have c8b0 : decide (x27_1 < (l1.length : Int)) = false := decide_eq_false c8
      clear c8
      simp only [Option.some.injEq, Prod.mk.injEq] at H
      obtain ⟨rfl, rfl⟩ := H
      go_wp2
      go_ret2
      exact ⟨eN, bel⟩
  ·replace c6 := Bool.eq_false_iff.mpr c6
   subst c6
   have H1 : (some (0, 2)) = some (r1, r2) := by rw [if_neg (show ¬ (false = true) by decide)] at H; exact H
   clear H
   have H := H1
   clear H1
   simp only [Option.some.injEq, Prod.mk.injEq] at H
   obtain ⟨rfl, rfl⟩ := H
   go_enter Tryz.func42, Tryz.ntmps42
   go_wp2_with (first | ((with_reducible refine gate_callee (f := 71) rfl ?_); refine gL (some 15) Tryz.func71 #[.int .i64 a0, .int .i64 (l1.length : Int)] ?_; (with_reducible refine (shape_Power.calls k a0 (l1.length : Int) t156 t157 _ A3.out).mono ?_); rintro e w' ⟨rfl, ⟨nd, rfl⟩⟩; refine ⟨_, rfl, ?_⟩) | ((with_reducible refine gate_callee (f := 58) rfl ?_); refine gL (some 23) Tryz.func58 #[.int .i64 a0, .slice A1 l1.length c1] ?_; (with_reducible refine (shape_elements.calls a0 _ _ l1 false _ ?side1 ?side2 A5.out).mono ?_); (case side1 => exact cS HR1.out); (case side2 => exact HC1.out); rintro e w11 ⟨rfl, hb⟩; refine ⟨_, rfl, ?_⟩; replace HB := Aside0.mk (below_step bel hb); (try clear hb); (try clear hb2); (try clear hk); (try clear hi)))
   go_ret2
   exact ⟨eN, bel⟩
 ·rw [if_neg c4] at H
  have c4b0 : (t157 == 0) = false := beq_eq_false_iff_ne.mpr c4
  have c4b1 : (t157 != 0) = true := bne_iff_ne.mpr c4
  simp only [Option.some.injEq, Prod.mk.injEq] at H
  obtain ⟨rfl, rfl⟩ := H
  go_enter Tryz.func42, Tryz.ntmps42
  go_wp2_with (first | ((with_reducible refine gate_callee (f := 71) rfl ?_); refine gL (some 15) Tryz.func71 #[.int .i64 a0, .int .i64 (l1.length : Int)] ?_; (with_reducible refine (shape_Power.calls k a0 (l1.length : Int) t156 t157 _ A3.out).mono ?_); rintro e w' ⟨rfl, ⟨nd, rfl⟩⟩; refine ⟨_, rfl, ?_⟩))
  go_ret2
  exact ⟨eN, bel⟩
end Go.Proofs.YtfmpaofbnjlniaaGreatDoor.F
namespace Go.Proofs.YtfmpaofbnjlniaaGreatDoor.F
open Go.RowKit Go.Proofs.YtfmpaofbnjlniaaGreatDoorW.PrintWords Go.Proofs.YtfmpaofbnjlniaaGreatDoorW.PrintLast Go.Proofs.YtfmpaofbnjlniaaGreatDoorW.PrintMore
attribute [local go_sem] max2_int min2_int max_two min_two max_three min_three max_four min_four
set_option linter.unusedVariables false
set_option linter.unusedSimpArgs false
/-! ### shape_Tuple: function 43 -/
mutual
def shape_Tuple.j0 : Nat → Int → Int → Int → Bool → Option (List Int × Int)
 | 0, _, _, _, _ => none
 | k + 1, x0, x1, x2, x27 => if x27 = true then (some (([] : List Int), 2)) else (if 0 ≤ x1 then (if (x1 : Int).toNat ≤ 35184372088832 then (shape_Tuple.l0 k x0 x2 (List.replicate (x1 : Int).toNat 0) (wrap64 (x1 - 1))) else (none)) else (none))
def shape_Tuple.l0 : Nat → Int → Int → List Int → Int → Option (List Int × Int)
 | 0, _, _, _, _ => none
 | k + 1, x0, x2, x10, x11 => if x11 ≥ 0 then (if x0 = 0 then (none) else (if 0 ≤ x11 then (if x11 < (x10.length : Int) then (shape_Tuple.l0 k x0 (wrap64 (Int.tdiv x2 x0)) (x10.set (x11 : Int).toNat (Int.tmod x2 x0)) (wrap64 (x11 - 1))) else (none)) else (none))) else (some (x10, 0))
end
def shape_Tuple.f (k : Nat) (a0 : Int) (a1 : Int) (a2 : Int) : Option (List Int × Int) := (shape_Power.f k a0 a1).bind fun bt160 => (if bt160.2 = 0 then (if a2 < 0 then (shape_Tuple.j0 k a0 a1 a2 true) else (shape_Tuple.j0 k a0 a1 a2 (decide (a2 ≥ bt160.1)))) else (some (([] : List Int), bt160.2)))
theorem shape_Tuple.mono_l : ∀ k, (∀ y0 y1 y2 y3, LeO (shape_Tuple.j0 k y0 y1 y2 y3) (shape_Tuple.j0 (k + 1) y0 y1 y2 y3)) ∧ (∀ y0 y1 y2 y3, LeO (shape_Tuple.l0 k y0 y1 y2 y3) (shape_Tuple.l0 (k + 1) y0 y1 y2 y3))
 | 0 => ⟨fun _ _ _ _ r h => by simp [shape_Tuple.j0] at h, fun _ _ _ _ r h => by simp [shape_Tuple.l0] at h⟩
 | k + 1 => by
  obtain ⟨ih0, ih1⟩ := shape_Tuple.mono_l k
  refine ⟨?_, ?_⟩
  ·intro y0 y1 y2 y3
   unfold shape_Tuple.j0
   repeat' first
   | (with_reducible exact ih0 _ _ _ _)
   | (with_reducible exact ih1 _ _ _ _)
   | (with_reducible exact shape_Power.mono _ _ _)
   | (with_reducible exact LeO.refl _)
   | (with_reducible exact LeO.none _)
   | (with_reducible refine LeO.ite ?_ ?_)
   | (with_reducible refine LeO.bind ?_ (fun _ => ?_))
   | exact ih0 _ _ _ _
   | exact ih1 _ _ _ _
   | exact shape_Power.mono _ _ _
   | exact LeO.none _
   | refine LeO.ite ?_ ?_
   | refine LeO.bind ?_ (fun _ => ?_)
  ·intro y0 y1 y2 y3
   unfold shape_Tuple.l0
   repeat' first
   | (with_reducible exact ih0 _ _ _ _)
   | (with_reducible exact ih1 _ _ _ _)
   | (with_reducible exact shape_Power.mono _ _ _)
   | (with_reducible exact LeO.refl _)
   | (with_reducible exact LeO.none _)
   | (with_reducible refine LeO.ite ?_ ?_)
   | (with_reducible refine LeO.bind ?_ (fun _ => ?_))
   | exact ih0 _ _ _ _
   | exact ih1 _ _ _ _
   | exact shape_Power.mono _ _ _
   | exact LeO.none _
   | refine LeO.ite ?_ ?_
   | refine LeO.bind ?_ (fun _ => ?_)
theorem shape_Tuple.mono : ∀ a0 a1 a2 k, LeO (shape_Tuple.f k a0 a1 a2) (shape_Tuple.f (k + 1) a0 a1 a2) := by
 intro a0 a1 a2 k
 obtain ⟨ih0, ih1⟩ := shape_Tuple.mono_l k
 unfold shape_Tuple.f
 repeat' first
   | (with_reducible exact ih0 _ _ _ _)
   | (with_reducible exact ih1 _ _ _ _)
   | (with_reducible exact shape_Power.mono _ _ _)
   | (with_reducible exact LeO.refl _)
   | (with_reducible exact LeO.none _)
   | (with_reducible refine LeO.ite ?_ ?_)
   | (with_reducible refine LeO.bind ?_ (fun _ => ?_))
   | exact ih0 _ _ _ _
   | exact ih1 _ _ _ _
   | exact shape_Power.mono _ _ _
   | exact LeO.none _
   | refine LeO.ite ?_ ?_
   | refine LeO.bind ?_ (fun _ => ?_)
def shape_Tuple.T10 : Bool × List (List Nat × List Nat) := (true, [([], []), ([], []), ([], []), ([], []), ([2, 3], [2, 3]), ([], []), ([], []), ([5, 6], [5, 6]), ([0, 1, 0, 1, 2, 3, 4], [0, 1]), ([8, 4, 0, 1, 2, 3, 4], [4, 8]), ([7, 9, 0, 1, 2, 3, 4, 5, 6, 7, 8, 9], [2, 5, 7])])
def shape_Tuple.B10 : List Nat := [0, 0, 0, 0, 12, 0, 0, 96, 31, 287, 1023]
theorem shape_Tuple.tab10 : rtab .any (opsOf Tryz.f43 10) = shape_Tuple.T10 := by kernel_rfl
theorem shape_Tuple.bits10 : waitsOk shape_Tuple.T10.2 shape_Tuple.B10 = true := by kernel_rfl
set_option maxHeartbeats 8000000 in
set_option maxRecDepth 100000 in
theorem shape_Tuple.calls (k : Nat) (a0 : Int) (a1 : Int) (a2 : Int) (r1 : List Int) (r2 : Int) (w : World) (h : shape_Tuple.f k a0 a1 a2 = some (r1, r2)) :
  Calls Tryz.prog 43 #[.int .i64 a0, .int .i64 a1, .int .i64 a2] w fun e w' => ∃ v0_ : Value, e = .returned (.tuple #[v0_, .int .i64 r2]) ∧ Kd.R (Kd.int .i64) 3 w' w.heap.size (fun _ => True) v0_ r1 ∧ Below w.heap.size w w' := by
 have HB := Aside0.mk (Below.refl w.heap.size w)
 have H : ((shape_Power.f k a0 a1).bind fun bt160 => (if bt160.2 = 0 then (if a2 < 0 then (shape_Tuple.j0 k a0 a1 a2 true) else (shape_Tuple.j0 k a0 a1 a2 (decide (a2 ≥ bt160.1)))) else (some (([] : List Int), bt160.2)))) = some (r1, r2) := h
 clear h
 replace H := Option.bind_eq_some_iff.mp H
 obtain ⟨⟨t160, t161⟩, A40, H⟩ := H
 replace H : (if t161 = 0 then (if a2 < 0 then (shape_Tuple.j0 k a0 a1 a2 true) else (shape_Tuple.j0 k a0 a1 a2 (decide (a2 ≥ t160)))) else (some (([] : List Int), t161))) = some (r1, r2) := H
 have A4 := Aside0.mk A40
 clear A40
 by_cases c5 : t161 = 0
 ·rw [if_pos c5] at H
  have c5b0 : (t161 == 0) = true := beq_iff_eq.mpr c5
  have c5b1 : (t161 != 0) = false := bne_eq_false_iff_eq.mpr c5
  clear c5
  have HC6 := Aside0.mk H
  clear H
  go_enter Tryz.func43, Tryz.ntmps43
  go_upto_region 4 with (first | ((with_reducible refine gate_callee (f := 71) rfl ?_); refine gL (some 15) Tryz.func71 #[.int .i64 a0, .int .i64 a1] ?_; (with_reducible refine (shape_Power.calls k a0 a1 t160 t161 _ A4.out).mono ?_); rintro e w' ⟨rfl, ⟨nd, rfl⟩⟩; refine ⟨_, rfl, ?_⟩))
  (try simp only [Act.put, List.setIfInBounds_toArray, List.set_cons_zero, List.set_cons_succ])
  go_cut [27] (fun v27 wc => ∃ (kq : Nat) (x27_5 : Bool), v27 = .bool x27_5 ∧ Aside0 (shape_Tuple.j0 kq a0 a1 a2 x27_5 = some (r1, r2)) ∧ Aside0 (kq ≤ k) ∧ Aside0 (Below w.heap.size w wc))
  case first =>
   have H := HC6.out
   clear HC6
   by_cases c7 : a2 < 0
   ·rw [if_pos c7] at H
    have c7b0 : decide (a2 < 0) = true := decide_eq_true c7
    clear c7
    (first | rw [c7b0] | (simp only [i64_w, i32_w]; rw [c7b0]) | skip)
    have H' := Aside0.mk H
    clear H
    go_wp2
    go_meet
    case rel => exact ⟨_, (true), eS, H', ⟨kle⟩, ⟨bel⟩⟩
   ·rw [if_neg c7] at H
    have c7b0 : decide (a2 < 0) = false := decide_eq_false c7
    clear c7
    (first | rw [c7b0] | (simp only [i64_w, i32_w]; rw [c7b0]) | skip)
    have H' := Aside0.mk H
    clear H
    go_wp2
    go_meet
    case rel => exact ⟨_, (decide (a2 ≥ t160)), eS, H', ⟨kle⟩, ⟨bel⟩⟩
  case rest =>
   clear HC6
   (try clear c5); (try clear c5b0); (try clear c5b1)
   obtain ⟨kq, x27_5, rfl, HA, HJ5, HB⟩ := hcut
   cases kq with
   | zero => exact absurd HA.out (by simp [shape_Tuple.j0])
   | succ kj5 =>
    have H := HA.out
    clear HA
    simp only [shape_Tuple.j0] at H
    by_cases c8 : x27_5 = true
    ·subst c8
     have H1 : (some (([] : List Int), 2)) = some (r1, r2) := by rw [if_pos rfl] at H; exact H
     clear H
     have H := H1
     clear H1
     simp only [Option.some.injEq, Prod.mk.injEq] at H
     obtain ⟨rfl, rfl⟩ := H
     go_wp2
     go_ret2
     exact ⟨_, eN, by first | exact Kd.R_nil _ _ _ _ _ | exact Kd.N_nil _ _ _ _ _ | exact Kd.V_nil _ _ _ _ _ | exact Kd.Q_nil _ _ _ _ _ | exact Kd.S_nil _ _ _ _ _, bel⟩
    ·replace c8 := Bool.eq_false_iff.mpr c8
     subst c8
     have H1 : (if 0 ≤ a1 then (if (a1 : Int).toNat ≤ 35184372088832 then (shape_Tuple.l0 kj5 a0 a2 (List.replicate (a1 : Int).toNat 0) (wrap64 (a1 - 1))) else (none)) else (none)) = some (r1, r2) := by rw [if_neg (show ¬ (false = true) by decide)] at H; exact H
     clear H
     have H := H1
     clear H1
     by_cases c9 : 0 ≤ a1
     ·rw [if_pos c9] at H
      have c9b0 := eq_true c9
      have c9b1 : decide (0 ≤ a1) = true := decide_eq_true c9
      clear c9
      by_cases c10 : (a1 : Int).toNat ≤ 35184372088832
      ·rw [if_pos c10] at H
       have c10b0 := eq_true c10
       have c10b1 : decide ((a1 : Int).toNat ≤ 35184372088832) = true := decide_eq_true c10
       clear c10
       obtain ⟨y162, hy162⟩ : ∃ y_ : List Int, y_ = (List.replicate (a1 : Int).toNat 0) := ⟨_, rfl⟩
       replace H : (shape_Tuple.l0 kj5 a0 a2 y162 (wrap64 (a1 - 1))) = some (r1, r2) := by first | (rw [hy162]; with_reducible exact H) | (have H2_ := (Option.bind_some _ _).symm.trans H; rw [hy162]; with_reducible exact H2_) | (have H2_ := (Option.bind_some _ _).symm.trans H; with_reducible exact H2_) | with_reducible exact H | (rw [hy162]; exact H) | exact H
       have Ny162 := Aside0.mk hy162
       clear hy162
       have H' := Aside0.mk H
       clear H
       go_wp2_with (first | ((with_reducible refine gate_dst (N := 29) rfl ?_); refine Kd.R_make (Kd.int .i64) _ 3 rfl (N := 29) rfl 46 _ _ rfl a1 rfl rfl Tryz.underlying46 (.int .i64 0) 8 info3 rfl (by decide) (by omega) 0 (ok := fun _ => True) (okp := fun _ => True) rfl (fun _ hk => hk) trivial (dtr) (Nat.le_trans (Nat.mul_le_mul_right _ (dtr : a1.toNat ≤ 35184372088832)) (by omega)) (Below.refl _ _) (Nat.le_refl _) ?_; intro v163 w11 ho12 hb hg_ hnew_; clear hg_ hnew_; (first | rw [← Ny162.out] at ho12 | (simp only [Int.reduceToNat] at ho12; rw [← Ny162.out] at ho12)); have HO164 := Aside0.mk (Kd.R_lower ho12 (below_size bel)); replace HB := Aside0.mk (below_step bel hb); clear hb ho12))
       go_loopg [2, 11] kj5 (fun kq v2 v11 w' => ∃ (x2_2 : Int) (x10_2 : List Int) (x11_2 : Int), v2 = .int .i64 x2_2 ∧ v11 = .int .i64 x11_2 ∧ Aside0 (shape_Tuple.l0 kq a0 x2_2 x10_2 x11_2 = some (r1, r2)) ∧ Aside0 (kq ≤ kj5) ∧ Aside0 (Kd.R (Kd.int .i64) 3 w' w.heap.size (fun _ => True) v163 x10_2) ∧ Aside0 (Below w.heap.size w w'))
       case atStart => exact ⟨(a2), (y162), (wrap64 (a1 - 1)), eS, eS, H', ⟨Nat.le_refl _⟩, ⟨by (with_reducible repeat (first | apply Kd.R_alloc | apply Kd.R_drewN | apply Kd.R_drew)); exact HO164.out⟩, ⟨bel⟩⟩
       case round =>
        clear H'
        (try clear c5); (try clear c5b0); (try clear c5b1); (try clear c8); (try clear c9); (try clear c9b0); (try clear c9b1); (try clear c10); (try clear c10b0); (try clear c10b1)
        obtain ⟨x2_2, x10_2, x11_2, rfl, rfl, HA, HK2, HO_10, HB⟩ := hrel
        cases gk with
        | zero => exact absurd HA.out (by simp [shape_Tuple.l0])
        | succ k2 =>
         have H := HA.out
         clear HA
         simp only [shape_Tuple.l0] at H
         by_cases c13 : x11_2 ≥ 0
         ·rw [if_pos c13] at H
          have c13b0 : decide (0 ≤ x11_2) = true := decide_eq_true c13
          clear c13
          by_cases c14 : a0 = 0
          ·rw [if_pos c14] at H
           exact absurd H (by simp)
          ·rw [if_neg c14] at H
           have c14b0 : (a0 == 0) = false := beq_eq_false_iff_ne.mpr c14
           have c14b1 : (a0 != 0) = true := bne_iff_ne.mpr c14
           by_cases c15 : 0 ≤ x11_2
           ·rw [if_pos c15] at H
            have c15b0 : decide (0 ≤ x11_2) = true := decide_eq_true c15
            clear c15
            by_cases c16 : x11_2 < (x10_2.length : Int)
            ·rw [if_pos c16] at H
             have c16b0 : decide (x11_2 < (x10_2.length : Int)) = true := decide_eq_true c16
             clear c16
             obtain ⟨y165, hy165⟩ : ∃ y_ : List Int, y_ = (x10_2.set (x11_2 : Int).toNat (Int.tmod x2_2 a0)) := ⟨_, rfl⟩
             replace H : (shape_Tuple.l0 k2 a0 (wrap64 (Int.tdiv x2_2 a0)) y165 (wrap64 (x11_2 - 1))) = some (r1, r2) := by first | (rw [hy165]; with_reducible exact H) | (have H2_ := (Option.bind_some _ _).symm.trans H; rw [hy165]; with_reducible exact H2_) | (have H2_ := (Option.bind_some _ _).symm.trans H; with_reducible exact H2_) | with_reducible exact H | (rw [hy165]; exact H) | exact H
             have Ny165 := Aside0.mk hy165
             clear hy165
             have H' := Aside0.mk H
             clear H
             try go_wp2
             replace HO_10 := Aside0.mk (Kd.R_drew HO_10.out)
             replace HB := Aside0.mk (below_drew1 HB.out)
             have p17 : 0 ≤ (x11_2 : Int) := dtr
             have q17 : (x11_2 : Int) < ((x10_2.length : Int) : Int) := dtr
             obtain ⟨go17, co17, eo17, gb17, gl17, cl17, HG17⟩ := Kd.R_form HO_10.out (by omega)
             (first | cases eo17 | (injection eo17 with ea_ en_ ec_; (first | subst ea_ | (injection ea_ with ea_; subst ea_)); subst ec_; clear en_))
             have GB17 := Aside0.mk gb17
             have GG17 := Aside0.mk HG17
             clear gb17 gl17 HG17
             obtain ⟨hx17_0, hf17_0⟩ := Kd.R_celln 0 HO_10.out (x11_2 : Int) p17 q17
             replace p17 := eq_true p17
             replace q17 := eq_true q17
             have HP19 := Kd.R_putn HO_10.out (x11_2 : Int) (Int.tmod x2_2 a0)
             rw [← Ny165.out] at HP19
             have HQ19 := Aside0.mk HP19
             clear HP19
             refine start_ (n := 11) (S := fun w' => True) (ds := [9]) #[false, false, false, false, false, false, false, false, false, false, false] (by kernel_rfl) rfl rfl trivial (fun hHeld => ?_); refine with_tabW shape_Tuple.tab10 shape_Tuple.bits10 (fun HT_ HW_ => ?_)
             generalize wr.drew = w18 at HO_10 HB GG17 HQ19 hf17_0 hx17_0 hHeld ⊢
             refine sPu 0 (some 36) ?_
             refine sPu 1 (some 37) ?_
             refine sPu 2 (some 38) ?_
             refine sPu 3 (some 39) ?_
             refine sPu 4 (some 40) ?_
             refine sPu 5 (some 41) ?_
             refine sPu 6 (some 42) ?_
             refine sPu 7 (some 43) ?_
             refine sPu 8 (some 44) ?_
             refine last_ (i := 9) (N := none) #[true, true, true, true, true, true, true, true, true, true, false] rfl rfl (one_of HT_.out (by kernel_rfl)) (by decide) (fun K hK => ?_)
             refine skip_ (w1 := ?_) (by rfl) rfl ?_ ?_
             rotate_left
             ·go_simp
              rfl
             refine hK.out _ _ ?_
             clear hK K
             refine sPu 10 (some 2) ?_
             refine done_ (done_of HT_.out (by kernel_rfl)) ?_
             try go_wp2
             go_roundg k2
             case measure => have := HJ5.out; have := HK2.out; omega
             case rel => exact ⟨(wrap64 (Int.tdiv x2_2 a0)), (y165), (wrap64 (x11_2 - 1)), eS, eS, H', ⟨by have := HJ5.out; have := HK2.out; omega⟩, ⟨by (with_reducible repeat (first | apply Kd.R_alloc | apply Kd.R_drewN | apply Kd.R_drew)); exact HQ19.out⟩, ⟨by repeat (first | (with_reducible first | exact HB.out | apply below_alloc | apply pw_below_drewN | apply below_drew1 | refine below_set ?_ GB17.out) | exact HB.out)⟩⟩
            ·rw [if_neg c16] at H
             exact absurd H (by simp)
           ·rw [if_neg c15] at H
            exact absurd H (by simp)
         ·rw [if_neg c13] at H
          have c13b0 : decide (0 ≤ x11_2) = false := decide_eq_false c13
          clear c13
          simp only [Option.some.injEq, Prod.mk.injEq] at H
          obtain ⟨rfl, rfl⟩ := H
          go_wp2
          go_ret2
          exact ⟨_, eN, by (with_reducible repeat (first | apply Kd.R_alloc | apply Kd.R_drewN | apply Kd.R_drew)); exact HO_10.out, bel⟩
      ·rw [if_neg c10] at H
       exact absurd H (by simp)
     ·rw [if_neg c9] at H
      exact absurd H (by simp)
 ·rw [if_neg c5] at H
  have c5b0 : (t161 == 0) = false := beq_eq_false_iff_ne.mpr c5
  have c5b1 : (t161 != 0) = true := bne_iff_ne.mpr c5
  simp only [Option.some.injEq, Prod.mk.injEq] at H
  obtain ⟨rfl, rfl⟩ := H
  go_enter Tryz.func43, Tryz.ntmps43
  go_wp2_with (first | ((with_reducible refine gate_callee (f := 71) rfl ?_); refine gL (some 15) Tryz.func71 #[.int .i64 a0, .int .i64 a1] ?_; (with_reducible refine (shape_Power.calls k a0 a1 t160 t161 _ A4.out).mono ?_); rintro e w' ⟨rfl, ⟨nd, rfl⟩⟩; refine ⟨_, rfl, ?_⟩))
  go_ret2
  exact ⟨_, eN, by first | exact Kd.R_nil _ _ _ _ _ | exact Kd.N_nil _ _ _ _ _ | exact Kd.V_nil _ _ _ _ _ | exact Kd.Q_nil _ _ _ _ _ | exact Kd.S_nil _ _ _ _ _, bel⟩
end Go.Proofs.YtfmpaofbnjlniaaGreatDoor.F
/- strings.Split, strings.Cut, strconv.Itoa: the shelf's contracts in the printed form. -/
namespace Go.Proofs.YtfmpaofbnjlniaaGreatDoor.F
open Go.RowKit Go.Proofs.YtfmpaofbnjlniaaGreatDoorW.PrintWords Go.Proofs.YtfmpaofbnjlniaaGreatDoorW.PrintLast Go.Proofs.YtfmpaofbnjlniaaGreatDoorW.PrintMore
set_option linter.unusedVariables false
set_option linter.unusedSimpArgs false
def splitL (s sep : ByteArray) : List ByteArray := Lib.splitB sep 0 (Lib.countB s sep) s
theorem splitL_length (s sep : ByteArray) (h : 1 ≤ sep.size) : (splitL s sep).length = Lib.countB s sep + 1 := Lib.splitB_all sep h 0 _ s rfl
theorem split_calls (s sep : ByteArray) (w : World) (hG : Glob w) (hs : s.size < 4294967281) (h1 : 1 ≤ sep.size) (hl : (splitL s sep).length ≤ 9223372036854775807) :
    Calls Tryz.prog 48 #[.string s, .string sep] w fun e w' => ∃ v0_ : Value, e = .returned v0_ ∧ Kd.R Kd.string 9 w' w.heap.size (fun _ => True) v0_ (splitL s sep) ∧ Below w.heap.size w w' := by
  refine (Tryz.strings_Split_shaped s sep w hG.shaped hs h1).mono ?_
  rintro e w' ⟨rfl, rfl⟩
  refine ⟨_, rfl, ?_, below_alloc (Below.refl _ _) _⟩
  have ho := own_lit_of (enc := Value.string) w w.heap.size 9 (splitL s sep) (Nat.le_refl _) hl
  rw [splitL_length s sep h1] at ho
  refine Kd.R_of_own (h1 := fun _ => rfl) ?_ (fun _ _ => trivial)
  rw [splitL_length s sep h1]
  exact ho
def strings_Cut.f (s sep : ByteArray) : Option (ByteArray × ByteArray × Bool) := if s.size < 4294967281 then some (⟨(Lib.cut s.data.toList sep.data.toList).1.toArray⟩, ⟨(Lib.cut s.data.toList sep.data.toList).2.1.toArray⟩, (Lib.cut s.data.toList sep.data.toList).2.2) else none
theorem strings_Cut.calls (a0 a1 : ByteArray) (r1 r2 : ByteArray) (r3 : Bool) (w : World) (hG : Glob w) (h : strings_Cut.f a0 a1 = some (r1, r2, r3)) :
    Calls Tryz.prog 81 #[.string a0, .string a1] w fun e w' => e = .returned (.tuple #[.string r1, .string r2, .bool r3]) ∧ Drawn0 w w' := by
  unfold strings_Cut.f at h
  split at h
  · rename_i hs
    simp only [Option.some.injEq, Prod.mk.injEq] at h
    obtain ⟨rfl, rfl, rfl⟩ := h
    refine (Tryz.strings_Cut_shaped a0 a1 w hG.shaped hs).mono ?_
    rintro e w' ⟨rfl, hw⟩
    exact ⟨rfl, ⟨hw⟩⟩
  · cases h
end Go.Proofs.YtfmpaofbnjlniaaGreatDoor.F
/- shape.number, by hand: it returns the number, or panics with bad{}. -/
namespace Go.Proofs.YtfmpaofbnjlniaaGreatDoor.F
open Go.RowKit Go.Proofs.YtfmpaofbnjlniaaGreatDoorW.PrintWords Go.Proofs.YtfmpaofbnjlniaaGreatDoorW.PrintLast Go.Proofs.YtfmpaofbnjlniaaGreatDoorW.PrintMore
set_option linter.unusedVariables false
set_option linter.unusedSimpArgs false
def numB (s : ByteArray) : Option Int := match Lib.atoiAll s.data.toList with | .ok v => some v | _ => none
def badEntry : PanicEntry := { v := .iface 85 (.agg #[]), recovered := false }
theorem bytesWorld_below (w : World) (e : TypeId) (t : ByteArray) : Below w.heap.size w (Lib.bytesWorld w e t) := bytes_below (Below.refl _ _) (Nat.le_refl _) e t
theorem number_ok (s : ByteArray) (hs : s.size ≤ 140737488355328) (v : Int) (h : numB s = some v) (w : World) :
    Calls Tryz.prog 49 #[.string s] w fun e w' => e = .returned (.int .i64 v) ∧ Below w.heap.size w w' := by
  have ha : Lib.atoiAll s.data.toList = .ok v := by
    unfold numB at h
    split at h
    · rename_i v' hv; rw [hv]; exact congrArg _ (Option.some.inj h)
    · cases h
  have HC := Lib.hid (Tryz.strconv_Atoi_ok s (by omega) v ha w)
  clear ha h
  go_enter Tryz.func49, Tryz.ntmps49
  go_wp2_with fail
  refine HC.out.mono ?_
  rintro e w' ⟨rfl, hw⟩
  have HB := Aside0.mk (show Below w.heap.size w w' by rcases hw with rfl | ⟨t, rfl⟩; exact Below.refl _ _; exact bytesWorld_below _ _ _)
  clear hw
  go_wp2
  go_ret
  exact ⟨rfl, HB.out⟩
theorem number_bad (s : ByteArray) (hs : s.size ≤ 140737488355328) (h : numB s = none) (w : World) (hG : Glob w) :
    Calls Tryz.prog 49 #[.string s] w fun e w' => e = .panicked [badEntry] ∧ Below w.heap.size w w' := by
  have hcall : ∃ n, Calls Tryz.prog 80 #[.string s] w fun e w' => ∃ N, e = .returned (.tuple #[.int .i64 n, .iface 167 (.pointer (some ⟨N, 0, none⟩))]) ∧ Below w.heap.size w w' := by
    unfold numB at h
    cases ha : Lib.atoiAll s.data.toList
    case ok v => rw [ha] at h; cases h
    case range =>
      obtain ⟨tp, p, hv⟩ := hG.rng
      exact ⟨_, (Any.strconv_Atoi_range_var Tryz.laysC172 s (by omega) ha tp p w hv).mono fun e w' ⟨N, he, _, _, hb⟩ => ⟨N, he, hb⟩⟩
    all_goals
      obtain ⟨tp, p, hv⟩ := hG.syn
      exact ⟨_, (Any.strconv_Atoi_syntax_var Tryz.laysC172 s (by omega) ha tp p w hv).mono fun e w' ⟨N, he, _, _, hb⟩ => ⟨N, he, hb⟩⟩
  obtain ⟨n, hcall⟩ := hcall
  have HC := Lib.hid hcall
  clear hcall h hG
  go_enter Tryz.func49, Tryz.ntmps49
  go_wp2_with fail
  refine HC.out.mono ?_
  rintro e w' ⟨N, rfl, hb⟩
  have HB := Aside0.mk hb
  clear hb
  go_wp2
  exact ⟨rfl, rfl, HB.out⟩
end Go.Proofs.YtfmpaofbnjlniaaGreatDoor.F
/- What shape.relation and shape.Parse read, as plain functions over byte strings. -/
namespace Go.Proofs.YtfmpaofbnjlniaaGreatDoor.F
open Go.RowKit Go.Proofs.YtfmpaofbnjlniaaGreatDoorW.PrintWords
set_option linter.unusedVariables false
def sepB : ByteArray := ⟨#[32]⟩
def sepC : ByteArray := ⟨#[44]⟩
def sepS : ByteArray := ⟨#[47]⟩
def sepR : ByteArray := ⟨#[59, 32]⟩
def numsB : List ByteArray → Option (List Int)
  | [] => some []
  | x :: xs => (numB x).bind fun n => (numsB xs).map (n :: ·)
def isUnit (p : ByteArray) : Bool := p.toList == [40, 41]
def tupB (p : ByteArray) : Option (List Int) := if isUnit p = true then some [] else numsB (splitL p sepC)
def tupsB : List ByteArray → Option (List (List Int))
  | [] => some []
  | x :: xs => (tupB x).bind fun t => (tupsB xs).map (t :: ·)
def cutB (p : ByteArray) : ByteArray × ByteArray × Bool := (⟨(Lib.cut p.data.toList sepS.data.toList).1.toArray⟩, ⟨(Lib.cut p.data.toList sepS.data.toList).2.1.toArray⟩, (Lib.cut p.data.toList sepS.data.toList).2.2)
def relOf (p0 : ByteArray) (ps : List ByteArray) : Option S52 :=
  if (cutB p0).2.2 = true then (numB (cutB p0).2.1).bind fun a => (tupsB ps).map fun ts => ⟨(cutB p0).1, a, ts⟩ else none
def relB (s : ByteArray) : Option S52 := match splitL s sepB with | [] => none | p0 :: ps => relOf p0 ps
def relsB : List ByteArray → Option (List S52)
  | [] => some []
  | x :: xs => (relB x).bind fun t => (relsB xs).map (t :: ·)
def parseB (s : ByteArray) : Option (Int × List S52) := match splitL s sepR with | [] => none | p0 :: ps => (numB p0).bind fun n => (relsB ps).map fun l => (n, l)
theorem numsB_app (l m : List ByteArray) : numsB (l ++ m) = (numsB l).bind fun a => (numsB m).map (a ++ ·) := by
  induction l with
  | nil => cases h : numsB m <;> simp [numsB, h]
  | cons x xs ih =>
    simp only [List.cons_append, numsB, ih]
    cases numB x <;> simp
    cases numsB xs <;> simp
    cases numsB m <;> simp
theorem tupsB_app (l m : List ByteArray) : tupsB (l ++ m) = (tupsB l).bind fun a => (tupsB m).map (a ++ ·) := by
  induction l with
  | nil => cases h : tupsB m <;> simp [tupsB, h]
  | cons x xs ih =>
    simp only [List.cons_append, tupsB, ih]
    cases tupB x <;> simp
    cases tupsB xs <;> simp
    cases tupsB m <;> simp
theorem relsB_app (l m : List ByteArray) : relsB (l ++ m) = (relsB l).bind fun a => (relsB m).map (a ++ ·) := by
  induction l with
  | nil => cases h : relsB m <;> simp [relsB, h]
  | cons x xs ih =>
    simp only [List.cons_append, relsB, ih]
    cases relB x <;> simp
    cases relsB xs <;> simp
    cases relsB m <;> simp
theorem tk {α : Type} {l : List α} {k : Nat} {x : α} (h : l[k]? = some x) : l.take (k + 1) = l.take k ++ [x] := by
  obtain ⟨hk, rfl⟩ := List.getElem?_eq_some_iff.1 h
  rw [List.take_succ_eq_append_getElem hk]
theorem sp {α : Type} {l : List α} {k : Nat} {x : α} (h : l[k]? = some x) : l = l.take k ++ [x] ++ l.drop (k + 1) := by rw [← tk h, List.take_append_drop]
theorem numsB_step {l : List ByteArray} {k : Nat} {x : ByteArray} {a : List Int} {n : Int} (h : l[k]? = some x) (ha : numsB (l.take k) = some a) (hn : numB x = some n) : numsB (l.take (k + 1)) = some (a ++ [n]) := by
  rw [tk h, numsB_app, ha]; simp [numsB, hn]
theorem numsB_stop {l : List ByteArray} {k : Nat} {x : ByteArray} (h : l[k]? = some x) (hn : numB x = none) : numsB l = none := by
  rw [sp h, numsB_app, numsB_app]; cases numsB (l.take k) <;> simp [numsB, hn]
theorem tupsB_step {l : List ByteArray} {k : Nat} {x : ByteArray} {a : List (List Int)} {n : List Int} (h : l[k]? = some x) (ha : tupsB (l.take k) = some a) (hn : tupB x = some n) : tupsB (l.take (k + 1)) = some (a ++ [n]) := by
  rw [tk h, tupsB_app, ha]; simp [tupsB, hn]
theorem tupsB_stop {l : List ByteArray} {k : Nat} {x : ByteArray} (h : l[k]? = some x) (hn : tupB x = none) : tupsB l = none := by
  rw [sp h, tupsB_app, tupsB_app]; cases tupsB (l.take k) <;> simp [tupsB, hn]
theorem relsB_step {l : List ByteArray} {k : Nat} {x : ByteArray} {a : List S52} {n : S52} (h : l[k]? = some x) (ha : relsB (l.take k) = some a) (hn : relB x = some n) : relsB (l.take (k + 1)) = some (a ++ [n]) := by
  rw [tk h, relsB_app, ha]; simp [relsB, hn]
theorem relsB_stop {l : List ByteArray} {k : Nat} {x : ByteArray} (h : l[k]? = some x) (hn : relB x = none) : relsB l = none := by
  rw [sp h, relsB_app, relsB_app]; cases relsB (l.take k) <;> simp [relsB, hn]
theorem numsB_len {l : List ByteArray} {a : List Int} (h : numsB l = some a) : a.length = l.length := by
  induction l generalizing a with
  | nil => injection h with h; subst h; rfl
  | cons x xs ih =>
    simp only [numsB] at h
    obtain ⟨n, _, h⟩ := Option.bind_eq_some_iff.1 h
    obtain ⟨b, hb, rfl⟩ := Option.map_eq_some_iff.1 h
    simp [ih hb]
theorem tupsB_len {l : List ByteArray} {a : List (List Int)} (h : tupsB l = some a) : a.length = l.length := by
  induction l generalizing a with
  | nil => injection h with h; subst h; rfl
  | cons x xs ih =>
    simp only [tupsB] at h
    obtain ⟨n, _, h⟩ := Option.bind_eq_some_iff.1 h
    obtain ⟨b, hb, rfl⟩ := Option.map_eq_some_iff.1 h
    simp [ih hb]
theorem relsB_len {l : List ByteArray} {a : List S52} (h : relsB l = some a) : a.length = l.length := by
  induction l generalizing a with
  | nil => injection h with h; subst h; rfl
  | cons x xs ih =>
    simp only [relsB] at h
    obtain ⟨n, _, h⟩ := Option.bind_eq_some_iff.1 h
    obtain ⟨b, hb, rfl⟩ := Option.map_eq_some_iff.1 h
    simp [ih hb]
theorem splitB_mem (sep : ByteArray) : ∀ (k : Nat) (s x : ByteArray), x ∈ Lib.splitB sep 0 k s → x.size ≤ s.size
  | 0, s, x, h => by rw [Lib.splitB_zero] at h; simp at h; subst h; exact Nat.le_refl _
  | k + 1, s, x, h => by
    unfold Lib.splitB at h
    split at h
    · simp at h; subst h; exact Nat.le_refl _
    · rcases List.mem_cons.1 h with rfl | h
      · simp; omega
      · have := splitB_mem sep k _ x h
        simp at this; omega
theorem splitL_mem {s sep x : ByteArray} (h : x ∈ splitL s sep) : x.size ≤ s.size := splitB_mem sep _ s x h
theorem splitB_many (sep : ByteArray) : ∀ (k : Nat) (s : ByteArray), 1 ≤ sep.size → (Lib.splitB sep 0 k s).length ≤ s.size + 1
  | 0, s, _ => by rw [Lib.splitB_zero]; simp
  | k + 1, s, h1 => by
    unfold Lib.splitB
    split
    · simp
    · rename_i hne
      rcases Lib.indexB_cases s sep with h | ⟨i, hi, hle⟩
      · exact absurd (beq_iff_eq.2 h) hne
      · have := splitB_many sep k (s.extract ((Lib.indexB s sep).toNat + sep.size) s.size) h1
        rw [hi] at this ⊢
        simp at this ⊢
        omega
theorem splitL_many (s sep : ByteArray) (h : 1 ≤ sep.size) : (splitL s sep).length ≤ s.size + 1 := splitB_many sep _ s h
theorem splitL_ne (s sep : ByteArray) (h : 1 ≤ sep.size) : splitL s sep ≠ [] := fun e => by have := splitL_length s sep h; rw [e] at this; simp at this
theorem cutB_size (p : ByteArray) : (cutB p).2.1.size ≤ p.size := by
  have hp : p.data.toList.length = p.size := data_length p
  show (Lib.cut p.data.toList sepS.data.toList).2.1.toArray.size ≤ _
  unfold Lib.cut
  split <;> simp <;> omega
end Go.Proofs.YtfmpaofbnjlniaaGreatDoor.F
/- shape.relation, by hand: it returns the relation that a part of a text is, or panics with bad{}. -/
namespace Go.Proofs.YtfmpaofbnjlniaaGreatDoor.F
open Go.RowKit Go.Proofs.YtfmpaofbnjlniaaGreatDoorW.PrintWords Go.Proofs.YtfmpaofbnjlniaaGreatDoorW.PrintLast Go.Proofs.YtfmpaofbnjlniaaGreatDoorW.PrintMore
set_option linter.unusedVariables false
set_option linter.unusedSimpArgs false
theorem number_calls (s : ByteArray) (hs : s.size ≤ 140737488355328) (w : World) (hG : Glob w) :
    Calls Tryz.prog 49 #[.string s] w fun e w' => (e = match numB s with | some v => .returned (.int .i64 v) | none => .panicked [badEntry]) ∧ Below w.heap.size w w' := by
  cases h : numB s with
  | none => exact number_bad s hs h w hG
  | some v => exact number_ok s hs v h w
theorem infoStr : (Tryz.prog.info? 9).map (fun i => (i.zero, i.size, i.bytes)) = some (some (.string ⟨#[]⟩), 1, 16) := by kernel_rfl
theorem infoInt : (Tryz.prog.info? 3).map (fun i => (i.zero, i.size, i.bytes)) = some (some (.int .i64 0), 1, 8) := by kernel_rfl
theorem infoInts : (Tryz.prog.info? 46).map (fun i => (i.zero, i.size, i.bytes)) = some (some (.slice none 0 0), 1, 24) := by kernel_rfl
/-- parts[1:] of a slice of strings: a slice that reads as the rest. -/
theorem cut_tail (ad : Addr) (c n : Nat) (p0 : ByteArray) (ps : List ByteArray) (w : World) (hn : n = ps.length + 1) (hc : (p0 :: ps).length ≤ c) (hC : Kd.string.C w (some ad) (p0 :: ps).length (p0 :: ps)) :
    ∃ A1, (∀ W : World, (Instr.slice 87 (.slice (some ad) n c) (some (.int .i64 1)) none none).run Tryz.prog W = .ok (.slice A1 ps.length (c - 1)) W) ∧ Kd.string.C w A1 ps.length ps ∧ ps.length ≤ c - 1 := by
  subst hn
  obtain ⟨i0, hi0, _, hsz0, _⟩ := info_parts infoStr
  have hcut := cut_from (P := Tryz.prog) 87 9 .i64 Tryz.underlying87 hi0 1 hsz0 (some ad) (ps.length + 1) c 1 (by decide) (by omega)
  have hd := Kd.C_drop (m := 1) hC (by simp) hc
  refine ⟨_, hcut, ?_, by simp at hc; omega⟩
  exact hd
def RelEnds (w : World) (o : Option S52) (e : Ending) (w' : World) : Prop := match o with
  | some r => ∃ v : Value, e = .returned (.agg #[.string r.f0, .int .i64 r.f1, v]) ∧ Kd.R (Kd.slice 3 (Kd.int .i64)) 46 w' w.heap.size (fun _ => True) v r.f2 ∧ Below w.heap.size w w'
  | none => e = .panicked [badEntry] ∧ Below w.heap.size w w'
theorem RelEnds.bad {w w' : World} {o : Option S52} (h : o = none) (hb : Below w.heap.size w w') : RelEnds w o (.panicked [badEntry]) w' := by subst h; exact ⟨rfl, hb⟩
theorem cut_calls (p : ByteArray) (hp : p.size ≤ 100000) (w : World) (hG : Glob w) :
    Calls Tryz.prog 81 #[.string p, .string sepS] w fun e w' => e = .returned (.tuple #[.string (cutB p).1, .string (cutB p).2.1, .bool (cutB p).2.2]) ∧ Below w.heap.size w w' :=
  (strings_Cut.calls p sepS _ _ _ w hG (by unfold strings_Cut.f; rw [if_pos (by omega)]; rfl)).mono fun e w' ⟨he, hd⟩ => ⟨he, hd.below⟩
set_option maxHeartbeats 4000000 in
set_option maxRecDepth 100000 in
theorem relation_calls (s : ByteArray) (hs : s.size ≤ 100000) (w : World) (hG : Glob w) :
    Calls Tryz.prog 50 #[.string s] w (RelEnds w (relB s)) := by
  have HG := Aside0.mk hG
  have hms : (splitL s sepB).length ≤ 100001 := Nat.le_trans (splitL_many s sepB (by decide)) (by omega)
  have HS := Aside0.mk (fun x (hx : x ∈ splitL s sepB) => splitL_mem hx)
  obtain ⟨p0, ps, hps⟩ : ∃ p0 ps, splitL s sepB = p0 :: ps := by
    cases h : splitL s sepB with
    | nil => exact absurd h (splitL_ne s sepB (by decide))
    | cons a b => exact ⟨a, b, rfl⟩
  have HRB := Aside0.mk (show relB s = relOf p0 ps by unfold relB; rw [hps])
  have HPS := Aside0.mk hps
  clear hG hps
  go_enter Tryz.func50, Tryz.ntmps50
  go_wp2_with (fail)
  refine (split_calls s sepB _ (HG.out.below (below_alloc (Below.refl _ _) _)) (by omega) (by decide) (by omega)).mono ?_
  rintro e w1 ⟨v0, rfl, hv0, hb1⟩
  have HB1 := Aside0.mk ((below_alloc (Below.refl w.heap.size w) _).trans (hb1.mono (by simp)))
  have hres : w1.heap[w.heap.size]? = some (.cells #[.string ⟨#[]⟩, .int .i64 0, .slice none 0 0] 52 (0, 0)) := by
    rw [hb1.block w.heap.size (by simp)]; exact heap_alloc_new _ _
  have HRES := Aside0.mk hres
  have hlt1 : w.heap.size < w1.heap.size := (Array.getElem?_eq_some_iff.1 hres).1
  obtain ⟨A0, c0, rfl, hl0, hC0⟩ := Kd.R_reads hv0
  rw [HPS.out] at hl0 hC0 hms
  have hlen : (splitL s sepB).length = (p0 :: ps).length := congrArg List.length HPS.out
  rw [hlen]
  obtain ⟨ad, hA, hcell0⟩ := Kd.at_string hC0 0 (by omega) (by simp)
  subst hA
  have hcp : w1.cell? ad = some (.string p0) := by
    have h := hcell0
    rw [show ((0 : Int).toNat) = 0 from rfl, Addr.add_zero'] at h
    simpa [rdOf] using h
  have HC0 := Aside0.mk hC0
  have hp0 : p0.size ≤ 100000 := Nat.le_trans (HS.out p0 (by rw [HPS.out]; simp)) hs
  have HG1 := Aside0.mk (HG.out.below HB1.out)
  clear hv0 hb1 hres hC0 hcell0 hlen
  go_wp2_with (fail)
  refine (cut_calls p0 hp0 _ HG1.out).mono ?_
  rintro e w2 ⟨rfl, hb2⟩
  have HB2 := Aside0.mk hb2
  have hcs := cutB_size p0
  have HRO := Aside0.mk (show relB s = (if (cutB p0).2.2 = true then (numB (cutB p0).2.1).bind fun a => (tupsB ps).map fun ts => ⟨(cutB p0).1, a, ts⟩ else none) by rw [HRB.out]; rfl)
  clear hb2 hcp HRB
  generalize cutB p0 = cp at HRO hcs ⊢
  obtain ⟨nm, ar, found⟩ := cp
  (try simp only at HRO hcs)
  cases found with
  | false =>
    go_wp2
    exact ⟨rfl, RelEnds.bad (by rw [HRO.out]; rfl) (below_step HB1.out HB2.out)⟩
  | true =>
    simp only [if_true] at HRO
    go_wp2_with (fail)
    refine (number_calls ar (by omega) _ (HG1.out.below HB2.out)).mono ?_
    rintro e w3 ⟨rfl, hb3⟩
    have HB3 := Aside0.mk (below_step HB2.out hb3)
    clear hb3 HB2
    cases hn : numB ar with
    | none =>
      simp only [hn]
      go_wp2
      exact ⟨rfl, RelEnds.bad (by rw [HRO.out, hn]; rfl) (below_step HB1.out HB3.out)⟩
    | some a =>
      rw [hn] at HRO
      simp only [Option.bind_some] at HRO
      clear hn
      obtain ⟨A1, hcut, hCT, hcc⟩ := cut_tail ad c0 (ps.length + 1) p0 ps w1 rfl hl0 HC0.out
      have HCT := Aside0.mk hCT
      have hps : ps.length ≤ 100000 := by simp at hms; omega
      have HSP := Aside0.mk (fun x (hx : x ∈ ps) => Nat.le_trans (HS.out x (by rw [HPS.out]; exact List.mem_cons_of_mem _ hx)) hs)
      clear hCT HC0 HPS HS hl0
      go_wp2
      clear hcut
      have HB4 := Aside0.mk (below_alloc HB3.out (.cells #[.string nm, .int .i64 a, .slice none 0 0] 52))
      have H7 := Aside0.mk (heap_alloc_new w3 (.cells #[.string nm, .int .i64 a, .slice none 0 0] 52))
      have HG7 := Aside0.mk HB3.out.size
      generalize w3.alloc (.cells #[.string nm, .int .i64 a, .slice none 0 0] 52) = w4 at *
      generalize w3.heap.size = g7 at *
      clear HB3
      go_loopw [34] (fun v34 wr => ∃ (j : Nat) (v : Value) (ts : List (List Int)), v34 = .int .i64 j ∧ j ≤ ps.length ∧ Aside0 (tupsB (ps.take j) = some ts) ∧ Aside0 (wr.heap[g7]? = some (.cells #[.string nm, .int .i64 a, v] 52 (0, 0))) ∧ Aside0 (Kd.R (Kd.slice 3 (Kd.int .i64)) 46 wr w1.heap.size (fun _ => True) v ts) ∧ Aside0 (Below w1.heap.size w1 wr)) (fun v34 _ => ps.length - (intOf v34).toNat)
      case atStart => exact ⟨0, .slice none 0 0, [], rfl, Nat.zero_le _, ⟨rfl⟩, H7, ⟨Kd.R_nil _ _ _ _ _⟩, HB4⟩
      case round =>
        clear H7 HB4
        obtain ⟨j, v, ts, rfl, hj, HTS, H7, HV, HB⟩ := hrel
        by_cases hlt : j < ps.length
        · obtain ⟨ad2, hA1, hjc⟩ := Kd.at_string HCT.out (j : Int) (by omega) (by omega)
          subst hA1
          replace hjc := pw_cell_below HB.out hjc
          simp only [Int.toNat_natCast] at hjc
          have hjx : ps[j]? = some (rdOf ByteArray.empty ps (j : Int)) := by unfold rdOf; rw [List.getElem?_eq_getElem hlt, List.getD_eq_getElem?_getD, Int.toNat_natCast, List.getElem?_eq_getElem hlt]; rfl
          have hpz := HSP.out _ (List.mem_of_getElem? hjx)
          have HJ := Aside0.mk hjx
          clear hjx
          generalize rdOf ByteArray.empty ps (j : Int) = p at *
          have hg7 : g7 < wr.heap.size := (Array.getElem?_eq_some_iff.1 H7.out).1
          generalize wr = wo at *
          go_upto_if 40 with (fail)
          go_cut [10] (fun v10 wc => ∃ (vt : Value) (ns : List Int), v10 = vt ∧ Aside0 (tupB p = some ns) ∧ Aside0 (Kd.R (Kd.int .i64) 3 wc wo.heap.size (fun _ => True) vt ns) ∧ Aside0 (Below wo.heap.size wo wc))
          case first =>
            have HE := Aside0.mk (show Kd.R (Kd.int .i64) 3 (wo.alloc (.cells #[] 3)) wo.heap.size (fun _ => True) (.slice (some ⟨wo.heap.size, 0, none⟩) 0 0) ([] : List Int) from Kd.R_of_own (own_lit_of (enc := Value.int .i64) wo _ 3 ([] : List Int) (Nat.le_refl _) (by decide)) (fun _ _ => trivial))
            have HBa := Aside0.mk (below_alloc (Below.refl wo.heap.size wo) (.cells #[] 3))
            by_cases hu : isUnit p = true
            · have hne : (p.toList == ([40, 41] : List UInt8)) = true := hu
              have HU := Aside0.mk (show tupB p = some [] by unfold tupB; rw [if_pos hu])
              (try rw [hne])
              go_wp2
              go_meet
              case rel => exact ⟨_, [], rfl, HU, HE, HBa⟩
            · have hne : (p.toList == ([40, 41] : List UInt8)) = false := by unfold isUnit at hu; simpa using hu
              have HU := Aside0.mk (show tupB p = numsB (splitL p sepC) by unfold tupB; rw [if_neg hu])
              generalize wo.alloc (.cells #[] 3) = wa at *
              have hsl := Nat.le_trans (splitL_many p sepC (by decide)) (show p.size + 1 ≤ 100001 by omega)
              have HZ := Aside0.mk (fun x (hx : x ∈ splitL p sepC) => Nat.le_trans (splitL_mem hx) hpz)
              clear hu
              (try rw [hne])
              go_wp2_with (fail)
              refine (split_calls p sepC _ ((HG1.out.below HB.out).below HBa.out) (by omega) (by decide) (by omega)).mono ?_
              rintro e w5 ⟨v5, rfl, hv5, hb5⟩
              obtain ⟨A5, c5, rfl, hl5, _⟩ := Kd.R_reads hv5
              have HS5 := Aside0.mk (Kd.R_lower hv5 HBa.out.size)
              have HE5 := Aside0.mk (Kd.R_below HE.out hb5)
              have HB5 := Aside0.mk (below_step HBa.out hb5)
              clear hv5 hb5 HE HBa
              generalize splitL p sepC = L at *
              go_wp2
              go_loopw [44, 10] (fun v44 v10 wl => ∃ (i : Nat) (vt : Value) (ns : List Int), v44 = .int .i64 i ∧ v10 = vt ∧ i ≤ L.length ∧ Aside0 (numsB (L.take i) = some ns) ∧ Aside0 (Kd.R (Kd.int .i64) 3 wl wo.heap.size (fun _ => True) vt ns) ∧ Aside0 (Kd.R Kd.string 9 wl wo.heap.size (fun _ => True) (.slice A5 L.length c5) L) ∧ Aside0 (Below wo.heap.size wo wl)) (fun v44 _ _ => L.length - (intOf v44).toNat)
              case atStart => exact ⟨0, _, [], rfl, rfl, Nat.zero_le _, ⟨rfl⟩, HE5, HS5, HB5⟩
              case round =>
                clear HE5 HS5 HB5
                obtain ⟨i, vt, ns, rfl, rfl, hi, HN, HR, HSr, HBr⟩ := hrel
                by_cases hlt2 : i < L.length
                · obtain ⟨_, _, hCs⟩ := Kd.R_reads' HSr.out
                  obtain ⟨ad3, hA3, hxc⟩ := Kd.at_string hCs (i : Int) (by omega) (by omega)
                  subst hA3
                  simp only [Int.toNat_natCast] at hxc
                  have hxi : L[i]? = some (rdOf ByteArray.empty L (i : Int)) := by unfold rdOf; rw [List.getElem?_eq_getElem hlt2, List.getD_eq_getElem?_getD, Int.toNat_natCast, List.getElem?_eq_getElem hlt2]; rfl
                  have HX := Aside0.mk hxi
                  have hxz := HZ.out _ (List.mem_of_getElem? hxi)
                  clear hCs hxi
                  generalize rdOf ByteArray.empty L (i : Int) = x at *
                  have hnl : ns.length ≤ 100001 := by have := numsB_len HN.out; rw [List.length_take] at this; omega
                  go_wp2_with (fail)
                  refine (number_calls x (by omega) _ ((HG1.out.below HB.out).below HBr.out)).mono ?_
                  rintro e w6 ⟨rfl, hb6⟩
                  have HB6 := Aside0.mk (below_step HBr.out hb6)
                  have HR6 := Aside0.mk (Kd.R_below HR.out hb6)
                  have HS6 := Aside0.mk (Kd.R_below HSr.out hb6)
                  clear hb6 HBr HR HSr
                  cases hnx : numB x with
                  | none =>
                    have HNN := Aside0.mk (show relB s = none by rw [HRO.out, tupsB_stop HJ.out (HU.out.trans (numsB_stop HX.out hnx))]; rfl)
                    simp only
                    go_wp2
                    exact ⟨rfl, RelEnds.bad HNN.out (below_step (below_step HB1.out HB.out) HB6.out)⟩
                  | some nx =>
                    have HN2 := Aside0.mk (numsB_step HX.out HN.out hnx)
                    clear hnx HN
                    simp only
                    go_wp2_with (first | ((with_reducible refine gate_builtin (b := .append) (xs := #[.tmp 48, .tmp 51]) rfl ?_); (try (refine gate_guard (by rfl) ?_; dsimp only)); at_builtin; refine Kd.R_append (Kd.int .i64) (w0 := wo) wo.heap.size rfl (.tmp 48) (.tmp 51) 46 3 (.int .i64 0) 8 rfl Tryz.underlying46 infoInt rfl (by decide) (by omega) _ ns nx [.int .i64 nx] (fun _ => True) (fun _ => False) rfl rfl ?aP (fun _ hk => hk.elim) ?aF ?aO ?aB ?aS ?aL ?_; (case aP => exact rfl); (case aB => exact HB6.out); (case aF => exact (fun _ _ => trivial)); (case aO => exact HR6.out); (case aS => exact HB6.out.size); (case aL => omega); intro v7 w7 ho hb hg hat; have n0_ := Aside0.mk hb; have n1_ := Aside0.mk ho; have n2_ := Aside0.mk (Kd.R_drop (Kd.R_after (ok := fun _ => True) (Kd.R_apartR HS6.out HR6.out (by decide)) hg hat)); clear ho hb hg hat HB6 HR6 HS6))
                    go_roundw
                    · exact ⟨i + 1, _, _, (by simp), rfl, hlt2, HN2, n1_, n2_, n0_⟩
                    · simp [intOf]; omega
                · obtain rfl : i = L.length := by omega
                  rw [List.take_length] at HN
                  go_wp2
                  go_meet
                  case rel => exact ⟨_, ns, rfl, ⟨HU.out.trans HN.out⟩, HR, HBr⟩
          case rest =>
            obtain ⟨vt, ns, rfl, HT, HR, HBc⟩ := hcut
            have H7c := Aside0.mk ((HBc.out.block g7 hg7).trans H7.out)
            have hc7 : wc.cell? ⟨g7, 2, none⟩ = some v := by simp [World.cell?, H7c.out]
            have hf7 : wc.frozen? ⟨g7, 2, none⟩ = false := by simp [World.frozen?, H7c.out]
            have HV1 := Aside0.mk (Kd.R_elder HV.out HR.out HBc.out)
            have HB7 := Aside0.mk (below_step HB.out HBc.out)
            have HR1 := Aside0.mk (Kd.R_newR HR.out HV.out)
            have htl : ts.length ≤ 100000 := by have := tupsB_len HTS.out; rw [List.length_take] at this; omega
            obtain ⟨At, ct, hvt⟩ := Kd.R_slice HR.out
            subst hvt
            clear H7 HV
            go_wp2_with (first | ((with_reducible refine gate_builtin (b := .append) (xs := #[.tmp 55, .tmp 57]) rfl ?_); (try (refine gate_guard (by rfl) ?_; dsimp only)); at_builtin; refine Kd.R_append (Kd.slice 3 (Kd.int .i64)) (w0 := w1) w1.heap.size rfl (.tmp 55) (.tmp 57) 50 46 (.slice none 0 0) 24 rfl Tryz.underlying50 infoInts rfl (by decide) (by omega) v ts ns [.slice At ns.length ct] (fun _ => True) (fun k_ => some k_ = (Value.slice At ns.length ct).ownBlock ∧ some k_ ≠ v.ownBlock) rfl rfl ?aP (fun _ hk => ⟨trivial, hk.2⟩) ?aF ?aO ?aB ?aS ?aL ?_; (case aP => exact Kd.M_row (Kd.R_mono (Kd.R_bound (Kd.R_tight rfl HR1.out)) (fun k_ hk => ⟨hk.1, (HR1.out.1 k_ hk.1.symm).2⟩) |> fun h => Kd.R_lower h HB.out.size)); (case aB => exact HB7.out); (case aF => exact (fun _ _ => trivial)); (case aO => exact Kd.R_drop (ok' := fun k_ => some k_ ≠ (Value.slice At ns.length ct).ownBlock) HV1.out); (case aS => exact HB7.out.size); (case aL => omega); intro v7 w7 ho hb hg hat; have n0_ := Aside0.mk hb; have n1_ := Aside0.mk ho; have n2_ := Aside0.mk (blk_grown H7c.out hg (Kd.R_ne HV1.out H7c.out (by decide))); clear ho hb hg hat HB7 HR1 HV1 HR; obtain ⟨A7, c7, e7⟩ := Kd.R_slice n1_.out; subst e7; have hc8 : w7.cell? ⟨g7, 2, none⟩ = some v := (blk_cell n2_.out 2).trans rfl; have hf8 := blk_frozen n2_.out 2))
            rw [show (ts ++ [ns]).length = ts.length + 1 from by simp] at n1_
            have n3_ := Aside0.mk (Kd.R_set n1_.out n2_.out (by decide) 2 (.slice A7 (ts.length + 1) c7))
            have n4_ := Aside0.mk (blk_put (cs' := #[.string nm, .int .i64 a, .slice A7 (ts.length + 1) c7]) n2_.out 2 (.slice A7 (ts.length + 1) c7) rfl)
            have n5_ := Aside0.mk (below_set (j := 2) (v := .slice A7 (ts.length + 1) c7) n0_.out HG7.out)
            go_roundw
            · exact ⟨j + 1, _, _, (by simp), hlt, ⟨tupsB_step HJ.out HTS.out HT.out⟩, n4_, n3_, n5_⟩
            · simp [intOf]; omega
        · obtain rfl : j = ps.length := by omega
          rw [List.take_length] at HTS
          have hcell7a : wr.cell? ⟨g7, 0, none⟩ = some (.string nm) := by simp [World.cell?, H7.out]
          have hcell7b : wr.cell? ⟨g7, 1, none⟩ = some (.int .i64 a) := by simp [World.cell?, H7.out]
          have hcell7c : wr.cell? ⟨g7, 2, none⟩ = some v := by simp [World.cell?, H7.out]
          obtain ⟨Av, cv, hv⟩ := Kd.R_slice HV.out
          subst hv
          have HR0 := Aside0.mk ((HB.out.block w.heap.size hlt1).trans HRES.out)
          have hr0 : wr.cell? ⟨w.heap.size, 0, none⟩ = some (.string ⟨#[]⟩) := by simp [World.cell?, HR0.out]
          have hr1 : wr.cell? ⟨w.heap.size, 1, none⟩ = some (.int .i64 0) := by simp [World.cell?, HR0.out]
          have hr2 : wr.cell? ⟨w.heap.size, 2, none⟩ = some (.slice none 0 0) := by simp [World.cell?, HR0.out]
          have hz0 : wr.frozen? ⟨w.heap.size, 0, none⟩ = false := by simp [World.frozen?, HR0.out]
          have hz1 : wr.frozen? ⟨w.heap.size, 1, none⟩ = false := by simp [World.frozen?, HR0.out]
          have hz2 : wr.frozen? ⟨w.heap.size, 2, none⟩ = false := by simp [World.frozen?, HR0.out]
          go_wp2
          generalize hWx : ((wr.setCell ⟨w.heap.size, 0, none⟩ (.string nm)).setCell ⟨w.heap.size, 1, none⟩ (.int .i64 a)).setCell ⟨w.heap.size, 2, none⟩ (.slice Av ts.length cv) = WX
          have HX := blk_put (blk_put (blk_put HR0.out 0 (.string nm) rfl) 1 (.int .i64 a) rfl) 2 (.slice Av ts.length cv) rfl
          have HV1 := Kd.R_set HV.out HR0.out (by decide) 0 (.string nm)
          have HV2 := Kd.R_set HV1 (blk_put HR0.out 0 (.string nm) rfl) (by decide) 1 (.int .i64 a)
          have HV3 := Kd.R_set HV2 (blk_put (blk_put HR0.out 0 (.string nm) rfl) 1 (.int .i64 a) rfl) (by decide) 2 (.slice Av ts.length cv)
          have HBX := below_set (j := 2) (v := .slice Av ts.length cv) (below_set (j := 1) (v := .int .i64 a) (below_set (j := 0) (v := .string nm) (below_step HB1.out HB.out) (Nat.le_refl _)) (Nat.le_refl _)) (Nat.le_refl _)
          rw [hWx] at HX HV3 HBX
          refine bodyPost_ret (results_cell_row rfl _ _ w.heap.size 52 #[.string nm, .int .i64 a, .slice Av ts.length cv] (0, 0) _ rfl HX Tryz.underlying52 rfl (by kernel_rfl)) rfl ?_
          rw [HRO.out, HTS.out]
          exact ⟨_, rfl, Kd.R_lower HV3 (Nat.le_of_lt hlt1), HBX⟩
end Go.Proofs.YtfmpaofbnjlniaaGreatDoor.F
/- shape.Parse$1, the deferred closure, by hand. -/
namespace Go.Proofs.YtfmpaofbnjlniaaGreatDoor.F
open Go.RowKit Go.Proofs.YtfmpaofbnjlniaaGreatDoorW.PrintWords Go.Proofs.YtfmpaofbnjlniaaGreatDoorW.PrintLast Go.Proofs.YtfmpaofbnjlniaaGreatDoorW.PrintMore
set_option linter.unusedVariables false
set_option linter.unusedSimpArgs false
theorem assertBad_yes (W : World) (v : Value) : (Instr.typeAssert (.iface 85 v) 20 85 true).run Tryz.prog W = .ok (.tuple #[v, .bool true]) W := by kernel_rfl
theorem assertBad_nil (W : World) : (Instr.typeAssert .nilIface 20 85 true).run Tryz.prog W = .ok (.tuple #[.agg #[], .bool false]) W := by kernel_rfl
theorem catch_panicking (g2 g3 : Nat) (a : Int) (v : Value) (b : Int) (older : List PanicEntry) (w : World) (h2 : w.heap[g2]? = some (.cells #[.int .i64 a, v] 24 (0, 0))) (h3 : w.heap[g3]? = some (.cells #[.int .i64 b] 27 (0, 0))) :
    CallsD Tryz.prog 47 #[.pointer (some ⟨g2, 0, none⟩), .pointer (some ⟨g3, 0, none⟩)] (.panicking ({ v := .iface 85 (.agg #[]), recovered := false } :: older)) w fun e u' w' =>
      e = .returned (.tuple #[]) ∧ u' = .panicking ({ v := .iface 85 (.agg #[]), recovered := true } :: older) ∧ ∃ o, w' = (((w.alloc o).setCell ⟨g2, 0, none⟩ (.int .i64 0)).setCell ⟨g2, 1, none⟩ (.slice none 0 0)).setCell ⟨g3, 0, none⟩ (.int .i64 3) := by
  have hc0 : w.cell? ⟨g2, 0, none⟩ = some (.int .i64 a) := by simp [World.cell?, h2]
  have hc1 : w.cell? ⟨g2, 1, none⟩ = some v := by simp [World.cell?, h2]
  have hc2 : w.cell? ⟨g3, 0, none⟩ = some (.int .i64 b) := by simp [World.cell?, h3]
  have hz0 : w.frozen? ⟨g2, 0, none⟩ = false := by simp [World.frozen?, h2]
  have hz1 : w.frozen? ⟨g2, 1, none⟩ = false := by simp [World.frozen?, h2]
  have hz2 : w.frozen? ⟨g3, 0, none⟩ = false := by simp [World.frozen?, h3]
  refine callsD_of_wpS Tryz.func47 rfl fun c₀ cs hu => ?_
  apply wpS_seq
  apply wpS_region
  simp [assertBad_yes, assertBad_nil, wpOpsS, go_sem, recoverD, hu, Tryz.ntmps47, Exit.thenS]
  apply wpS_seq
  apply wpS_region
  simp [wpOpsS, go_sem, Exit.thenS]
  refine wpS_cond (t := true) (by simp [Act.eval, Array.replicate]) ?_
  simp only [if_true]
  apply wpS_region
  have hb := below_alloc (Below.refl w.heap.size w) (.cells #[] 85)
  have k2 := (hb.block g2 (Array.getElem?_eq_some_iff.1 h2).1).trans h2
  have k3 := (hb.block g3 (Array.getElem?_eq_some_iff.1 h3).1).trans h3
  clear hb
  have e0 : (w.alloc (.cells #[] 85)).cell? ⟨g2, 0, none⟩ = some (.int .i64 a) := by simp only [World.cell?, k2]; simp
  have e1 : (w.alloc (.cells #[] 85)).cell? ⟨g2, 1, none⟩ = some v := by simp only [World.cell?, k2]; simp
  have e2 : (w.alloc (.cells #[] 85)).cell? ⟨g3, 0, none⟩ = some (.int .i64 b) := by simp only [World.cell?, k3]; simp
  have f0 : (w.alloc (.cells #[] 85)).frozen? ⟨g2, 0, none⟩ = false := by simp only [World.frozen?, k2]; simp
  have f1 : (w.alloc (.cells #[] 85)).frozen? ⟨g2, 1, none⟩ = false := by simp only [World.frozen?, k2]; simp
  have f2 : (w.alloc (.cells #[] 85)).frozen? ⟨g3, 0, none⟩ = false := by simp only [World.frozen?, k3]; simp
  have k4 := (Below.heap_setCell (w.alloc (.cells #[] 85)) ⟨g2, 0, none⟩ (.int .i64 0) g3 (blk_ne k3 k2 (by decide))).trans k3
  have e3 : ((w.alloc (.cells #[] 85)).setCell ⟨g2, 0, none⟩ (.int .i64 0)).cell? ⟨g3, 0, none⟩ = some (.int .i64 b) := by simp only [World.cell?, k4]; simp
  simp [wpOpsS, go_sem, bodyPostS, results, Tryz.results47, e0, e1, e2, f0, f1, f2, e3]
  go_goals
  exact ⟨_, rfl⟩
theorem catch_idle (g2 g3 : Nat) (w : World) :
    CallsD Tryz.prog 47 #[.pointer (some ⟨g2, 0, none⟩), .pointer (some ⟨g3, 0, none⟩)] .returning w fun e u' w' => e = .returned (.tuple #[]) ∧ u' = .returning ∧ ∃ o, w' = w.alloc o := by
  refine callsD_of_wpS Tryz.func47 rfl fun c₀ cs hu => ?_
  apply wpS_seq
  apply wpS_region
  simp [assertBad_yes, assertBad_nil, wpOpsS, go_sem, recoverD, hu, Tryz.ntmps47, Exit.thenS]
  apply wpS_seq
  apply wpS_region
  simp [wpOpsS, go_sem, Exit.thenS]
  refine wpS_cond (t := false) (by simp [Act.eval, Array.replicate]) ?_
  simp only [Bool.false_eq_true, if_false]
  refine wpS_of_wp (wp_skip ?_)
  cases c₀
  simp_all [bodyPostS, results, Tryz.results47]
  exact ⟨_, rfl⟩
end Go.Proofs.YtfmpaofbnjlniaaGreatDoor.F
