/- Part 2 of the proof: For every machine and every size, GuessRelations answers true, whatever the input; no condition. -/
import Derived.Test.YtailpfcbdopfeaaGreatDoorGrel1
import Derived.Test.YtailpfcbdopfeaaGreatDoorProg
import Derived.WalkSmall
import Derived.ChangeAgain
import Derived.Lib.LaidTab
import Derived.Below
import Derived.Deep.Draws
import Derived.RowKit3
import Derived.Shelf.Strconv.Itoa3
import Derived.Shelf.Strings.FieldsAny
import Derived.Deep.AppendLies
import Derived.Maps.AppendAt
import Derived.OwnWalk
import Derived.Laws.BytesArg
import Derived.Laws.MakeOwn
import Derived.Laws.OwnMore
import Derived.Deep.OwnRows
import Derived.Tactics
import Derived.Lib.ConvBytes
import Derived.Laws.Slices
import Derived.WalkKit
import Derived.KernelRfl
import Derived.Deep.LoopGhost
import Derived.Deep.QuietTactic
import Derived.BigQuiet
import Derived.WideLaws
import Derived.Deep.DeepCutAuto
import Derived.Deep.CutBlock
import Derived.Deep.RegionHeld3
import Derived.Laws.Rows
import Derived.Lib.AppendStr
import Derived.ArgAppend
import Derived.Laws.IdiomCopy
import Derived.OrdersHeld
import Derived.Laws.BitsLemmas
import Derived.RowKit
import Derived.Outline
import Derived.Lib.Hide
import Derived.Deep.DeepMust
import Derived.Shelf.Abstract
import Derived.DeepKeys3
import Derived.Maps.OwnSet
import Derived.Test.YtailpfcbdopfeaaGreatDoorRows
import Derived.Test.YtailpfcbdopfeaaGreatDoorShelf
import Derived.Lib.LaidU8
import Derived.LaidLaws
import Derived.LaidHandle
import Derived.MakeChecks
import Derived.Lay
import Derived.Carry
import Derived.OpenShut
import Derived.Deep.Strs
import Derived.Handed
import Derived.SizedLaws
import Derived.ShutString
import Derived.ProofKit
import Derived.Shelf.Lays8
import Derived.Ground.Names8Prog
import Derived.Shelf.Spec.SlicesGrow
import Derived.Lib.SplitLaws
import Derived.Lib.AppendIntMem
import Derived.WalkLawsBesides
import Derived.LaidEql
import Derived.Lib.ItoaLen
import Derived.Shelf.Strings.BuilderK
import Derived.BigRegion
/- What the package-level variables hold, as far as the contracts ask (the tables of strings.Fields too). -/
namespace Go.Proofs.YtailpfcbdopfeaaGreatDoor.F
open Go.RowKit
set_option linter.unusedVariables false
/-- What the package-level variables hold, as far as the contracts ask: kept by whatever leaves the old blocks alone. -/
structure Glob (w : World) : Prop where
  shaped : w.ShapedOpen Tryz.prog
  syn : ∃ tp p, w.var? Tryz.prog "strconv.ErrSyntax" = some #[.iface tp p]
  rng : ∃ tp p, w.var? Tryz.prog "strconv.ErrRange" = some #[.iface tp p]
  tab : Lib.TabIs Tryz.prog w "internal/strconv.uint64pow10" .u64 Lib.pow10Tab
  asc : Lib.TabIs Tryz.prog w "strings.asciiSpace" .u8 Lib.asciiSpaceTab
  white : Lib.WhiteTab 1 w
theorem var_kept {P : Program} {w w' : World} {n : String} {cs : Array Value} (hb : Below w.heap.size w w') (h : w.var? P n = some cs) : w'.var? P n = some cs := by
  unfold World.var? at h ⊢
  cases hg : P.globalNamed n with
  | none => simp [hg] at h
  | some g =>
    simp only [hg, Option.bind_some] at h ⊢
    have hlt : g < w.heap.size := by
      rcases Nat.lt_or_ge g w.heap.size with h' | h'
      · exact h'
      · simp [Array.getElem?_eq_none h'] at h
    rw [hb.block g hlt]
    exact h
theorem Glob.below {w w' : World} (h : Glob w) (hb : Below w.heap.size w w') : Glob w' :=
  ⟨h.shaped.keptBut (may := fun _ => False) (hb.frame _) (fun _ hp => hp.elim), h.syn.imp fun tp hp => hp.imp fun p hq => var_kept hb hq, h.rng.imp fun tp hp => hp.imp fun p hq => var_kept hb hq, var_kept hb h.tab, var_kept hb h.asc, WhiteTab_below h.white hb⟩
theorem Glob.drew {w : World} (h : Glob w) : Glob w.drew := h.below (Below.refl _ _).drew
theorem Glob.drewN {w : World} (h : Glob w) (n : Nat) : Glob (w.drewN n) := by
  induction n with
  | zero => exact h
  | succ n ih => exact ih.drew
end Go.Proofs.YtailpfcbdopfeaaGreatDoor.F
namespace Go.Proofs.YtailpfcbdopfeaaGreatDoor.F
open Go.RowKit Go.Proofs.YtailpfcbdopfeaaGreatDoorW.PrintWords Go.Proofs.YtailpfcbdopfeaaGreatDoorW.PrintLast Go.Proofs.YtailpfcbdopfeaaGreatDoorW.PrintMore
attribute [local go_sem] max2_int min2_int max_two min_two max_three min_three max_four min_four
set_option linter.unusedVariables false
set_option linter.unusedSimpArgs false
def errW : Option Int → Value
  | none => .nilIface
  | some c => .iface 0 (.int .i64 c)
theorem errW_none : errW none = .nilIface := rfl
theorem errW_some (c : Int) : errW (some c) = .iface 0 (.int .i64 c) := rfl
theorem info9 : (Tryz.prog.info? 9).map (fun i => (i.zero, i.size, i.bytes)) = some (some (.string ⟨#[]⟩), 1, 16) := by kernel_rfl
theorem info46 : (Tryz.prog.info? 46).map (fun i => (i.zero, i.size, i.bytes)) = some (some (.agg #[(.string ⟨#[]⟩), (.int .i64 0)]), 2, 24) := by kernel_rfl
/-! #### struct type 42 -/
structure S42 where
  f0 : Int
  f1 : Bool
  f2 : ByteArray
  f3 : (List Int)
def z42 : S42 := ⟨(0 : Int), false, (⟨#[]⟩ : ByteArray), ([] : List Int)⟩
def k42 : Kd S42 := Kd.iso (Kd.pair (Kd.int .i64) (Kd.pair Kd.bool (Kd.pair Kd.string (Kd.slice 3 (Kd.int .i64))))) (fun x : S42 => (x.f0, x.f1, x.f2, x.f3))
theorem k42_open {w : World} {x : S42} {cs : List Value} (h : k42.K w x cs) : ∃ A3 c3, cs = [.int .i64 x.f0, .bool x.f1, .string x.f2, .slice A3 x.f3.length c3] ∧ x.f3.length ≤ c3 ∧ (Kd.int .i64).C w A3 x.f3.length x.f3 := by
  obtain ⟨_, _, rfl, rfl, ⟨_, _, rfl, rfl, ⟨_, _, rfl, rfl, ⟨A3, c3, rfl, l3, g3⟩⟩⟩⟩ := h
  exact ⟨A3, c3, rfl, l3, g3⟩
theorem k42_mk (w : World) (x : S42) {A3 : Option Addr} {c3 : Nat} (l3 : x.f3.length ≤ c3) (g3 : (Kd.int .i64).C w A3 x.f3.length x.f3) : k42.K w x [.int .i64 x.f0, .bool x.f1, .string x.f2, .slice A3 x.f3.length c3] := ⟨[.int .i64 x.f0], [.bool x.f1, .string x.f2, .slice A3 x.f3.length c3], rfl, rfl, ⟨[.bool x.f1], [.string x.f2, .slice A3 x.f3.length c3], rfl, rfl, ⟨[.string x.f2], [.slice A3 x.f3.length c3], rfl, rfl, ⟨A3, c3, rfl, l3, g3⟩⟩⟩⟩
theorem k42_mkM (w : World) (base : Nat) (ok : Nat → Prop) (x : S42) {v3 : Value} (g3 : (Kd.int .i64).R 3 w base ok v3 x.f3) : k42.M w base ok x [.int .i64 x.f0, .bool x.f1, .string x.f2, v3] := ⟨[.int .i64 x.f0], [.bool x.f1, .string x.f2, v3], rfl, rfl, ⟨[.bool x.f1], [.string x.f2, v3], rfl, rfl, ⟨[.string x.f2], [v3], rfl, rfl, ⟨v3, rfl, g3⟩⟩⟩⟩
def rd_T42 (xs : List S42) (i : Int) : S42 := xs.getD i.toNat z42
theorem at_T42 {w : World} {A : Option Addr} {n : Nat} {xs : List S42} (h : Kd.C k42 w A n xs) (i : Int) (h0 : 0 ≤ i) (h1 : i < n) : ∃ ad A3 c3, A = some ad ∧ w.cell? (ad.add (i.toNat * 4)) = some (.int .i64 (rd_T42 xs i).f0) ∧ w.cell? ⟨(ad.add (i.toNat * 4)).block, (ad.add (i.toNat * 4)).off + 1, none⟩ = some (.bool (rd_T42 xs i).f1) ∧ w.cell? ⟨(ad.add (i.toNat * 4)).block, (ad.add (i.toNat * 4)).off + 2, none⟩ = some (.string (rd_T42 xs i).f2) ∧ w.cell? ⟨(ad.add (i.toNat * 4)).block, (ad.add (i.toNat * 4)).off + 3, none⟩ = some (.slice A3 (rd_T42 xs i).f3.length c3) ∧ (rd_T42 xs i).f3.length ≤ c3 ∧ (Kd.int .i64).C w A3 (rd_T42 xs i).f3.length (rd_T42 xs i).f3 := by
  obtain ⟨ad, c, e, _, hK, hc0⟩ := Kd.C_get h z42 i h0 h1
  have hc : ∀ j u, c[j]? = some u → w.cell? (ad.add (i.toNat * 4 + j)) = some u := hc0
  obtain ⟨A3, c3, rfl, l3, g3⟩ := k42_open hK
  exact ⟨ad, A3, c3, e, hc 0 _ rfl, by rw [← add_field _ _ 1 (by omega)]; exact hc 1 _ rfl, by rw [← add_field _ _ 2 (by omega)]; exact hc 2 _ rfl, by rw [← add_field _ _ 3 (by omega)]; exact hc 3 _ rfl, l3, g3⟩
/-! #### struct type 69 -/
structure S69 where
  f0 : Int
  f1 : Int
  f2 : Int
  f3 : Int
  f4 : Int
def z69 : S69 := ⟨(0 : Int), (0 : Int), (0 : Int), (0 : Int), (0 : Int)⟩
def k69 : Kd S69 := Kd.iso (Kd.pair (Kd.int .i64) (Kd.pair (Kd.int .i64) (Kd.pair (Kd.int .i64) (Kd.pair (Kd.int .i64) (Kd.int .i64))))) (fun x : S69 => (x.f0, x.f1, x.f2, x.f3, x.f4))
theorem k69_open {w : World} {x : S69} {cs : List Value} (h : k69.K w x cs) : cs = [.int .i64 x.f0, .int .i64 x.f1, .int .i64 x.f2, .int .i64 x.f3, .int .i64 x.f4] := by
  obtain ⟨_, _, rfl, rfl, ⟨_, _, rfl, rfl, ⟨_, _, rfl, rfl, ⟨_, _, rfl, rfl, rfl⟩⟩⟩⟩ := h
  exact rfl
theorem k69_mk (w : World) (x : S69)  : k69.K w x [.int .i64 x.f0, .int .i64 x.f1, .int .i64 x.f2, .int .i64 x.f3, .int .i64 x.f4] := ⟨[.int .i64 x.f0], [.int .i64 x.f1, .int .i64 x.f2, .int .i64 x.f3, .int .i64 x.f4], rfl, rfl, ⟨[.int .i64 x.f1], [.int .i64 x.f2, .int .i64 x.f3, .int .i64 x.f4], rfl, rfl, ⟨[.int .i64 x.f2], [.int .i64 x.f3, .int .i64 x.f4], rfl, rfl, ⟨[.int .i64 x.f3], [.int .i64 x.f4], rfl, rfl, rfl⟩⟩⟩⟩
theorem k69_mkM (w : World) (base : Nat) (ok : Nat → Prop) (x : S69)  : k69.M w base ok x [.int .i64 x.f0, .int .i64 x.f1, .int .i64 x.f2, .int .i64 x.f3, .int .i64 x.f4] := ⟨[.int .i64 x.f0], [.int .i64 x.f1, .int .i64 x.f2, .int .i64 x.f3, .int .i64 x.f4], rfl, rfl, ⟨[.int .i64 x.f1], [.int .i64 x.f2, .int .i64 x.f3, .int .i64 x.f4], rfl, rfl, ⟨[.int .i64 x.f2], [.int .i64 x.f3, .int .i64 x.f4], rfl, rfl, ⟨[.int .i64 x.f3], [.int .i64 x.f4], rfl, rfl, rfl⟩⟩⟩⟩
def rd_T69 (xs : List S69) (i : Int) : S69 := xs.getD i.toNat z69
theorem at_T69 {w : World} {A : Option Addr} {n : Nat} {xs : List S69} (h : Kd.C k69 w A n xs) (i : Int) (h0 : 0 ≤ i) (h1 : i < n) : ∃ ad , A = some ad ∧ w.cell? (ad.add (i.toNat * 5)) = some (.int .i64 (rd_T69 xs i).f0) ∧ w.cell? ⟨(ad.add (i.toNat * 5)).block, (ad.add (i.toNat * 5)).off + 1, none⟩ = some (.int .i64 (rd_T69 xs i).f1) ∧ w.cell? ⟨(ad.add (i.toNat * 5)).block, (ad.add (i.toNat * 5)).off + 2, none⟩ = some (.int .i64 (rd_T69 xs i).f2) ∧ w.cell? ⟨(ad.add (i.toNat * 5)).block, (ad.add (i.toNat * 5)).off + 3, none⟩ = some (.int .i64 (rd_T69 xs i).f3) ∧ w.cell? ⟨(ad.add (i.toNat * 5)).block, (ad.add (i.toNat * 5)).off + 4, none⟩ = some (.int .i64 (rd_T69 xs i).f4) := by
  obtain ⟨ad, c, e, _, hK, hc0⟩ := Kd.C_get h z69 i h0 h1
  have hc : ∀ j u, c[j]? = some u → w.cell? (ad.add (i.toNat * 5 + j)) = some u := hc0
  obtain rfl := k69_open hK
  exact ⟨ad, e, hc 0 _ rfl, by rw [← add_field _ _ 1 (by omega)]; exact hc 1 _ rfl, by rw [← add_field _ _ 2 (by omega)]; exact hc 2 _ rfl, by rw [← add_field _ _ 3 (by omega)]; exact hc 3 _ rfl, by rw [← add_field _ _ 4 (by omega)]; exact hc 4 _ rfl⟩
/-! #### struct type 25 -/
structure S25 where
  f0 : Int
  f1 : Int
  f2 : Int
  f3 : Int
  f4 : (List S42)
  f5 : (List S69)
def z25 : S25 := ⟨(0 : Int), (0 : Int), (0 : Int), (0 : Int), ([] : List S42), ([] : List S69)⟩
/-! #### struct type 46 -/
structure S46 where
  f0 : ByteArray
  f1 : Int
def z46 : S46 := ⟨(⟨#[]⟩ : ByteArray), (0 : Int)⟩
def k46 : Kd S46 := Kd.iso (Kd.pair Kd.string (Kd.int .i64)) (fun x : S46 => (x.f0, x.f1))
theorem k46_open {w : World} {x : S46} {cs : List Value} (h : k46.K w x cs) : cs = [.string x.f0, .int .i64 x.f1] := by
  obtain ⟨_, _, rfl, rfl, rfl⟩ := h
  exact rfl
theorem k46_mkM (w : World) (base : Nat) (ok : Nat → Prop) (x : S46)  : k46.M w base ok x [.string x.f0, .int .i64 x.f1] := ⟨[.string x.f0], [.int .i64 x.f1], rfl, rfl, rfl⟩
def rd_T46 (xs : List S46) (i : Int) : S46 := xs.getD i.toNat z46
theorem at_T46 {w : World} {A : Option Addr} {n : Nat} {xs : List S46} (h : Kd.C k46 w A n xs) (i : Int) (h0 : 0 ≤ i) (h1 : i < n) : ∃ ad , A = some ad ∧ w.cell? (ad.add (i.toNat * 2)) = some (.string (rd_T46 xs i).f0) ∧ w.cell? ⟨(ad.add (i.toNat * 2)).block, (ad.add (i.toNat * 2)).off + 1, none⟩ = some (.int .i64 (rd_T46 xs i).f1) := by
  obtain ⟨ad, c, e, _, hK, hc0⟩ := Kd.C_get h z46 i h0 h1
  have hc : ∀ j u, c[j]? = some u → w.cell? (ad.add (i.toNat * 2 + j)) = some u := hc0
  obtain rfl := k46_open hK
  exact ⟨ad, e, hc 0 _ rfl, by rw [← add_field _ _ 1 (by omega)]; exact hc 1 _ rfl⟩
end Go.Proofs.YtailpfcbdopfeaaGreatDoor.F
/- Short words for the printed proofs (squeeze.py): the steps of a region, and what lies where behind an event. -/
namespace Go.Proofs.YtailpfcbdopfeaaGreatDoor.F
open Go.RowKit Go.Proofs.YtailpfcbdopfeaaGreatDoorW.PrintWords Go.Proofs.YtailpfcbdopfeaaGreatDoorW.PrintLast Go.Proofs.YtailpfcbdopfeaaGreatDoorW.PrintMore
set_option linter.unusedVariables false
section
variable {P : Program} {ops : Array Oper} {Q : Exit → Act → World → Prop} {md : Region.Mode} {S : World → Prop} {ds : List Nat}
theorem sPu (i : Nat) (N : Option Tmp) {oi : Oper} {v : Value} {fuel : Nat} {l : Array Bool} {a : Act} {w : World} {T : Bool × List (List Nat × List Nat)} {a' : Act} (h : wpAnyLast P md ops Q S ds fuel (l.toList.set i true).toArray a' w)
    (HT : rtab md ops = T := by exact HT_.out)
    (hi : ops[i]? = some oi := by rfl) (hN : oi.dst = N := by rfl) (hc : anyT T l.toList (l.toList.set i true) i = true := by kernel_rfl) (hq : ∀ c a w, Q (.panic c) (a.put oi.dst v) w → Q (.panic c) a w := by exact fun _ _ _ h => h)
    (hw : Region.wanted oi (yielded ops a.tmps) = true := by rfl) (hy : ∀ w, (execOp a.eval oi).run P w = .ok (.value v) w := by (intro w'; go_simp; with_reducible rfl)) (ha : a.put N v = a' := by (simp only [Act.put, List.setIfInBounds_toArray, List.set_cons_zero, List.set_cons_succ, i64_w, i32_w]; rfl)) : wpAnyLast P md ops Q S ds (fuel + 1) l a w :=
  pure_ (l.toList.set i true).toArray hi hN (any_of HT hc) hq (Or.inl ⟨hw, hy⟩) ha h
theorem sPv (i : Nat) (N : Option Tmp) {oi : Oper} {fuel : Nat} {l : Array Bool} {a : Act} {w : World} {T : Bool × List (List Nat × List Nat)} {a' : Act} (h : wpAnyLast P md ops Q S ds fuel (l.toList.set i true).toArray a' w)
    (HT : rtab md ops = T := by exact HT_.out)
    (hi : ops[i]? = some oi := by rfl) (hN : oi.dst = N := by rfl) (hc : anyT T l.toList (l.toList.set i true) i = true := by kernel_rfl) (hq : ∀ c a w, Q (.panic c) (a.put oi.dst undef) w → Q (.panic c) a w := by exact fun _ _ _ h => h)
    (hw : Region.wanted oi (yielded ops a.tmps) = false := by rfl) (ha : a.put N undef = a' := by (simp only [Act.put, List.setIfInBounds_toArray, List.set_cons_zero, List.set_cons_succ, i64_w, i32_w]; rfl)) : wpAnyLast P md ops Q S ds (fuel + 1) l a w :=
  pure_ (l.toList.set i true).toArray hi hN (any_of HT hc) hq (Or.inr ⟨hw, rfl⟩) ha h
theorem sTk (i : Nat) (N : Option Tmp) {oi : Oper} {v : Value} {fuel : Nat} {l : Array Bool} {a : Act} {w : World} {T : Bool × List (List Nat × List Nat)} {B : List Nat} {a' : Act} (h : wpAnyLast P md ops Q S ds fuel (l.toList.set i true).toArray a' w)
    (HT : rtab md ops = T := by exact HT_.out) (HW : waitsOk T.2 B = true := by exact HW_.out)
    (hi : ops[i]? = some oi := by rfl) (hN : oi.dst = N := by rfl) (hc : takeW T B ds l.toList (l.toList.set i true) i = true := by kernel_rfl) (hq : ∀ c a w, Q (.panic c) (a.put oi.dst v) w → Q (.panic c) a w := by exact fun _ _ _ h => h)
    (hw : Region.wanted oi (yielded ops a.tmps) = true := by rfl) (hy : ∀ w, S w → (execOp a.eval oi).run P w = .ok (.value v) w := by (intro w' s0; go_simp; with_reducible rfl)) (hS : S w := by exact hHeld) (ha : a.put N v = a' := by (simp only [Act.put, List.setIfInBounds_toArray, List.set_cons_zero, List.set_cons_succ, i64_w, i32_w]; rfl)) : wpAnyLast P md ops Q S ds (fuel + 1) l a w :=
  take_ (l.toList.set i true).toArray hi hN (take_ofW HT HW hc) hq (Or.inl ⟨hw, hy⟩) hS ha h
theorem sOn (i : Nat) (N : Option Tmp) {oi : Oper} {fuel : Nat} {l : Array Bool} {a : Act} {w : World} {T : Bool × List (List Nat × List Nat)} (h : ∀ K : Act → World → Prop, Shut (∀ a' w', S w' → (S w' → wpAnyLast P md ops Q S ds fuel (l.toList.set i true).toArray a' w') → K a' w') → if Region.wanted oi (yielded ops a.tmps) = true then Oper.wp P oi a w K Q else K (a.put N undef) w)
    (HT : rtab md ops = T := by exact HT_.out)
    (hi : ops[i]? = some oi := by rfl) (hN : oi.dst = N := by rfl) (hc : (readyT T.2 l.toList == [i] && l.toList.set i true == l.toList.set i true) = true := by kernel_rfl) (hd : i ∉ ds := by decide) :
    wpAnyLast P md ops Q S ds (fuel + 1) l a w := one_ (l.toList.set i true).toArray hi hN (one_of HT hc) hd h
end
theorem bel {b : Nat} {w W : World} (h : Below b w W := by repeat (first | (with_reducible first | exact HB.out | apply below_alloc | apply pw_below_drewN | apply below_drew1 | refine below_set ?_ (Aside0.out (by assumption))) | exact HB.out)) : Below b w W := h
theorem bk {p q : Prop} (B : Aside0 p) (h : p → q := by (intro h_; (with_reducible repeat (first | refine blk_drewN ?_ _ | refine blk_drew ?_ | refine blk_alloc ?_ _)); exact h_)) : q := h B.out
theorem blB {W W' W2 : World} {g : Nat} {o : Obj} (B : Aside0 (W.heap[g]? = some o)) (hb : Below W'.heap.size W' W2) (h : W.heap[g]? = some o → W'.heap[g]? = some o := by (intro h_; (with_reducible repeat (first | refine blk_drewN ?_ _ | refine blk_drew ?_ | refine blk_alloc ?_ _)); exact h_)) : Aside0 (W2.heap[g]? = some o) := ⟨blk_below (h B.out) hb⟩
theorem neL {W W' : World} {g g2 : Nat} {o : Obj} (B : Aside0 (W.heap[g]? = some o)) (hg : g2 = W'.heap.size) (h : W.heap[g]? = some o → W'.heap[g]? = some o := by (intro h_; (with_reducible repeat (first | refine blk_drewN ?_ _ | refine blk_drew ?_ | refine blk_alloc ?_ _)); exact h_)) : Aside0 (g ≠ g2) := ⟨hg ▸ Nat.ne_of_lt (blk_lt (h B.out))⟩
theorem neG {W W' : World} {g g2 : Nat} {o : Obj} (B : Aside0 (W.heap[g]? = some o)) (hg : g2 = W'.heap.size) (h : W.heap[g]? = some o → W'.heap[g]? = some o := by (intro h_; (with_reducible repeat (first | refine blk_drewN ?_ _ | refine blk_drew ?_ | refine blk_alloc ?_ _)); exact h_)) : Aside0 (g2 ≠ g) := ⟨hg ▸ Nat.ne_of_gt (blk_lt (h B.out))⟩
theorem geB {W' : World} (w : World) {g2 : Nat} (hg : g2 = W'.heap.size) (h : Below w.heap.size w W' := by exact bel) : Aside0 (w.heap.size ≤ g2) := ⟨hg ▸ below_size h⟩
theorem bq4 {W : World} {g : Nat} {t : TypeId} {a b c d : Value} (h : Aside0 (W.heap[g]? = some (.cells #[a, b, c, d] t (0, 0)))) : W.cell? ⟨g, 0, none⟩ = some a ∧ W.cell? ⟨g, 1, none⟩ = some b ∧ W.cell? ⟨g, 2, none⟩ = some c ∧ W.cell? ⟨g, 3, none⟩ = some d ∧ W.frozen? ⟨g, 0, none⟩ = false ∧ W.frozen? ⟨g, 1, none⟩ = false ∧ W.frozen? ⟨g, 2, none⟩ = false ∧ W.frozen? ⟨g, 3, none⟩ = false := ⟨blk_cell h.out 0, blk_cell h.out 1, blk_cell h.out 2, blk_cell h.out 3, blk_frozen h.out 0, blk_frozen h.out 1, blk_frozen h.out 2, blk_frozen h.out 3⟩
/-- An old cell, behind what was made since. -/
theorem oc {w W : World} {p : Addr} {v : Value} (h : w.cell? p = some v) (hb : Below w.heap.size w W := by first | exact HB.out | exact bel) : W.cell? p = some v := (hb.cell (World.block_lt_of_cell? w _ h)).trans h
theorem dtr {p : Prop} [Decidable p] (h : decide p = true := by first | (with_reducible assumption) | assumption) : p := of_decide_eq_true h
theorem eN {p : Prop} (h : p := by first | rfl | (simp [errW_none, errW_some] <;> rfl) | (simp [*, errW_none, errW_some] <;> rfl)) : p := h
theorem eS {p : Prop} (h : p := by first | rfl | (simp; done) | (simp [*]; done)) : p := h
theorem kle {a b : Nat} (h : a ≤ b := by first | omega | exact Nat.le_refl _) : a ≤ b := h
theorem dr0 {w W : World} (h : Drawn0 w W := by repeat (first | exact Drawn0.refl _ | apply Drawn0.step)) : Drawn0 w W := h
theorem hb0 {W : World} {v : Value} {g : Nat} (h : ∀ k, v.ownBlock = some k → g ≤ k) : ∀ k, v.ownBlock = some k → g ≤ k := h
theorem tw {p q : Prop} (x : p) (h : p → q := by (intro h_; (with_reducible repeat (first | apply Kd.V_alloc | apply Kd.V_drewN | apply Kd.V_drew | apply Kd.N_alloc | apply Kd.N_drewN | apply Kd.N_drew | apply Kd.R_alloc | apply Kd.R_drewN | apply Kd.R_drew)); exact h_)) : q := h x
theorem cS {α : Type} {d : Kd α} {A : Option Addr} {n : Nat} {xs : List α} {W W' : World} (x : d.C W A n xs) (h : d.C W A n xs → d.C W' A n xs := by (intro h_; repeat (first | exact h_ | (with_reducible refine Kd.C_alloc ?_ _) | (with_reducible refine Kd.C_drewN ?_ _) | (with_reducible refine Kd.C_drew ?_)))) : d.C W' A n xs := h x
section
variable {P : Program} {ops : Array Oper} {Q : Exit → Act → World → Prop}
theorem gL {rest : List Oper} {oi : Oper} {a : Act} {w : World} (N : Option Tmp) {f : FuncId} {fn : Func} {as_ : Array Operand} {ts : Array TypeId} (hf : P.funcs[f]? = some fn) (args : Array Value) (h : Calls P f args w fun e w' => ∃ v, e = .returned v ∧ wpList P ops Q rest (a.put N v) w')
    (hd : oi.dst = N := by rfl) (hg : oi.guard = none := by rfl)
    (hname : (fn.name == "runtime.NumGoroutine") = false := by kernel_rfl) (hb : fn.body.isSome = true := by rfl) (hop : oi.op = .call { callee := .value (.func f), args := as_, argTypes := ts } := by rfl)
    (hargs : as_.map a.eval = args := by ((try simp only [List.map_toArray, List.map_cons, List.map_nil]); first | done | rfl | (simp only [List.length_drop, List.length_take]; rfl))) : wpList P ops Q (oi :: rest) a w := goesL_ N hd hg hf hname hb args hop hargs h
end
theorem rD {α : Type} {d : Kd α} {e base : Nat} {ok : Nat → Prop} {W W' W2 : World} {v : Value} {xs : List α} (B : Aside0 (d.R e W base ok v xs)) (hb : Below W'.heap.size W' W2)
    (h : d.R e W base ok v xs → d.R e W' base ok v xs := by (intro h_; (with_reducible repeat (first | apply Kd.R_alloc | apply Kd.R_drewN | apply Kd.R_drew)); exact h_)) : Aside0 (d.R e W2 base ok v xs) := ⟨Kd.R_below (h B.out) hb⟩
theorem rE {α : Type} {d : Kd α} {e base : Nat} {ok : Nat → Prop} {W W' W2 : World} {v : Value} {xs : List α} (B : Aside0 (d.R e W base ok v xs)) {u : Value} (hu : ∀ k, u.ownBlock = some k → W'.heap.size ≤ k) (hb : Below W'.heap.size W' W2)
    (h : d.R e W base ok v xs → d.R e W' base ok v xs := by (intro h_; (with_reducible repeat (first | apply Kd.R_alloc | apply Kd.R_drewN | apply Kd.R_drew)); exact h_)) : Aside0 (d.R e W2 base (fun k => ok k ∧ some k ≠ u.ownBlock) v xs) := ⟨Kd.R_elder' (h B.out) hu hb⟩
end Go.Proofs.YtailpfcbdopfeaaGreatDoor.F
/- Short words for the proofs by hand: a region's steps without a table. -/
namespace Go.Proofs.YtailpfcbdopfeaaGreatDoor.F
open Go.RowKit Go.Proofs.YtailpfcbdopfeaaGreatDoorW.PrintWords Go.Proofs.YtailpfcbdopfeaaGreatDoorW.PrintLast Go.Proofs.YtailpfcbdopfeaaGreatDoorW.PrintMore
set_option linter.unusedVariables false
section
variable {P : Program} {ops : Array Oper} {Q : Exit → Act → World → Prop} {md : Region.Mode} {S : World → Prop} {ds : List Nat}
theorem hPu (i : Nat) (N : Option Tmp) {oi : Oper} {v : Value} {fuel : Nat} {l : Array Bool} {a : Act} {w : World} {a' : Act} (h : wpAnyLast P md ops Q S ds fuel (l.setIfInBounds i true) a' w)
    (hi : ops[i]? = some oi := by rfl) (hN : oi.dst = N := by rfl) (hc : (Region.noSelect ops && Region.free md ops l i && (Region.ready md ops l).contains i) = true := by kernel_rfl) (hq : ∀ c a w, Q (.panic c) (a.put oi.dst v) w → Q (.panic c) a w := by exact fun _ _ _ h => h)
    (hw : Region.wanted oi (yielded ops a.tmps) = true := by rfl) (hy : ∀ w, (execOp a.eval oi).run P w = .ok (.value v) w := by (intro w'; go_simp; with_reducible rfl)) (ha : a.put N v = a' := by (simp only [Act.put, List.setIfInBounds_toArray, List.set_cons_zero, List.set_cons_succ, i64_w, i32_w]; rfl)) : wpAnyLast P md ops Q S ds (fuel + 1) l a w :=
  pure_ (l.setIfInBounds i true) hi hN (by unfold anyB; rw [hc]; simp) hq (Or.inl ⟨hw, hy⟩) ha h
theorem hTk (i : Nat) (N : Option Tmp) {oi : Oper} {v : Value} {fuel : Nat} {l : Array Bool} {a : Act} {w : World} {a' : Act} (h : wpAnyLast P md ops Q S ds fuel (l.setIfInBounds i true) a' w)
    (hi : ops[i]? = some oi := by rfl) (hN : oi.dst = N := by rfl) (hc : (Region.noSelect ops && Region.free md ops l i && (Region.ready md ops l).contains i && Region.closedB md ops l && Region.lastB md ops l ds i) = true := by kernel_rfl) (hq : ∀ c a w, Q (.panic c) (a.put oi.dst v) w → Q (.panic c) a w := by exact fun _ _ _ h => h)
    (hw : Region.wanted oi (yielded ops a.tmps) = true := by rfl) (hy : ∀ w, S w → (execOp a.eval oi).run P w = .ok (.value v) w := by (intro w' s0; go_simp; with_reducible rfl)) (hS : S w := by exact hHeld) (ha : a.put N v = a' := by (simp only [Act.put, List.setIfInBounds_toArray, List.set_cons_zero, List.set_cons_succ, i64_w, i32_w]; rfl)) : wpAnyLast P md ops Q S ds (fuel + 1) l a w :=
  take_ (l.setIfInBounds i true) hi hN (by unfold takeB; rw [hc]; simp) hq (Or.inl ⟨hw, hy⟩) hS ha h
theorem hOn (i : Nat) (N : Option Tmp) {oi : Oper} {fuel : Nat} {l : Array Bool} {a : Act} {w : World} (h : ∀ K : Act → World → Prop, Shut (∀ a' w', S w' → (S w' → wpAnyLast P md ops Q S ds fuel (l.setIfInBounds i true) a' w') → K a' w') → if Region.wanted oi (yielded ops a.tmps) = true then Oper.wp P oi a w K Q else K (a.put N undef) w)
    (hi : ops[i]? = some oi := by rfl) (hN : oi.dst = N := by rfl) (hc : (Region.ready md ops l == [i]) = true := by kernel_rfl) (hd : i ∉ ds := by decide) :
    wpAnyLast P md ops Q S ds (fuel + 1) l a w := one_ (l.setIfInBounds i true) hi hN (by unfold readyB; rw [hc]; simp) hd h
theorem hLa (i : Nat) (N : Option Tmp) {oi : Oper} {fuel : Nat} {l : Array Bool} {a : Act} {w : World} (h : ∀ K : Act → World → Prop, Shut (∀ a' w', wpAnyLast P md ops Q S ds fuel (l.setIfInBounds i true) a' w' → K a' w') → if Region.wanted oi (yielded ops a.tmps) = true then Oper.wp P oi a w K Q else K (a.put N undef) w)
    (hi : ops[i]? = some oi := by rfl) (hN : oi.dst = N := by rfl) (hc : (Region.ready md ops l == [i]) = true := by kernel_rfl) (hd : i ∈ ds := by decide) :
    wpAnyLast P md ops Q S ds (fuel + 1) l a w := last_ (l.setIfInBounds i true) hi hN (by unfold readyB; rw [hc]; simp) hd h
theorem hSt {id : Nat} (n : Nat) {a : Act} {w : World} (h : S w.drew → wpAnyLast P .any ops Q S ds n (Array.replicate n false) a w.drew) (hS : S w.drew) (hm : P.follows .mixedOrders = true := by kernel_rfl) (hn : ops.size = n := by rfl) : (Code.region id ops true).wp P Q a w :=
  start_ (Array.replicate n false) hm hn rfl hS h
theorem hNo (N : Option Tmp) {fuel : Nat} {l : Array Bool} {a a' : Act} {v : Value} {w : World} (h : wpAnyLast P md ops Q S ds fuel l a' w) (ha : a.put N v = a' := by (simp only [Act.put, List.setIfInBounds_toArray, List.set_cons_zero, List.set_cons_succ, i64_w, i32_w]; rfl)) : wpAnyLast P md ops Q S ds fuel l (a.put N v) w := norm_ ha h
end
end Go.Proofs.YtailpfcbdopfeaaGreatDoor.F
/- slices.IndexFunc and slices.ContainsFunc at []int, []string, []api.Symbol, []api.Literal, for a function value that answers p and leaves what was. -/
namespace Go.Proofs.YtailpfcbdopfeaaGreatDoor.F
open Go.RowKit Go.Proofs.YtailpfcbdopfeaaGreatDoorW.PrintWords Go.Proofs.YtailpfcbdopfeaaGreatDoorW.PrintLast Go.Proofs.YtailpfcbdopfeaaGreatDoorW.PrintMore
set_option linter.unusedVariables false
set_option linter.unusedSimpArgs false
/-- Where the first element is of which p holds; -1. -/
def fidx {α : Type} (p : α → Bool) (l : List α) : Int := match l.findIdx? p with | some i => (i : Int) | none => -1
theorem fidx_at {α : Type} {p : α → Bool} {l : List α} {k : Nat} {x : α} (hk : l[k]? = some x) (hx : p x = true) (h : ∀ j y, j < k → l[j]? = some y → p y = false) : fidx p l = k := by
  have hlt := (List.getElem?_eq_some_iff.1 hk).1
  have he := (List.getElem?_eq_some_iff.1 hk).2
  unfold fidx
  have : l.findIdx? p = some k := by
    rw [List.findIdx?_eq_some_iff_getElem]
    refine ⟨hlt, by rw [he]; exact hx, fun j hj => ?_⟩
    have := h j _ hj (List.getElem?_eq_getElem (by omega))
    simp [this]
  rw [this]
theorem fidx_none {α : Type} {p : α → Bool} {l : List α} (h : ∀ j y, j < l.length → l[j]? = some y → p y = false) : fidx p l = -1 := by
  unfold fidx
  have : l.findIdx? p = none := by
    rw [List.findIdx?_eq_none_iff]
    intro x hx
    obtain ⟨j, hj, he⟩ := List.getElem_of_mem hx
    have := h j x hj (by rw [List.getElem?_eq_getElem hj, he])
    simp [this]
  rw [this]
theorem fidx_any {α : Type} (p : α → Bool) (l : List α) : decide (0 ≤ fidx p l) = l.any p := by
  unfold fidx
  cases h : l.findIdx? p with
  | none =>
    have := List.findIdx?_eq_none_iff.1 h
    have h2 : l.any p = false := by rw [List.any_eq_false]; intro x hx; simp [this x hx]
    simp [h2]
  | some i =>
    obtain ⟨hi, hp, _⟩ := List.findIdx?_eq_some_iff_getElem.1 h
    have h2 : l.any p = true := List.any_eq_true.2 ⟨_, List.getElem_mem hi, hp⟩
    simp [h2]
/-- A function value that answers 'p x' at an int, in every world in which all that lay lies. -/
def PredI (g : Nat) (lb : Array Value) (p : Int → Bool) (w : World) : Prop :=
  ∀ (W : World) (x : Int), Below w.heap.size w W → Calls Tryz.prog g (#[.int .i64 x] ++ lb) W fun e w' => e = .returned (.bool (p x)) ∧ Below W.heap.size W w'
theorem rd_some {l : List Int} {k : Nat} (h : k < l.length) : l[k]? = some (rd l (k : Int)) := by
  unfold rd
  rw [List.getElem?_eq_getElem h, List.getD_eq_getElem?_getD, Int.toNat_natCast, List.getElem?_eq_getElem h]
  rfl
set_option maxHeartbeats 1000000 in
theorem index_int (g : Nat) (lb : Array Value) (p : Int → Bool) (A : Option Addr) (c : Nat) (l : List Int) (w : World)
    (eg : ∀ args w, (callFunc g args).run Tryz.prog w = .ok (.enter g args) w) (hr : Kd.C (Kd.int .i64) w A l.length l) (hc : l.length ≤ c) (hp : PredI g lb p w) :
    Calls Tryz.prog 95 #[.slice A l.length c, .func (.func g) #[] lb] w fun e w' => e = .returned (.int .i64 (fidx p l)) ∧ Below w.heap.size w w' := by
  have HR := Lib.hid hr
  have HP := Lib.hid hp
  have hm := Kd.C_max hr
  clear hr hp
  go_enter Tryz.func95, Tryz.ntmps95
  go_wp2
  go_loopw [8] (fun v8 wr => ∃ k : Nat, v8 = .int .i64 k ∧ k ≤ l.length ∧ Aside0 (∀ j y, j < k → l[j]? = some y → p y = false) ∧ Aside0 (Below w.heap.size w wr)) (fun v8 _ => l.length - (intOf v8).toNat)
  case atStart => exact ⟨0, rfl, Nat.zero_le _, ⟨fun j y hj => absurd hj (Nat.not_lt_zero _)⟩, ⟨Below.refl _ _⟩⟩
  case round =>
    obtain ⟨k, rfl, hk, HN, HB⟩ := hrel
    by_cases hlt : k < l.length
    · obtain ⟨ad, hA, hcell⟩ := Kd.at_int (Kd.C_below HR.out HB.out) (k : Int) (by omega) (by omega)
      subst hA
      simp only [Int.toNat_natCast] at hcell
      have hx := rd_some hlt
      have HX := Lib.hid hx
      clear hx
      obtain ⟨b, hb⟩ : ∃ b, p (rd l (k : Int)) = b := ⟨_, rfl⟩
      have hcall := HP.out wr (rd l (k : Int)) HB.out
      rw [hb] at hcall
      have HC := Lib.hid hcall
      have Hb := Lib.hid hb
      clear hcall hb
      cases b with
      | true =>
        go_wp2_with fail
        refine HC.out.mono ?_
        rintro e w' ⟨rfl, hbw⟩
        go_wp2
        go_ret
        exact ⟨by rw [fidx_at HX.out Hb.out HN.out]; rfl, below_step HB.out hbw⟩
      | false =>
        go_wp2_with fail
        refine HC.out.mono ?_
        rintro e w' ⟨rfl, hbw⟩
        go_wp2
        go_roundw
        case rel => exact ⟨k + 1, by go_num, by omega, ⟨fun j y hj hy => by rcases Nat.lt_or_ge j k with h | h; exact HN.out j y h hy; obtain rfl : j = k := (by omega); rw [HX.out] at hy; injection hy with hy; rw [← hy]; exact Hb.out⟩, ⟨below_step HB.out hbw⟩⟩
        case measure => simp [intOf]; omega
    · go_wp2
      go_ret
      exact ⟨by rw [fidx_none fun j y hj => HN.out j y (by omega)]; rfl, HB.out⟩
set_option maxHeartbeats 1000000 in
theorem contains_int (g : Nat) (lb : Array Value) (p : Int → Bool) (A : Option Addr) (c : Nat) (l : List Int) (w : World)
    (eg : ∀ args w, (callFunc g args).run Tryz.prog w = .ok (.enter g args) w) (hr : Kd.C (Kd.int .i64) w A l.length l) (hc : l.length ≤ c) (hp : PredI g lb p w) :
    Calls Tryz.prog 69 #[.slice A l.length c, .func (.func g) #[] lb] w fun e w' => e = .returned (.bool (l.any p)) ∧ Below w.heap.size w w' := by
  have HI := Lib.hid (index_int g lb p A c l w eg hr hc hp)
  clear hr hp eg
  have HA := Lib.hid (fidx_any p l)
  generalize fidx p l = z at HI HA
  go_enter Tryz.func69, Tryz.ntmps69
  go_wp2_with (go_at_call 95; refine HI.out.mono ?_; rintro e w' ⟨rfl, hbw⟩)
  go_ret
  exact ⟨by rw [← HA.out]; rfl, hbw⟩
/-- A function value that answers 'p x' at an element, in every world in which all that lay lies. -/
def Predsym (g : Nat) (lb : Array Value) (p : S46 → Bool) (w : World) : Prop :=
  ∀ (W : World) (x : S46) , Below w.heap.size w W → Calls Tryz.prog g (#[.agg #[.string x.f0, .int .i64 x.f1]] ++ lb) W fun e w' => e = .returned (.bool (p x)) ∧ Below W.heap.size W w'
theorem rds_sym {l : List S46} {k : Nat} (h : k < l.length) : l[k]? = some (rd_T46 l (k : Int)) := by
  unfold rd_T46
  rw [List.getElem?_eq_getElem h, List.getD_eq_getElem?_getD, Int.toNat_natCast, List.getElem?_eq_getElem h]
  rfl
set_option maxHeartbeats 1000000 in
theorem index_sym (g : Nat) (lb : Array Value) (p : S46 → Bool) (A : Option Addr) (c : Nat) (l : List S46) (w : World)
    (eg : ∀ args w, (callFunc g args).run Tryz.prog w = .ok (.enter g args) w) (hr : Kd.C k46 w A l.length l) (hc : l.length ≤ c) (hp : Predsym g lb p w) :
    Calls Tryz.prog 47 #[.slice A l.length c, .func (.func g) #[] lb] w fun e w' => e = .returned (.int .i64 (fidx p l)) ∧ Below w.heap.size w w' := by
  have HR := Lib.hid hr
  have HP := Lib.hid hp
  have hm := Kd.C_max hr
  clear hr hp
  go_enter Tryz.func47, Tryz.ntmps47
  go_wp2
  go_loopw [8] (fun v8 wr => ∃ k : Nat, v8 = .int .i64 k ∧ k ≤ l.length ∧ Aside0 (∀ j y, j < k → l[j]? = some y → p y = false) ∧ Aside0 (Below w.heap.size w wr)) (fun v8 _ => l.length - (intOf v8).toNat)
  case atStart => exact ⟨0, rfl, Nat.zero_le _, ⟨fun j y hj => absurd hj (Nat.not_lt_zero _)⟩, ⟨Below.refl _ _⟩⟩
  case round =>
    obtain ⟨k, rfl, hk, HN, HB⟩ := hrel
    by_cases hlt : k < l.length
    · obtain ⟨ad, hA, hcell, hcell1⟩ := at_T46 (Kd.C_below HR.out HB.out) (k : Int) (by omega) (by omega)
      subst hA
      simp only [Int.toNat_natCast] at hcell hcell1
      have hx := rds_sym hlt
      have HX := Lib.hid hx
      clear hx
      obtain ⟨b, hb⟩ : ∃ b, p (rd_T46 l (k : Int)) = b := ⟨_, rfl⟩
      have hcall := HP.out wr (rd_T46 l (k : Int))  HB.out
      rw [hb] at hcall
      have HC := Lib.hid hcall
      have Hb := Lib.hid hb
      clear hcall hb
      cases b with
      | true =>
        go_wp2_with fail
        refine HC.out.mono ?_
        rintro e w' ⟨rfl, hbw⟩
        go_wp2
        go_ret
        exact ⟨by rw [fidx_at HX.out Hb.out HN.out]; rfl, below_step HB.out hbw⟩
      | false =>
        go_wp2_with fail
        refine HC.out.mono ?_
        rintro e w' ⟨rfl, hbw⟩
        go_wp2
        go_roundw
        case rel => exact ⟨k + 1, by go_num, by omega, ⟨fun j y hj hy => by rcases Nat.lt_or_ge j k with h | h; exact HN.out j y h hy; obtain rfl : j = k := (by omega); rw [HX.out] at hy; injection hy with hy; rw [← hy]; exact Hb.out⟩, ⟨below_step HB.out hbw⟩⟩
        case measure => simp [intOf]; omega
    · go_wp2
      go_ret
      exact ⟨by rw [fidx_none fun j y hj => HN.out j y (by omega)]; rfl, HB.out⟩
set_option maxHeartbeats 1000000 in
theorem contains_sym (g : Nat) (lb : Array Value) (p : S46 → Bool) (A : Option Addr) (c : Nat) (l : List S46) (w : World)
    (eg : ∀ args w, (callFunc g args).run Tryz.prog w = .ok (.enter g args) w) (hr : Kd.C k46 w A l.length l) (hc : l.length ≤ c) (hp : Predsym g lb p w) :
    Calls Tryz.prog 18 #[.slice A l.length c, .func (.func g) #[] lb] w fun e w' => e = .returned (.bool (l.any p)) ∧ Below w.heap.size w w' := by
  have HI := Lib.hid (index_sym g lb p A c l w eg hr hc hp)
  clear hr hp eg
  have HA := Lib.hid (fidx_any p l)
  generalize fidx p l = z at HI HA
  go_enter Tryz.func18, Tryz.ntmps18
  go_wp2_with (go_at_call 47; refine HI.out.mono ?_; rintro e w' ⟨rfl, hbw⟩)
  go_ret
  exact ⟨by rw [← HA.out]; rfl, hbw⟩
/-- A function value that answers 'p x' at an element, in every world in which all that lay lies. -/
def Predlit (g : Nat) (lb : Array Value) (p : S42 → Bool) (w : World) : Prop :=
  ∀ (W : World) (x : S42) (A2 : Option Addr) (c2 : Nat), Below w.heap.size w W → x.f3.length ≤ c2 → Kd.C (Kd.int .i64) W A2 x.f3.length x.f3 → Calls Tryz.prog g (#[.agg #[.int .i64 x.f0, .bool x.f1, .string x.f2, .slice A2 x.f3.length c2]] ++ lb) W fun e w' => e = .returned (.bool (p x)) ∧ Below W.heap.size W w'
theorem rds_lit {l : List S42} {k : Nat} (h : k < l.length) : l[k]? = some (rd_T42 l (k : Int)) := by
  unfold rd_T42
  rw [List.getElem?_eq_getElem h, List.getD_eq_getElem?_getD, Int.toNat_natCast, List.getElem?_eq_getElem h]
  rfl
set_option maxHeartbeats 1000000 in
theorem index_lit (g : Nat) (lb : Array Value) (p : S42 → Bool) (A : Option Addr) (c : Nat) (l : List S42) (w : World)
    (eg : ∀ args w, (callFunc g args).run Tryz.prog w = .ok (.enter g args) w) (hr : Kd.C k42 w A l.length l) (hc : l.length ≤ c) (hp : Predlit g lb p w) :
    Calls Tryz.prog 68 #[.slice A l.length c, .func (.func g) #[] lb] w fun e w' => e = .returned (.int .i64 (fidx p l)) ∧ Below w.heap.size w w' := by
  have HR := Lib.hid hr
  have HP := Lib.hid hp
  have hm := Kd.C_max hr
  clear hr hp
  go_enter Tryz.func68, Tryz.ntmps68
  go_wp2
  go_loopw [8] (fun v8 wr => ∃ k : Nat, v8 = .int .i64 k ∧ k ≤ l.length ∧ Aside0 (∀ j y, j < k → l[j]? = some y → p y = false) ∧ Aside0 (Below w.heap.size w wr)) (fun v8 _ => l.length - (intOf v8).toNat)
  case atStart => exact ⟨0, rfl, Nat.zero_le _, ⟨fun j y hj => absurd hj (Nat.not_lt_zero _)⟩, ⟨Below.refl _ _⟩⟩
  case round =>
    obtain ⟨k, rfl, hk, HN, HB⟩ := hrel
    by_cases hlt : k < l.length
    · obtain ⟨ad, A2, c2, hA, hcell, hcell1, hcell2, hcell3, hl2, hr2⟩ := at_T42 (Kd.C_below HR.out HB.out) (k : Int) (by omega) (by omega)
      subst hA
      simp only [Int.toNat_natCast] at hcell hcell1 hcell2 hcell3
      have hx := rds_lit hlt
      have HX := Lib.hid hx
      clear hx
      obtain ⟨b, hb⟩ : ∃ b, p (rd_T42 l (k : Int)) = b := ⟨_, rfl⟩
      have hcall := HP.out wr (rd_T42 l (k : Int)) A2 c2 HB.out hl2 hr2
      rw [hb] at hcall
      have HC := Lib.hid hcall
      have Hb := Lib.hid hb
      clear hcall hb
      cases b with
      | true =>
        go_wp2_with fail
        refine HC.out.mono ?_
        rintro e w' ⟨rfl, hbw⟩
        go_wp2
        go_ret
        exact ⟨by rw [fidx_at HX.out Hb.out HN.out]; rfl, below_step HB.out hbw⟩
      | false =>
        go_wp2_with fail
        refine HC.out.mono ?_
        rintro e w' ⟨rfl, hbw⟩
        go_wp2
        go_roundw
        case rel => exact ⟨k + 1, by go_num, by omega, ⟨fun j y hj hy => by rcases Nat.lt_or_ge j k with h | h; exact HN.out j y h hy; obtain rfl : j = k := (by omega); rw [HX.out] at hy; injection hy with hy; rw [← hy]; exact Hb.out⟩, ⟨below_step HB.out hbw⟩⟩
        case measure => simp [intOf]; omega
    · go_wp2
      go_ret
      exact ⟨by rw [fidx_none fun j y hj => HN.out j y (by omega)]; rfl, HB.out⟩
set_option maxHeartbeats 1000000 in
theorem contains_lit (g : Nat) (lb : Array Value) (p : S42 → Bool) (A : Option Addr) (c : Nat) (l : List S42) (w : World)
    (eg : ∀ args w, (callFunc g args).run Tryz.prog w = .ok (.enter g args) w) (hr : Kd.C k42 w A l.length l) (hc : l.length ≤ c) (hp : Predlit g lb p w) :
    Calls Tryz.prog 38 #[.slice A l.length c, .func (.func g) #[] lb] w fun e w' => e = .returned (.bool (l.any p)) ∧ Below w.heap.size w w' := by
  have HI := Lib.hid (index_lit g lb p A c l w eg hr hc hp)
  clear hr hp eg
  have HA := Lib.hid (fidx_any p l)
  generalize fidx p l = z at HI HA
  go_enter Tryz.func38, Tryz.ntmps38
  go_wp2_with (go_at_call 68; refine HI.out.mono ?_; rintro e w' ⟨rfl, hbw⟩)
  go_ret
  exact ⟨by rw [← HA.out]; rfl, hbw⟩
theorem rds_str {l : List ByteArray} {k : Nat} (h : k < l.length) : l[k]? = some (rdOf ByteArray.empty l (k : Int)) := by
  unfold rdOf
  rw [List.getElem?_eq_getElem h, List.getD_eq_getElem?_getD, Int.toNat_natCast, List.getElem?_eq_getElem h]
  rfl
end Go.Proofs.YtailpfcbdopfeaaGreatDoor.F
/- The function literals that are handed to slices.ContainsFunc: literal.Valid's. -/
namespace Go.Proofs.YtailpfcbdopfeaaGreatDoor.F
open Go.RowKit Go.Proofs.YtailpfcbdopfeaaGreatDoorW.PrintWords Go.Proofs.YtailpfcbdopfeaaGreatDoorW.PrintLast Go.Proofs.YtailpfcbdopfeaaGreatDoorW.PrintMore
set_option linter.unusedVariables false
set_option linter.unusedSimpArgs false
theorem cell_of_blk {w : World} {g : Nat} {cs : Array Value} {t : TypeId} {j : Nat} {v : Value} (h : w.heap[g]? = some (.cells cs t (0, 0))) (hj : cs[j]? = some v) : w.cell? ⟨g, j, none⟩ = some v := by simp [World.cell?, h, hj]
theorem blk_lt' {w : World} {g : Nat} {o : Obj} (h : w.heap[g]? = some o) : g < w.heap.size := (Array.getElem?_eq_some_iff.1 h).1
/-- Is x no element of n? -/
def outB (n x : Int) : Bool := decide (x < 0) || decide (n ≤ x)
theorem outB_eq (n x : Int) (h : ¬ x < 0) : outB n x = decide (n ≤ x) := by simp [outB, h]
theorem outB_lt (n x : Int) (h : x < 0) : outB n x = true := by simp [outB, h]
def literal_Valid_1_any.f (l : List Int) (n : Int) : Option Bool := some (l.any (outB n))
theorem out_pred (n : Int) (B : Nat) (w : World) (hB : B < w.heap.size) (hcell : w.cell? ⟨B, 0, none⟩ = some (.int .i64 n)) :
    PredI 70 #[.pointer (some ⟨B, 0, none⟩)] (outB n) w := fun W x hb => by
  have hc : W.cell? ⟨B, 0, none⟩ = some (.int .i64 n) := (hb.cell (p := ⟨B, 0, none⟩) hB).trans hcell
  have h1 := Lib.hid (outB_eq n x)
  have h2 := Lib.hid (outB_lt n x)
  clear hcell hb
  generalize outB n x = r at h1 h2
  show Calls Tryz.prog 70 #[.int .i64 x, .pointer (some ⟨B, 0, none⟩)] W _
  by_cases h : x < 0
  · have hr := h2.out h
    subst hr
    go_enter Tryz.func70, Tryz.ntmps70
    go_wp2
    go_ret
    exact ⟨rfl, Below.refl _ _⟩
  · have hr := h1.out h
    subst hr
    have hb0 : decide (x < 0) = false := decide_eq_false h
    clear h
    go_enter Tryz.func70, Tryz.ntmps70
    go_wp2
    go_ret
    exact ⟨rfl, Below.refl _ _⟩
theorem literal_Valid_1_any.calls (A : Option Addr) (c : Nat) (l : List Int) (B : Nat) (n : Int) (r : Bool) (w : World) (hr : Kd.C (Kd.int .i64) w A l.length l) (hc : l.length ≤ c)
    (hB : w.heap[B]? = some (.cells #[.int .i64 n] 3 (0, 0))) (h : literal_Valid_1_any.f l n = some r) :
    Calls Tryz.prog 69 #[.slice A l.length c, .func (.func 70) #[] #[.pointer (some ⟨B, 0, none⟩)]] w fun e w' => e = .returned (.bool r) ∧ Below w.heap.size w w' := by
  obtain rfl := Option.some.inj h
  exact contains_int _ _ _ A c l w (enters_of Tryz.func70 (by kernel_rfl) rfl) hr hc (out_pred n B w (blk_lt' hB) (cell_of_blk hB rfl))
end Go.Proofs.YtailpfcbdopfeaaGreatDoor.F
/- Small words for the walks by hand. -/
namespace Go.Proofs.YtailpfcbdopfeaaGreatDoor.F
open Go.RowKit Go.Proofs.YtailpfcbdopfeaaGreatDoorW.PrintWords Go.Proofs.YtailpfcbdopfeaaGreatDoorW.PrintLast Go.Proofs.YtailpfcbdopfeaaGreatDoorW.PrintMore
set_option linter.unusedVariables false
set_option linter.unusedSimpArgs false
theorem infoI : (Tryz.prog.info? 3).map (fun i => (i.zero, i.size, i.bytes)) = some (some (.int .i64 0), 1, 8) := by kernel_rfl
theorem infoS : (Tryz.prog.info? 9).map (fun i => (i.zero, i.size, i.bytes)) = some (some (.string ⟨#[]⟩), 1, 16) := by kernel_rfl
theorem infoL : (Tryz.prog.info? 42).map (fun i => (i.zero, i.size, i.bytes)) = some (some (.agg #[.int .i64 0, .bool false, .string ⟨#[]⟩, .slice none 0 0]), 4, 56) := by kernel_rfl
theorem infoP : (Tryz.prog.info? 69).map (fun i => (i.zero, i.size, i.bytes)) = some (some (.agg #[.int .i64 0, .int .i64 0, .int .i64 0, .int .i64 0, .int .i64 0]), 5, 40) := by kernel_rfl
theorem infoY : (Tryz.prog.info? 46).map (fun i => (i.zero, i.size, i.bytes)) = some (some (.agg #[.string ⟨#[]⟩, .int .i64 0]), 2, 24) := by kernel_rfl
section
variable {w W : World}
theorem box1 (w : World) (a : Obj) : (w.alloc a).heap[w.heap.size]? = some a ∧ Below w.heap.size w (w.alloc a) := ⟨heap_alloc_new w a, below_alloc (Below.refl _ _) a⟩
theorem box2 (w : World) (a b : Obj) : ((w.alloc a).alloc b).heap[w.heap.size]? = some a ∧ ((w.alloc a).alloc b).heap[w.heap.size + 1]? = some b ∧ Below w.heap.size w ((w.alloc a).alloc b) :=
  ⟨(heap_alloc_old _ _ (by simp)).trans (heap_alloc_new _ _), by have := heap_alloc_new (w.alloc a) b; simpa using this, below_alloc (below_alloc (Below.refl _ _) a) b⟩
/-- A block that is kept by a store elsewhere. -/
theorem blkS {g : Nat} {cs : Array Value} {t : TypeId} (h : Aside0 (W.heap[g]? = some (.cells cs t (0, 0)))) {g' : Nat} (hne : g ≠ g') (j : Nat) (u : Value) : Aside0 ((W.setCell ⟨g', j, none⟩ u).heap[g]? = some (.cells cs t (0, 0))) := ⟨blk_far h.out hne u⟩
theorem blkP {g : Nat} {cs : Array Value} {t : TypeId} (h : Aside0 (W.heap[g]? = some (.cells cs t (0, 0)))) (j : Nat) (u : Value) : Aside0 ((W.setCell ⟨g, j, none⟩ u).heap[g]? = some (.cells (cs.setIfInBounds j u) t (0, 0))) := ⟨blk_set h.out j u⟩
theorem belS {g : Nat} (h : Aside0 (Below w.heap.size w W)) (hg : w.heap.size ≤ g) (j : Nat) (u : Value) : Aside0 (Below w.heap.size w (W.setCell ⟨g, j, none⟩ u)) := ⟨below_set h.out hg⟩
theorem belB (h : Aside0 (Below w.heap.size w W)) {W2 : World} (hb : Below W.heap.size W W2) : Aside0 (Below w.heap.size w W2) := ⟨below_step h.out hb⟩
theorem blkB {g : Nat} {o : Obj} (h : Aside0 (W.heap[g]? = some o)) {W2 : World} (hb : Below W.heap.size W W2) : Aside0 (W2.heap[g]? = some o) := ⟨blk_below h.out hb⟩
theorem belG (h : Aside0 (Below w.heap.size w W)) {W2 : World} {g : Nat} (hg : W.grownBy W2 (some g)) (hgw : w.heap.size ≤ g) : Aside0 (Below w.heap.size w W2) := ⟨h.out.grown hg h.out.size (fun k e => by injection e with e; omega)⟩
theorem blkG {g : Nat} {o : Obj} (h : Aside0 (W.heap[g]? = some o)) {W2 : World} {r : Nat} (hg : W.grownBy W2 (some r)) (hne : g ≠ r) : Aside0 (W2.heap[g]? = some o) := ⟨blk_grown h.out hg (by intro e; injection e with e; exact hne e)⟩
theorem belN (h : Aside0 (Below w.heap.size w W)) {W2 : World} (hg : W.grownBy W2 none) : Aside0 (Below w.heap.size w W2) := ⟨h.out.grown hg h.out.size (fun k e => by cases e)⟩
theorem blkN {g : Nat} {o : Obj} (h : Aside0 (W.heap[g]? = some o)) {W2 : World} (hg : W.grownBy W2 none) : Aside0 (W2.heap[g]? = some o) := ⟨blk_grown h.out hg (by simp)⟩
theorem rB {α : Type} {d : Kd α} {e base : Nat} {ok : Nat → Prop} {v : Value} {xs : List α} (h : Aside0 (d.R e W base ok v xs)) {W2 : World} (hb : Below W.heap.size W W2) : Aside0 (d.R e W2 base ok v xs) := ⟨Kd.R_below h.out hb⟩
end
/-- A row is kept by a store of a struct of four cells. -/
theorem set4 {α : Type} {d : Kd α} {e base : Nat} {ok : Nat → Prop} {W : World} {v : Value} {xs : List α} {g t : Nat} {a0 a1 a2 a3 : Value} (h : d.R e W base ok v xs) (hb : W.heap[g]? = some (.cells #[a0, a1, a2, a3] t (0, 0))) (ht : ∀ q, q ∈ e :: d.E → q ≠ t) (u0 u1 u2 u3 : Value) :
    d.R e ((((W.setCell ⟨g, 0, none⟩ u0).setCell ⟨g, 1, none⟩ u1).setCell ⟨g, 2, none⟩ u2).setCell ⟨g, 3, none⟩ u3) base ok v xs :=
  Kd.R_set (Kd.R_set (Kd.R_set (Kd.R_set h hb ht 0 u0) (blk_set hb 0 u0) ht 1 u1) (blk_set (blk_set hb 0 u0) 1 u1) ht 2 u2) (blk_set (blk_set (blk_set hb 0 u0) 1 u1) 2 u2) ht 3 u3
theorem row_typed {α : Type} {d : Kd α} {e base g n c : Nat} {ok : Nat → Prop} {W : World} {xs : List α} (h : d.R e W base ok (.slice (some ⟨g, 0, none⟩) n c) xs) : ∃ cells, W.heap[g]? = some (.cells cells e (0, 0)) := by
  obtain ⟨inner, ho⟩ := Kd.R_own h
  exact own_typed ho g (by simp [Value.ownBlock])
/-- Two lists, element by element. -/
def Each {α β : Type} (R : α → β → Prop) (xs : List α) (ys : List β) : Prop := xs.length = ys.length ∧ ∀ (j : Nat) x y, xs[j]? = some x → ys[j]? = some y → R x y
theorem Each.at {α β : Type} {R : α → β → Prop} {xs : List α} {ys : List β} (h : Each R xs ys) {j : Nat} {x : α} (hx : xs[j]? = some x) : ∃ y, ys[j]? = some y ∧ R x y := by
  have hj := (List.getElem?_eq_some_iff.1 hx).1
  have hj2 : j < ys.length := by have := h.1; omega
  exact ⟨ys[j], List.getElem?_eq_getElem hj2, h.2 j x _ hx (List.getElem?_eq_getElem hj2)⟩
theorem take_snocG {α : Type} {l : List α} {k : Nat} {x : α} (h : l[k]? = some x) : l.take (k + 1) = l.take k ++ [x] := by
  obtain ⟨hk, rfl⟩ := List.getElem?_eq_some_iff.1 h
  exact (List.take_succ_eq_append_getElem hk)
theorem toList_loop (bs : ByteArray) : ∀ (d i : Nat) (r : List UInt8), i + d = bs.size → ByteArray.toList.loop bs i r = r.reverse ++ bs.data.toList.drop i
  | 0, i, r, h => by
    have hl : bs.data.toList.length = bs.size := data_length bs
    unfold ByteArray.toList.loop
    rw [if_neg (by omega), List.drop_eq_nil_of_le (by omega), List.append_nil]
  | d + 1, i, r, h => by
    have hl : bs.data.toList.length = bs.size := data_length bs
    unfold ByteArray.toList.loop
    rw [if_pos (by omega), toList_loop bs d (i + 1) _ (by omega), List.drop_eq_getElem_cons (show i < bs.data.toList.length by omega), List.reverse_cons, List.append_assoc]
    have hi : i < bs.data.size := by rw [Array.length_toList] at hl; omega
    have : bs.get! i = bs.data.toList[i]'(by omega) := by
      show bs.data[i]! = _
      rw [getElem!_pos bs.data i hi]; simp
    rw [this]; rfl
theorem toList_data (s : ByteArray) : s.toList = s.data.toList := by
  unfold ByteArray.toList
  rw [toList_loop s s.size 0 [] (by omega)]; simp
theorem toList_inj {s t : ByteArray} (h : s.toList = t.toList) : s = t := by
  rw [toList_data, toList_data] at h
  cases s; cases t
  simp at h
  simp [h]
theorem toList_nil (s : ByteArray) : s.toList = ([] : List UInt8) ↔ s.size = 0 := by
  rw [toList_data, ← data_length s]
  exact (List.length_eq_zero_iff (l := s.data.toList)).symm
theorem empty_dec (s : ByteArray) : s.toList.isEmpty = decide (s.size = 0) := by
  by_cases h : s.size = 0
  · rw [(toList_nil s).2 h, decide_eq_true h]; rfl
  · rw [decide_eq_false h]
    cases hl : s.toList with
    | nil => exact absurd ((toList_nil s).1 hl) h
    | cons a r => rfl
theorem callE_ {P : Program} {ops : Array Oper} {Q : Exit → Act → World → Prop} {oi : Oper} {N : Option Tmp} {a : Act} {w : World} {K : Act → World → Prop} (f : FuncId) (args : Array Value) (hw : Region.wanted oi (yielded ops a.tmps) = true) (hN : oi.dst = N) (hrun : (execOp a.eval oi).run P w = .ok (.enter f args) w)
    (h : Calls P f args w fun e w' => (∃ v, e = .returned v ∧ K (a.put N v) w') ∨ (∃ c, e = .panicked c ∧ Q (.panic c) a w')) : if Region.wanted oi (yielded ops a.tmps) = true then Oper.wp P oi a w K Q else K (a.put N undef) w := by
  rw [if_pos hw]
  subst hN
  unfold Oper.wp
  rw [hrun, Oper.upon_enter]
  refine h.mono fun e w'' hh => ?_
  rcases hh with ⟨v, rfl, hk⟩ | ⟨c, rfl, hk⟩ <;> exact hk
end Go.Proofs.YtailpfcbdopfeaaGreatDoor.F
/- A step as a map's key. -/
namespace Go.Proofs.YtailpfcbdopfeaaGreatDoor.F
open Go.RowKit Go.Proofs.YtailpfcbdopfeaaGreatDoorW.PrintWords Go.Proofs.YtailpfcbdopfeaaGreatDoorW.PrintLast Go.Proofs.YtailpfcbdopfeaaGreatDoorW.PrintMore
set_option linter.unusedVariables false
set_option maxRecDepth 100000
theorem step_wide : (match Tryz.prog.underlying 69 with | some (.array _ _) | some (.struct _) => true | _ => false) = true := by rw [Tryz.underlying69]
theorem step_kt : Tryz.prog.keyTypeAt 2 69 = true := by kernel_rfl
theorem step_ti : Tryz.prog.tiled 2 69 = true := by kernel_rfl
theorem step_law : WideMaps.KeyLaw Tryz.prog 69 := deep_law (m := 2) (by omega) step_kt step_ti step_wide
theorem step_keyed : Maps.Keyed Tryz.prog 69 := Maps.Keyed.of_law step_law
def stepV (x : S69) : Value := .agg #[.int .i64 x.f0, .int .i64 x.f1, .int .i64 x.f2, .int .i64 x.f3, .int .i64 x.f4]
def stepW (x : S69) : Prop := ∀ y ∈ [x.f0, x.f1, x.f2, x.f3, x.f4], (Lit.int .i64 y).wf = true
def stepK (x : S69) : Lit := .string (keyBytes [.int .i64 x.f0, .int .i64 x.f1, .int .i64 x.f2, .int .i64 x.f3, .int .i64 x.f4])
theorem step_type : Tryz.prog.keyType 69 = true := by kernel_rfl
theorem step_types : ∃ m, Tryz.prog.types.size = m + 1 := ⟨Tryz.prog.types.size - 1, by kernel_rfl⟩
theorem step_cells : Tryz.prog.cellsOf 69 = 5 := by kernel_rfl
theorem int_cells : Tryz.prog.cellsOf 3 = 1 := by kernel_rfl
theorem step_key {x : S69} (h : stepW x) : keyOf Tryz.prog 69 (stepV x) = some (stepK x) := by
  have hkt := step_type
  obtain ⟨m, hm⟩ := step_types
  have w0 := h x.f0 (by simp)
  have w1 := h x.f1 (by simp)
  have w2 := h x.f2 (by simp)
  have w3 := h x.f3 (by simp)
  have w4 := h x.f4 (by simp)
  unfold keyOf stepV stepK
  simp only [Tryz.underlying69]
  rw [if_pos (by simp [hkt, Value.formed, Tryz.underlying69, step_cells]), hm]
  unfold Program.keyLits
  simp only [Tryz.underlying69, Value.cells]
  rw [if_pos (by simp [step_cells])]
  simp [int_cells, Program.keyLits, Tryz.underlying3, w0, w1, w2, w3, w4]
theorem step_inj {x y : S69} (hx : stepW x) (hy : stepW y) (h : stepK x = stepK y) : x = y := by
  have := step_law.inj (step_key hx) (by rw [h]; exact step_key hy)
  unfold stepV at this
  cases x; cases y
  simp at this
  simp [this]
deriving instance DecidableEq for S69
/-- What the map of the steps says. -/
def StepD (l : List S69) (D : DataW Unit) : Prop := ∀ x, stepW x → D.atKey (stepK x) (.lit (.bool false)) = .lit (.bool (decide (x ∈ l)))
theorem StepD.nil : StepD [] (.map []) := fun x _ => by simp; rfl
theorem StepD.put {l : List S69} {D : DataW Unit} (h : StepD l D) (hm : Maps.IsMap D) (y : S69) (hy : stepW y) : StepD (l ++ [y]) (D.put (stepK y) (.lit (.bool true))) := fun x hx => by
  by_cases e : x = y
  · subst e
    rw [Maps.atKey_put_same hm (by simp [stepK, WideAt.IsKeyLit])]
    simp
  · rw [Maps.atKey_put_other (fun q => e (step_inj hx hy q)), h x hx]
    simp [e]
/-- 'm[k]' at elements of type bool, the answer known. -/
theorem wpList_lookup_own_bool {H : Type} {P : Program} (w : World) {ops : Array Oper} {rest : List Oper} {o : Oper} {a : Act} {Q : Exit → Act → World → Prop}
    (hg : o.guard = none) (m x : Operand) (t : TypeId) (hop : o.op = Op.lookup t m x false)
    (k e : TypeId) (K : Maps.Keyed P k) (ht : P.underlying t = some (.map k e)) (he : P.underlying e = some .bool) (hz : (zeroValue e).run P w = .ok (.bool false) w) (b n : Nat) (D : DataW H)
    (hm : a.eval m = .map (some b)) (hown : w.ownsMap P k (plainElem P e) b n D) (key : Value) (kl : Lit) (hx : a.eval x = key) (hkey : keyOf P k key = some kl) (c : Bool) (hat : D.atKey kl (.lit (.bool false)) = .lit (.bool c))
    (hK : wpList P ops Q rest (a.put o.dst (.bool c)) w) :
    wpList P ops Q (o :: rest) a w := by
  refine wpList_plain hg fun K' hK' => ?_
  obtain ⟨v, ps, hrun, hv⟩ := hown.lookup K ht hz (plainElem_bool he false) hkey
  rw [hat] at hv
  obtain rfl : v = .bool c := by
    unfold plainElem at hv
    cases v <;> simp [he] at hv
    rw [hv.1]
  unfold Oper.wp
  simp [execOp, hop, hm, hx, hrun, Result.andThen]
  exact hK' _ _ hK
end Go.Proofs.YtailpfcbdopfeaaGreatDoor.F
/- The rows' arguments opened into the kinds; what the listed variables hold (the machines' chapters). -/
namespace Go.Proofs.YtailpfcbdopfeaaGreatDoor.F
open Go.RowKit Go.WideShapes Go.ChangeShapes Go.ChangeAt Go.Proofs.YtailpfcbdopfeaaGreatDoorW.PrintWords Go.Proofs.YtailpfcbdopfeaaGreatDoorW.PrintLast Go.Proofs.YtailpfcbdopfeaaGreatDoorW.PrintMore
set_option linter.unusedVariables false
theorem own : ownKnob Tryz.prog.godebug = none := by kernel_rfl
theorem laidOut : laidOutB Tryz.prog = true := by kernel_rfl
/-- What can be read as data at type t is of kind d. -/
def Opens (P : Program) (w : World) {α : Type} (d : Kd α) (t : TypeId) : Prop :=
  ∀ {H : Type} (enc : TypeId × Value → H) (m : Nat) (cs : List Value) (x : DataW H × List MemPlace), DataW.trod enc P w 0 (fun _ => true) true m t cs = some x → ∃ y, d.K w y cs
variable {P : Program} {w : World}
theorem opens_int {t : TypeId} {k : IntKind} (ht : P.underlying t = some (.int k)) : Opens P w (Kd.int k) t := fun enc m cs x h => by
  obtain ⟨n, rfl, _, _⟩ := DataW.trod_int ht h
  exact ⟨n, rfl⟩
theorem opens_string {t : TypeId} (ht : P.underlying t = some .string) : Opens P w Kd.string t := fun enc m cs x h => by
  obtain ⟨s, rfl, _, _⟩ := DataW.trod_string ht h
  exact ⟨s, rfl⟩
theorem list_of {α : Type} {Q : Nat → α → Prop} : ∀ n : Nat, (∀ i, i < n → ∃ y, Q i y) → ∃ ys : List α, ys.length = n ∧ ∀ j p, ys[j]? = some p → Q j p
  | 0, _ => ⟨[], rfl, fun j p h => by simp at h⟩
  | n + 1, h => by
    obtain ⟨ys, hl, hq⟩ := list_of n (fun i hi => h i (by omega))
    obtain ⟨y, hy⟩ := h n (by omega)
    refine ⟨ys ++ [y], by simp [hl], fun j p hj => ?_⟩
    by_cases hjn : j < ys.length
    · rw [List.getElem?_append_left hjn] at hj; exact hq j p hj
    · rw [List.getElem?_append_right (by omega)] at hj
      obtain rfl : j = n := by
        have := (List.getElem?_eq_some_iff.1 hj).1; simp at this; omega
      simp [hl] at hj
      exact hj ▸ hy
theorem opens_slice {t e : TypeId} {α : Type} {d : Kd α} (ht : P.underlying t = some (.slice e)) (hc : P.cellsOf e = d.sz) (hd : Opens P w d e) : Opens P w (Kd.slice e d) t := fun enc m cs x h => by
  rcases DataW.trod_slice ht h with ⟨rfl, _⟩ | ⟨a, len, cap, elems, rest, n, _, rfl, _, _, hle, hmax, hlen, hel, _, _⟩
  · exact ⟨[], none, 0, rfl, Nat.le_refl _, rfl, Nat.zero_le _, fun h => absurd h (by simp)⟩
  · obtain ⟨ys, hl, hy⟩ := list_of (Q := fun i y => ∃ c, c.length = d.sz ∧ d.K w y c ∧ ∀ j u, c[j]? = some u → w.cell? (a.add (i * d.sz + j)) = some u) len (fun i hi => by
      have he := hel i hi
      rw [List.getElem?_eq_getElem (by omega : i < elems.length)] at he
      obtain ⟨c, hc1, hc2⟩ := Option.bind_eq_some_iff.1 he
      obtain ⟨_, h1, h2⟩ := World.cells?_some hc1
      obtain ⟨y, hy⟩ := hd enc _ _ _ hc2
      refine ⟨y, c, by rw [h1, hc], hy, fun j u hj => ?_⟩
      have hjl := (List.getElem?_eq_some_iff.1 hj).1
      have := h2 j (by omega)
      rw [hc] at this
      rw [← hj, ← this]
      exact congrArg w.cell? (Addr.add_add a _ _).symm)
    refine ⟨ys, some a, cap, by rw [hl], by omega, hl ▸ rfl, by rw [hl]; exact Nat.le_trans hle hmax, fun _ => ⟨a, rfl, fun j p hj => hy j p hj⟩⟩
theorem one_cell {cs : List Value} {v : Value} {n : Nat} (h : (cs.drop n).take 1 = [v]) : cs[n]? = some v := by
  have := congrArg (·[0]?) h
  simpa [List.getElem?_take, List.getElem?_drop] using this
theorem opens_int_ : Opens Tryz.prog w (Kd.int .i64) 3 := opens_int Tryz.underlying3
theorem opens_ints : Opens Tryz.prog w (Kd.slice 3 (Kd.int .i64)) 40 := opens_slice Tryz.underlying40 (by kernel_rfl) opens_int_
theorem opens_bool_ : Opens Tryz.prog w Kd.bool 4 := fun enc m cs x h => by
  obtain ⟨b, rfl, _, _⟩ := DataW.trod_bool Tryz.underlying4 h
  exact ⟨b, rfl⟩
/-- A struct's fields, one by one. -/
theorem trod_field {H : Type} {enc : TypeId × Value → H} {t : TypeId} {fs : Array Field} {n : Nat} {cs : List Value} {x : DataW H × List MemPlace} (ht : P.underlying t = some (.struct fs)) (h : DataW.trod enc P w 0 (fun _ => true) true n t cs = some x) (i : Nat) (f : Field) (hf : fs[i]? = some f) (ty : TypeId) (off k : Nat) (h1 : f.type = ty) (h2 : f.offset = off) (h3 : P.cellsOf ty = k) :
    ∃ m y, DataW.trod enc P w 0 (fun _ => true) true m ty ((cs.drop off).take k) = some y := by
  subst h1 h2 h3
  obtain ⟨xs, m, _, _, _, hl, hx⟩ := DataW.trod_struct ht h
  have hi : i < fs.size := (Array.getElem?_eq_some_iff.1 hf).1
  exact ⟨m, xs[i], (hx i f hf).trans (List.getElem?_eq_getElem (by omega))⟩
theorem trod_cells {H : Type} {enc : TypeId × Value → H} {t : TypeId} {fs : Array Field} {n : Nat} {cs : List Value} {x : DataW H × List MemPlace} (ht : P.underlying t = some (.struct fs)) (h : DataW.trod enc P w 0 (fun _ => true) true n t cs = some x) : cs.length = P.cellsOf t := by
  obtain ⟨xs, m, _, _, hl, _, _⟩ := DataW.trod_struct ht h
  exact hl
theorem of_cells {cs vs : List Value} (hl : cs.length = vs.length) (h : ∀ i, i < vs.length → cs[i]? = vs[i]?) : cs = vs := by
  apply List.ext_getElem?
  intro i
  rcases Nat.lt_or_ge i vs.length with h1 | h1
  · exact h i h1
  · rw [List.getElem?_eq_none h1, List.getElem?_eq_none (by omega)]
theorem opens_literal : Opens Tryz.prog w k42 42 := fun enc m cs x h => by
  have hl := trod_cells Tryz.underlying42 h
  obtain ⟨m0, y0, h0⟩ := trod_field Tryz.underlying42 h 0 _ rfl 3 0 1 rfl rfl (by kernel_rfl)
  obtain ⟨m1, y1, h1⟩ := trod_field Tryz.underlying42 h 1 _ rfl 4 1 1 rfl rfl (by kernel_rfl)
  obtain ⟨m2, y2, h2⟩ := trod_field Tryz.underlying42 h 2 _ rfl 9 2 1 rfl rfl (by kernel_rfl)
  obtain ⟨m3, y3, h3⟩ := trod_field Tryz.underlying42 h 3 _ rfl 40 3 1 rfl rfl (by kernel_rfl)
  rw [show Tryz.prog.cellsOf 42 = 4 by kernel_rfl] at hl
  obtain ⟨a, e0⟩ := opens_int_ enc _ _ _ h0
  obtain ⟨b, e1⟩ := opens_bool_ enc _ _ _ h1
  obtain ⟨s, e2⟩ := opens_string Tryz.underlying9 enc _ _ _ h2
  obtain ⟨l, A, c, e3, hlc, hC⟩ := opens_ints enc _ _ _ h3
  have e : cs = [.int .i64 a, .bool b, .string s, .slice A l.length c] := of_cells hl fun i hi => by
    match i, hi with
    | 0, _ => exact one_cell e0
    | 1, _ => exact one_cell e1
    | 2, _ => exact one_cell e2
    | 3, _ => exact one_cell e3
  rw [e]
  exact ⟨⟨a, b, s, l⟩, k42_mk w ⟨a, b, s, l⟩ hlc hC⟩
/-- A step whose numbers are in range. -/
def kSt : Kd S69 where
  sz := k69.sz
  E := k69.E
  K := fun w x cs => k69.K w x cs ∧ stepW x
  M := fun w b ok x cs => k69.M w b ok x cs ∧ stepW x
  K_len := fun h => k69.K_len h.1
  K_one := fun h => k69.K_one h.1
  K_below := fun hb h => ⟨k69.K_below hb h.1, h.2⟩
  K_of_M := fun h => ⟨k69.K_of_M h.1, h.2⟩
  M_mono := fun hk h => ⟨k69.M_mono hk h.1, h.2⟩
  M_bound := fun h => ⟨k69.M_bound h.1, h.2⟩
  M_move := fun hm h => ⟨k69.M_move hm h.1, h.2⟩
  M_lower := fun hl h => ⟨k69.M_lower hl h.1, h.2⟩
theorem opens_step : Opens Tryz.prog w kSt 69 := fun enc m cs x h => by
  have hl := trod_cells Tryz.underlying69 h
  obtain ⟨m0, y0, h0⟩ := trod_field Tryz.underlying69 h 0 _ rfl 3 0 1 rfl rfl (by kernel_rfl)
  obtain ⟨m1, y1, h1⟩ := trod_field Tryz.underlying69 h 1 _ rfl 3 1 1 rfl rfl (by kernel_rfl)
  obtain ⟨m2, y2, h2⟩ := trod_field Tryz.underlying69 h 2 _ rfl 3 2 1 rfl rfl (by kernel_rfl)
  obtain ⟨m3, y3, h3⟩ := trod_field Tryz.underlying69 h 3 _ rfl 3 3 1 rfl rfl (by kernel_rfl)
  obtain ⟨m4, y4, h4⟩ := trod_field Tryz.underlying69 h 4 _ rfl 3 4 1 rfl rfl (by kernel_rfl)
  rw [show Tryz.prog.cellsOf 69 = 5 by kernel_rfl] at hl
  obtain ⟨a0, e0, _, w0⟩ := DataW.trod_int Tryz.underlying3 h0
  obtain ⟨a1, e1, _, w1⟩ := DataW.trod_int Tryz.underlying3 h1
  obtain ⟨a2, e2, _, w2⟩ := DataW.trod_int Tryz.underlying3 h2
  obtain ⟨a3, e3, _, w3⟩ := DataW.trod_int Tryz.underlying3 h3
  obtain ⟨a4, e4, _, w4⟩ := DataW.trod_int Tryz.underlying3 h4
  have e : cs = [.int .i64 a0, .int .i64 a1, .int .i64 a2, .int .i64 a3, .int .i64 a4] := of_cells hl fun i hi => by
    match i, hi with
    | 0, _ => exact one_cell e0
    | 1, _ => exact one_cell e1
    | 2, _ => exact one_cell e2
    | 3, _ => exact one_cell e3
    | 4, _ => exact one_cell e4
  rw [e]
  refine ⟨⟨a0, a1, a2, a3, a4⟩, k69_mk w ⟨a0, a1, a2, a3, a4⟩, ?_⟩
  intro y hy
  simp only [List.mem_cons, List.mem_nil_iff, or_false] at hy
  rcases hy with rfl | rfl | rfl | rfl | rfl <;> assumption
theorem opens_literals : Opens Tryz.prog w (Kd.slice 42 k42) 22 := opens_slice Tryz.underlying22 (by kernel_rfl) opens_literal
theorem opens_steps : Opens Tryz.prog w (Kd.slice 69 kSt) 23 := opens_slice Tryz.underlying23 (by kernel_rfl) opens_step
/-- A machine that came in. -/
theorem opens_tape {H : Type} (enc : TypeId × Value → H) (m : Nat) (cs : List Value) (x : DataW H × List MemPlace) (h : DataW.trod enc Tryz.prog w 0 (fun _ => true) true m 25 cs = some x) :
    ∃ (n0 n1 n2 n3 : Int) (ls : List S42) (A4 : Option Addr) (c4 : Nat) (ss : List S69) (A5 : Option Addr) (c5 : Nat), cs = [.int .i64 n0, .int .i64 n1, .int .i64 n2, .int .i64 n3, .slice A4 ls.length c4, .slice A5 ss.length c5] ∧ ls.length ≤ c4 ∧ ss.length ≤ c5 ∧ k42.C w A4 ls.length ls ∧ k69.C w A5 ss.length ss ∧ ∀ x ∈ ss, stepW x := by
  have hl := trod_cells Tryz.underlying25 h
  obtain ⟨m0, y0, h0⟩ := trod_field Tryz.underlying25 h 0 _ rfl 3 0 1 rfl rfl (by kernel_rfl)
  obtain ⟨m1, y1, h1⟩ := trod_field Tryz.underlying25 h 1 _ rfl 3 1 1 rfl rfl (by kernel_rfl)
  obtain ⟨m2, y2, h2⟩ := trod_field Tryz.underlying25 h 2 _ rfl 3 2 1 rfl rfl (by kernel_rfl)
  obtain ⟨m3, y3, h3⟩ := trod_field Tryz.underlying25 h 3 _ rfl 3 3 1 rfl rfl (by kernel_rfl)
  obtain ⟨m4, y4, h4⟩ := trod_field Tryz.underlying25 h 4 _ rfl 22 4 1 rfl rfl (by kernel_rfl)
  obtain ⟨m5, y5, h5⟩ := trod_field Tryz.underlying25 h 5 _ rfl 23 5 1 rfl rfl (by kernel_rfl)
  rw [show Tryz.prog.cellsOf 25 = 6 by kernel_rfl] at hl
  obtain ⟨n0, e0⟩ := opens_int_ enc _ _ _ h0
  obtain ⟨n1, e1⟩ := opens_int_ enc _ _ _ h1
  obtain ⟨n2, e2⟩ := opens_int_ enc _ _ _ h2
  obtain ⟨n3, e3⟩ := opens_int_ enc _ _ _ h3
  obtain ⟨ls, A4, c4, e4, hlc4, hC4⟩ := opens_literals enc _ _ _ h4
  obtain ⟨ss, A5, c5, e5, hlc5, hC5⟩ := opens_steps enc _ _ _ h5
  have e : cs = [.int .i64 n0, .int .i64 n1, .int .i64 n2, .int .i64 n3, .slice A4 ls.length c4, .slice A5 ss.length c5] := of_cells hl fun i hi => by
    match i, hi with
    | 0, _ => exact one_cell e0
    | 1, _ => exact one_cell e1
    | 2, _ => exact one_cell e2
    | 3, _ => exact one_cell e3
    | 4, _ => exact one_cell e4
    | 5, _ => exact one_cell e5
  refine ⟨n0, n1, n2, n3, ls, A4, c4, ss, A5, c5, e, hlc4, hlc5, hC4, ReadsRow.imp_ hC5 (Below.refl _ _) (fun x cs hp => hp.1), fun x hx => ?_⟩
  obtain ⟨_, _, h2⟩ := hC5
  obtain ⟨j, hj, rfl⟩ := List.mem_iff_getElem.1 hx
  obtain ⟨ad, _, h3⟩ := h2 (by omega)
  obtain ⟨cc, _, hK, _⟩ := h3 j _ (List.getElem?_eq_getElem hj)
  exact hK.2
/-- The wrap that hands on the listed variables' condition and the world's shape. -/
theorem returns_and_shaped {H : Type} {enc : TypeId × Value → H} {a : Assume} {C : Checked} {os : Os} {f : FuncId} {fn : Func} {s : ChangeSpec} {conds : List PathCond} {apart fresh handsOn again : Bool} {X : World → Array Value → Prop}
    (hX : ∀ (w w' : World) (args : Array Value), w.heap = w'.heap → X w args → X w' args)
    (own : ownKnob C.prog.godebug = none) (started : os.Started) (noInit : C.prog.inits.idxOf? f = none) (hfn : C.prog.funcs[f]? = some fn)
    (witness : ∃ (w : World) (tape : Tape) (i : Input), w.os = os ∧ (w.forCall tape i).Shaped C.prog ∧ i.vars = [] ∧ Input.okWide C.prog (w.forCall tape i) .any w.heap.size f i ∧
      ((s.pre enc C.prog fn conds apart (w.forCall tape i).memory i.args ∧ X (w.forCall tape i).memory i.args) ∧ sizedMet enc C.prog fn (OpenSpec.ofChange s) apart (w.forCall tape i).memory i.args) ∧ a.holds C.prog (lone (Frame.enter C.prog f i.args .normal) [] (w.forCall tape i)))
    (contract : ∀ (W : World) (base : Nat) (args : Array Value) (ds gs : List (DataW H)) (before : List MemPlace),
      (∀ (j : Nat) t v, fn.params[j]? = some t → args[j]? = some v → Value.okWide C.prog W .any base t v) →
      DataW.Whole enc C.prog fn.params.toList s.vars apart W args.toList ds gs before →
      W.ShapedOpen C.prog → X W args →
      Calls C.prog f args W fun e W' => ∃ v, e = .returned v ∧ s.post enc C.prog fn apart fresh handsOn again W args v W') :
    ReturnsInHanded a C os f .any (fun w args => (s.pre enc C.prog fn conds apart w args ∧ X w args) ∧ sizedMet enc C.prog fn (OpenSpec.ofChange s) apart w args) (s.post enc C.prog fn apart fresh handsOn again) := by
  refine returnsInHanded_of_calls own started noInit witness ?_
  intro w tape i _ hsh _ hok hpre hholds
  obtain ⟨_, _, _, fn', hfn', _, _, _, _, hval⟩ := hok
  have e : fn' = fn := Option.some.inj (hfn'.symm.trans hfn)
  subst e
  obtain ⟨⟨⟨ds, gs, before, hw, hc⟩, hx⟩, hz⟩ := hpre
  have hw' := DataW.Whole.of_heap (w' := w.forCall tape i) (by rfl) hw
  refine (contract (w.forCall tape i) w.heap.size i.args ds gs before hval hw' hsh (hX _ _ _ (by rfl) hx)).mono fun e W' ⟨v, he, hp⟩ => ?_
  subst he
  exact ChangeSpec.post_blind hp
def laidL : List (String × DataW Unit) := [("math/bits.deBruijn32tab", Rows.laid_math_bits_deBruijn32tab), ("math/bits.deBruijn64tab", Rows.laid_math_bits_deBruijn64tab), ("internal/strconv.uint64pow10", Rows.laid_internal_strconv_uint64pow10), ("unicode/utf8.acceptRanges", Rows.laid_unicode_utf8_acceptRanges), ("strconv.ErrRange", Rows.laid_strconv_ErrRange), ("strconv.ErrSyntax", Rows.laid_strconv_ErrSyntax), ("unicode.White_Space", Rows.laid_unicode_White_Space), ("strings.asciiSpace", Rows.laid_strings_asciiSpace), ("unicode/utf8.first", Rows.laid_unicode_utf8_first)]
theorem type_of {n : String} {g t T : Nat} (hT : ((Tryz.prog.globalNamed n).bind fun g => (Tryz.prog.globals[g]?).map (·.type)) = some T) (hg : Tryz.prog.globalNamed n = some g) (ht : (Tryz.prog.globals[g]?).map (·.type) = some t) : t = T := by
  rw [hg] at hT
  exact Option.some.inj (ht.symm.trans hT)
theorem tab_of {W : World} {n : String} {l : List Int} {k : IntKind} {T E : TypeId} {m : Nat} (hT : ((Tryz.prog.globalNamed n).bind fun g => (Tryz.prog.globals[g]?).map (·.type)) = some T) (hu : Tryz.prog.underlying T = some (.array m E)) (he : Tryz.prog.underlying E = some (.int k)) (h1 : Tryz.prog.cellsOf E = 1) (hm : Tryz.prog.cellsOf T = m) (h : Lib.VarReads Tryz.prog W n (Lib.tabData k l)) : Lib.TabIs Tryz.prog W n k l := by
  obtain ⟨g, t, cs, f, p, hg, ht, hv, hd⟩ := h
  obtain rfl := type_of hT hg ht
  unfold Lib.TabIs
  rw [hv, ← Lib.cells_of_tab hu he h1 hm hd]
theorem glob_of_laid {W : World} (hsh : W.ShapedOpen Tryz.prog) (h : laidMetH Tryz.prog laidL W) : Glob W := by
  rw [MakeChecks.laidMetH_plain _ _ _ (by kernel_rfl)] at h
  have r3 : Lib.VarReads Tryz.prog W "internal/strconv.uint64pow10" Rows.laid_internal_strconv_uint64pow10 := Lib.laidMet.reads h (.tail _ (.tail _ (.head _)))
  have r5 : Lib.VarReads Tryz.prog W "strconv.ErrRange" Rows.laid_strconv_ErrRange := Lib.laidMet.reads h (.tail _ (.tail _ (.tail _ (.tail _ (.head _)))))
  have r6 : Lib.VarReads Tryz.prog W "strconv.ErrSyntax" Rows.laid_strconv_ErrSyntax := Lib.laidMet.reads h (.tail _ (.tail _ (.tail _ (.tail _ (.tail _ (.head _))))))
  have r7 : Lib.VarReads Tryz.prog W "unicode.White_Space" Rows.laid_unicode_White_Space := Lib.laidMet.reads h (.tail _ (.tail _ (.tail _ (.tail _ (.tail _ (.tail _ (.head _)))))))
  have r8 : Lib.VarReads Tryz.prog W "strings.asciiSpace" Rows.laid_strings_asciiSpace := Lib.laidMet.reads h (.tail _ (.tail _ (.tail _ (.tail _ (.tail _ (.tail _ (.tail _ (.head _))))))))
  refine ⟨hsh, ?_, ?_, ?_, ?_, ?_⟩
  · obtain ⟨g6, t6, c6, f6, p6, hg6, ht6, hv6, hd6⟩ := r6
    obtain rfl := type_of (T := 91) (by kernel_rfl) hg6 ht6
    obtain ⟨_, u, v, hc, _⟩ := iface_of_trod Tryz.underlying91 hd6
    exact ⟨u, v, by rw [hv6]; congr 1; exact Array.ext' (by simpa using hc)⟩
  · obtain ⟨g5, t5, c5, f5, p5, hg5, ht5, hv5, hd5⟩ := r5
    obtain rfl := type_of (T := 91) (by kernel_rfl) hg5 ht5
    obtain ⟨_, u, v, hc, _⟩ := iface_of_trod Tryz.underlying91 hd5
    exact ⟨u, v, by rw [hv5]; congr 1; exact Array.ext' (by simpa using hc)⟩
  · have e3 : (Rows.laid_internal_strconv_uint64pow10 : DataW Unit) = Lib.tabData .u64 Lib.pow10Tab := by kernel_rfl
    rw [e3] at r3
    exact tab_of (T := 198) (by kernel_rfl) Tryz.underlying198 Tryz.underlying176 (by kernel_rfl) (by kernel_rfl) r3
  · have e8 : (Rows.laid_strings_asciiSpace : DataW Unit) = Lib.tabData .u8 Lib.asciiSpaceTab := by kernel_rfl
    rw [e8] at r8
    exact tab_of (T := 95) (by kernel_rfl) Tryz.underlying95 Tryz.underlying5 (by kernel_rfl) (by kernel_rfl) r8
  · have e7 : (Rows.laid_unicode_White_Space : DataW Unit) = Lib.whiteData := by kernel_rfl
    rw [e7] at r7
    exact whiteTab_of_reads { Tryz.lays157 with } ⟨by kernel_rfl, by kernel_rfl, by kernel_rfl, by kernel_rfl, by kernel_rfl, by kernel_rfl, by kernel_rfl, by kernel_rfl⟩ r7
end Go.Proofs.YtailpfcbdopfeaaGreatDoor.F
/- slices.ContainsFunc at string, with a method's value (its receiver is bound). -/
namespace Go.Proofs.YtailpfcbdopfeaaGreatDoor.F
open Go.RowKit Go.Proofs.YtailpfcbdopfeaaGreatDoorW.PrintWords Go.Proofs.YtailpfcbdopfeaaGreatDoorW.PrintLast Go.Proofs.YtailpfcbdopfeaaGreatDoorW.PrintMore
set_option linter.unusedVariables false
set_option linter.unusedSimpArgs false
def PredstrB (g : Nat) (fb lb : Array Value) (p : ByteArray → Bool) (w : World) : Prop :=
  ∀ (W : World) (x : ByteArray) , Below w.heap.size w W → Calls Tryz.prog g (fb ++ #[.string x] ++ lb) W fun e w' => e = .returned (.bool (p x)) ∧ Below W.heap.size W w'
set_option maxHeartbeats 1000000 in
theorem index_strB (g : Nat) (fb lb : Array Value) (p : ByteArray → Bool) (A : Option Addr) (c : Nat) (l : List ByteArray) (w : World)
    (eg : ∀ args w, (callFunc g args).run Tryz.prog w = .ok (.enter g args) w) (hr : Kd.C Kd.string w A l.length l) (hc : l.length ≤ c) (hp : PredstrB g fb lb p w) :
    Calls Tryz.prog 75 #[.slice A l.length c, .func (.func g) fb lb] w fun e w' => e = .returned (.int .i64 (fidx p l)) ∧ Below w.heap.size w w' := by
  have HR := Lib.hid hr
  have HP := Lib.hid hp
  have hm := Kd.C_max hr
  clear hr hp
  go_enter Tryz.func75, Tryz.ntmps75
  go_wp2
  go_loopw [8] (fun v8 wr => ∃ k : Nat, v8 = .int .i64 k ∧ k ≤ l.length ∧ Aside0 (∀ j y, j < k → l[j]? = some y → p y = false) ∧ Aside0 (Below w.heap.size w wr)) (fun v8 _ => l.length - (intOf v8).toNat)
  case atStart => exact ⟨0, rfl, Nat.zero_le _, ⟨fun j y hj => absurd hj (Nat.not_lt_zero _)⟩, ⟨Below.refl _ _⟩⟩
  case round =>
    obtain ⟨k, rfl, hk, HN, HB⟩ := hrel
    by_cases hlt : k < l.length
    · obtain ⟨ad, hA, hcell⟩ := Kd.at_string (Kd.C_below HR.out HB.out) (k : Int) (by omega) (by omega)
      subst hA
      simp only [Int.toNat_natCast] at hcell
      have hx := rds_str hlt
      have HX := Lib.hid hx
      clear hx
      obtain ⟨b, hb⟩ : ∃ b, p (rdOf ByteArray.empty l (k : Int)) = b := ⟨_, rfl⟩
      have hcall := HP.out wr (rdOf ByteArray.empty l (k : Int))  HB.out
      rw [hb] at hcall
      have HC := Lib.hid hcall
      have Hb := Lib.hid hb
      clear hcall hb
      cases b with
      | true =>
        go_wp2_with fail
        refine HC.out.mono ?_
        rintro e w' ⟨rfl, hbw⟩
        go_wp2
        go_ret
        exact ⟨by rw [fidx_at HX.out Hb.out HN.out]; rfl, below_step HB.out hbw⟩
      | false =>
        go_wp2_with fail
        refine HC.out.mono ?_
        rintro e w' ⟨rfl, hbw⟩
        go_wp2
        go_roundw
        case rel => exact ⟨k + 1, by go_num, by omega, ⟨fun j y hj hy => by rcases Nat.lt_or_ge j k with h | h; exact HN.out j y h hy; obtain rfl : j = k := (by omega); rw [HX.out] at hy; injection hy with hy; rw [← hy]; exact Hb.out⟩, ⟨below_step HB.out hbw⟩⟩
        case measure => simp [intOf]; omega
    · go_wp2
      go_ret
      exact ⟨by rw [fidx_none fun j y hj => HN.out j y (by omega)]; rfl, HB.out⟩
set_option maxHeartbeats 1000000 in
theorem contains_strB (g : Nat) (fb lb : Array Value) (p : ByteArray → Bool) (A : Option Addr) (c : Nat) (l : List ByteArray) (w : World)
    (eg : ∀ args w, (callFunc g args).run Tryz.prog w = .ok (.enter g args) w) (hr : Kd.C Kd.string w A l.length l) (hc : l.length ≤ c) (hp : PredstrB g fb lb p w) :
    Calls Tryz.prog 44 #[.slice A l.length c, .func (.func g) fb lb] w fun e w' => e = .returned (.bool (l.any p)) ∧ Below w.heap.size w w' := by
  have HI := Lib.hid (index_strB g fb lb p A c l w eg hr hc hp)
  clear hr hp eg
  have HA := Lib.hid (fidx_any p l)
  generalize fidx p l = z at HI HA
  go_enter Tryz.func44, Tryz.ntmps44
  go_wp2_with (go_at_call 75; refine HI.out.mono ?_; rintro e w' ⟨rfl, hbw⟩)
  go_ret
  exact ⟨by rw [← HA.out]; rfl, hbw⟩
end Go.Proofs.YtailpfcbdopfeaaGreatDoor.F
/- guess.names.taken, by hand. -/
namespace Go.Proofs.YtailpfcbdopfeaaGreatDoor.F
open Go.RowKit Go.Proofs.YtailpfcbdopfeaaGreatDoorW.PrintWords Go.Proofs.YtailpfcbdopfeaaGreatDoorW.PrintLast Go.Proofs.YtailpfcbdopfeaaGreatDoorW.PrintMore
set_option linter.unusedVariables false
set_option linter.unusedSimpArgs false
/-- A literal bears the name. -/
def bears (n : ByteArray) (l : S42) : Bool := if l.f0 = 0 then l.f2.toList == n.toList else false
theorem taken1_pred (n : ByteArray) (B : Nat) (w : World) (hB : B < w.heap.size) (hcell : w.cell? ⟨B, 0, none⟩ = some (.string n)) :
    Predlit 77 #[.pointer (some ⟨B, 0, none⟩)] (bears n) w := fun W x A2 c2 hb hc hC => by
  have hcl : W.cell? ⟨B, 0, none⟩ = some (.string n) := (hb.cell (p := ⟨B, 0, none⟩) hB).trans hcell
  clear hcell hb hC
  show Calls Tryz.prog 77 #[.agg #[.int .i64 x.f0, .bool x.f1, .string x.f2, .slice A2 x.f3.length c2], .pointer (some ⟨B, 0, none⟩)] W fun e w' => e = .returned (.bool (bears n x)) ∧ Below W.heap.size W w'
  have hBW : B < W.heap.size := World.block_lt_of_cell? W _ hcl
  have hba := (box1 W (.cells #[.int .i64 x.f0, .bool x.f1, .string x.f2, .slice A2 x.f3.length c2] 42)).2
  have hcl2 : (W.alloc (.cells #[.int .i64 x.f0, .bool x.f1, .string x.f2, .slice A2 x.f3.length c2] 42)).cell? ⟨B, 0, none⟩ = some (.string n) := (hba.cell (p := ⟨B, 0, none⟩) hBW).trans hcl
  unfold bears
  by_cases h0 : x.f0 = 0
  · have h0b : (x.f0 == 0) = true := by simp [h0]
    rw [if_pos h0]
    clear h0
    go_enter Tryz.func77, Tryz.ntmps77
    go_wp2
    go_ret
    exact ⟨rfl, hba⟩
  · have h0b : (x.f0 == 0) = false := by simp [h0]
    rw [if_neg h0]
    clear h0
    go_enter Tryz.func77, Tryz.ntmps77
    go_wp2
    go_ret
    exact ⟨rfl, hba⟩
/-- The names of a machine, as a value. -/
def namesC (n0 n1 n2 n3 : Int) (A4 : Option Addr) (l4 c4 : Nat) (A5 : Option Addr) (l5 c5 : Nat) (Ac : Option Addr) (lc cc : Nat) (h : ByteArray) (As : Option Addr) (l_ cs : Nat) : Array Value :=
  #[.string ⟨#[102]⟩, .string ⟨#[108]⟩, .int .i64 n0, .int .i64 n1, .int .i64 n2, .int .i64 n3, .slice A4 l4 c4, .slice A5 l5 c5, .slice Ac lc cc, .string h, .slice As l_ cs]
set_option maxHeartbeats 1000000 in
theorem taken_calls (n0 n1 n2 n3 : Int) (A4 : Option Addr) (c4 : Nat) (ls : List S42) (A5 : Option Addr) (l5 c5 : Nat) (Ac : Option Addr) (lc cc : Nat) (h : ByteArray) (As : Option Addr) (l_ cs : Nat) (n : ByteArray) (w : World) (hr : Kd.C k42 w A4 ls.length ls) (hc : ls.length ≤ c4) :
    Calls Tryz.prog 46 #[.agg (namesC n0 n1 n2 n3 A4 ls.length c4 A5 l5 c5 Ac lc cc h As l_ cs), .string n] w fun e w' => e = .returned (.bool (ls.any (bears n))) ∧ Below w.heap.size w w' := by
  unfold namesC
  have HR := Aside0.mk hr
  clear hr
  obtain ⟨k0, k1, hb⟩ := box2 w (.cells #[.string ⟨#[102]⟩, .string ⟨#[108]⟩, .int .i64 n0, .int .i64 n1, .int .i64 n2, .int .i64 n3, .slice A4 ls.length c4, .slice A5 l5 c5, .slice Ac lc cc, .string h, .slice As l_ cs] 53) (.cells #[.string n] 9)
  have K0 := Aside0.mk k0
  have K1 := Aside0.mk k1
  have HB := Aside0.mk hb
  clear k0 k1 hb
  go_enter Tryz.func46, Tryz.ntmps46
  go_wp2_with fail
  refine (contains_lit 77 #[.pointer (some ⟨w.heap.size + 1, 0, none⟩)] (bears n) A4 c4 ls _ (enters_of Tryz.func77 (by kernel_rfl) rfl) (Kd.C_below HR.out HB.out) hc (taken1_pred n (w.heap.size + 1) _ (blk_lt K1.out) ((blk_cell K1.out 0).trans rfl))).mono ?_
  rintro e w2 ⟨rfl, hb2⟩
  replace HB := belB HB hb2
  go_wp2
  go_ret
  exact ⟨rfl, HB.out⟩
end Go.Proofs.YtailpfcbdopfeaaGreatDoor.F
/-
  DERIVED: THE SHELF's CONTRACTS AT THIS DUMP, IN PLAIN WORDS (tools/lay-plain.mjs out of 'TryzGrow.lean', which tools/lay-shelf.mjs wrote): THE SAME DECLARATIONS UNDER THE SAME NAMES: 'import', 'namespace', 'open', 'def', 'theorem' AND NOTHING ELSE: no command of the shelf's: FOR A HAND-IN. Each laying: the table of numbers ('.._ren') and one theorem, a field a fact of the dump's own or the kernel's comparison; each contract: ONE APPLICATION.
-/
namespace Go.Proofs
open Go.Shelf
def Tryz.growS_ren : Go.Shelf.Ren := ⟨fun | 4 => 100 | n => n, fun | 22 => 51 | 25 => 9 | 3 => 3 | 4 => 4 | 9 => 9 | 20 => 20 | 0 => 0 | n => n, fun | n => n⟩
theorem Tryz.growS : Go.Proofs.Lays8.n4 Tryz.prog Tryz.growS_ren := {
  mixed := by kernel_rfl
  f4 := ⟨Tryz.f100.name, by decide, Tryz.func100.trans (congrArg some (by kernel_rfl))⟩
  t0 := Tryz.underlying0
  a0 := Tryz.isAgg0
  z0 := Tryz.sizeOf0
  v0 := Tryz.zeroValue0
  t3 := Tryz.underlying3
  a3 := Tryz.isAgg3
  z3 := Tryz.sizeOf3
  v3 := Tryz.zeroValue3
  t4 := Tryz.underlying4
  a4 := Tryz.isAgg4
  z4 := Tryz.sizeOf4
  v4 := Tryz.zeroValue4
  t9 := Tryz.underlying9
  a9 := Tryz.isAgg9
  z9 := Tryz.sizeOf9
  v9 := Tryz.zeroValue9
  t20 := Tryz.underlying20
  a20 := Tryz.isAgg20
  z20 := Tryz.sizeOf20
  v20 := Tryz.zeroValue20
  t22 := Tryz.underlying51
  a22 := Tryz.isAgg51
  z22 := Tryz.sizeOf51
  v22 := Tryz.zeroValue51 }
end Go.Proofs
/- slices.Concat at []string, by hand. -/
namespace Go.Proofs.YtailpfcbdopfeaaGreatDoor.F
open Go.RowKit Go.Proofs.YtailpfcbdopfeaaGreatDoorW.PrintWords Go.Proofs.YtailpfcbdopfeaaGreatDoorW.PrintLast Go.Proofs.YtailpfcbdopfeaaGreatDoorW.PrintMore
set_option linter.unusedVariables false
set_option linter.unusedSimpArgs false
/-- A row of rows of strings, told row by row. -/
def Rows (w : World) (ad : Addr) (L : List (List ByteArray)) : Prop := ∀ i x, L[i]? = some x → ∃ A c, w.cell? (ad.add i) = some (.slice A x.length c) ∧ x.length ≤ c ∧ Kd.C Kd.string w A x.length x
theorem Rows.below {w w' : World} {ad : Addr} {L : List (List ByteArray)} (h : Rows w ad L) (hb : Below w.heap.size w w') : Rows w' ad L := fun i x hx => by
  obtain ⟨A, c, h1, h2, h3⟩ := h i x hx
  exact ⟨A, c, (hb.cell (World.block_lt_of_cell? _ _ h1)).trans h1, h2, Kd.C_below h3 hb⟩
theorem flat_snoc {L : List (List ByteArray)} {i : Nat} {x : List ByteArray} (h : L[i]? = some x) : (L.take (i + 1)).flatten = (L.take i).flatten ++ x := by rw [take_snocG h, List.flatten_append]; simp
theorem flat_le (L : List (List ByteArray)) (i : Nat) : (L.take i).flatten.length ≤ L.flatten.length := by
  conv => rhs; rw [← List.take_append_drop i L, List.flatten_append, List.length_append]
  omega
theorem grown_row (w : World) (n : Nat) (z : Value) (hz : z.cells.size = 1) (hn : n ≤ 1000000) :
    Kd.string.R 9 (w.drew.alloc (.cells ((([] : List Value).toArray) ++ Builtin.zeroCells z.cells (0 + n - 0) ++ Builtin.zeroCells z.cells (grownCap w (0 + n) 0 9 - (0 + n))) 9)) w.heap.size (fun _ => True) (.slice (some ⟨w.heap.size, 0, none⟩) 0 (grownCap w (0 + n) 0 9)) [] := by
  have h1 := grownCap_ge w (0 + n) 0 9
  have h2 := grownCap_le_maxLen w (0 + n) 0 9 (by unfold maxLen; omega)
  generalize grownCap w (0 + n) 0 9 = G at *
  refine ⟨fun _ _ => trivial, [], ⟨rfl, .inr ⟨w.heap.size, G, _, rfl, Nat.le_refl _, heap_alloc_new _ _, Nat.zero_le _, h2, ?_, rfl⟩⟩, ⟨rfl, fun j p hj => by simp at hj⟩⟩
  simp [Builtin.zeroCells, hz]
  show _ = G * 1
  omega
set_option maxHeartbeats 2000000 in
set_option maxRecDepth 100000 in
theorem concat_calls (ad : Addr) (c : Nat) (L : List (List ByteArray)) (w : World) (hr : Rows w ad L) (hc : L.length ≤ c) (hL : L.length ≤ 100) (hp : 0 < L.flatten.length) (hl : L.flatten.length ≤ 100000) :
    Calls Tryz.prog 76 #[.slice (some ad) L.length c] w fun e w' => ∃ v, e = .returned v ∧ Kd.string.R 9 w' w.heap.size (fun _ => True) v L.flatten ∧ Below w.heap.size w w' := by
  have HR := Aside0.mk hr
  clear hr
  go_enter Tryz.func76, Tryz.ntmps76
  go_wp2
  go_loopw [3, 11] (fun v3 v11 wr => ∃ i : Nat, v11 = .int .i64 i ∧ i ≤ L.length ∧ v3 = .int .i64 (L.take i).flatten.length ∧ w = wr) (fun _ v11 _ => L.length - (intOf v11).toNat)
  case atStart => exact ⟨0, rfl, Nat.zero_le _, by rw [List.take_zero]; rfl, by first | exact rfl | trivial⟩
  case round =>
    obtain ⟨i, rfl, hi, rfl, rfl⟩ := hrel
    by_cases hlt : i < L.length
    · have hx : L[i]? = some L[i] := List.getElem?_eq_getElem hlt
      generalize L[i] = x at hx
      obtain ⟨A, cx, hz, hxc, hC⟩ := HR.out i x hx
      have hfx : (L.take (i + 1)).flatten.length = (L.take i).flatten.length + x.length := by rw [flat_snoc hx, List.length_append]
      have hle := flat_le L (i + 1)
      rw [hfx] at hle
      have HFX := Aside0.mk hfx
      clear hfx hC hx
      generalize (L.take i).flatten.length = m at *
      have hnn : ¬ ((m : Int) + (x.length : Int) < 0) := by omega
      go_wp2
      go_roundw
      case rel => exact ⟨i + 1, by go_num, by omega, by rw [HFX.out]; go_num, by first | exact rfl | trivial⟩
      case measure => simp [intOf]; omega
    · obtain rfl : i = L.length := by omega
      rw [List.take_length]
      obtain ⟨n, hn⟩ : ∃ n, L.flatten.length = n := ⟨_, rfl⟩
      have HN := Aside0.mk hn
      rw [hn] at hp hl ⊢
      clear hn
      have hz := Tryz.zeroValue9
      go_wp2_with fail
      obtain ⟨i0, hi0, hzz⟩ := Option.map_eq_some_iff.1 infoS
      simp only [Prod.mk.injEq] at hzz
      obtain ⟨hz0, hz1, hz2⟩ := hzz
      refine (Any8.slices_Grow_grow Tryz.growS i0 (.string ⟨#[]⟩) hi0 hz0 (by omega) none 0 0 n [] w (Nat.le_refl _) (by omega) (by rw [hz2]; omega) (by omega) (by simp) (fun _ => rfl) (fun a h => by cases h)).mono ?_
      rintro e w2 ⟨he, hw⟩
      have hR0 := grown_row w n (.string ⟨#[]⟩) rfl (by omega)
      have hb : Below w.heap.size w w2 := by rw [hw]; exact below_alloc (below_drew (Below.refl _ _)) _
      replace hR0 : Kd.string.R 9 w2 w.heap.size (fun _ => True) (.slice (some ⟨w.heap.size, 0, none⟩) 0 (grownCap w (0 + n) 0 9)) [] := by rw [hw]; exact hR0
      change e = .returned (.slice (some ⟨w.heap.size, 0, none⟩) 0 (grownCap w (0 + n) 0 9)) at he
      generalize grownCap w (0 + n) 0 9 = G at he hR0
      subst he
      have HR0 := Aside0.mk hR0
      have HB := Aside0.mk hb
      clear hw hR0 hb
      go_wp2
      go_loopw [6, 27] (fun v6 v27 wr => ∃ i : Nat, v27 = .int .i64 i ∧ i ≤ L.length ∧ Aside0 (Kd.string.R 9 wr w.heap.size (fun _ => True) v6 (L.take i).flatten) ∧ Aside0 (Below w.heap.size w wr)) (fun _ v27 _ => L.length - (intOf v27).toNat)
      case atStart => exact ⟨0, rfl, Nat.zero_le _, ⟨by rw [List.take_zero]; exact HR0.out⟩, HB⟩
      case round =>
        clear HR0 HB
        obtain ⟨i, rfl, hi2, HO, HB⟩ := hrel
        generalize wr = wz at *
        by_cases hlt2 : i < L.length
        · have hx : L[i]? = some L[i] := List.getElem?_eq_getElem hlt2
          generalize L[i] = x at hx
          obtain ⟨A, cx, hz3, hxc, hC⟩ := (HR.out.below HB.out) i x hx
          have hfx : (L.take (i + 1)).flatten.length = (L.take i).flatten.length + x.length := by rw [flat_snoc hx, List.length_append]
          have hle := flat_le L (i + 1)
          rw [hfx, HN.out] at hle
          have HFS := Aside0.mk (flat_snoc hx)
          have HCX := Aside0.mk hC
          clear hC hx hfx
          have hwW := HB.out.size
          obtain ⟨xs, hxs⟩ : ∃ xs, (L.take i).flatten = xs := ⟨_, rfl⟩
          rw [hxs] at HO HFS hle
          clear hxs
          go_wp2_with (first | ((with_reducible refine gate_builtin (b := .append) (xs := #[.tmp 31, .tmp 32]) rfl ?_); at_builtin; refine Kd.R_append_rows Kd.string (Rr := fun y cs => cs = [.string y]) (w0 := w) w.heap.size rfl (.tmp 31) (.tmp 32) 51 9 (.string ⟨#[]⟩) 16 rfl Tryz.underlying51 infoS rfl (by decide) (by omega) _ xs x A x.length cx (fun _ => True) (fun _ => False) rfl rfl ?aO ?aR (fun _ _ h => h) (fun _ h => h.elim) (fun _ _ => trivial) ?aB ?aS ?aL ?_; (case aO => exact HO.out); (case aR => exact HCX.out); (case aB => exact HB.out); (case aS => exact hwW); (case aL => omega); intro v' w8 ho hb hg hat; rw [← HFS.out] at ho; have HOn := Aside0.mk ho; have HBn := Aside0.mk hb; clear ho hb hg hat))
          go_roundw
          case rel => exact ⟨i + 1, by go_num, by omega, HOn, HBn⟩
          case measure => simp [intOf]; omega
        · obtain rfl : i = L.length := by omega
          rw [List.take_length] at HO
          go_wp2
          go_ret
          exact ⟨_, rfl, HO.out, HB.out⟩
end Go.Proofs.YtailpfcbdopfeaaGreatDoor.F
/- guess.names.all, by hand. -/
namespace Go.Proofs.YtailpfcbdopfeaaGreatDoor.F
open Go.RowKit Go.Proofs.YtailpfcbdopfeaaGreatDoorW.PrintWords Go.Proofs.YtailpfcbdopfeaaGreatDoorW.PrintLast Go.Proofs.YtailpfcbdopfeaaGreatDoorW.PrintMore
set_option linter.unusedVariables false
set_option linter.unusedSimpArgs false
theorem row_one (w : World) (g : Nat) (x : ByteArray) (h : w.heap[g]? = some (.cells #[.string x] 9 (0, 0))) : Kd.C Kd.string w (some ⟨g, 0, none⟩) 1 [x] := by
  refine ⟨rfl, by simp [maxLen], fun _ => ⟨⟨g, 0, none⟩, rfl, fun j p hj => ?_⟩⟩
  cases j with
  | zero =>
    simp at hj
    subst hj
    refine ⟨[.string x], rfl, rfl, fun i u hu => ?_⟩
    cases i with
    | zero =>
      simp at hu
      subst hu
      exact (blk_cell h 0).trans rfl
    | succ i => simp at hu
  | succ j => simp at hj
set_option maxHeartbeats 1000000 in
theorem all_calls (n0 n1 n2 n3 : Int) (A4 : Option Addr) (l4 c4 : Nat) (A5 : Option Addr) (l5 c5 : Nat) (Ac : Option Addr) (cc : Nat) (h : ByteArray) (As : Option Addr) (cs : Nat) (cl sl : List ByteArray) (w : World) (hC : Kd.C Kd.string w Ac cl.length cl) (hcc : cl.length ≤ cc) (hS : Kd.C Kd.string w As sl.length sl) (hcs : sl.length ≤ cs) (hl : cl.length + sl.length ≤ 1000) :
    Calls Tryz.prog 45 #[.agg (namesC n0 n1 n2 n3 A4 l4 c4 A5 l5 c5 Ac cl.length cc h As sl.length cs)] w fun e w' => ∃ v, e = .returned v ∧ Kd.string.R 9 w' w.heap.size (fun _ => True) v (cl ++ h :: sl) ∧ Below w.heap.size w w' := by
  unfold namesC
  have HC := Aside0.mk hC
  have HS := Aside0.mk hS
  clear hC hS
  obtain ⟨k0, k1, hb⟩ := box2 w (.cells #[.string ⟨#[102]⟩, .string ⟨#[108]⟩, .int .i64 n0, .int .i64 n1, .int .i64 n2, .int .i64 n3, .slice A4 l4 c4, .slice A5 l5 c5, .slice Ac cl.length cc, .string h, .slice As sl.length cs] 53) (.cells #[.string h] 9)
  have K1 := Aside0.mk k1
  have HB := Aside0.mk hb
  clear k0 k1 hb
  go_enter Tryz.func45, Tryz.ntmps45
  go_wp2_with fail
  have hsz : ((w.alloc (.cells #[.string ⟨#[102]⟩, .string ⟨#[108]⟩, .int .i64 n0, .int .i64 n1, .int .i64 n2, .int .i64 n3, .slice A4 l4 c4, .slice A5 l5 c5, .slice Ac cl.length cc, .string h, .slice As sl.length cs] 53)).alloc (.cells #[.string h] 9)).heap.size = w.heap.size + 2 := by simp
  generalize (w.alloc (.cells #[.string ⟨#[102]⟩, .string ⟨#[108]⟩, .int .i64 n0, .int .i64 n1, .int .i64 n2, .int .i64 n3, .slice A4 l4 c4, .slice A5 l5 c5, .slice Ac cl.length cc, .string h, .slice As sl.length cs] 53)).alloc (.cells #[.string h] 9) = W2 at *
  have hk2 := (box1 W2 (.cells #[.slice Ac cl.length cc, .slice (some ⟨w.heap.size + 1, 0, none⟩) 1 1, .slice As sl.length cs] 51)).1
  have hb2 := (box1 W2 (.cells #[.slice Ac cl.length cc, .slice (some ⟨w.heap.size + 1, 0, none⟩) 1 1, .slice As sl.length cs] 51)).2
  rw [hsz] at hk2
  have K2 := Aside0.mk hk2
  replace K1 := blkB K1 hb2
  replace HB := belB HB hb2
  clear hk2 hb2 hsz
  generalize W2.alloc (.cells #[.slice Ac cl.length cc, .slice (some ⟨w.heap.size + 1, 0, none⟩) 1 1, .slice As sl.length cs] 51) = W3 at *
  refine (concat_calls ⟨w.heap.size + 2, 0, none⟩ 3 [cl, [h], sl] W3 (fun i x hx => ?_) (Nat.le_refl _) (by simp) (by simp; omega) (by simp; omega)).mono ?_
  · match i, hx with
    | 0, hx =>
      simp at hx
      subst hx
      exact ⟨Ac, cc, (blk_cell K2.out 0).trans rfl, hcc, Kd.C_below HC.out HB.out⟩
    | 1, hx =>
      simp at hx
      subst hx
      exact ⟨_, 1, by rw [add_at]; exact (blk_cell K2.out 1).trans rfl, Nat.le_refl _, row_one W3 (w.heap.size + 1) h K1.out⟩
    | 2, hx =>
      simp at hx
      subst hx
      exact ⟨As, cs, by rw [add_at]; exact (blk_cell K2.out 2).trans rfl, hcs, Kd.C_below HS.out HB.out⟩
    | (i + 3), hx => simp at hx
  · rintro e w4 ⟨v, rfl, hR, hb4⟩
    have hbs := HB.out.size
    have HR := Aside0.mk (Kd.R_lower hR hbs)
    replace HB := belB HB hb4
    clear hR hb4
    go_wp2
    go_ret
    exact ⟨_, rfl, by simpa using HR.out, HB.out⟩
end Go.Proofs.YtailpfcbdopfeaaGreatDoor.F
/- The library's contracts on strings, in the printed form. -/
namespace Go.Proofs.YtailpfcbdopfeaaGreatDoor.F
open Go.RowKit Go.Proofs.YtailpfcbdopfeaaGreatDoorW.PrintWords Go.Proofs.YtailpfcbdopfeaaGreatDoorW.PrintLast Go.Proofs.YtailpfcbdopfeaaGreatDoorW.PrintMore
set_option linter.unusedVariables false
set_option linter.unusedSimpArgs false
def mkB (l : List UInt8) : ByteArray := ⟨l.toArray⟩
theorem mkB_data (s : ByteArray) : mkB s.data.toList = s := by cases s; simp [mkB]
theorem mkB_list (l : List UInt8) : (mkB l).data.toList = l := by simp [mkB]
theorem mkB_size (l : List UInt8) : (mkB l).size = l.length := by show l.toArray.size = _; simp
theorem size_data (s : ByteArray) : s.data.toList.length = s.size := by show _ = s.data.size; simp
theorem drawn_below {w w' : World} {n : Nat} (h : w' = w.drewN n) : Below w.heap.size w w' := by subst h; exact pw_below_drewN (Below.refl _ _) n
/-! ### strconv -/
def strconv_Itoa.f (x : Int) : Option ByteArray := if -9223372036854775808 ≤ x ∧ x ≤ 9223372036854775807 then some (mkB (Lib.itoa x)) else none
theorem strconv_Itoa.calls (a0 : Int) (r1 : ByteArray) (w : World) (hG : Glob w) (h : strconv_Itoa.f a0 = some r1) :
    Calls Tryz.prog 43 #[.int .i64 a0] w fun e w' => e = .returned (.string r1) ∧ Below w.heap.size w w' := by
  unfold strconv_Itoa.f at h
  split at h
  · rename_i hx
    obtain rfl := Option.some.inj h
    refine (Tryz.strconv_Itoa a0 hx.1 hx.2 w hG.tab).mono ?_
    rintro e w' ⟨rfl, k, os, rfl⟩
    exact ⟨rfl, Lib.below_grow _ w (Nat.le_refl _) k os⟩
  · cases h
/-- The number that a string is a numeral of. -/
def numB (s : ByteArray) : Option Int := match Lib.atoiAll s.data.toList with | .ok v => some v | _ => none
theorem bytesWorld_below (w : World) (e : TypeId) (t : ByteArray) : Below w.heap.size w (Lib.bytesWorld w e t) := bytes_below (Below.refl _ _) (Nat.le_refl _) e t
theorem atoi_ok (s : ByteArray) (hs : s.size ≤ 140737488355328) (v : Int) (h : numB s = some v) (w : World) :
    Calls Tryz.prog 53 #[.string s] w fun e w' => e = .returned (.tuple #[.int .i64 v, .nilIface]) ∧ Below w.heap.size w w' := by
  have ha : Lib.atoiAll s.data.toList = .ok v := by
    unfold numB at h
    split at h
    · rename_i v' hv; rw [hv]; exact congrArg _ (Option.some.inj h)
    · cases h
  refine (Tryz.strconv_Atoi_ok s (by omega) v ha w).mono ?_
  rintro e w' ⟨rfl, hw⟩
  refine ⟨rfl, ?_⟩
  rcases hw with rfl | ⟨t, rfl⟩
  · exact Below.refl _ _
  · exact bytesWorld_below _ _ _
theorem atoi_bad (s : ByteArray) (hs : s.size ≤ 140737488355328) (h : numB s = none) (w : World) (hG : Glob w) :
    ∃ n, Calls Tryz.prog 53 #[.string s] w fun e w' => ∃ N, e = .returned (.tuple #[.int .i64 n, .iface 146 (.pointer (some ⟨N, 0, none⟩))]) ∧ Below w.heap.size w w' := by
  unfold numB at h
  cases ha : Lib.atoiAll s.data.toList
  case ok v => rw [ha] at h; cases h
  case range =>
    obtain ⟨tp, p, hv⟩ := hG.rng
    refine ⟨Lib.atoiSat s.data.toList, (Tryz.strconv_Atoi_range_var s (by omega) ha tp p w hv).mono ?_⟩
    rintro e w' ⟨N, he, _, _, hb⟩
    exact ⟨N, he, hb⟩
  case «syntax» =>
    obtain ⟨tp, p, hv⟩ := hG.syn
    refine ⟨0, (Tryz.strconv_Atoi_syntax_var s (by omega) ha tp p w hv).mono ?_⟩
    rintro e w' ⟨N, he, _, _, hb⟩
    exact ⟨N, he, hb⟩
/-! ### strings -/
def splitL (s sep : ByteArray) : List ByteArray := Lib.splitB sep 0 (Lib.countB s sep) s
theorem splitL_length (s sep : ByteArray) (h : 1 ≤ sep.size) : (splitL s sep).length = Lib.countB s sep + 1 := Lib.splitB_all sep h 0 _ s rfl
theorem splitB_mem (sep : ByteArray) : ∀ (k : Nat) (s x : ByteArray), x ∈ Lib.splitB sep 0 k s → x.size ≤ s.size
  | 0, s, x, h => by rw [Lib.splitB_zero] at h; simp at h; subst h; exact Nat.le_refl _
  | k + 1, s, x, h => by
    unfold Lib.splitB at h
    split at h
    · simp at h; subst h; exact Nat.le_refl _
    · rcases List.mem_cons.1 h with rfl | h
      · simp; omega
      · have := splitB_mem sep k _ x h
        simp at this; omega
theorem splitL_mem {s sep x : ByteArray} (h : x ∈ splitL s sep) : x.size ≤ s.size := splitB_mem sep _ s x h
theorem splitB_many (sep : ByteArray) : ∀ (k : Nat) (s : ByteArray), 1 ≤ sep.size → (Lib.splitB sep 0 k s).length ≤ s.size + 1
  | 0, s, _ => by rw [Lib.splitB_zero]; simp
  | k + 1, s, h1 => by
    unfold Lib.splitB
    split
    · simp
    · rename_i hne
      rcases Lib.indexB_cases s sep with h | ⟨i, hi, hle⟩
      · exact absurd (beq_iff_eq.2 h) hne
      · have := splitB_many sep k (s.extract ((Lib.indexB s sep).toNat + sep.size) s.size) h1
        rw [hi] at this ⊢
        simp at this ⊢
        omega
theorem splitL_many (s sep : ByteArray) (h : 1 ≤ sep.size) : (splitL s sep).length ≤ s.size + 1 := splitB_many sep _ s h
theorem split_calls (s sep : ByteArray) (w : World) (hG : Glob w) (hs : s.size < 4294967281) (h1 : 1 ≤ sep.size) :
    Calls Tryz.prog 27 #[.string s, .string sep] w fun e w' => ∃ (A : Option Addr) (c : Nat), e = .returned (.slice A (splitL s sep).length c) ∧ Kd.R Kd.string 9 w' w.heap.size (fun _ => True) (.slice A (splitL s sep).length c) (splitL s sep) ∧ Below w.heap.size w w' := by
  have hl : (splitL s sep).length ≤ 9223372036854775807 := by have := splitL_many s sep h1; omega
  refine (Tryz.strings_Split_shaped s sep w hG.shaped hs h1).mono ?_
  rintro e w' ⟨rfl, rfl⟩
  have ho := own_lit_of (enc := Value.string) w w.heap.size 9 (splitL s sep) (Nat.le_refl _) hl
  refine ⟨_, _, by rw [← splitL_length s sep h1], ?_, below_alloc (Below.refl _ _) _⟩
  exact Kd.R_of_own (h1 := fun _ => rfl) ho (fun _ _ => trivial)
def cutL (s sep : ByteArray) : ByteArray × ByteArray × Bool := (mkB (Lib.cut s.data.toList sep.data.toList).1, mkB (Lib.cut s.data.toList sep.data.toList).2.1, (Lib.cut s.data.toList sep.data.toList).2.2)
theorem cutL_size (s sep : ByteArray) : (cutL s sep).1.size ≤ s.size ∧ (cutL s sep).2.1.size ≤ s.size := by
  have hp : s.data.toList.length = s.size := size_data s
  show (mkB _).size ≤ _ ∧ (mkB _).size ≤ _
  rw [mkB_size, mkB_size]
  unfold Lib.cut
  split <;> simp <;> omega
theorem cut_calls (s sep : ByteArray) (w : World) (hG : Glob w) (hs : s.size < 4294967281) :
    Calls Tryz.prog 25 #[.string s, .string sep] w fun e w' => e = .returned (.tuple #[.string (cutL s sep).1, .string (cutL s sep).2.1, .bool (cutL s sep).2.2]) ∧ Below w.heap.size w w' := by
  refine (Tryz.strings_Cut_shaped s sep w hG.shaped hs).mono ?_
  rintro e w' ⟨rfl, n, hw⟩
  exact ⟨rfl, drawn_below hw⟩
def fieldsL (s : ByteArray) : List ByteArray := (Lib.fieldsD s.data.toList).map mkB
theorem fields_calls (s : ByteArray) (w : World) (hG : Glob w) (hs : s.size < 4294967281) :
    Calls Tryz.prog 28 #[.string s] w fun e w' => ∃ (A : Option Addr) (c : Nat), e = .returned (.slice A (fieldsL s).length c) ∧ Kd.R Kd.string 9 w' w.heap.size (fun _ => True) (.slice A (fieldsL s).length c) (fieldsL s) ∧ Below w.heap.size w w' := by
  refine (Tryz.strings_Fields_any s w hs hG.asc hG.white).mono ?_
  rintro e w' ⟨A, rfl, hA, ho, hb⟩
  have hl : (Lib.fieldsD s.data.toList).length = (fieldsL s).length := by unfold fieldsL; rw [List.length_map]
  refine ⟨some ⟨A, 0, none⟩, (fieldsL s).length, by rw [hl], ?_, hb⟩
  refine Kd.R_of_own (enc := Value.string) (h1 := fun _ => rfl) ?_ (fun _ _ => trivial)
  rw [hl] at ho
  unfold encs fieldsL at *
  rw [List.map_map]
  exact ho
theorem prefix_calls (s p : ByteArray) (w : World) :
    Calls Tryz.prog 57 #[.string s, .string p] w fun e w' => e = .returned (.tuple #[.string (mkB (Lib.trimPrefix s.data.toList p.data.toList)), .bool (Lib.hasPrefix s.data.toList p.data.toList)]) ∧ Below w.heap.size w w' := by
  refine (Tryz.strings_CutPrefix s p w).mono ?_
  rintro e w' ⟨rfl, rfl⟩
  exact ⟨rfl, Below.refl _ _⟩
theorem suffix_calls (s p : ByteArray) (w : World) (hs : s.size ≤ 9223372036854775807) :
    Calls Tryz.prog 58 #[.string s, .string p] w fun e w' => e = .returned (.tuple #[.string (mkB (Lib.trimSuffix s.data.toList p.data.toList)), .bool (Lib.hasSuffix s.data.toList p.data.toList)]) ∧ Below w.heap.size w w' := by
  refine (Tryz.strings_CutSuffix s p w hs).mono ?_
  rintro e w' ⟨rfl, rfl⟩
  exact ⟨rfl, Below.refl _ _⟩
theorem join_calls (A : Option Addr) (c : Nat) (xs : List ByteArray) (sep : ByteArray) (w : World) (hr : Kd.C Kd.string w A xs.length xs) (hc : xs.length ≤ c) (hN : xs.length ≤ 1000000) (hlen : (Lib.join (xs.map (·.data.toList)) sep.data.toList).length ≤ 140737488355328) :
    Calls Tryz.prog 90 #[.slice A xs.length c, .string sep] w fun e w' => e = .returned (.string (mkB (Lib.join (xs.map (·.data.toList)) sep.data.toList))) ∧ Below w.heap.size w w' := by
  match xs, hr, hc, hN, hlen with
  | [], _, hc, _, _ =>
    refine (Tryz.strings_Join_none A c sep w).mono ?_
    rintro e w' ⟨rfl, rfl⟩
    exact ⟨rfl, Below.refl _ _⟩
  | x :: r, hr, hc, hN, hlen =>
    obtain ⟨ad, hA, h0⟩ := Kd.at_string hr 0 (by omega) (by simp)
    subst hA
    obtain ⟨b, o, sp⟩ := ad
    cases sp with
    | some q =>
      exfalso
      unfold World.cell? Addr.add at h0
      split at h0 <;> simp at h0
    | none =>
      have hcell : ∀ (j : Nat) y, (x :: r)[j]? = some y → w.cell? ⟨b, o + j, none⟩ = some (.string y) := fun j y hj => by
        obtain ⟨ad2, hA2, h2⟩ := Kd.at_string hr (j : Int) (by omega) (by have := (List.getElem?_eq_some_iff.1 hj).1; omega)
        injection hA2 with hA2
        subst hA2
        rw [Int.toNat_natCast] at h2
        have : rdOf ByteArray.empty (x :: r) (j : Int) = y := by unfold rdOf; rw [Int.toNat_natCast, List.getD_eq_getElem?_getD, hj]; rfl
        rw [this, show (⟨b, o, none⟩ : Addr).add j = ⟨b, o + j, none⟩ by unfold Addr.add; split <;> simp_all] at h2
        exact h2
      have hlt : b < w.heap.size := by
        have := hcell 0 x rfl
        rcases Nat.lt_or_ge b w.heap.size with h | h
        · exact h
        · simp [World.cell?, Array.getElem?_eq_none h] at this
      exact (Tryz.strings_Join b o c (x :: r) sep w hcell hlt (by omega) hc hlen).mono fun e w' ⟨he, hb⟩ => ⟨he, hb⟩
def strings_Join.f (xs : List ByteArray) (sep : ByteArray) : Option ByteArray := if xs.length ≤ 1000000 ∧ (Lib.join (xs.map (·.data.toList)) sep.data.toList).length ≤ 140737488355328 then some (mkB (Lib.join (xs.map (·.data.toList)) sep.data.toList)) else none
theorem strings_Join.calls (A0 : Option Addr) (c0 : Nat) (l0 : List ByteArray) (a1 : ByteArray) (r1 : ByteArray) (w : World) (hr0 : Kd.C Kd.string w A0 l0.length l0) (hc0 : l0.length ≤ c0) (h : strings_Join.f l0 a1 = some r1) :
    Calls Tryz.prog 90 #[.slice A0 l0.length c0, .string a1] w fun e w' => e = .returned (.string r1) ∧ Below w.heap.size w w' := by
  unfold strings_Join.f at h
  split at h
  · rename_i hx
    obtain rfl := Option.some.inj h
    exact join_calls A0 c0 l0 a1 w hr0 hc0 hx.1 hx.2
  · cases h
end Go.Proofs.YtailpfcbdopfeaaGreatDoor.F
namespace Go.Proofs.YtailpfcbdopfeaaGreatDoor.F
open Go.RowKit Go.Proofs.YtailpfcbdopfeaaGreatDoorW.PrintWords Go.Proofs.YtailpfcbdopfeaaGreatDoorW.PrintLast Go.Proofs.YtailpfcbdopfeaaGreatDoorW.PrintMore
attribute [local go_sem] max2_int min2_int max_two min_two max_three min_three max_four min_four
set_option linter.unusedVariables false
set_option linter.unusedSimpArgs false
/-! ### logic_Bits: function 23 -/
def logic_Bits.l0 : Nat → Int → Int → Option (Int)
 | 0, _, _ => none
 | k + 1, x0, x3 => if 0 ≤ x3 then (if (shl .i64 1 x3) < x0 then (logic_Bits.l0 k x0 (wrap64 (x3 + 1))) else (some x3)) else (none)
def logic_Bits.f (k : Nat) (a0 : Int) : Option (Int) := logic_Bits.l0 k a0 0
theorem logic_Bits.mono_l : ∀ k, (∀ y0 y1, LeO (logic_Bits.l0 k y0 y1) (logic_Bits.l0 (k + 1) y0 y1))
 | 0 => fun _ _ r h => by simp [logic_Bits.l0] at h
 | k + 1 => by
  have ih0 := logic_Bits.mono_l k
  ·intro y0 y1
   unfold logic_Bits.l0
   repeat' first
   | (with_reducible exact ih0 _ _)
   | (with_reducible exact LeO.refl _)
   | (with_reducible exact LeO.none _)
   | (with_reducible refine LeO.ite ?_ ?_)
   | (with_reducible refine LeO.bind ?_ (fun _ => ?_))
   | exact ih0 _ _
   | exact LeO.none _
   | refine LeO.ite ?_ ?_
   | refine LeO.bind ?_ (fun _ => ?_)
theorem logic_Bits.mono : ∀ a0 k, LeO (logic_Bits.f k a0) (logic_Bits.f (k + 1) a0) := by
 intro a0 k
 have ih0 := logic_Bits.mono_l k
 unfold logic_Bits.f
 repeat' first
   | (with_reducible exact ih0 _ _)
   | (with_reducible exact LeO.refl _)
   | (with_reducible exact LeO.none _)
   | (with_reducible refine LeO.ite ?_ ?_)
   | (with_reducible refine LeO.bind ?_ (fun _ => ?_))
   | exact ih0 _ _
   | exact LeO.none _
   | refine LeO.ite ?_ ?_
   | refine LeO.bind ?_ (fun _ => ?_)
set_option maxHeartbeats 8000000 in
set_option maxRecDepth 100000 in
theorem logic_Bits.calls (k : Nat) (a0 : Int) (r : Int) (w : World) (h : logic_Bits.f k a0 = some r) :
  Calls Tryz.prog 23 #[.int .i64 a0] w fun e w' => e = .returned (.int .i64 r) ∧ Drawn0 w w' := by
 have H : (logic_Bits.l0 k a0 0) = some r := h
 clear h
 have H' := Aside0.mk H
 clear H
 go_enter Tryz.func23, Tryz.ntmps23
 go_wp2
 go_loopg [3] k (fun kq v3 w' => ∃ (x3_1 : Int), v3 = .int .i64 x3_1 ∧ Aside0 (logic_Bits.l0 kq a0 x3_1 = some r) ∧ Aside0 (kq ≤ k) ∧ Drawn0 w w')
 case atStart => exact ⟨(0), eS, H', ⟨Nat.le_refl _⟩, dr0⟩
 case round =>
  clear H'
  obtain ⟨x3_1, rfl, HA, HK1, ⟨m1, rfl⟩⟩ := hrel
  cases gk with
  | zero => exact absurd HA.out (by simp [logic_Bits.l0])
  | succ k1 =>
   have H := HA.out
   clear HA
   simp only [logic_Bits.l0] at H
   by_cases c2 : 0 ≤ x3_1
   ·rw [if_pos c2] at H
    have c2b0 := eq_true c2
    have c2b1 : decide (0 ≤ x3_1) = true := decide_eq_true c2
    clear c2
    obtain ⟨ji3, hji3⟩ : ∃ j_ : Int, (shl .i64 1 x3_1) = j_ := ⟨_, rfl⟩
    replace H : (if (ji3) < a0 then (logic_Bits.l0 k1 a0 (wrap64 (x3_1 + 1))) else (some x3_1)) = some r := by first | (rw [hji3] at H; exact H) | (simp only [hji3] at H ⊢; exact H)
    have hji3_ : (IntKind.i64.wrap (1 * 2 ^ min x3_1.toNat 64)) = ji3 := hji3
    have hji3z : x3_1 ≤ 64 → (IntKind.i64.wrap (1 * 2 ^ x3_1.toNat)) = ji3 := shl_small hji3
    have hji3u : (IntKind.i64.wrap (2 ^ min x3_1.toNat 64)) = ji3 := by have h_ := hji3_; rw [Int.one_mul] at h_; exact h_
    have hji3v : x3_1 ≤ 64 → (IntKind.i64.wrap (2 ^ x3_1.toNat)) = ji3 := fun hle_ => by have h_ := hji3z hle_; rw [Int.one_mul] at h_; exact h_
    have hji3y : (wrap64 (1 * 2 ^ min x3_1.toNat 64)) = ji3 := (i64_w _).symm.trans hji3_
    have hji3x : x3_1 ≤ 64 → (wrap64 (1 * 2 ^ x3_1.toNat)) = ji3 := fun h_ => (i64_w _).symm.trans (hji3z h_)
    by_cases c4 : (ji3) < a0
    ·rw [if_pos c4] at H
     have c4b0 : decide ((ji3) < a0) = true := decide_eq_true c4
     clear c4
     have H' := Aside0.mk H
     clear H
     go_wp2
     go_roundg k1
     case measure => have := HK1.out; omega
     case rel => exact ⟨(wrap64 (x3_1 + 1)), eS, H', ⟨by have := HK1.out; omega⟩, dr0⟩
    ·rw [if_neg c4] at H
     have c4b0 : decide ((ji3) < a0) = false := decide_eq_false c4
     clear c4
     obtain rfl := Option.some.inj H
     go_wp2
     go_ret
     exact ⟨by first | rfl | (simp; done) | (simp only [← hji3] <;> (first | rfl | simp)) | (simp [*]; done), dr0⟩
   ·rw [if_neg c2] at H
    exact absurd H (by simp)
end Go.Proofs.YtailpfcbdopfeaaGreatDoor.F
/- The names of a machine's relations: words. -/
namespace Go.Proofs.YtailpfcbdopfeaaGreatDoor.F
open Go.RowKit Go.Proofs.YtailpfcbdopfeaaGreatDoorW.PrintWords Go.Proofs.YtailpfcbdopfeaaGreatDoorW.PrintLast Go.Proofs.YtailpfcbdopfeaaGreatDoorW.PrintMore
set_option linter.unusedVariables false
set_option linter.unusedSimpArgs false
theorem usual_calls (w : World) : Calls Tryz.prog 42 #[] w fun e w' => e = .returned (.agg #[.string ⟨#[102]⟩, .string ⟨#[108]⟩]) ∧ Below w.heap.size w w' := by
  go_enter Tryz.func42, Tryz.ntmps42
  go_wp2
  refine bodyPost_ret (results_single rfl (.cell w.heap.size 50 #[.string ⟨#[102]⟩, .string ⟨#[108]⟩] (0, 0) _ rfl (heap_alloc_new _ _) Tryz.underlying50 rfl (by kernel_rfl) .nil)) rfl ?_
  exact ⟨rfl, (box1 w _).2⟩
/-- How many bits. -/
def bitB (n : Int) : Nat := ((logic_Bits.f 20 n).getD 0).toNat
theorem bit_all : (List.range 401).all (fun i => i == 0 || (decide (logic_Bits.f 20 (i : Int) = some ((bitB (i : Int) : Nat) : Int)) && decide (bitB (i : Int) ≤ 9))) = true := by kernel_rfl
theorem bit_eq {n : Int} (h1 : 1 ≤ n) (h2 : n ≤ 400) : logic_Bits.f 20 n = some ((bitB n : Nat) : Int) ∧ bitB n ≤ 9 := by
  have h := List.all_eq_true.1 bit_all n.toNat (by rw [List.mem_range]; omega)
  have e : ((n.toNat : Nat) : Int) = n := by omega
  rw [e] at h
  have h0 : (n.toNat == 0) = false := by simp; omega
  rw [h0, Bool.false_or, Bool.and_eq_true] at h
  exact ⟨of_decide_eq_true h.1, of_decide_eq_true h.2⟩
/-- c, a number, m letters x. -/
def nmB (c : UInt8) (m i : Nat) : ByteArray := mkB (c :: (Lib.itoa ((i + 1 : Nat) : Int) ++ List.replicate m 120))
def hdB (m : Nat) : ByteArray := mkB (72 :: List.replicate m 120)
def rowB (c : UInt8) (y m : Nat) : List ByteArray := (List.range y).map (nmB c m)
theorem rowB_len (c : UInt8) (y m : Nat) : (rowB c y m).length = y := by simp [rowB]
theorem rowB_snoc (c : UInt8) (y m : Nat) : rowB c (y + 1) m = rowB c y m ++ [nmB c m y] := by simp [rowB, List.range_succ]
theorem nm_x (c : UInt8) (m i : Nat) : nmB c m i ++ (⟨#[120]⟩ : ByteArray) = nmB c (m + 1) i := by
  unfold nmB
  rw [List.replicate_succ']
  rw [← mkB_data (mkB (c :: (Lib.itoa ((i + 1 : Nat) : Int) ++ List.replicate m 120)) ++ (⟨#[120]⟩ : ByteArray)), ByteArray.data_append]
  simp [mkB_list]
theorem nm_0 (c : UInt8) (i : Nat) : (⟨#[c]⟩ : ByteArray) ++ mkB (Lib.itoa ((i : Int) + 1)) = nmB c 0 i := by
  unfold nmB
  rw [← mkB_data ((⟨#[c]⟩ : ByteArray) ++ mkB (Lib.itoa ((i : Int) + 1))), ByteArray.data_append]
  simp [mkB_list]
theorem hd_x (m : Nat) : hdB m ++ (⟨#[120]⟩ : ByteArray) = hdB (m + 1) := by
  unfold hdB
  rw [List.replicate_succ']
  rw [← mkB_data (mkB (72 :: List.replicate m 120) ++ (⟨#[120]⟩ : ByteArray)), ByteArray.data_append]
  simp [mkB_list]
theorem all_callsN (n0 n1 n2 n3 : Int) (A4 : Option Addr) (l4 c4 : Nat) (A5 : Option Addr) (l5 c5 : Nat) (Ac : Option Addr) (cc : Nat) (As : Option Addr) (cs : Nat) (y z m : Nat) (w : World) (hC : Kd.C Kd.string w Ac y (rowB 89 y m)) (hcc : y ≤ cc) (hS : Kd.C Kd.string w As z (rowB 90 z m)) (hcs : z ≤ cs) (hl : y + z ≤ 1000) :
    Calls Tryz.prog 45 #[.agg #[.string ⟨#[102]⟩, .string ⟨#[108]⟩, .int .i64 n0, .int .i64 n1, .int .i64 n2, .int .i64 n3, .slice A4 l4 c4, .slice A5 l5 c5, .slice Ac y cc, .string (hdB m), .slice As z cs]] w fun e w' => ∃ A c, e = .returned (.slice A (rowB 89 y m ++ hdB m :: rowB 90 z m).length c) ∧ (rowB 89 y m ++ hdB m :: rowB 90 z m).length ≤ c ∧ Kd.C Kd.string w' A (rowB 89 y m ++ hdB m :: rowB 90 z m).length (rowB 89 y m ++ hdB m :: rowB 90 z m) ∧ Below w.heap.size w w' := by
  have h := all_calls n0 n1 n2 n3 A4 l4 c4 A5 l5 c5 Ac cc (hdB m) As cs (rowB 89 y m) (rowB 90 z m) w (by rw [rowB_len]; exact hC) (by rw [rowB_len]; exact hcc) (by rw [rowB_len]; exact hS) (by rw [rowB_len]; exact hcs) (by rw [rowB_len, rowB_len]; exact hl)
  rw [rowB_len, rowB_len] at h
  refine h.mono ?_
  rintro e w' ⟨v, rfl, hR, hb⟩
  obtain ⟨A, c, rfl⟩ := Kd.R_slice hR
  obtain ⟨_, h1, h2⟩ := Kd.R_reads' hR
  exact ⟨A, c, rfl, h1, h2, hb⟩
/-- A row in which the first j names are one letter longer. -/
theorem row_step (c : UInt8) (y m j : Nat) (hj : j < y) : (((rowB c y (m + 1)).take j ++ (rowB c y m).drop j).set j (nmB c (m + 1) j)) = (rowB c y (m + 1)).take (j + 1) ++ (rowB c y m).drop (j + 1) := by
  have h1 : (rowB c y (m + 1))[j]? = some (nmB c (m + 1) j) := by simp [rowB, hj]
  have h2 : (rowB c y m).drop j = nmB c m j :: (rowB c y m).drop (j + 1) := by
    rw [List.drop_eq_getElem_cons (by rw [rowB_len]; exact hj)]
    simp [rowB]
  have hl : ((rowB c y (m + 1)).take j).length = j := by rw [List.length_take, rowB_len]; omega
  rw [take_snocG h1, h2, List.set_append_right _ _ (by omega), hl, Nat.sub_self, List.set_cons_zero, List.append_assoc]
  rfl
theorem row_at (c : UInt8) (y m j : Nat) (hj : j < y) : ((rowB c y (m + 1)).take j ++ (rowB c y m).drop j)[j]? = some (nmB c m j) := by
  have hl : ((rowB c y (m + 1)).take j).length = j := by rw [List.length_take, rowB_len]; omega
  rw [List.getElem?_append_right (by omega), hl, Nat.sub_self, List.getElem?_drop]
  simp [rowB, hj]
theorem row_len (c : UInt8) (y m j : Nat) (hj : j ≤ y) : ((rowB c y (m + 1)).take j ++ (rowB c y m).drop j).length = y := by
  rw [List.length_append, List.length_take, List.length_drop, rowB_len, rowB_len]
  omega
/-- A literal bears one of the names. -/
def takenB (ls : List S42) (y z m : Nat) : Bool := (rowB 89 y m ++ hdB m :: rowB 90 z m).any fun n => ls.any (bears n)
def sizeB (ls : List S42) : Nat := (ls.map fun l => l.f2.size).sum
theorem size_le {ls : List S42} {l : S42} (h : l ∈ ls) : l.f2.size ≤ sizeB ls := by
  induction ls with
  | nil => simp at h
  | cons x ls ih =>
    simp only [sizeB, List.map_cons, List.sum_cons]
    rcases List.mem_cons.1 h with rfl | h
    · omega
    · have := ih h
      simp only [sizeB] at this
      omega
theorem taken_size {ls : List S42} {y z m : Nat} (h : takenB ls y z m = true) : m < sizeB ls := by
  obtain ⟨n, hn, h2⟩ := List.any_eq_true.1 h
  obtain ⟨l, hl, h3⟩ := List.any_eq_true.1 h2
  have hs := size_le hl
  have hm : m < n.size := by
    rw [List.mem_append, List.mem_cons] at hn
    rcases hn with hn | rfl | hn
    · obtain ⟨i, _, rfl⟩ := List.mem_map.1 hn
      unfold nmB
      rw [mkB_size]
      simp
      omega
    · unfold hdB
      rw [mkB_size]
      simp
    · obtain ⟨i, _, rfl⟩ := List.mem_map.1 hn
      unfold nmB
      rw [mkB_size]
      simp
      omega
  have he : l.f2 = n := by
    unfold bears at h3
    split at h3
    · exact toList_inj (beq_iff_eq.1 h3)
    · cases h3
  rw [he] at hs
  omega
theorem any_calls (n0 n1 n2 n3 : Int) (A4 : Option Addr) (c4 : Nat) (ls : List S42) (A5 : Option Addr) (l5 c5 : Nat) (Ac : Option Addr) (cc : Nat) (As : Option Addr) (cs : Nat) (y z m : Nat) (A : Option Addr) (c : Nat) (w : World) (hr : Kd.C k42 w A4 ls.length ls) (hc : ls.length ≤ c4) (hA : Kd.C Kd.string w A (rowB 89 y m ++ hdB m :: rowB 90 z m).length (rowB 89 y m ++ hdB m :: rowB 90 z m)) (hAc : (rowB 89 y m ++ hdB m :: rowB 90 z m).length ≤ c) :
    Calls Tryz.prog 44 #[.slice A (rowB 89 y m ++ hdB m :: rowB 90 z m).length c, .func (.func 46) #[.agg #[.string ⟨#[102]⟩, .string ⟨#[108]⟩, .int .i64 n0, .int .i64 n1, .int .i64 n2, .int .i64 n3, .slice A4 ls.length c4, .slice A5 l5 c5, .slice Ac y cc, .string (hdB m), .slice As z cs]] #[]] w fun e w' => e = .returned (.bool (takenB ls y z m)) ∧ Below w.heap.size w w' :=
  contains_strB 46 #[.agg #[.string ⟨#[102]⟩, .string ⟨#[108]⟩, .int .i64 n0, .int .i64 n1, .int .i64 n2, .int .i64 n3, .slice A4 ls.length c4, .slice A5 l5 c5, .slice Ac y cc, .string (hdB m), .slice As z cs]] #[] (fun n => ls.any (bears n)) A c _ w (enters_of Tryz.func46 (by kernel_rfl) rfl) hA hAc (fun W x hb => taken_calls n0 n1 n2 n3 A4 c4 ls A5 l5 c5 Ac y cc (hdB m) As z cs x W (Kd.C_below hr hb) hc)
/-- How many letters x. -/
def manyF (ls : List S42) (y z : Nat) : Nat → Nat → Nat
  | 0, m => m
  | k + 1, m => if takenB ls y z m = true then manyF ls y z k (m + 1) else m
def manyB (ls : List S42) (y z : Nat) : Nat := manyF ls y z (sizeB ls) 0
end Go.Proofs.YtailpfcbdopfeaaGreatDoor.F
namespace Go.Proofs.YtailpfcbdopfeaaGreatDoor.F
open Go.RowKit Go.Proofs.YtailpfcbdopfeaaGreatDoorW.PrintWords Go.Proofs.YtailpfcbdopfeaaGreatDoorW.PrintLast Go.Proofs.YtailpfcbdopfeaaGreatDoorW.PrintMore
attribute [local go_sem] max2_int min2_int max_two min_two max_three min_three max_four min_four
set_option linter.unusedVariables false
set_option linter.unusedSimpArgs false
/-! ### paraphrastref13_Bits: function 24 -/
def paraphrastref13_Bits.l0 : Nat → Int → Int → Option (Int)
 | 0, _, _ => none
 | k + 1, x0, x3 => if 0 ≤ x3 then (if (shl .i64 1 x3) < x0 then (paraphrastref13_Bits.l0 k x0 (wrap64 (x3 + 1))) else (some x3)) else (none)
def paraphrastref13_Bits.f (k : Nat) (a0 : Int) : Option (Int) := paraphrastref13_Bits.l0 k a0 0
theorem paraphrastref13_Bits.mono_l : ∀ k, (∀ y0 y1, LeO (paraphrastref13_Bits.l0 k y0 y1) (paraphrastref13_Bits.l0 (k + 1) y0 y1))
 | 0 => fun _ _ r h => by simp [paraphrastref13_Bits.l0] at h
 | k + 1 => by
  have ih0 := paraphrastref13_Bits.mono_l k
  ·intro y0 y1
   unfold paraphrastref13_Bits.l0
   repeat' first
   | (with_reducible exact ih0 _ _)
   | (with_reducible exact LeO.refl _)
   | (with_reducible exact LeO.none _)
   | (with_reducible refine LeO.ite ?_ ?_)
   | (with_reducible refine LeO.bind ?_ (fun _ => ?_))
   | exact ih0 _ _
   | exact LeO.none _
   | refine LeO.ite ?_ ?_
   | refine LeO.bind ?_ (fun _ => ?_)
theorem paraphrastref13_Bits.mono : ∀ a0 k, LeO (paraphrastref13_Bits.f k a0) (paraphrastref13_Bits.f (k + 1) a0) := by
 intro a0 k
 have ih0 := paraphrastref13_Bits.mono_l k
 unfold paraphrastref13_Bits.f
 repeat' first
   | (with_reducible exact ih0 _ _)
   | (with_reducible exact LeO.refl _)
   | (with_reducible exact LeO.none _)
   | (with_reducible refine LeO.ite ?_ ?_)
   | (with_reducible refine LeO.bind ?_ (fun _ => ?_))
   | exact ih0 _ _
   | exact LeO.none _
   | refine LeO.ite ?_ ?_
   | refine LeO.bind ?_ (fun _ => ?_)
set_option maxHeartbeats 8000000 in
set_option maxRecDepth 100000 in
theorem paraphrastref13_Bits.calls (k : Nat) (a0 : Int) (r : Int) (w : World) (h : paraphrastref13_Bits.f k a0 = some r) :
  Calls Tryz.prog 24 #[.int .i64 a0] w fun e w' => e = .returned (.int .i64 r) ∧ Drawn0 w w' := by
 have H : (paraphrastref13_Bits.l0 k a0 0) = some r := h
 clear h
 have H' := Aside0.mk H
 clear H
 go_enter Tryz.func24, Tryz.ntmps24
 go_wp2
 go_loopg [3] k (fun kq v3 w' => ∃ (x3_1 : Int), v3 = .int .i64 x3_1 ∧ Aside0 (paraphrastref13_Bits.l0 kq a0 x3_1 = some r) ∧ Aside0 (kq ≤ k) ∧ Drawn0 w w')
 case atStart => exact ⟨(0), eS, H', ⟨Nat.le_refl _⟩, dr0⟩
 case round =>
  clear H'
  obtain ⟨x3_1, rfl, HA, HK1, ⟨m1, rfl⟩⟩ := hrel
  cases gk with
  | zero => exact absurd HA.out (by simp [paraphrastref13_Bits.l0])
  | succ k1 =>
   have H := HA.out
   clear HA
   simp only [paraphrastref13_Bits.l0] at H
   by_cases c2 : 0 ≤ x3_1
   ·rw [if_pos c2] at H
    have c2b0 := eq_true c2
    have c2b1 : decide (0 ≤ x3_1) = true := decide_eq_true c2
    clear c2
    obtain ⟨ji3, hji3⟩ : ∃ j_ : Int, (shl .i64 1 x3_1) = j_ := ⟨_, rfl⟩
    replace H : (if (ji3) < a0 then (paraphrastref13_Bits.l0 k1 a0 (wrap64 (x3_1 + 1))) else (some x3_1)) = some r := by first | (rw [hji3] at H; exact H) | (simp only [hji3] at H ⊢; exact H)
    have hji3_ : (IntKind.i64.wrap (1 * 2 ^ min x3_1.toNat 64)) = ji3 := hji3
    have hji3z : x3_1 ≤ 64 → (IntKind.i64.wrap (1 * 2 ^ x3_1.toNat)) = ji3 := shl_small hji3
    have hji3u : (IntKind.i64.wrap (2 ^ min x3_1.toNat 64)) = ji3 := by have h_ := hji3_; rw [Int.one_mul] at h_; exact h_
    have hji3v : x3_1 ≤ 64 → (IntKind.i64.wrap (2 ^ x3_1.toNat)) = ji3 := fun hle_ => by have h_ := hji3z hle_; rw [Int.one_mul] at h_; exact h_
    have hji3y : (wrap64 (1 * 2 ^ min x3_1.toNat 64)) = ji3 := (i64_w _).symm.trans hji3_
    have hji3x : x3_1 ≤ 64 → (wrap64 (1 * 2 ^ x3_1.toNat)) = ji3 := fun h_ => (i64_w _).symm.trans (hji3z h_)
    by_cases c4 : (ji3) < a0
    ·rw [if_pos c4] at H
     have c4b0 : decide ((ji3) < a0) = true := decide_eq_true c4
     clear c4
     have H' := Aside0.mk H
     clear H
     go_wp2
     go_roundg k1
     case measure => have := HK1.out; omega
     case rel => exact ⟨(wrap64 (x3_1 + 1)), eS, H', ⟨by have := HK1.out; omega⟩, dr0⟩
    ·rw [if_neg c4] at H
     have c4b0 : decide ((ji3) < a0) = false := decide_eq_false c4
     clear c4
     obtain rfl := Option.some.inj H
     go_wp2
     go_ret
     exact ⟨by first | rfl | (simp; done) | (simp only [← hji3] <;> (first | rfl | simp)) | (simp [*]; done), dr0⟩
   ·rw [if_neg c2] at H
    exact absurd H (by simp)
end Go.Proofs.YtailpfcbdopfeaaGreatDoor.F
/- GuessRelations, the plain law: the bits. -/
namespace Go.Proofs.YtailpfcbdopfeaaGreatDoor.F
open Go.RowKit Go.Proofs.YtailpfcbdopfeaaGreatDoorW.PrintWords Go.Proofs.YtailpfcbdopfeaaGreatDoorW.PrintLast Go.Proofs.YtailpfcbdopfeaaGreatDoorW.PrintMore
set_option linter.unusedVariables false
set_option linter.unusedSimpArgs false
theorem bitr_all : (List.range 401).all (fun i => i == 0 || decide (paraphrastref13_Bits.f 20 (i : Int) = some ((bitB (i : Int) : Nat) : Int))) = true := by kernel_rfl
theorem bitr_eq {n : Int} (h1 : 1 ≤ n) (h2 : n ≤ 400) : paraphrastref13_Bits.f 20 n = some ((bitB n : Nat) : Int) := by
  have h := List.all_eq_true.1 bitr_all n.toNat (by rw [List.mem_range]; omega)
  have e : ((n.toNat : Nat) : Int) = n := by omega
  rw [e] at h
  have h0 : (n.toNat == 0) = false := by simp; omega
  rw [h0, Bool.false_or] at h
  exact of_decide_eq_true h
end Go.Proofs.YtailpfcbdopfeaaGreatDoor.F
namespace Go.Proofs.YtailpfcbdopfeaaGreatDoor.F
open Go.RowKit Go.Proofs.YtailpfcbdopfeaaGreatDoorW.PrintWords Go.Proofs.YtailpfcbdopfeaaGreatDoorW.PrintLast Go.Proofs.YtailpfcbdopfeaaGreatDoorW.PrintMore
attribute [local go_sem] max2_int min2_int max_two min_two max_three min_three max_four min_four
set_option linter.unusedVariables false
set_option linter.unusedSimpArgs false
/-! ### paraphrastref18_names: function 35 -/
mutual
def paraphrastref18_names.l0 : Nat → Int → Int → Int → ByteArray → Int → Option (List ByteArray)
 | 0, _, _, _, _, _ => none
 | k + 1, x0, x1, x2, x7, x8 => if x8 < x2 then (if x7.size + 1 ≤ 9223372036854775807 then (paraphrastref18_names.l0 k x0 x1 x2 (x7 ++ (⟨#[120]⟩ : ByteArray)) (wrap64 (x8 + 1))) else (none)) else (paraphrastref18_names.l1 k x0 x1 x7 ([] : List ByteArray) 1)
def paraphrastref18_names.l1 : Nat → Int → Int → ByteArray → List ByteArray → Int → Option (List ByteArray)
 | 0, _, _, _, _, _ => none
 | k + 1, x0, x1, x7, x9, x10 => if x10 ≤ x0 then ((strconv_Itoa.f x10).bind fun t176 => (if 1 + t176.size ≤ 9223372036854775807 then (if ((⟨#[89]⟩ : ByteArray) ++ t176).size + x7.size ≤ 9223372036854775807 then (if x9.length < 8796093022208 then (paraphrastref18_names.l1 k x0 x1 x7 (x9 ++ [((⟨#[89]⟩ : ByteArray) ++ t176) ++ x7]) (wrap64 (x10 + 1))) else (none)) else (none)) else (none))) else (if 1 + x7.size ≤ 9223372036854775807 then (if x9.length < 8796093022208 then (paraphrastref18_names.l2 k x1 x7 (x9 ++ [(⟨#[72]⟩ : ByteArray) ++ x7]) 1) else (none)) else (none))
def paraphrastref18_names.l2 : Nat → Int → ByteArray → List ByteArray → Int → Option (List ByteArray)
 | 0, _, _, _, _ => none
 | k + 1, x1, x7, x9, x11 => if x11 ≤ x1 then ((strconv_Itoa.f x11).bind fun t183 => (if 1 + t183.size ≤ 9223372036854775807 then (if ((⟨#[90]⟩ : ByteArray) ++ t183).size + x7.size ≤ 9223372036854775807 then (if x9.length < 8796093022208 then (paraphrastref18_names.l2 k x1 x7 (x9 ++ [((⟨#[90]⟩ : ByteArray) ++ t183) ++ x7]) (wrap64 (x11 + 1))) else (none)) else (none)) else (none))) else (some x9)
end
def paraphrastref18_names.f (k : Nat) (a0 : Int) (a1 : Int) (a2 : Int) : Option (List ByteArray) := paraphrastref18_names.l0 k a0 a1 a2 (⟨#[]⟩ : ByteArray) 0
set_option maxHeartbeats 8000000 in
set_option maxRecDepth 100000 in
theorem paraphrastref18_names.calls (k : Nat) (a0 : Int) (a1 : Int) (a2 : Int) (r : List ByteArray) (w : World) (hG : Glob w) (h : paraphrastref18_names.f k a0 a1 a2 = some r) :
  Calls Tryz.prog 35 #[.int .i64 a0, .int .i64 a1, .int .i64 a2] w fun e w' => ∃ v0_ : Value, e = .returned (v0_) ∧ Kd.R Kd.string 9 w' w.heap.size (fun _ => True) v0_ r ∧ Below w.heap.size w w' := by
 have HG := Aside0.mk hG
 clear hG
 have HB := Aside0.mk (Below.refl w.heap.size w)
 have H : (paraphrastref18_names.l0 k a0 a1 a2 (⟨#[]⟩ : ByteArray) 0) = some r := h
 clear h
 have H' := Aside0.mk H
 clear H
 go_enter Tryz.func35, Tryz.ntmps35
 go_wp2
 go_loopg [7, 8] k (fun kq v7 v8 w' => ∃ (x7_1 : ByteArray) (x8_1 : Int), v7 = .string x7_1 ∧ v8 = .int .i64 x8_1 ∧ Aside0 (paraphrastref18_names.l0 kq a0 a1 a2 x7_1 x8_1 = some r) ∧ Aside0 (kq ≤ k) ∧ Aside0 (Below w.heap.size w w'))
 case atStart => exact ⟨((⟨#[]⟩ : ByteArray)), (0), eS, eS, H', ⟨Nat.le_refl _⟩, ⟨bel⟩⟩
 case round =>
  clear H'
  obtain ⟨x7_1, x8_1, rfl, rfl, HA, HK1, HB⟩ := hrel
  cases gk with
  | zero => exact absurd HA.out (by simp [paraphrastref18_names.l0])
  | succ k1 =>
   have H := HA.out
   clear HA
   simp only [paraphrastref18_names.l0] at H
   by_cases c4 : x8_1 < a2
   ·rw [if_pos c4] at H
    have c4b0 : decide (x8_1 < a2) = true := decide_eq_true c4
    clear c4
    by_cases c5 : x7_1.size + 1 ≤ 9223372036854775807
    ·rw [if_pos c5] at H
     have c5b0 := eq_true c5
     have c5b1 : decide (x7_1.size + 1 ≤ 9223372036854775807) = true := decide_eq_true c5
     try have c5b2 : (9223372036854775807 < x7_1.size + 1) = False := eq_false (Nat.not_lt.2 c5)
     have H' := Aside0.mk H
     clear H
     go_wp2
     go_roundg k1
     case measure => have := HK1.out; omega
     case rel => exact ⟨(x7_1 ++ (⟨#[120]⟩ : ByteArray)), (wrap64 (x8_1 + 1)), eS, eS, H', ⟨by have := HK1.out; omega⟩, ⟨bel⟩⟩
    ·rw [if_neg c5] at H
     exact absurd H (by simp)
   ·rw [if_neg c4] at H
    have c4b0 : decide (x8_1 < a2) = false := decide_eq_false c4
    clear c4
    have H' := Aside0.mk H
    clear H
    go_wp2
    go_loopg [9, 10] k1 (fun kq v9 v10 w' => ∃ (x9_2 : List ByteArray) (x10_2 : Int), v10 = .int .i64 x10_2 ∧ Aside0 (paraphrastref18_names.l1 kq a0 a1 x7_1 x9_2 x10_2 = some r) ∧ Aside0 (kq ≤ k1) ∧ Aside0 (Kd.R Kd.string 9 w' w.heap.size (fun _ => True) v9 x9_2) ∧ Aside0 (Below w.heap.size w w'))
    case atStart => exact ⟨(([] : List ByteArray)), (1), eS, H', ⟨Nat.le_refl _⟩, ⟨by first | exact Kd.R_nil _ _ _ _ _ | exact Kd.N_nil _ _ _ _ _ | exact Kd.V_nil _ _ _ _ _ | exact Kd.Q_nil _ _ _ _ _ | exact Kd.S_nil _ _ _ _ _⟩, ⟨bel⟩⟩
    case round =>
     clear H'
     (try clear c4); (try clear c4b0)
     obtain ⟨x9_2, x10_2, rfl, HA, HK2, HO_9, HB⟩ := hrel
     cases gk with
     | zero => exact absurd HA.out (by simp [paraphrastref18_names.l1])
     | succ k2 =>
      have H := HA.out
      clear HA
      simp only [paraphrastref18_names.l1] at H
      by_cases c6 : x10_2 ≤ a0
      ·rw [if_pos c6] at H
       have c6b0 : decide (x10_2 ≤ a0) = true := decide_eq_true c6
       clear c6
       replace H := Option.bind_eq_some_iff.mp H
       obtain ⟨t176, A70, H⟩ := H
       replace H : (if 1 + t176.size ≤ 9223372036854775807 then (if ((⟨#[89]⟩ : ByteArray) ++ t176).size + x7_1.size ≤ 9223372036854775807 then (if x9_2.length < 8796093022208 then (paraphrastref18_names.l1 k2 a0 a1 x7_1 (x9_2 ++ [((⟨#[89]⟩ : ByteArray) ++ t176) ++ x7_1]) (wrap64 (x10_2 + 1))) else (none)) else (none)) else (none)) = some r := H
       have A7 := Aside0.mk A70
       clear A70
       by_cases c8 : 1 + t176.size ≤ 9223372036854775807
       ·rw [if_pos c8] at H
        have c8b0 := eq_true c8
        have c8b1 : decide (1 + t176.size ≤ 9223372036854775807) = true := decide_eq_true c8
        try have c8b2 : (9223372036854775807 < 1 + t176.size) = False := eq_false (Nat.not_lt.2 c8)
        by_cases c9 : ((⟨#[89]⟩ : ByteArray) ++ t176).size + x7_1.size ≤ 9223372036854775807
        ·rw [if_pos c9] at H
         have c9b0 := eq_true c9
         have c9b1 : decide (((⟨#[89]⟩ : ByteArray) ++ t176).size + x7_1.size ≤ 9223372036854775807) = true := decide_eq_true c9
         try have c9b2 : (9223372036854775807 < ((⟨#[89]⟩ : ByteArray) ++ t176).size + x7_1.size) = False := eq_false (Nat.not_lt.2 c9)
         try have c9b3 : (9223372036854775807 < 1 + t176.size + x7_1.size) = False := by have h_ := c9; simp only [ByteArray.size_append] at h_; exact eq_false (Nat.not_lt.2 h_)
         by_cases c10 : x9_2.length < 8796093022208
         ·rw [if_pos c10] at H
          have LMc10 := Aside0.mk c10
          clear c10
          obtain ⟨y177, hy177⟩ : ∃ y_ : List ByteArray, y_ = (x9_2 ++ [((⟨#[89]⟩ : ByteArray) ++ t176) ++ x7_1]) := ⟨_, rfl⟩
          replace H : (paraphrastref18_names.l1 k2 a0 a1 x7_1 y177 (wrap64 (x10_2 + 1))) = some r := by first | (rw [hy177]; with_reducible exact H) | (have H2_ := (Option.bind_some _ _).symm.trans H; rw [hy177]; with_reducible exact H2_) | (have H2_ := (Option.bind_some _ _).symm.trans H; with_reducible exact H2_) | with_reducible exact H | (rw [hy177]; exact H) | exact H
          have Ny177 := Aside0.mk hy177
          clear hy177
          have H' := Aside0.mk H
          clear H
          go_wp2_with (first | ((with_reducible refine gate_callee (f := 43) rfl ?_); refine gL (some 26) Tryz.func43 #[.int .i64 x10_2] ?_; (with_reducible refine (strconv_Itoa.calls x10_2 t176 _ ?side1 A7.out).mono ?_); (case side1 => first | exact HG.out | exact Glob.below HG.out bel); rintro e w11 ⟨rfl, hb⟩; refine ⟨_, rfl, ?_⟩; replace HO_9 := rD HO_9 hb; replace HB := Aside0.mk (below_step bel hb); (try clear hb); (try clear hb2); (try clear hk); (try clear hi)) | ((with_reducible refine gate_builtin (b := .append) (xs := #[.tmp 24, .tmp 30]) rfl ?_); at_builtin; refine Kd.R_append Kd.string (w0 := w) w.heap.size rfl (.tmp 24) (.tmp 30) 51 9 (.string ⟨#[]⟩) 16 rfl Tryz.underlying51 info9 rfl (by decide) (by omega) u9 x9_2 (((⟨#[89]⟩ : ByteArray) ++ t176) ++ x7_1) [.string (((⟨#[89]⟩ : ByteArray) ++ t176) ++ x7_1)] (fun _ => True) (fun _ => False) rfl rfl ?aP (fun _ hk => hk.elim) ?aF ?aO ?aB ?aS ?aL ?_; (case aP => exact rfl); (case aB => exact bel); (case aF => exact (fun _ _ => trivial)); (case aO => exact (tw HO_9.out)); (case aS => exact (below_size bel)); (case aL => have := LMc10.out; omega); intro v178 w12 ho hb hg hat; rw [← Ny177.out] at ho; have HO179 := Aside0.mk (ho); replace HB := Aside0.mk (hb); clear HO_9; clear ho hb hg hat))
          go_roundg k2
          case measure => have := HK1.out; have := HK2.out; omega
          case rel => exact ⟨(y177), (wrap64 (x10_2 + 1)), eS, H', ⟨by have := HK1.out; have := HK2.out; omega⟩, ⟨by (with_reducible repeat (first | apply Kd.R_alloc | apply Kd.R_drewN | apply Kd.R_drew)); exact HO179.out⟩, ⟨bel⟩⟩
         ·rw [if_neg c10] at H
          exact absurd H (by simp)
        ·rw [if_neg c9] at H
         exact absurd H (by simp)
       ·rw [if_neg c8] at H
        exact absurd H (by simp)
      ·rw [if_neg c6] at H
       have c6b0 : decide (x10_2 ≤ a0) = false := decide_eq_false c6
       clear c6
       by_cases c13 : 1 + x7_1.size ≤ 9223372036854775807
       ·rw [if_pos c13] at H
        have c13b0 := eq_true c13
        have c13b1 : decide (1 + x7_1.size ≤ 9223372036854775807) = true := decide_eq_true c13
        try have c13b2 : (9223372036854775807 < 1 + x7_1.size) = False := eq_false (Nat.not_lt.2 c13)
        by_cases c14 : x9_2.length < 8796093022208
        ·rw [if_pos c14] at H
         have LMc14 := Aside0.mk c14
         clear c14
         obtain ⟨y180, hy180⟩ : ∃ y_ : List ByteArray, y_ = (x9_2 ++ [(⟨#[72]⟩ : ByteArray) ++ x7_1]) := ⟨_, rfl⟩
         replace H : (paraphrastref18_names.l2 k2 a1 x7_1 y180 1) = some r := by first | (rw [hy180]; with_reducible exact H) | (have H2_ := (Option.bind_some _ _).symm.trans H; rw [hy180]; with_reducible exact H2_) | (have H2_ := (Option.bind_some _ _).symm.trans H; with_reducible exact H2_) | with_reducible exact H | (rw [hy180]; exact H) | exact H
         have Ny180 := Aside0.mk hy180
         clear hy180
         have H' := Aside0.mk H
         clear H
         go_wp2_with (first | ((with_reducible refine gate_builtin (b := .append) (xs := #[.tmp 32, .tmp 35]) rfl ?_); at_builtin; refine Kd.R_append Kd.string (w0 := w) w.heap.size rfl (.tmp 32) (.tmp 35) 51 9 (.string ⟨#[]⟩) 16 rfl Tryz.underlying51 info9 rfl (by decide) (by omega) u9 x9_2 ((⟨#[72]⟩ : ByteArray) ++ x7_1) [.string ((⟨#[72]⟩ : ByteArray) ++ x7_1)] (fun _ => True) (fun _ => False) rfl rfl ?aP (fun _ hk => hk.elim) ?aF ?aO ?aB ?aS ?aL ?_; (case aP => exact rfl); (case aB => exact bel); (case aF => exact (fun _ _ => trivial)); (case aO => exact (tw HO_9.out)); (case aS => exact (below_size bel)); (case aL => have := LMc14.out; omega); intro v181 w15 ho hb hg hat; rw [← Ny180.out] at ho; have HO182 := Aside0.mk (ho); replace HB := Aside0.mk (hb); clear HO_9; clear ho hb hg hat))
         go_loopg [9, 11] k2 (fun kq v9 v11 w' => ∃ (x9_3 : List ByteArray) (x11_3 : Int), v11 = .int .i64 x11_3 ∧ Aside0 (paraphrastref18_names.l2 kq a1 x7_1 x9_3 x11_3 = some r) ∧ Aside0 (kq ≤ k2) ∧ Aside0 (Kd.R Kd.string 9 w' w.heap.size (fun _ => True) v9 x9_3) ∧ Aside0 (Below w.heap.size w w'))
         case atStart => exact ⟨(y180), (1), eS, H', ⟨Nat.le_refl _⟩, ⟨by (with_reducible repeat (first | apply Kd.R_alloc | apply Kd.R_drewN | apply Kd.R_drew)); exact HO182.out⟩, ⟨bel⟩⟩
         case round =>
          clear H'
          (try clear c4); (try clear c4b0); (try clear c6); (try clear c6b0); (try clear c13); (try clear c13b0); (try clear c13b1); (try clear c13b2); (try clear c14)
          obtain ⟨x9_3, x11_3, rfl, HA, HK3, HO_9, HB⟩ := hrel
          cases gk with
          | zero => exact absurd HA.out (by simp [paraphrastref18_names.l2])
          | succ k3 =>
           have H := HA.out
           clear HA
           simp only [paraphrastref18_names.l2] at H
           by_cases c16 : x11_3 ≤ a1
           ·rw [if_pos c16] at H
            have c16b0 : decide (x11_3 ≤ a1) = true := decide_eq_true c16
            clear c16
            replace H := Option.bind_eq_some_iff.mp H
            obtain ⟨t183, A170, H⟩ := H
            replace H : (if 1 + t183.size ≤ 9223372036854775807 then (if ((⟨#[90]⟩ : ByteArray) ++ t183).size + x7_1.size ≤ 9223372036854775807 then (if x9_3.length < 8796093022208 then (paraphrastref18_names.l2 k3 a1 x7_1 (x9_3 ++ [((⟨#[90]⟩ : ByteArray) ++ t183) ++ x7_1]) (wrap64 (x11_3 + 1))) else (none)) else (none)) else (none)) = some r := H
            have A17 := Aside0.mk A170
            clear A170
            by_cases c18 : 1 + t183.size ≤ 9223372036854775807
            ·rw [if_pos c18] at H
             have c18b0 := eq_true c18
             have c18b1 : decide (1 + t183.size ≤ 9223372036854775807) = true := decide_eq_true c18
             try have c18b2 : (9223372036854775807 < 1 + t183.size) = False := eq_false (Nat.not_lt.2 c18)
             by_cases c19 : ((⟨#[90]⟩ : ByteArray) ++ t183).size + x7_1.size ≤ 9223372036854775807
             ·rw [if_pos c19] at H
              have c19b0 := eq_true c19
              have c19b1 : decide (((⟨#[90]⟩ : ByteArray) ++ t183).size + x7_1.size ≤ 9223372036854775807) = true := decide_eq_true c19
              try have c19b2 : (9223372036854775807 < ((⟨#[90]⟩ : ByteArray) ++ t183).size + x7_1.size) = False := eq_false (Nat.not_lt.2 c19)
              try have c19b3 : (9223372036854775807 < 1 + t183.size + x7_1.size) = False := by have h_ := c19; simp only [ByteArray.size_append] at h_; exact eq_false (Nat.not_lt.2 h_)
              by_cases c20 : x9_3.length < 8796093022208
              ·rw [if_pos c20] at H
               have LMc20 := Aside0.mk c20
               clear c20
               obtain ⟨y184, hy184⟩ : ∃ y_ : List ByteArray, y_ = (x9_3 ++ [((⟨#[90]⟩ : ByteArray) ++ t183) ++ x7_1]) := ⟨_, rfl⟩
               replace H : (paraphrastref18_names.l2 k3 a1 x7_1 y184 (wrap64 (x11_3 + 1))) = some r := by first | (rw [hy184]; with_reducible exact H) | (have H2_ := (Option.bind_some _ _).symm.trans H; rw [hy184]; with_reducible exact H2_) | (have H2_ := (Option.bind_some _ _).symm.trans H; with_reducible exact H2_) | with_reducible exact H | (rw [hy184]; exact H) | exact H
               have Ny184 := Aside0.mk hy184
               clear hy184
               have H' := Aside0.mk H
               clear H
               go_wp2_with (first | ((with_reducible refine gate_callee (f := 43) rfl ?_); refine gL (some 44) Tryz.func43 #[.int .i64 x11_3] ?_; (with_reducible refine (strconv_Itoa.calls x11_3 t183 _ ?side1 A17.out).mono ?_); (case side1 => first | exact HG.out | exact Glob.below HG.out bel); rintro e w21 ⟨rfl, hb⟩; refine ⟨_, rfl, ?_⟩; replace HO_9 := rD HO_9 hb; replace HB := Aside0.mk (below_step bel hb); (try clear hb); (try clear hb2); (try clear hk); (try clear hi)) | ((with_reducible refine gate_builtin (b := .append) (xs := #[.tmp 42, .tmp 48]) rfl ?_); at_builtin; refine Kd.R_append Kd.string (w0 := w) w.heap.size rfl (.tmp 42) (.tmp 48) 51 9 (.string ⟨#[]⟩) 16 rfl Tryz.underlying51 info9 rfl (by decide) (by omega) u9 x9_3 (((⟨#[90]⟩ : ByteArray) ++ t183) ++ x7_1) [.string (((⟨#[90]⟩ : ByteArray) ++ t183) ++ x7_1)] (fun _ => True) (fun _ => False) rfl rfl ?aP (fun _ hk => hk.elim) ?aF ?aO ?aB ?aS ?aL ?_; (case aP => exact rfl); (case aB => exact bel); (case aF => exact (fun _ _ => trivial)); (case aO => exact (tw HO_9.out)); (case aS => exact (below_size bel)); (case aL => have := LMc20.out; omega); intro v185 w22 ho hb hg hat; rw [← Ny184.out] at ho; have HO186 := Aside0.mk (ho); replace HB := Aside0.mk (hb); clear HO_9; clear ho hb hg hat))
               go_roundg k3
               case measure => have := HK1.out; have := HK2.out; have := HK3.out; omega
               case rel => exact ⟨(y184), (wrap64 (x11_3 + 1)), eS, H', ⟨by have := HK1.out; have := HK2.out; have := HK3.out; omega⟩, ⟨by (with_reducible repeat (first | apply Kd.R_alloc | apply Kd.R_drewN | apply Kd.R_drew)); exact HO186.out⟩, ⟨bel⟩⟩
              ·rw [if_neg c20] at H
               exact absurd H (by simp)
             ·rw [if_neg c19] at H
              exact absurd H (by simp)
            ·rw [if_neg c18] at H
             exact absurd H (by simp)
           ·rw [if_neg c16] at H
            have c16b0 : decide (x11_3 ≤ a1) = false := decide_eq_false c16
            clear c16
            obtain rfl := Option.some.inj H
            go_wp2
            go_ret
            exact ⟨_, eN, by (with_reducible repeat (first | apply Kd.R_alloc | apply Kd.R_drewN | apply Kd.R_drew)); exact HO_9.out, bel⟩
        ·rw [if_neg c14] at H
         exact absurd H (by simp)
       ·rw [if_neg c13] at H
        exact absurd H (by simp)
end Go.Proofs.YtailpfcbdopfeaaGreatDoor.F
/- GuessRelations, the plain law: the names. -/
namespace Go.Proofs.YtailpfcbdopfeaaGreatDoor.F
open Go.RowKit Go.Proofs.YtailpfcbdopfeaaGreatDoorW.PrintWords Go.Proofs.YtailpfcbdopfeaaGreatDoorW.PrintLast Go.Proofs.YtailpfcbdopfeaaGreatDoorW.PrintMore
set_option linter.unusedVariables false
set_option linter.unusedSimpArgs false
theorem nm_join (c : UInt8) (m i : Nat) : ((⟨#[c]⟩ : ByteArray) ++ mkB (Lib.itoa ((i + 1 : Nat) : Int))) ++ mkB (List.replicate m 120) = nmB c m i := by
  unfold nmB
  rw [← mkB_data (((⟨#[c]⟩ : ByteArray) ++ mkB (Lib.itoa ((i + 1 : Nat) : Int))) ++ mkB (List.replicate m 120)), ByteArray.data_append, ByteArray.data_append]
  simp [mkB_list]
theorem itoa_some {i : Nat} (h : i ≤ 1000) : strconv_Itoa.f ((i + 1 : Nat) : Int) = some (mkB (Lib.itoa ((i + 1 : Nat) : Int))) := by
  unfold strconv_Itoa.f
  rw [if_pos (by omega)]
theorem itoa_sz {i : Nat} (h : i ≤ 1000) : (mkB (Lib.itoa ((i + 1 : Nat) : Int))).size ≤ 21 := by
  rw [mkB_size]
  exact Lib.itoa_length_le _ (by omega) (by omega)
theorem names2 (z m : Nat) (hz : z ≤ 100) (hm : m ≤ 200000000) : ∀ (d i k : Nat) (out : List ByteArray), i + d = z → d + 1 ≤ k → out.length ≤ 1000 + i →
    paraphrastref18_names.l2 k (z : Int) (mkB (List.replicate m 120)) out ((i + 1 : Nat) : Int) = some (out ++ ((List.range z).drop i).map (nmB 90 m))
  | 0, i, k + 1, out, h, hk, ho => by
    unfold paraphrastref18_names.l2
    rw [if_neg (by omega)]
    have : (List.range z).drop i = [] := by rw [List.drop_eq_nil_iff, List.length_range]; omega
    rw [this]
    simp
  | d + 1, i, k + 1, out, h, hk, ho => by
    have hsz := itoa_sz (i := i) (by omega)
    have ht : (mkB (List.replicate m 120)).size = m := by rw [mkB_size, List.length_replicate]
    have ih := names2 z m hz hm d (i + 1) k (out ++ [nmB 90 m i]) (by omega) (by omega) (by rw [List.length_append, List.length_singleton]; omega)
    unfold paraphrastref18_names.l2
    rw [if_pos (by omega), itoa_some (by omega), Option.bind_some, if_pos (by omega), if_pos (by rw [ByteArray.size_append, ht]; show 1 + _ + _ ≤ _; omega), if_pos (by omega), nm_join]
    rw [show wrap64 (((i + 1 : Nat) : Int) + 1) = ((i + 1 + 1 : Nat) : Int) by unfold wrap64; omega, ih]
    have hd : (List.range z).drop i = i :: (List.range z).drop (i + 1) := by
      rw [List.drop_eq_getElem_cons (by rw [List.length_range]; omega)]
      simp
    rw [hd]
    simp
theorem hd_join (m : Nat) : (⟨#[72]⟩ : ByteArray) ++ mkB (List.replicate m 120) = hdB m := by
  unfold hdB
  rw [← mkB_data ((⟨#[72]⟩ : ByteArray) ++ mkB (List.replicate m 120)), ByteArray.data_append]
  simp [mkB_list]
theorem names1 (y z m : Nat) (hy : y ≤ 100) (hz : z ≤ 100) (hm : m ≤ 200000000) : ∀ (d i k : Nat) (out : List ByteArray), i + d = y → d + z + 2 ≤ k → out.length ≤ i →
    paraphrastref18_names.l1 k (y : Int) (z : Int) (mkB (List.replicate m 120)) out ((i + 1 : Nat) : Int) = some (out ++ (((List.range y).drop i).map (nmB 89 m) ++ hdB m :: rowB 90 z m))
  | 0, i, k + 1, out, h, hk, ho => by
    have ht : (mkB (List.replicate m 120)).size = m := by rw [mkB_size, List.length_replicate]
    have h2 := names2 z m hz hm z 0 k (out ++ [hdB m]) (by omega) (by omega) (by rw [List.length_append, List.length_singleton]; omega)
    unfold paraphrastref18_names.l1
    rw [if_neg (by omega), if_pos (by omega), if_pos (by omega), hd_join]
    have hd : (List.range y).drop i = [] := by rw [List.drop_eq_nil_iff, List.length_range]; omega
    rw [hd]
    refine Eq.trans h2 ?_
    simp [rowB]
  | d + 1, i, k + 1, out, h, hk, ho => by
    have hsz := itoa_sz (i := i) (by omega)
    have ht : (mkB (List.replicate m 120)).size = m := by rw [mkB_size, List.length_replicate]
    have ih := names1 y z m hy hz hm d (i + 1) k (out ++ [nmB 89 m i]) (by omega) (by omega) (by rw [List.length_append, List.length_singleton]; omega)
    unfold paraphrastref18_names.l1
    rw [if_pos (by omega), itoa_some (by omega), Option.bind_some, if_pos (by omega), if_pos (by rw [ByteArray.size_append, ht]; show 1 + _ + _ ≤ _; omega), if_pos (by omega), nm_join]
    rw [show wrap64 (((i + 1 : Nat) : Int) + 1) = ((i + 1 + 1 : Nat) : Int) by unfold wrap64; omega, ih]
    have hd : (List.range y).drop i = i :: (List.range y).drop (i + 1) := by
      rw [List.drop_eq_getElem_cons (by rw [List.length_range]; omega)]
      simp
    rw [hd]
    simp
theorem names0 (y z m : Nat) (hy : y ≤ 100) (hz : z ≤ 100) (hm : m ≤ 200000000) : ∀ (d i k : Nat), i + d = m → d + y + z + 3 ≤ k →
    paraphrastref18_names.l0 k (y : Int) (z : Int) (m : Int) (mkB (List.replicate i 120)) (i : Int) = some (rowB 89 y m ++ hdB m :: rowB 90 z m)
  | 0, i, k + 1, h, hk => by
    obtain rfl : i = m := by omega
    have h1 := names1 y z i hy hz hm y 0 k [] (by omega) (by omega) (by simp)
    unfold paraphrastref18_names.l0
    rw [if_neg (by omega)]
    refine Eq.trans h1 ?_
    simp [rowB]
  | d + 1, i, k + 1, h, hk => by
    have ht : (mkB (List.replicate i 120)).size = i := by rw [mkB_size, List.length_replicate]
    have ih := names0 y z m hy hz hm d (i + 1) k (by omega) (by omega)
    have hx : mkB (List.replicate i 120) ++ (⟨#[120]⟩ : ByteArray) = mkB (List.replicate (i + 1) 120) := by
      rw [← mkB_data (mkB (List.replicate i 120) ++ (⟨#[120]⟩ : ByteArray)), ByteArray.data_append, List.replicate_succ']
      simp [mkB_list]
    unfold paraphrastref18_names.l0
    rw [if_pos (by omega), if_pos (by omega), hx, show wrap64 ((i : Int) + 1) = ((i + 1 : Nat) : Int) by unfold wrap64; omega]
    exact ih
theorem names_eq (y z m k : Nat) (hy : y ≤ 100) (hz : z ≤ 100) (hm : m ≤ 200000000) (hk : m + y + z + 3 ≤ k) : paraphrastref18_names.f k (y : Int) (z : Int) (m : Int) = some (rowB 89 y m ++ hdB m :: rowB 90 z m) :=
  names0 y z m hy hz hm m 0 k (by omega) (by omega)
end Go.Proofs.YtailpfcbdopfeaaGreatDoor.F
namespace Go.Proofs.YtailpfcbdopfeaaGreatDoor.F
open Go.RowKit Go.Proofs.YtailpfcbdopfeaaGreatDoorW.PrintWords Go.Proofs.YtailpfcbdopfeaaGreatDoorW.PrintLast Go.Proofs.YtailpfcbdopfeaaGreatDoorW.PrintMore
attribute [local go_sem] max2_int min2_int max_two min_two max_three min_three max_four min_four
set_option linter.unusedVariables false
set_option linter.unusedSimpArgs false
/-! ### paraphrastref18_free: function 34 -/
mutual
def paraphrastref18_free.l0 : Nat → List ByteArray → List (S46) → Int → Option (Bool)
 | 0, _, _, _ => none
 | k + 1, x0, x1, x5 => if x5 < (x0.length : Int) then (paraphrastref18_free.l1 k x0 x1 x5 0) else (some true)
def paraphrastref18_free.l1 : Nat → List ByteArray → List (S46) → Int → Int → Option (Bool)
 | 0, _, _, _, _ => none
 | k + 1, x0, x1, x5, x6 => if x6 < (x1.length : Int) then (if 0 ≤ x6 then (if 0 ≤ x5 then (if x5 < (x0.length : Int) then (if ((rd_T46 x1 x6).f0).toList = (rdOf ByteArray.empty x0 x5).toList then (some false) else (paraphrastref18_free.l1 k x0 x1 x5 (wrap64 (x6 + 1)))) else (none)) else (none)) else (none)) else (paraphrastref18_free.l0 k x0 x1 (wrap64 (x5 + 1)))
end
def paraphrastref18_free.f (k : Nat) (l0 : List ByteArray) (l1 : List (S46)) : Option (Bool) := paraphrastref18_free.l0 k l0 l1 0
set_option maxHeartbeats 8000000 in
set_option maxRecDepth 100000 in
theorem paraphrastref18_free.calls (k : Nat) (A0 : Option Addr) (c0 : Nat) (l0 : List ByteArray) (A1 : Option Addr) (c1 : Nat) (l1 : List (S46)) (r : Bool) (w : World) (hr0 : Kd.C Kd.string w A0 l0.length l0) (hc0 : l0.length ≤ c0) (hr1 : Kd.C k46 w A1 l1.length l1) (hc1 : l1.length ≤ c1) (h : paraphrastref18_free.f k l0 l1 = some r) :
  Calls Tryz.prog 34 #[.slice A0 l0.length c0, .slice A1 l1.length c1] w fun e w' => e = .returned (.bool r) ∧ Drawn0 w w' := by
 have HR0 := Aside0.mk hr0
 have HC0 := Aside0.mk hc0
 clear hr0 hc0
 have HR1 := Aside0.mk hr1
 have HC1 := Aside0.mk hc1
 clear hr1 hc1
 have H : (paraphrastref18_free.l0 k l0 l1 0) = some r := h
 clear h
 have H' := Aside0.mk H
 clear H
 go_enter Tryz.func34, Tryz.ntmps34
 go_wp2
 repeat (go_quiet (fail); try go_wp2)
 go_loopg [5] k (fun kq v5 w' => ∃ (x5_1 : Int), v5 = .int .i64 x5_1 ∧ Aside0 (paraphrastref18_free.l0 kq l0 l1 x5_1 = some r) ∧ Aside0 (kq ≤ k) ∧ Drawn0 w w')
 case atStart => exact ⟨(0), eS, H', ⟨Nat.le_refl _⟩, dr0⟩
 case round =>
  clear H'
  (try clear c1)
  obtain ⟨x5_1, rfl, HA, HK1, ⟨m1, rfl⟩⟩ := hrel
  cases gk with
  | zero => exact absurd HA.out (by simp [paraphrastref18_free.l0])
  | succ k1 =>
   have H := HA.out
   clear HA
   simp only [paraphrastref18_free.l0] at H
   by_cases c3 : x5_1 < (l0.length : Int)
   ·rw [if_pos c3] at H
    have c3b0 : decide (x5_1 < (l0.length : Int)) = true := decide_eq_true c3
    clear c3
    have H' := Aside0.mk H
    clear H
    go_wp2
    repeat (go_quiet (fail); try go_wp2)
    go_loopg [6] k1 (fun kq v6 w' => ∃ (x6_2 : Int), v6 = .int .i64 x6_2 ∧ Aside0 (paraphrastref18_free.l1 kq l0 l1 x5_1 x6_2 = some r) ∧ Aside0 (kq ≤ k1) ∧ Drawn0 w w')
    case atStart => exact ⟨(0), eS, H', ⟨Nat.le_refl _⟩, dr0⟩
    case round =>
     clear H'
     (try clear c1); (try clear c3); (try clear c3b0)
     obtain ⟨x6_2, rfl, HA, HK2, ⟨m2, rfl⟩⟩ := hrel
     cases gk with
     | zero => exact absurd HA.out (by simp [paraphrastref18_free.l1])
     | succ k2 =>
      have H := HA.out
      clear HA
      simp only [paraphrastref18_free.l1] at H
      by_cases c4 : x6_2 < (l1.length : Int)
      ·rw [if_pos c4] at H
       have c4b0 : decide (x6_2 < (l1.length : Int)) = true := decide_eq_true c4
       clear c4
       by_cases c5 : 0 ≤ x6_2
       ·rw [if_pos c5] at H
        have c5b0 : decide (0 ≤ x6_2) = true := decide_eq_true c5
        clear c5
        by_cases c6 : 0 ≤ x5_1
        ·rw [if_pos c6] at H
         have c6b0 : decide (0 ≤ x5_1) = true := decide_eq_true c6
         clear c6
         by_cases c7 : x5_1 < (l0.length : Int)
         ·rw [if_pos c7] at H
          have c7b0 : decide (x5_1 < (l0.length : Int)) = true := decide_eq_true c7
          clear c7
          by_cases c8 : ((rd_T46 l1 x6_2).f0).toList = (rdOf ByteArray.empty l0 x5_1).toList
          ·rw [if_pos c8] at H
           have c8b0 : (((rd_T46 l1 x6_2).f0).toList == (rdOf ByteArray.empty l0 x5_1).toList) = true := beq_iff_eq.mpr c8
           have c8b1 : (((rd_T46 l1 x6_2).f0).toList != (rdOf ByteArray.empty l0 x5_1).toList) = false := bne_eq_false_iff_eq.mpr c8
           clear c8
           obtain rfl := Option.some.inj H
           have p174 : 0 ≤ (x6_2 : Int) := dtr
           have q174 : x6_2 < (l1.length : Int) := dtr
           obtain ⟨ad174, e174, hx174_0, hx174_1⟩ := at_T46 HR1.out x6_2 p174 q174
           cases e174
           replace p174 := eq_true p174
           replace q174 := eq_true q174
           have p175 : 0 ≤ (x5_1 : Int) := dtr
           have q175 : x5_1 < (l0.length : Int) := dtr
           obtain ⟨ad175, e175, hx175_0⟩ := Kd.at_string HR0.out x5_1 p175 q175
           cases e175
           replace p175 := eq_true p175
           replace q175 := eq_true q175
           go_wp2
           repeat (go_quiet (fail); try go_wp2)
           go_ret
           exact ⟨eS, dr0⟩
          ·rw [if_neg c8] at H
           have c8b0 : (((rd_T46 l1 x6_2).f0).toList == (rdOf ByteArray.empty l0 x5_1).toList) = false := beq_eq_false_iff_ne.mpr c8
           have c8b1 : (((rd_T46 l1 x6_2).f0).toList != (rdOf ByteArray.empty l0 x5_1).toList) = true := bne_iff_ne.mpr c8
           have H' := Aside0.mk H
           clear H
           have p174 : 0 ≤ (x6_2 : Int) := dtr
           have q174 : x6_2 < (l1.length : Int) := dtr
           obtain ⟨ad174, e174, hx174_0, hx174_1⟩ := at_T46 HR1.out x6_2 p174 q174
           cases e174
           replace p174 := eq_true p174
           replace q174 := eq_true q174
           have p175 : 0 ≤ (x5_1 : Int) := dtr
           have q175 : x5_1 < (l0.length : Int) := dtr
           obtain ⟨ad175, e175, hx175_0⟩ := Kd.at_string HR0.out x5_1 p175 q175
           cases e175
           replace p175 := eq_true p175
           replace q175 := eq_true q175
           go_wp2
           repeat (go_quiet (fail); try go_wp2)
           go_roundg k2
           case measure => have := HK1.out; have := HK2.out; omega
           case rel => exact ⟨(wrap64 (x6_2 + 1)), eS, H', ⟨by have := HK1.out; have := HK2.out; omega⟩, dr0⟩
         ·rw [if_neg c7] at H
          exact absurd H (by simp)
        ·rw [if_neg c6] at H
         exact absurd H (by simp)
       ·rw [if_neg c5] at H
        exact absurd H (by simp)
      ·rw [if_neg c4] at H
       have c4b0 : decide (x6_2 < (l1.length : Int)) = false := decide_eq_false c4
       clear c4
       have H' := Aside0.mk H
       clear H
       go_wp2
       repeat (go_quiet (fail); try go_wp2)
       go_roundg k2
       case measure => have := HK1.out; have := HK2.out; omega
       case rel => exact ⟨(wrap64 (x5_1 + 1)), eS, H', ⟨by have := HK1.out; have := HK2.out; omega⟩, dr0⟩
   ·rw [if_neg c3] at H
    have c3b0 : decide (x5_1 < (l0.length : Int)) = false := decide_eq_false c3
    clear c3
    obtain rfl := Option.some.inj H
    go_wp2
    repeat (go_quiet (fail); try go_wp2)
    go_ret
    exact ⟨eS, dr0⟩
end Go.Proofs.YtailpfcbdopfeaaGreatDoor.F
/- GuessRelations, the plain law: no name is taken. -/
namespace Go.Proofs.YtailpfcbdopfeaaGreatDoor.F
open Go.RowKit Go.Proofs.YtailpfcbdopfeaaGreatDoorW.PrintWords Go.Proofs.YtailpfcbdopfeaaGreatDoorW.PrintLast Go.Proofs.YtailpfcbdopfeaaGreatDoorW.PrintMore
set_option linter.unusedVariables false
set_option linter.unusedSimpArgs false
def hitB (sy : List S46) (n : ByteArray) : Bool := sy.any fun s => decide (s.f0 = n)
theorem free1 (l : List ByteArray) (sy : List S46) (hl : l.length ≤ 1000) (hs : sy.length ≤ 1000) (i : Nat) (x : ByteArray) (hx : l[i]? = some x) (R : Option Bool) : ∀ (d j k : Nat), j + d = sy.length → d + 1 ≤ k → (∀ k', k - (d + 1) ≤ k' → paraphrastref18_free.l0 k' l sy ((i + 1 : Nat) : Int) = R) →
    paraphrastref18_free.l1 k l sy (i : Int) (j : Int) = if hitB (sy.drop j) x = true then some false else R
  | 0, j, k + 1, h, hk, hR => by
    have hd : sy.drop j = [] := by rw [List.drop_eq_nil_iff]; omega
    unfold paraphrastref18_free.l1
    rw [if_neg (by omega), hd, show wrap64 ((i : Int) + 1) = ((i + 1 : Nat) : Int) by
      have := (List.getElem?_eq_some_iff.1 hx).1
      unfold wrap64; omega, hR k (by omega)]
    rfl
  | d + 1, j, k + 1, h, hk, hR => by
    have hi := (List.getElem?_eq_some_iff.1 hx).1
    have hj : j < sy.length := by omega
    have ih := free1 l sy hl hs i x hx R d (j + 1) k (by omega) (by omega) (fun k' hk' => hR k' (by omega))
    have hrs := rds_sym hj
    have hrx := rds_str hi
    rw [hx] at hrx
    have hxe := Option.some.inj hrx
    have hd : sy.drop j = rd_T46 sy (j : Int) :: sy.drop (j + 1) := by
      rw [List.drop_eq_getElem_cons hj]
      have := (List.getElem?_eq_getElem hj).symm.trans hrs
      rw [Option.some.inj this]
    unfold paraphrastref18_free.l1
    rw [if_pos (by omega), if_pos (by omega), if_pos (by omega), if_pos (by omega), ← hxe, hd]
    by_cases e : (rd_T46 sy (j : Int)).f0 = x
    · rw [if_pos (by rw [e]), if_pos (by simp [hitB, e])]
    · rw [if_neg (fun q => e (toList_inj q)), show wrap64 ((j : Int) + 1) = ((j + 1 : Nat) : Int) by unfold wrap64; omega, ih]
      have : hitB (rd_T46 sy (j : Int) :: sy.drop (j + 1)) x = hitB (sy.drop (j + 1)) x := by simp [hitB, e]
      rw [this]
theorem free0 (l : List ByteArray) (sy : List S46) (hl : l.length ≤ 1000) (hs : sy.length ≤ 1000) : ∀ (d i k : Nat), i + d = l.length → d * (sy.length + 2) + 1 ≤ k →
    paraphrastref18_free.l0 k l sy (i : Int) = some (!((l.drop i).any (hitB sy)))
  | 0, i, k + 1, h, hk => by
    have hd : l.drop i = [] := by rw [List.drop_eq_nil_iff]; omega
    unfold paraphrastref18_free.l0
    rw [if_neg (by omega), hd]
    rfl
  | d + 1, i, k + 1, h, hk => by
    have hi : i < l.length := by omega
    have hmul : (d + 1) * (sy.length + 2) = d * (sy.length + 2) + (sy.length + 2) := Nat.succ_mul _ _
    have h1 := free1 l sy hl hs i l[i] (List.getElem?_eq_getElem hi) (some (!((l.drop (i + 1)).any (hitB sy)))) sy.length 0 k (by omega) (by omega) (fun k' hk' => free0 l sy hl hs d (i + 1) k' (by omega) (by omega))
    unfold paraphrastref18_free.l0
    rw [if_pos (by omega)]
    refine Eq.trans h1 ?_
    rw [List.drop_zero, List.drop_eq_getElem_cons hi]
    rw [List.any_cons]
    cases hh : hitB sy l[i] with
    | false => rw [if_neg (by simp), Bool.false_or]
    | true => rw [if_pos rfl, Bool.true_or]; rfl
theorem free_eq (l : List ByteArray) (sy : List S46) (hl : l.length ≤ 1000) (hs : sy.length ≤ 1000) (k : Nat) (hk : l.length * (sy.length + 2) + 1 ≤ k) : paraphrastref18_free.f k l sy = some (!(l.any (hitB sy))) := by
  have h := free0 l sy hl hs l.length 0 k (by omega) hk
  rw [List.drop_zero] at h
  exact h
end Go.Proofs.YtailpfcbdopfeaaGreatDoor.F
/- 'copy(out[k+1:], out[k:])' in a row of one's own: the elements from k on go up by one place. -/
namespace Go.Proofs.YtailpfcbdopfeaaGreatDoor.F
open Go.RowKit Go.Proofs.YtailpfcbdopfeaaGreatDoorW.PrintWords Go.Proofs.YtailpfcbdopfeaaGreatDoorW.PrintLast Go.Proofs.YtailpfcbdopfeaaGreatDoorW.PrintMore
set_option linter.unusedVariables false
set_option linter.unusedSimpArgs false
theorem run_copy_rows {P : Program} (w : World) (dT sT ty elem : TypeId) (i : TypeInfo) (b o dLen dCap : Nat) (a : Addr) (sLen sCap : Nat) (cs : List Value)
    (hu : P.underlying dT = some (.slice elem)) (hi : P.info? elem = some i) (hn : cs.length = Nat.min sLen dLen * i.size)
    (hsrc : ∀ j v, cs[j]? = some v → w.cell? (a.add j) = some v) (hc : ∀ j, j < cs.length → (w.cell? ⟨b, o + j, none⟩).isSome = true) (hf : ∀ j, j < cs.length → w.frozen? ⟨b, o + j, none⟩ = false) (h1 : ∀ v ∈ cs, v.oneCell' = true) :
    (Builtin.copy_ #[dT, sT] ty #[.slice (some ⟨b, o, none⟩) dLen dCap, .slice (some a) sLen sCap]).run P w = .ok (goInt (Nat.min sLen dLen)) (w.setCells b o cs) := by
  have hl := run_loadCells_list (P := P) w a cs hsrc
  have hst := run_storeCells_cells (P := P) b o cs 0 w (by simpa using hc) (by simpa using hf) h1
  simp [Builtin.copy_, run_underlying hu, Builtin.lenOf, Builtin.firstCells, sizeOf, typeInfo, hi, ← hn, hl, hst]
section
variable {P : Program} {α : Type}
theorem shift_run (d : Kd α) {W : World} (base : Nat) (t ty e : TypeId) (i : TypeInfo) (ht : P.underlying t = some (.slice e)) (hi : P.info? e = some i) (hsz : i.size = d.sz)
    {g n c k : Nat} {xs : List α} {ok : Nat → Prop} (HO : d.R e W base ok (.slice (some ⟨g, 0, none⟩) n c) xs) (hk : k < n) {A B : Option Addr} (hA : A = if c = k then some ⟨g, 0, none⟩ else (some (⟨g, 0, none⟩ : Addr)).map (·.add (k * d.sz))) (hB : B = if c = k + 1 then some ⟨g, 0, none⟩ else (some (⟨g, 0, none⟩ : Addr)).map (·.add ((k + 1) * d.sz))) (c1 c2 : Nat) :
    ∃ v w1, (Builtin.copy_ #[t, t] ty #[.slice B (n - (k + 1)) c1, .slice A (n - k) c2]).run P W = .ok v w1 ∧ d.R e w1 base ok (.slice (some ⟨g, 0, none⟩) n c) (xs.take (k + 1) ++ (xs.drop k).take (n - (k + 1))) ∧ W.grownBy w1 (some g) := by
  obtain ⟨hn, hnc, _⟩ := Kd.R_reads' HO
  obtain ⟨hok, inner, hown, hr⟩ := HO
  have hin : inner.length = n * d.sz := by rw [hr.1, hn]
  rcases hown.2 with ⟨hv, _⟩ | ⟨g', cap', cur, hv, hb, hh, _, hcm, hcs, htake⟩
  · cases hv
  injection hv with ha _ hc
  injection ha with ha
  injection ha with hg
  subst hg; subst hc
  rw [← hn] at htake
  obtain ⟨news, hnews⟩ : ∃ news, news = (inner.drop (k * d.sz)).take ((n - (k + 1)) * d.sz) := ⟨_, rfl⟩
  have hle : (k + 1) * d.sz ≤ n * d.sz := Nat.mul_le_mul_right _ hk
  have hks : (k + 1) * d.sz = k * d.sz + d.sz := Nat.succ_mul _ _
  have hnc' : n * d.sz ≤ c * d.sz := Nat.mul_le_mul_right _ hnc
  have hsub : (n - (k + 1)) * d.sz = n * d.sz - (k + 1) * d.sz := Nat.sub_mul _ _ _
  have hnl : news.length = (n - (k + 1)) * d.sz := by rw [hnews, List.length_take, List.length_drop, hin]; omega
  have hcur : ∀ q, q < n * d.sz → cur.toList[q]? = inner[q]? := by
    intro q hq
    rw [← htake, List.getElem?_take, if_pos hq]
  rw [if_neg (by omega), Option.map_some] at hA
  subst hA
  have hcell : ∀ j u, news[j]? = some u → W.cell? (((⟨g, 0, none⟩ : Addr).add (k * d.sz)).add j) = some u := by
    intro j u hu
    have hj : j < news.length := (List.getElem?_eq_some_iff.1 hu).1
    rw [add_add, add_at, cell_of_row W g _ cur e (0, 0) hh, ← Array.getElem?_toList]
    rw [hnews, List.getElem?_take, if_pos (by omega), List.getElem?_drop] at hu
    rw [← hu, Nat.zero_add]
    exact hcur _ (by omega)
  have hone : ∀ u ∈ news, u.oneCell' = true := by
    intro u hu
    have hu' : u ∈ inner := by rw [hnews] at hu; exact List.mem_of_mem_drop (List.mem_of_mem_take hu)
    obtain ⟨q, hq, rfl⟩ := List.mem_iff_getElem.1 hu'
    have hs0 : 0 < d.sz := by
      rcases Nat.eq_zero_or_pos d.sz with h | h
      · rw [h, Nat.mul_zero] at hin; omega
      · exact h
    have hql : q / d.sz < xs.length := by
      rw [Nat.div_lt_iff_lt_mul hs0, ← hr.1]
      exact hq
    refine d.K_one (d.K_of_M (hr.2 (q / d.sz) _ (List.getElem?_eq_getElem hql))) _ ?_
    rw [List.mem_iff_getElem?]
    refine ⟨q % d.sz, ?_⟩
    rw [List.getElem?_take, if_pos (Nat.mod_lt _ hs0), List.getElem?_drop, Nat.mul_comm, Nat.div_add_mod, List.getElem?_eq_getElem hq]
  obtain ⟨ob, hob, hBe⟩ : ∃ ob, B = some ⟨g, ob, none⟩ ∧ ((n - (k + 1) = 0 ∧ ob = 0) ∨ ob = (k + 1) * d.sz) := by
    by_cases hck : c = k + 1
    · rw [if_pos hck] at hB
      exact ⟨0, hB, .inl ⟨by omega, rfl⟩⟩
    · rw [if_neg hck, Option.map_some] at hB
      exact ⟨(k + 1) * d.sz, by rw [hB, add_at, Nat.zero_add], .inr rfl⟩
  subst hob
  have hmin : Nat.min (n - k) (n - (k + 1)) = n - (k + 1) := Nat.min_eq_right (by omega)
  have hfit0 : (k + 1) * d.sz + news.length ≤ cur.size := by omega
  have hfit : ob + news.length ≤ cur.size := by
    rcases hBe with ⟨_, rfl⟩ | rfl
    · omega
    · exact hfit0
  have hrun := run_copy_rows (P := P) W t t ty e i g ob (n - (k + 1)) c1 ((⟨g, 0, none⟩ : Addr).add (k * d.sz)) (n - k) c2 news ht hi (by rw [hnl, hsz, hmin]) hcell
    (fun j hj => by rw [cell_of_row W g _ cur e (0, 0) hh]; simp; omega) (fun j _ => blk_frozen hh _) hone
  have hset : W.setCells g ob news = W.setCells g ((k + 1) * d.sz) news := by
    rcases hBe with ⟨h, _⟩ | rfl
    · have h0 : news = [] := List.eq_nil_of_length_eq_zero (by rw [hnl, h, Nat.zero_mul])
      rw [h0]
      rfl
    · rfl
  rw [hset] at hrun
  obtain ⟨cur', h3, h4, h5⟩ := setCells_row news ((k + 1) * d.sz) W cur hh hfit0
  obtain ⟨s1, s2, s3, s4⟩ := setCells_same g news ((k + 1) * d.sz) W
  have hfar : ∀ k', k' ≠ g → (W.setCells g ((k + 1) * d.sz) news).heap[k']? = W.heap[k']? := fun k' hk' => setCells_far news _ k' hk'
  have hgo : some g = (Value.slice (some ⟨g, 0, none⟩) n c).ownBlock := by simp [Value.ownBlock]
  have hel : (xs.take (k + 1) ++ (xs.drop k).take (n - (k + 1))).length = n := by
    rw [List.length_append, List.length_take, List.length_take, List.length_drop, ← hn]
    omega
  refine ⟨_, _, hrun, ⟨fun k' hk' => hok k' hk', inner.take ((k + 1) * d.sz) ++ news, ⟨?_, .inr ⟨g, c, cur', by rw [hel], hb, h3, by rw [hel]; exact hnc, hcm, by rw [h4, hcs], ?_⟩⟩, ?_⟩, ⟨s1, s2, s3, by rw [s4]; exact Nat.le_refl _, fun k' _ hk' => hfar k' (fun he => hk' (by rw [he]))⟩⟩
  · rw [List.length_append, List.length_take, hnl, hel]
    omega
  · rw [hel, h5]
    have h7 : cur.toList.take ((k + 1) * d.sz) = inner.take ((k + 1) * d.sz) := by
      rw [← htake, List.take_take, Nat.min_eq_left (by omega)]
    rw [h7]
    exact List.take_left' (by rw [List.length_append, List.length_take, hnl]; omega)
  · have hmv : ∀ p q, d.M W base (fun k' => ok k' ∧ some k' ≠ (Value.slice (some ⟨g, 0, none⟩) n c).ownBlock) p q → d.M (W.setCells g ((k + 1) * d.sz) news) base (fun k' => ok k' ∧ some k' ≠ (Value.slice (some ⟨g, 0, none⟩) n c).ownBlock) p q := fun p q hp =>
      d.M_move (fun k' hk' => hfar k' (fun he => hk'.2 (by rw [← hgo, he]))) hp
    subst hnews
    exact Kd.reps_append ((Kd.reps_take hr (by omega)).imp_ hmv) ((Kd.reps_take (Kd.reps_drop hr) (by rw [List.length_drop]; omega)).imp_ hmv)
end
end Go.Proofs.YtailpfcbdopfeaaGreatDoor.F
/- The copy's law. -/
namespace Go.Proofs.YtailpfcbdopfeaaGreatDoor.F
open Go.RowKit Go.Proofs.YtailpfcbdopfeaaGreatDoorW.PrintWords Go.Proofs.YtailpfcbdopfeaaGreatDoorW.PrintLast Go.Proofs.YtailpfcbdopfeaaGreatDoorW.PrintMore
set_option linter.unusedVariables false
set_option linter.unusedSimpArgs false
section
variable {P : Program} {ops : Array Oper} {o : Oper} {a : Act} {Q : Exit → Act → World → Prop} {Kc : Act → World → Prop} {α : Type}
/-- 'copy(out[k+1:], out[k:])' in a region that draws ('go_region_law'). -/
theorem copy_law (d : Kd α) {w0 W : World} {E : Prop} (base : Nat) (hgd : o.guard = none) (s x : Operand) (t e : TypeId) (ho : o.op = .call { callee := .builtin .copy, args := #[s, x], argTypes := #[t, t] }) (ht : P.underlying t = some (.slice e)) (hinfo : (P.info? e).map (·.size) = some d.sz)
    {g n c k m1 m2 : Nat} {xs : List α} {ok : Nat → Prop} {A B : Option Addr} (c1 c2 : Nat) (hs : a.eval s = .slice B m1 c1) (hx : a.eval x = .slice A m2 c2) (HO : d.R e W base ok (.slice (some ⟨g, 0, none⟩) n c) xs) (hk : k < n) (hA : A = if c = k then some ⟨g, 0, none⟩ else (some (⟨g, 0, none⟩ : Addr)).map (·.add (k * d.sz))) (hB : B = if c = k + 1 then some ⟨g, 0, none⟩ else (some (⟨g, 0, none⟩ : Addr)).map (·.add ((k + 1) * d.sz))) (hm1 : m1 = n - (k + 1)) (hm2 : m2 = n - k) (HB : Below base w0 W)
    (h : ∀ v w1, d.R e w1 base ok (.slice (some ⟨g, 0, none⟩) n c) (xs.take (k + 1) ++ (xs.drop k).take (n - (k + 1))) → Below base w0 w1 → W.grownBy w1 (some g) → Kc (a.put o.dst v) w1) :
    if Region.wanted o (yielded ops a.tmps) = true then Oper.wp P o a W Kc Q else E := by
  have hw : Region.wanted o (yielded ops a.tmps) = true := by simp [Region.wanted, hgd]
  obtain ⟨i0, hi, hsz⟩ := Option.map_eq_some_iff.1 hinfo
  subst hm1
  subst hm2
  obtain ⟨v, w1, hr, h1, h2⟩ := shift_run (P := P) d base t o.type e i0 ht hi hsz HO hk hA hB c1 c2
  have hbg := Kd.R_base HO g (by simp [Value.ownBlock])
  have hbase : base ≤ W.heap.size := by have := Kd.R_lt HO g (by simp [Value.ownBlock]); omega
  rw [if_pos hw]
  unfold Oper.wp execOp
  simp only [ho, resolve, invoke, builtin, Sem.run_bind, Sem.run_pure, Result.andThen_ok, List.map_toArray, List.map_cons, List.map_nil, hs, hx, hr]
  exact h v w1 h1 (HB.grown h2 hbase (fun k hk => by injection hk with hk; omega)) h2
end
end Go.Proofs.YtailpfcbdopfeaaGreatDoor.F
/- The textual form of a tape machine, as a list of bytes; plain lemmas on it. -/
namespace Go.Proofs.YtailpfcbdopfeaaGreatDoor.F
open Go.RowKit Go.Proofs.YtailpfcbdopfeaaGreatDoorW.PrintWords Go.Proofs.YtailpfcbdopfeaaGreatDoorW.PrintLast Go.Proofs.YtailpfcbdopfeaaGreatDoorW.PrintMore
set_option linter.unusedVariables false
def spRest : List Int → List UInt8
  | [] => []
  | x :: r => 32 :: (Lib.itoa x ++ spRest r)
def numsJ : List Int → List UInt8
  | [] => []
  | x :: r => Lib.itoa x ++ spRest r
theorem spRest_app (l m : List Int) : spRest (l ++ m) = spRest l ++ spRest m := by
  induction l with
  | nil => rfl
  | cons a l ih => simp [spRest, ih]
theorem numsJ_snoc (l : List Int) (x : Int) : numsJ (l ++ [x]) = numsJ l ++ (if l = [] then [] else [32]) ++ Lib.itoa x := by
  cases l with
  | nil => simp [numsJ, spRest]
  | cons a l => simp [numsJ, spRest_app, spRest]
def comRest : List Int → List UInt8
  | [] => []
  | x :: r => 44 :: (Lib.itoa x ++ comRest r)
def comJ : List Int → List UInt8
  | [] => []
  | x :: r => Lib.itoa x ++ comRest r
/-- The word of a literal. -/
def litT (l : S42) : List UInt8 :=
  (if l.f1 = true then [33] else []) ++ (if l.f0 = 1 then Lib.itoa (rd l.f3 0) ++ 61 :: Lib.itoa (rd l.f3 1) else if l.f0 = 2 then Lib.itoa (rd l.f3 0) ++ 60 :: Lib.itoa (rd l.f3 1) else l.f2.data.toList ++ 40 :: (comJ l.f3 ++ [41]))
def litsT : List S42 → List UInt8
  | [] => []
  | l :: r => 32 :: (litT l ++ litsT r)
def stepL (x : S69) : List Int := [x.f0, x.f1, x.f2, x.f3, x.f4]
def stepsT : List S69 → List UInt8
  | [] => []
  | x :: r => 59 :: 32 :: (numsJ (stepL x) ++ stepsT r)
theorem litsT_app (l m : List S42) : litsT (l ++ m) = litsT l ++ litsT m := by
  induction l with
  | nil => rfl
  | cons a l ih => simp [litsT, ih]
theorem stepsT_app (l m : List S69) : stepsT (l ++ m) = stepsT l ++ stepsT m := by
  induction l with
  | nil => rfl
  | cons a l ih => simp [stepsT, ih]
theorem litsT_snoc (l : List S42) (x : S42) : litsT (l ++ [x]) = litsT l ++ 32 :: litT x := by rw [litsT_app]; simp [litsT]
theorem stepsT_snoc (l : List S69) (x : S69) : stepsT (l ++ [x]) = stepsT l ++ [59, 32] ++ numsJ (stepL x) := by rw [stepsT_app]; simp [stepsT]
/-- The text of a machine. -/
def tapeT (n0 n1 n2 n3 : Int) (ls : List S42) (ss : List S69) : List UInt8 := numsJ [n0, n1, n2, n3] ++ 59 :: (litsT ls ++ stepsT ss)
end Go.Proofs.YtailpfcbdopfeaaGreatDoor.F
namespace Go.Proofs.YtailpfcbdopfeaaGreatDoor.Build
open Go.RowKit Go.Shelf
set_option linter.unusedVariables false
def ren : Go.Shelf.Ren := ⟨fun | 166 => 62 | 167 => 61 | 240 => 89 | 276 => 118 | n => n, fun | 0 => 0 | 3 => 3 | 4 => 4 | 5 => 5 | 9 => 9 | 20 => 20 | 37 => 103 | 70 => 102 | 72 => 105 | 75 => 91 | 80 => 109 | 81 => 92 | 164 => 164 | n => n, fun | n => n⟩
theorem lays167 : Go.Proofs.Lays.n167 Tryz.prog ren := {
  mixed := by kernel_rfl
  f167 := Tryz.func61.trans (congrArg some (by kernel_rfl))
  f240 := Tryz.func89.trans (congrArg some (by kernel_rfl))
  f276 := Tryz.func118.trans (congrArg some (by kernel_rfl))
  t0 := Tryz.underlying0
  a0 := Tryz.isAgg0
  z0 := Tryz.sizeOf0
  v0 := Tryz.zeroValue0
  t4 := Tryz.underlying4
  a4 := Tryz.isAgg4
  z4 := Tryz.sizeOf4
  v4 := Tryz.zeroValue4
  t5 := Tryz.underlying5
  a5 := Tryz.isAgg5
  z5 := Tryz.sizeOf5
  v5 := Tryz.zeroValue5
  t9 := Tryz.underlying9
  a9 := Tryz.isAgg9
  z9 := Tryz.sizeOf9
  v9 := Tryz.zeroValue9
  t20 := Tryz.underlying20
  a20 := Tryz.isAgg20
  z20 := Tryz.sizeOf20
  v20 := Tryz.zeroValue20
  t37 := Tryz.underlying103
  a37 := Tryz.isAgg103
  z37 := Tryz.sizeOf103
  v37 := Tryz.zeroValue103
  t70 := Tryz.underlying102
  a70 := Tryz.isAgg102
  z70 := Tryz.sizeOf102
  v70 := Tryz.zeroValue102
  t72 := Tryz.underlying105
  a72 := Tryz.isAgg105
  z72 := Tryz.sizeOf105
  v72 := Tryz.zeroValue105
  t75 := Tryz.underlying91
  a75 := Tryz.isAgg91
  z75 := Tryz.sizeOf91
  v75 := Tryz.zeroValue91
  t164 := Tryz.underlying164
  a164 := Tryz.isAgg164
  z164 := Tryz.sizeOf164
  v164 := Tryz.zeroValue164 }
theorem lays166 : Go.Proofs.Lays.n166 Tryz.prog ren := {
  mixed := by kernel_rfl
  f166 := Tryz.func62.trans (congrArg some (by kernel_rfl))
  f240 := Tryz.func89.trans (congrArg some (by kernel_rfl))
  f276 := Tryz.func118.trans (congrArg some (by kernel_rfl))
  t0 := Tryz.underlying0
  a0 := Tryz.isAgg0
  z0 := Tryz.sizeOf0
  v0 := Tryz.zeroValue0
  t3 := Tryz.underlying3
  a3 := Tryz.isAgg3
  z3 := Tryz.sizeOf3
  v3 := Tryz.zeroValue3
  t4 := Tryz.underlying4
  a4 := Tryz.isAgg4
  z4 := Tryz.sizeOf4
  v4 := Tryz.zeroValue4
  t9 := Tryz.underlying9
  a9 := Tryz.isAgg9
  z9 := Tryz.sizeOf9
  v9 := Tryz.zeroValue9
  t20 := Tryz.underlying20
  a20 := Tryz.isAgg20
  z20 := Tryz.sizeOf20
  v20 := Tryz.zeroValue20
  t37 := Tryz.underlying103
  a37 := Tryz.isAgg103
  z37 := Tryz.sizeOf103
  v37 := Tryz.zeroValue103
  t70 := Tryz.underlying102
  a70 := Tryz.isAgg102
  z70 := Tryz.sizeOf102
  v70 := Tryz.zeroValue102
  t72 := Tryz.underlying105
  a72 := Tryz.isAgg105
  z72 := Tryz.sizeOf105
  v72 := Tryz.zeroValue105
  t75 := Tryz.underlying91
  a75 := Tryz.isAgg91
  z75 := Tryz.sizeOf91
  v75 := Tryz.zeroValue91
  t164 := Tryz.underlying164
  a164 := Tryz.isAgg164
  z164 := Tryz.sizeOf164
  v164 := Tryz.zeroValue164 }
theorem extra : Go.Proofs.Builder.Extra Tryz.prog ren := {
  sizeBuilder := by kernel_rfl
  liesBuilder := by kernel_rfl
  t5 := Tryz.underlying5
  a5 := Tryz.isAgg5
  z5 := Tryz.sizeOf5
  v5 := Tryz.zeroValue5
  infoByte := by kernel_rfl
  cellsByte := by kernel_rfl
  sizeByte := by kernel_rfl
  neB5 := by decide }
/-- A builder in block b (from B on) that holds the bytes l. -/
def BL (B b : Nat) (l : List UInt8) (w : World) : Prop := Lib.IsBuilderF 105 5 B b (Lib.byteCells l) w
theorem cells_app (l m : List UInt8) : Lib.byteCells l ++ Lib.byteCells m = Lib.byteCells (l ++ m) := by simp [Lib.byteCells]
theorem BL.of {B b : Nat} {l : List UInt8} {w w' : World} {p : Value} (h : Lib.BuilderAtF 105 5 B b p (Lib.byteCells l) w') (hp : p = .pointer (some ⟨b, 0, none⟩)) : BL B b l w' := by subst hp; exact .inr h
theorem write_string (B b : Nat) (l : List UInt8) (s : ByteArray) (w : World) (h : BL B b l w) (hlen : l.length + s.size ≤ 140737488355328) (hBw : B ≤ w.heap.size) :
    Calls Tryz.prog 62 #[.pointer (some ⟨b, 0, none⟩), .string s] w fun e w' => e = .returned (.tuple #[.int .i64 s.size, .nilIface]) ∧ BL B b (l ++ s.data.toList) w' ∧ Below B w w' ∧ Lib.OthersKept 5 (some b) w w' :=
  (Any.Builder_WriteString_k lays166 extra B b _ s w h (by rw [Lib.byteCells_length]; exact hlen) hBw).mono fun e w' ⟨he, hb, hl, hk⟩ => ⟨he, .inr (by rw [← cells_app]; exact hb), hl, hk⟩
theorem write_byte (B b : Nat) (l : List UInt8) (c : UInt8) (w : World) (h : BL B b l w) (hlen : l.length + 1 ≤ 140737488355328) (hBw : B ≤ w.heap.size) :
    Calls Tryz.prog 61 #[.pointer (some ⟨b, 0, none⟩), .int .u8 (c.toNat : Int)] w fun e w' => e = .returned .nilIface ∧ BL B b (l ++ [c]) w' ∧ Below B w w' ∧ Lib.OthersKept 5 (some b) w w' :=
  (Any.Builder_WriteByte_k lays167 extra B b _ _ w h (by rw [Lib.byteCells_length]; exact hlen) hBw).mono fun e w' ⟨he, hb, hl, hk⟩ => ⟨he, .inr (by rw [← cells_app]; exact hb), hl, hk⟩
theorem write_byte' (B b : Nat) (l : List UInt8) (x : UInt8) (c : Int) (w : World) (hx : (x.toNat : Int) = c) (h : BL B b l w) (hlen : l.length + 1 ≤ 140737488355328) (hBw : B ≤ w.heap.size) :
    Calls Tryz.prog 61 #[.pointer (some ⟨b, 0, none⟩), .int .u8 c] w fun e w' => e = .returned .nilIface ∧ BL B b (l ++ [x]) w' ∧ Below B w w' ∧ Lib.OthersKept 5 (some b) w w' := hx ▸ write_byte B b l x w h hlen hBw
theorem BL.fresh (w : World) : BL w.heap.size w.heap.size [] (w.alloc (.cells #[.pointer none, .slice none 0 0] 105)) := Lib.IsBuilderF.of (Lib.fresh_isBuilder _ _ w)
theorem kept_blk {b : Nat} {w w' : World} {g t : Nat} {cs : Array Value} (hk : Lib.OthersKept 5 (some b) w w') (h : w.heap[g]? = some (.cells cs t (0, 0))) (hne : g ≠ b) (ht : t ≠ 5) : w'.heap[g]? = some (.cells cs t (0, 0)) :=
  hk g _ h (by simpa using hne) (fun c fz e => by injection e with _ e _; exact ht e)
theorem string_of (B b : Nat) (l : List UInt8) (w : World) (h : BL B b l w) (hBw : B ≤ w.heap.size) :
    Calls Tryz.prog 64 #[.pointer (some ⟨b, 0, none⟩)] w fun e w' => e = .returned (.string ⟨l.toArray⟩) ∧ BL B b l w' ∧ Below B w w' :=
  (Tryz.Builder_String_any_k B b l w h hBw).mono fun e w' ⟨he, hb, hl, _⟩ => ⟨he, hb, hl⟩
theorem BL.alloc {B b : Nat} {l : List UInt8} {w : World} (h : BL B b l w) (o : Obj) : BL B b l (w.alloc o) := h.elim (fun x => .inl (x.alloc o)) (fun x => .inr (x.alloc o))
theorem BL.drew {B b : Nat} {l : List UInt8} {w : World} (h : BL B b l w) : BL B b l w.drew := h.elim (fun x => .inl x.drew) (fun x => .inr x.drew)
theorem BL.drewN {B b : Nat} {l : List UInt8} {w : World} (h : BL B b l w) (n : Nat) : BL B b l (w.drewN n) := by
  induction n with
  | zero => exact h
  | succ n ih => exact ih.drew
end Go.Proofs.YtailpfcbdopfeaaGreatDoor.Build
/- tape.write's function literal, by hand: numbers, separated by blanks, into the builder. -/
namespace Go.Proofs.YtailpfcbdopfeaaGreatDoor.F
open Go.RowKit Go.Proofs.YtailpfcbdopfeaaGreatDoorW.PrintWords Go.Proofs.YtailpfcbdopfeaaGreatDoorW.PrintLast Go.Proofs.YtailpfcbdopfeaaGreatDoorW.PrintMore Go.Proofs.YtailpfcbdopfeaaGreatDoor.Build
set_option linter.unusedVariables false
set_option linter.unusedSimpArgs false
def okN (x : Int) : Prop := -9223372036854775808 ≤ x ∧ x ≤ 9223372036854775807
theorem itoa_le {x : Int} (h : okN x) : (Lib.itoa x).length ≤ 21 := Lib.itoa_length_le x h.1 h.2
theorem spRest_le : ∀ l : List Int, (∀ x ∈ l, okN x) → (spRest l).length ≤ 22 * l.length
  | [], _ => by simp [spRest]
  | x :: r, h => by
    have h1 := itoa_le (h x (by simp))
    have h2 := spRest_le r (fun y hy => h y (by simp [hy]))
    simp [spRest]
    omega
theorem numsJ_le (l : List Int) (h : ∀ x ∈ l, okN x) : (numsJ l).length ≤ 22 * l.length := by
  cases l with
  | nil => simp [numsJ]
  | cons x r =>
    have h1 := itoa_le (h x (by simp))
    have h2 := spRest_le r (fun y hy => h y (by simp [hy]))
    simp [numsJ]
    omega
theorem kept_trans {w1 w2 w3 : World} {b : Nat} (h1 : Lib.OthersKept 5 (some b) w1 w2) (h2 : Lib.OthersKept 5 (some b) w2 w3) : Lib.OthersKept 5 (some b) w1 w3 := fun g o h3 h4 h5 => h2 g o (h1 g o h3 h4 h5) h4 h5
theorem kept_below {w1 w2 : World} {b : Nat} (h : Below w1.heap.size w1 w2) : Lib.OthersKept 5 (some b) w1 w2 := fun g o h3 _ _ => (h.block g (Array.getElem?_eq_some_iff.1 h3).1).trans h3
theorem at_below {T e : TypeId} {B b : Nat} {p : Value} {bs : List Value} {w w' : World} (h : Lib.BuilderAtF T e B b p bs w) (hb : Below w.heap.size w w') : Lib.BuilderAtF T e B b p bs w' := by
  obtain ⟨hB, v, h1, h2, h3⟩ := h
  exact ⟨hB, v, blk_below h1 hb, h2.kept (grown_of_below hb none) (by cases v.ownBlock <;> simp), h3⟩
theorem BL_below {B b : Nat} {l : List UInt8} {w w' : World} (h : BL B b l w) (hb : Below w.heap.size w w') : BL B b l w' := h.elim (fun x => .inl (at_below x hb)) (fun x => .inr (at_below x hb))
set_option maxHeartbeats 1000000 in
set_option maxRecDepth 100000 in
theorem write1_calls (w0 : World) (hG : Glob w0) (b g : Nat) (l : List UInt8) (xs : List Int) (c : Nat) (w : World) (hB : Below w0.heap.size w0 w) (hb : w0.heap.size ≤ b) (hgb : g ≠ b) (hK : w.heap[g]? = some (.cells (xs.map (Value.int .i64)).toArray 3 (0, 0))) (hx : ∀ x ∈ xs, okN x) (hc : xs.length ≤ c) (hxl : xs.length ≤ 100000)
    (hl : l.length ≤ 100000000000) (hBL : BL w0.heap.size b l w) :
    Calls Tryz.prog 60 #[.slice (some ⟨g, 0, none⟩) xs.length c, .pointer (some ⟨b, 0, none⟩)] w fun e w' => e = .returned (.tuple #[]) ∧ BL w0.heap.size b (l ++ numsJ xs) w' ∧ Below w0.heap.size w w' ∧ Lib.OthersKept 5 (some b) w w' := by
  have HG := Aside0.mk hG
  have HB := Aside0.mk hB
  have HK := Aside0.mk hK
  have HX := Aside0.mk hx
  have HBL := Aside0.mk hBL
  clear hG hB hK hx hBL
  go_enter Tryz.func60, Tryz.ntmps60
  go_wp2
  go_loopw [7] (fun v7 wr => ∃ i : Nat, v7 = .int .i64 i ∧ i ≤ xs.length ∧ Aside0 (BL w0.heap.size b (l ++ numsJ (xs.take i)) wr) ∧ Aside0 (Below w0.heap.size w wr) ∧ Aside0 (Lib.OthersKept 5 (some b) w wr)) (fun v7 _ => xs.length - (intOf v7).toNat)
  case atStart => exact ⟨0, rfl, Nat.zero_le _, ⟨by simpa [numsJ] using HBL.out⟩, ⟨Below.refl _ _⟩, ⟨fun _ _ h _ _ => h⟩⟩
  case round =>
    clear HBL
    obtain ⟨i, rfl, hi, HBL, HW, HO⟩ := hrel
    generalize wr = wq at *
    by_cases hlt : i < xs.length
    · have hxi : xs[i]? = some xs[i] := List.getElem?_eq_getElem hlt
      have hxo := HX.out _ (List.getElem_mem hlt)
      generalize xs[i] = x at hxi hxo
      have HXI := Aside0.mk hxi
      have HXX := Aside0.mk hxo
      have HKq := Aside0.mk (kept_blk HO.out HK.out hgb (by decide))
      have hcell : wq.cell? ⟨g, i, none⟩ = some (.int .i64 x) := by rw [blk_cell HKq.out i]; simp [hxi]
      have hpl := numsJ_le (xs.take i) (fun y hy => HX.out y (List.mem_of_mem_take hy))
      rw [List.length_take] at hpl
      have hnl : (Lib.itoa x).length ≤ 21 := itoa_le hxo
      have hBw := HB.out.size
      have hWw := HW.out.size
      have HI : Aside0 (∀ W, Below w0.heap.size w W → Calls Tryz.prog 43 #[.int .i64 x] W fun e w' => e = .returned (.string (mkB (Lib.itoa x))) ∧ Below W.heap.size W w') :=
        ⟨fun W hW => strconv_Itoa.calls x _ W (HG.out.below (HB.out.trans (hW.mono (Nat.le_refl _)))) (if_pos HXX.out)⟩
      clear hxi hxo
      by_cases h0 : 0 < i
      · have h0b : decide ((0 : Int) < (i : Int)) = true := decide_eq_true (by omega)
        go_wp2_with fail
        refine (write_byte' w0.heap.size b _ 32 32 wq rfl HBL.out (by simp; omega) (by omega)).mono ?_
        rintro e w2 ⟨rfl, hb2, hbw2, hk2⟩
        have HBL2 := Aside0.mk hb2
        have HW2 := Aside0.mk (HW.out.trans hbw2)
        have HO2 := Aside0.mk (kept_trans HO.out hk2)
        clear hb2 hbw2 hk2 hcell
        go_wp2_with fail
        refine (HI.out _ HW2.out).mono ?_
        rintro e w3 ⟨rfl, hb3⟩
        have hW2 := HW2.out.size
        have hW3 := hb3.size
        have HBL3 := Aside0.mk (BL_below HBL2.out hb3)
        have HW3 := Aside0.mk (HW2.out.trans (hb3.mono (by omega)))
        have HO3 := Aside0.mk (kept_trans HO2.out (kept_below hb3))
        clear hb3
        go_wp2_with fail
        refine (write_string w0.heap.size b _ (mkB (Lib.itoa x)) w3 HBL3.out (by rw [mkB_size]; simp only [List.length_append, List.length_singleton]; omega) (by omega)).mono ?_
        rintro e w4 ⟨rfl, hb4, hbw4, hk4⟩
        have HBL4 := Aside0.mk hb4
        have HW4 := Aside0.mk (HW3.out.trans hbw4)
        have HO4 := Aside0.mk (kept_trans HO3.out hk4)
        clear hb4 hbw4 hk4
        go_wp2
        go_roundw
        case rel => exact ⟨i + 1, by go_num, by omega, ⟨by rw [take_snocG HXI.out, numsJ_snoc, if_neg (by intro e; have := congrArg List.length e; rw [List.length_take, List.length_nil] at this; omega)]; have := HBL4.out; rw [mkB_list] at this; simpa using this⟩, HW4, HO4⟩
        case measure => simp [intOf]; omega
      · obtain rfl : i = 0 := by omega
        have h0b : decide ((0 : Int) < ((0 : Nat) : Int)) = false := by decide
        go_wp2_with fail
        refine (HI.out _ HW.out).mono ?_
        rintro e w3 ⟨rfl, hb3⟩
        have hW3 := hb3.size
        have HBL3 := Aside0.mk (BL_below HBL.out hb3)
        have HW3 := Aside0.mk (HW.out.trans (hb3.mono (by omega)))
        have HO3 := Aside0.mk (kept_trans HO.out (kept_below hb3))
        clear hb3
        go_wp2_with fail
        refine (write_string w0.heap.size b _ (mkB (Lib.itoa x)) w3 HBL3.out (by rw [mkB_size]; simp [numsJ]; omega) (by omega)).mono ?_
        rintro e w4 ⟨rfl, hb4, hbw4, hk4⟩
        have HBL4 := Aside0.mk hb4
        have HW4 := Aside0.mk (HW3.out.trans hbw4)
        have HO4 := Aside0.mk (kept_trans HO3.out hk4)
        clear hb4 hbw4 hk4
        go_wp2
        go_roundw
        case rel => exact ⟨1, by go_num, by omega, ⟨by rw [take_snocG HXI.out, numsJ_snoc]; have := HBL4.out; rw [mkB_list] at this; simpa [numsJ] using this⟩, HW4, HO4⟩
        case measure => simp [intOf]; omega
    · obtain rfl : i = xs.length := by omega
      go_wp2
      go_end0
      exact ⟨rfl, by have := HBL.out; rw [List.take_length] at this; exact this, HW.out, HO.out⟩
end Go.Proofs.YtailpfcbdopfeaaGreatDoor.F
namespace Go.Proofs.YtailpfcbdopfeaaGreatDoor.F
open Go.RowKit Go.Proofs.YtailpfcbdopfeaaGreatDoorW.PrintWords Go.Proofs.YtailpfcbdopfeaaGreatDoorW.PrintLast Go.Proofs.YtailpfcbdopfeaaGreatDoorW.PrintMore
attribute [local go_sem] max2_int min2_int max_two min_two max_three min_three max_four min_four
set_option linter.unusedVariables false
set_option linter.unusedSimpArgs false
/-! ### literal_Word: function 63 -/
mutual
def literal_Word.j0 : Nat → ByteArray → Int → Bool → ByteArray → List Int → Option (ByteArray)
 | 0, _, _, _, _, _ => none
 | k + 1, x3, x254000, x254001, x254002, x254003 => if x254000 = 1 then (if 0 < (x254003.length : Int) then ((strconv_Itoa.f (rd x254003 0)).bind fun t255 => (if x3.size + t255.size ≤ 9223372036854775807 then (if (x3 ++ t255).size + 1 ≤ 9223372036854775807 then (if 1 < (x254003.length : Int) then ((strconv_Itoa.f (rd x254003 1)).bind fun t257 => (if ((x3 ++ t255) ++ (⟨#[61]⟩ : ByteArray)).size + t257.size ≤ 9223372036854775807 then (some (((x3 ++ t255) ++ (⟨#[61]⟩ : ByteArray)) ++ t257)) else (none))) else (none)) else (none)) else (none))) else (none)) else (if x254000 = 2 then (if 0 < (x254003.length : Int) then ((strconv_Itoa.f (rd x254003 0)).bind fun t259 => (if x3.size + t259.size ≤ 9223372036854775807 then (if (x3 ++ t259).size + 1 ≤ 9223372036854775807 then (if 1 < (x254003.length : Int) then ((strconv_Itoa.f (rd x254003 1)).bind fun t261 => (if ((x3 ++ t259) ++ (⟨#[60]⟩ : ByteArray)).size + t261.size ≤ 9223372036854775807 then (some (((x3 ++ t259) ++ (⟨#[60]⟩ : ByteArray)) ++ t261)) else (none))) else (none)) else (none)) else (none))) else (none)) else (literal_Word.l0 k x3 ([] : List ByteArray) x254003 (x254003.length : Int) 0 x254000 x254001 x254002 x254003))
def literal_Word.l0 : Nat → ByteArray → List ByteArray → List Int → Int → Int → Int → Bool → ByteArray → List Int → Option (ByteArray)
 | 0, _, _, _, _, _, _, _, _, _ => none
 | k + 1, x3, x4, x44, x45, x46, x254000, x254001, x254002, x254003 => if x46 < x45 then (if 0 ≤ x46 then (if x46 < (x44.length : Int) then ((strconv_Itoa.f (rd x44 x46)).bind fun t263 => (if x4.length < 8796093022208 then (literal_Word.l0 k x3 (x4 ++ [t263]) x44 x45 (wrap64 (x46 + 1)) x254000 x254001 x254002 x254003) else (none))) else (none)) else (none)) else (if x3.size + x254002.size ≤ 9223372036854775807 then (if (x3 ++ x254002).size + 1 ≤ 9223372036854775807 then ((strings_Join.f x4 (⟨#[44]⟩ : ByteArray)).bind fun t267 => (if ((x3 ++ x254002) ++ (⟨#[40]⟩ : ByteArray)).size + t267.size ≤ 9223372036854775807 then (if (((x3 ++ x254002) ++ (⟨#[40]⟩ : ByteArray)) ++ t267).size + 1 ≤ 9223372036854775807 then (some ((((x3 ++ x254002) ++ (⟨#[40]⟩ : ByteArray)) ++ t267) ++ (⟨#[41]⟩ : ByteArray))) else (none)) else (none))) else (none)) else (none))
end
def literal_Word.f (k : Nat) (a0_0 : Int) (a0_1 : Bool) (a0_2 : ByteArray) (l0_3 : List Int) : Option (ByteArray) := if a0_1 = true then (literal_Word.j0 k (⟨#[33]⟩ : ByteArray) a0_0 a0_1 a0_2 l0_3) else (literal_Word.j0 k (⟨#[]⟩ : ByteArray) a0_0 a0_1 a0_2 l0_3)
def literal_Word.T6 : Bool × List (List Nat × List Nat) := (true, [([], []), ([], []), ([1], [1]), ([2], [2]), ([3], [3]), ([4], [4]), ([0, 5], [0, 5]), ([6], [6]), ([], []), ([8], [8]), ([9], [9]), ([10], [10]), ([11, 5], [11]), ([7, 12], [7, 12]), ([13, 12, 0, 1, 2, 3, 4, 5, 6, 7, 8, 9, 10, 11, 12, 13], [13])])
def literal_Word.B6 : List Nat := [0, 0, 2, 6, 14, 30, 63, 127, 0, 256, 768, 1792, 3902, 8191, 16383]
theorem literal_Word.tab6 : rtab .any (opsOf Tryz.f63 6) = literal_Word.T6 := by kernel_rfl
theorem literal_Word.bits6 : waitsOk literal_Word.T6.2 literal_Word.B6 = true := by kernel_rfl
def literal_Word.T8 : Bool × List (List Nat × List Nat) := (true, [([], []), ([], []), ([1], [1]), ([2], [2]), ([3], [3]), ([4], [4]), ([0, 5], [0, 5]), ([6], [6]), ([], []), ([8], [8]), ([9], [9]), ([10], [10]), ([11, 5], [11]), ([7, 12], [7, 12]), ([13, 12, 0, 1, 2, 3, 4, 5, 6, 7, 8, 9, 10, 11, 12, 13], [13])])
def literal_Word.B8 : List Nat := [0, 0, 2, 6, 14, 30, 63, 127, 0, 256, 768, 1792, 3902, 8191, 16383]
theorem literal_Word.tab8 : rtab .any (opsOf Tryz.f63 8) = literal_Word.T8 := by kernel_rfl
theorem literal_Word.bits8 : waitsOk literal_Word.T8.2 literal_Word.B8 = true := by kernel_rfl
def literal_Word.T15 : Bool × List (List Nat × List Nat) := (true, [([], []), ([], []), ([1], [1]), ([0, 2], [0, 2]), ([3], [3]), ([], []), ([5], [5]), ([4, 6], [4, 6]), ([7], [7]), ([8, 6, 0, 1, 2, 3, 4, 5, 6, 7, 8], [8])])
def literal_Word.B15 : List Nat := [0, 0, 2, 7, 15, 0, 32, 127, 255, 511]
theorem literal_Word.tab15 : rtab .any (opsOf Tryz.f63 15) = literal_Word.T15 := by kernel_rfl
theorem literal_Word.bits15 : waitsOk literal_Word.T15.2 literal_Word.B15 = true := by kernel_rfl
set_option maxHeartbeats 8000000 in
set_option maxRecDepth 100000 in
theorem literal_Word.calls (k : Nat) (a0_0 : Int) (a0_1 : Bool) (a0_2 : ByteArray) (A0_3 : Option Addr) (c0_3 : Nat) (l0_3 : List Int) (r : ByteArray) (w : World) (hG : Glob w) (hr0_3 : Kd.C (Kd.int .i64) w A0_3 l0_3.length l0_3) (hc0_3 : l0_3.length ≤ c0_3) (h : literal_Word.f k a0_0 a0_1 a0_2 l0_3 = some r) :
  Calls Tryz.prog 63 #[.agg #[.int .i64 a0_0, .bool a0_1, .string a0_2, .slice A0_3 l0_3.length c0_3]] w fun e w' => e = .returned (.string r) ∧ Below w.heap.size w w' := by
 have hu42 := Tryz.underlying42
 have HR0_3 := Aside0.mk hr0_3
 have HC0_3 := Aside0.mk hc0_3
 clear hr0_3 hc0_3
 have HG := Aside0.mk hG
 clear hG
 have HB := Aside0.mk (Below.refl w.heap.size w)
 have H : (if a0_1 = true then (literal_Word.j0 k (⟨#[33]⟩ : ByteArray) a0_0 a0_1 a0_2 l0_3) else (literal_Word.j0 k (⟨#[]⟩ : ByteArray) a0_0 a0_1 a0_2 l0_3)) = some r := h
 clear h
 have HC2 := Aside0.mk H
 clear H
 go_enter Tryz.func63, Tryz.ntmps63
 go_upto_if 8 with (first | ((with_reducible refine gate_dst (N := 1) rfl ?_); refine box_event ?hg (N := 1) ?hd (cs := #[.int .i64 a0_0, .bool a0_1, .string a0_2, .slice A0_3 l0_3.length c0_3]) (t := 42) ?hr ?_; (case hd => rfl); (case hg => rfl); (case hr => first | (go_simp; done) | (go_simp; rfl)); intro gb253 hg w3 hbox hb; have BK253 := Aside0.mk (hbox); have GW253 := geB w hg; have GE253 := geB w hg; replace HB := Aside0.mk (below_step bel hb); clear hb hbox hg; obtain ⟨hcz4_0, hcz4_1, hcz4_2, hcz4_3, hfz4_0, hfz4_1, hfz4_2, hfz4_3⟩ := bq4 BK253))
 (try simp only [Act.put, List.setIfInBounds_toArray, List.set_cons_zero, List.set_cons_succ])
 go_cut [3] (fun v3 wc => ∃ (kq : Nat) (x3_1 : ByteArray), v3 = .string x3_1 ∧ Aside0 (literal_Word.j0 kq x3_1 a0_0 a0_1 a0_2 l0_3 = some r) ∧ Aside0 (kq ≤ k) ∧ Aside0 (wc.heap[gb253]? = some (.cells #[.int .i64 a0_0, .bool a0_1, .string a0_2, (.slice A0_3 l0_3.length c0_3)] 42 (0, 0))) ∧ Aside0 (Below w.heap.size w wc))
 case first =>
  have H := HC2.out
  clear HC2
  by_cases c5 : a0_1 = true
  ·subst c5
   have H1 : (literal_Word.j0 k (⟨#[33]⟩ : ByteArray) a0_0 true a0_2 l0_3) = some r := by rw [if_pos rfl] at H; exact H
   clear H
   have H := H1
   clear H1
   have H' := Aside0.mk H
   clear H
   go_wp2
   go_meet
   case rel => exact ⟨_, ((⟨#[33]⟩ : ByteArray)), eS, H', ⟨kle⟩, ⟨bk BK253⟩, ⟨bel⟩⟩
  ·replace c5 := Bool.eq_false_iff.mpr c5
   subst c5
   have H1 : (literal_Word.j0 k (⟨#[]⟩ : ByteArray) a0_0 false a0_2 l0_3) = some r := by rw [if_neg (show ¬ (false = true) by decide)] at H; exact H
   clear H
   have H := H1
   clear H1
   have H' := Aside0.mk H
   clear H
   go_wp2
   go_meet
   case rel => exact ⟨_, ((⟨#[]⟩ : ByteArray)), eS, H', ⟨kle⟩, ⟨bk BK253⟩, ⟨bel⟩⟩
 case rest =>
  clear HC2
  (try clear hcz4_0); (try clear hcz4_1); (try clear hcz4_2); (try clear hcz4_3); (try clear hfz4_0); (try clear hfz4_1); (try clear hfz4_2); (try clear hfz4_3)
  obtain ⟨kq, x3_1, rfl, HA, HJ1, BK253, HB⟩ := hcut
  cases kq with
  | zero => exact absurd HA.out (by simp [literal_Word.j0])
  | succ kj1 =>
   have H := HA.out
   clear HA
   simp only [literal_Word.j0] at H
   by_cases c6 : a0_0 = 1
   ·rw [if_pos c6] at H
    have c6b0 : (a0_0 == 1) = true := beq_iff_eq.mpr c6
    have c6b1 : (a0_0 != 1) = false := bne_eq_false_iff_eq.mpr c6
    clear c6
    by_cases c7 : 0 < (l0_3.length : Int)
    ·rw [if_pos c7] at H
     have c7b0 : decide (0 < (l0_3.length : Int)) = true := decide_eq_true c7
     have c7b1 : decide (0 < l0_3.length) = true := decide_eq_true (by omega)
     clear c7
     replace H := Option.bind_eq_some_iff.mp H
     obtain ⟨t255, A80, H⟩ := H
     replace H : (if x3_1.size + t255.size ≤ 9223372036854775807 then (if (x3_1 ++ t255).size + 1 ≤ 9223372036854775807 then (if 1 < (l0_3.length : Int) then ((strconv_Itoa.f (rd l0_3 1)).bind fun t257 => (if ((x3_1 ++ t255) ++ (⟨#[61]⟩ : ByteArray)).size + t257.size ≤ 9223372036854775807 then (some (((x3_1 ++ t255) ++ (⟨#[61]⟩ : ByteArray)) ++ t257)) else (none))) else (none)) else (none)) else (none)) = some r := H
     have A8 := Aside0.mk A80
     clear A80
     by_cases c9 : x3_1.size + t255.size ≤ 9223372036854775807
     ·rw [if_pos c9] at H
      have c9b0 := eq_true c9
      have c9b1 : decide (x3_1.size + t255.size ≤ 9223372036854775807) = true := decide_eq_true c9
      try have c9b2 : (9223372036854775807 < x3_1.size + t255.size) = False := eq_false (Nat.not_lt.2 c9)
      by_cases c10 : (x3_1 ++ t255).size + 1 ≤ 9223372036854775807
      ·rw [if_pos c10] at H
       have c10b0 := eq_true c10
       have c10b1 : decide ((x3_1 ++ t255).size + 1 ≤ 9223372036854775807) = true := decide_eq_true c10
       try have c10b2 : (9223372036854775807 < (x3_1 ++ t255).size + 1) = False := eq_false (Nat.not_lt.2 c10)
       try have c10b3 : (9223372036854775807 < x3_1.size + t255.size + 1) = False := by have h_ := c10; simp only [ByteArray.size_append] at h_; exact eq_false (Nat.not_lt.2 h_)
       by_cases c11 : 1 < (l0_3.length : Int)
       ·rw [if_pos c11] at H
        have c11b0 : decide (1 < (l0_3.length : Int)) = true := decide_eq_true c11
        have c11b1 : decide (1 < l0_3.length) = true := decide_eq_true (by omega)
        clear c11
        replace H := Option.bind_eq_some_iff.mp H
        obtain ⟨t257, A120, H⟩ := H
        replace H : (if ((x3_1 ++ t255) ++ (⟨#[61]⟩ : ByteArray)).size + t257.size ≤ 9223372036854775807 then (some (((x3_1 ++ t255) ++ (⟨#[61]⟩ : ByteArray)) ++ t257)) else (none)) = some r := H
        have A12 := Aside0.mk A120
        clear A120
        by_cases c13 : ((x3_1 ++ t255) ++ (⟨#[61]⟩ : ByteArray)).size + t257.size ≤ 9223372036854775807
        ·rw [if_pos c13] at H
         have c13b0 := eq_true c13
         have c13b1 : decide (((x3_1 ++ t255) ++ (⟨#[61]⟩ : ByteArray)).size + t257.size ≤ 9223372036854775807) = true := decide_eq_true c13
         try have c13b2 : (9223372036854775807 < ((x3_1 ++ t255) ++ (⟨#[61]⟩ : ByteArray)).size + t257.size) = False := eq_false (Nat.not_lt.2 c13)
         try have c13b3 : (9223372036854775807 < x3_1.size + t255.size + 1 + t257.size) = False := by have h_ := c13; simp only [ByteArray.size_append] at h_; exact eq_false (Nat.not_lt.2 h_)
         obtain rfl := Option.some.inj H
         obtain ⟨hcz14_0, hcz14_1, hcz14_2, hcz14_3, hfz14_0, hfz14_1, hfz14_2, hfz14_3⟩ := bq4 BK253
         try go_wp2
         replace BK253 := Aside0.mk (blk_drew BK253.out)
         replace HB := Aside0.mk (below_drew1 HB.out)
         have p254 : 0 ≤ (0 : Int) := (by omega)
         have q254 : 0 < (l0_3.length : Int) := dtr
         obtain ⟨ad254, e254, hx254_0⟩ := Kd.at_int HR0_3.out 0 p254 q254
         have hw254_0 := hx254_0
         (try rw [show ((0 : Int)).toNat = 0 from rfl] at hw254_0)
         (try rw [show 0 * 1 = 0 from rfl] at hw254_0)
         (try rw [Addr.add_zero'] at hw254_0)
         cases e254
         have qi254 : (0 < l0_3.length) = True := eq_true (by omega)
         (try rw [show ((0 : Int)).toNat = 0 from rfl] at hx254_0)
         (try rw [Addr.add_zero'] at hx254_0)
         replace hx254_0 := oc hx254_0
         replace p254 := eq_true p254
         replace q254 := eq_true q254
         have p256 : 0 ≤ (1 : Int) := (by omega)
         have q256 : 1 < (l0_3.length : Int) := dtr
         obtain ⟨ad256, e256, hx256_0⟩ := Kd.at_int HR0_3.out 1 p256 q256
         have hw256_0 := hx256_0
         (try rw [show ((1 : Int)).toNat = 1 from rfl] at hw256_0)
         (try rw [show 1 * 1 = 1 from rfl] at hw256_0)
         (try simp only [Nat.reduceMul, Nat.reduceEqDiff, Go.Addr.add, ↓reduceIte] at hw256_0)
         obtain rfl : ad254 = ad256 := (by injection e256)
         (try simp only [show (1 : Int).toNat = 1 from rfl, Nat.reduceMul, Nat.reduceEqDiff, Go.Addr.add, ↓reduceIte] at hx256_0)
         have qi256 : (1 < l0_3.length) = True := eq_true (by omega)
         (try rw [show ((1 : Int)).toNat = 1 from rfl] at hx256_0)
         replace hx256_0 := oc hx256_0
         replace p256 := eq_true p256
         replace q256 := eq_true q256
         refine start_ (n := 15) (S := fun w' => w'.cell? ⟨gb253, 0, none⟩ = some (.int .i64 a0_0) ∧ w'.cell? ⟨gb253, 1, none⟩ = some (.bool a0_1) ∧ w'.cell? ⟨gb253, 2, none⟩ = some (.string a0_2) ∧ w'.cell? ⟨gb253, 3, none⟩ = some (.slice (some ad254) l0_3.length c0_3) ∧ w'.cell? ad254 = some (.int .i64 (rd l0_3 0)) ∧ w'.cell? ⟨ad254.block, ad254.off + 1, none⟩ = some (.int .i64 (rd l0_3 1))) (ds := []) #[false, false, false, false, false, false, false, false, false, false, false, false, false, false, false] (by kernel_rfl) rfl rfl ⟨(blk_cell BK253.out 0).trans rfl, (blk_cell BK253.out 1).trans rfl, (blk_cell BK253.out 2).trans rfl, (blk_cell BK253.out 3).trans rfl, (oc hw254_0), (oc hw256_0)⟩ (fun hHeld => ?_); refine with_tabW literal_Word.tab6 literal_Word.bits6 (fun HT_ HW_ => ?_)
         generalize wc.drew = w15 at BK253 HB hx254_0 hx256_0 hHeld ⊢
         refine sPu 0 (some 13) ?_
         refine sPu 1 (some 14) ?_
         refine sPu 8 (some 21) ?_
         refine sTk 2 (some 15) ?_
         refine sPu 3 (some 16) ?_
         refine sTk 4 (some 17) ?_
         refine sTk 9 (some 22) ?_
         refine sPu 10 (some 23) ?_
         refine sTk 11 (some 24) ?_
         refine sOn 5 (some 18) (fun K hK => ?_)
         refine goes_ Tryz.func43 (by kernel_rfl) rfl #[.int .i64 (rd l0_3 0)] (by rfl) rfl rfl (by (try simp only [List.map_toArray, List.map_cons, List.map_nil]); first | done | rfl | (simp only [List.length_drop, List.length_take]; rfl)) ?_
         with_reducible refine (strconv_Itoa.calls (rd l0_3 0) t255 _ ?side1 A8.out).mono ?_
         (case side1 => first | exact HG.out | exact Glob.below HG.out bel)
         rintro e w16 ⟨rfl, hb⟩
         refine ⟨_, rfl, ?_⟩
         replace BK253 := blB BK253 hb
         replace HB := Aside0.mk (below_step bel hb)
         (try clear hb)
         (try clear hb2)
         (try clear hk)
         (try clear hi)
         refine hK.out _ _ ⟨(blk_cell BK253.out 0).trans rfl, (blk_cell BK253.out 1).trans rfl, (blk_cell BK253.out 2).trans rfl, (blk_cell BK253.out 3).trans rfl, (oc hw254_0), (oc hw256_0)⟩ (fun hHeld => ?_)
         clear hK K
         refine norm_ (a' := ?_) ?_ ?_
         rotate_left
         ·show Act.put _ (some 18) _ = _
          simp only [Act.put, List.setIfInBounds_toArray, List.set_cons_zero, List.set_cons_succ, i64_w, i32_w]
          rfl
         refine sPu 6 (some 19) ?_
         refine sPu 7 (some 20) ?_
         refine sOn 12 (some 25) (fun K hK => ?_)
         refine goes_ Tryz.func43 (by kernel_rfl) rfl #[.int .i64 (rd l0_3 1)] (by rfl) rfl rfl (by (try simp only [List.map_toArray, List.map_cons, List.map_nil]); first | done | rfl | (simp only [List.length_drop, List.length_take]; rfl)) ?_
         with_reducible refine (strconv_Itoa.calls (rd l0_3 1) t257 _ ?side1 A12.out).mono ?_
         (case side1 => first | exact HG.out | exact Glob.below HG.out bel)
         rintro e w17 ⟨rfl, hb⟩
         refine ⟨_, rfl, ?_⟩
         replace BK253 := blB BK253 hb
         replace HB := Aside0.mk (below_step bel hb)
         (try clear hb)
         (try clear hb2)
         (try clear hk)
         (try clear hi)
         refine hK.out _ _ ⟨(blk_cell BK253.out 0).trans rfl, (blk_cell BK253.out 1).trans rfl, (blk_cell BK253.out 2).trans rfl, (blk_cell BK253.out 3).trans rfl, (oc hw254_0), (oc hw256_0)⟩ (fun hHeld => ?_)
         clear hK K
         refine norm_ (a' := ?_) ?_ ?_
         rotate_left
         ·show Act.put _ (some 25) _ = _
          simp only [Act.put, List.setIfInBounds_toArray, List.set_cons_zero, List.set_cons_succ, i64_w, i32_w]
          rfl
         refine sPu 13 (some 26) ?_
         refine sPu 14 (some 2) ?_
         refine done_ (done_of HT_.out (by kernel_rfl)) ?_
         try go_wp2
         go_ret
         exact ⟨eN, bel⟩
        ·rw [if_neg c13] at H
         exact absurd H (by simp)
       ·rw [if_neg c11] at H
        exact absurd H (by simp)
      ·rw [if_neg c10] at H
       exact absurd H (by simp)
     ·rw [if_neg c9] at H
      exact absurd H (by simp)
    ·rw [if_neg c7] at H
     exact absurd H (by simp)
   ·rw [if_neg c6] at H
    have c6b0 : (a0_0 == 1) = false := beq_eq_false_iff_ne.mpr c6
    have c6b1 : (a0_0 != 1) = true := bne_iff_ne.mpr c6
    by_cases c18 : a0_0 = 2
    ·rw [if_pos c18] at H
     have c18b0 : (a0_0 == 2) = true := beq_iff_eq.mpr c18
     have c18b1 : (a0_0 != 2) = false := bne_eq_false_iff_eq.mpr c18
     clear c18
     by_cases c19 : 0 < (l0_3.length : Int)
     ·rw [if_pos c19] at H
      have c19b0 : decide (0 < (l0_3.length : Int)) = true := decide_eq_true c19
      have c19b1 : decide (0 < l0_3.length) = true := decide_eq_true (by omega)
      clear c19
      replace H := Option.bind_eq_some_iff.mp H
      obtain ⟨t259, A200, H⟩ := H
      replace H : (if x3_1.size + t259.size ≤ 9223372036854775807 then (if (x3_1 ++ t259).size + 1 ≤ 9223372036854775807 then (if 1 < (l0_3.length : Int) then ((strconv_Itoa.f (rd l0_3 1)).bind fun t261 => (if ((x3_1 ++ t259) ++ (⟨#[60]⟩ : ByteArray)).size + t261.size ≤ 9223372036854775807 then (some (((x3_1 ++ t259) ++ (⟨#[60]⟩ : ByteArray)) ++ t261)) else (none))) else (none)) else (none)) else (none)) = some r := H
      have A20 := Aside0.mk A200
      clear A200
      by_cases c21 : x3_1.size + t259.size ≤ 9223372036854775807
      ·rw [if_pos c21] at H
       have c21b0 := eq_true c21
       have c21b1 : decide (x3_1.size + t259.size ≤ 9223372036854775807) = true := decide_eq_true c21
       try have c21b2 : (9223372036854775807 < x3_1.size + t259.size) = False := eq_false (Nat.not_lt.2 c21)
       by_cases c22 : (x3_1 ++ t259).size + 1 ≤ 9223372036854775807
       ·rw [if_pos c22] at H
        have c22b0 := eq_true c22
        have c22b1 : decide ((x3_1 ++ t259).size + 1 ≤ 9223372036854775807) = true := decide_eq_true c22
        try have c22b2 : (9223372036854775807 < (x3_1 ++ t259).size + 1) = False := eq_false (Nat.not_lt.2 c22)
        try have c22b3 : (9223372036854775807 < x3_1.size + t259.size + 1) = False := by have h_ := c22; simp only [ByteArray.size_append] at h_; exact eq_false (Nat.not_lt.2 h_)
        by_cases c23 : 1 < (l0_3.length : Int)
        ·rw [if_pos c23] at H
         have c23b0 : decide (1 < (l0_3.length : Int)) = true := decide_eq_true c23
         have c23b1 : decide (1 < l0_3.length) = true := decide_eq_true (by omega)
         clear c23
         replace H := Option.bind_eq_some_iff.mp H
         obtain ⟨t261, A240, H⟩ := H
         replace H : (if ((x3_1 ++ t259) ++ (⟨#[60]⟩ : ByteArray)).size + t261.size ≤ 9223372036854775807 then (some (((x3_1 ++ t259) ++ (⟨#[60]⟩ : ByteArray)) ++ t261)) else (none)) = some r := H
         have A24 := Aside0.mk A240
         clear A240
         by_cases c25 : ((x3_1 ++ t259) ++ (⟨#[60]⟩ : ByteArray)).size + t261.size ≤ 9223372036854775807
         ·rw [if_pos c25] at H
          have c25b0 := eq_true c25
          have c25b1 : decide (((x3_1 ++ t259) ++ (⟨#[60]⟩ : ByteArray)).size + t261.size ≤ 9223372036854775807) = true := decide_eq_true c25
          try have c25b2 : (9223372036854775807 < ((x3_1 ++ t259) ++ (⟨#[60]⟩ : ByteArray)).size + t261.size) = False := eq_false (Nat.not_lt.2 c25)
          try have c25b3 : (9223372036854775807 < x3_1.size + t259.size + 1 + t261.size) = False := by have h_ := c25; simp only [ByteArray.size_append] at h_; exact eq_false (Nat.not_lt.2 h_)
          obtain rfl := Option.some.inj H
          obtain ⟨hcz26_0, hcz26_1, hcz26_2, hcz26_3, hfz26_0, hfz26_1, hfz26_2, hfz26_3⟩ := bq4 BK253
          try go_wp2
          replace BK253 := Aside0.mk (blk_drew BK253.out)
          replace HB := Aside0.mk (below_drew1 HB.out)
          have p258 : 0 ≤ (0 : Int) := (by omega)
          have q258 : 0 < (l0_3.length : Int) := dtr
          obtain ⟨ad258, e258, hx258_0⟩ := Kd.at_int HR0_3.out 0 p258 q258
          have hw258_0 := hx258_0
          (try rw [show ((0 : Int)).toNat = 0 from rfl] at hw258_0)
          (try rw [show 0 * 1 = 0 from rfl] at hw258_0)
          (try rw [Addr.add_zero'] at hw258_0)
          cases e258
          have qi258 : (0 < l0_3.length) = True := eq_true (by omega)
          (try rw [show ((0 : Int)).toNat = 0 from rfl] at hx258_0)
          (try rw [Addr.add_zero'] at hx258_0)
          replace hx258_0 := oc hx258_0
          replace p258 := eq_true p258
          replace q258 := eq_true q258
          have p260 : 0 ≤ (1 : Int) := (by omega)
          have q260 : 1 < (l0_3.length : Int) := dtr
          obtain ⟨ad260, e260, hx260_0⟩ := Kd.at_int HR0_3.out 1 p260 q260
          have hw260_0 := hx260_0
          (try rw [show ((1 : Int)).toNat = 1 from rfl] at hw260_0)
          (try rw [show 1 * 1 = 1 from rfl] at hw260_0)
          (try simp only [Nat.reduceMul, Nat.reduceEqDiff, Go.Addr.add, ↓reduceIte] at hw260_0)
          obtain rfl : ad258 = ad260 := (by injection e260)
          (try simp only [show (1 : Int).toNat = 1 from rfl, Nat.reduceMul, Nat.reduceEqDiff, Go.Addr.add, ↓reduceIte] at hx260_0)
          have qi260 : (1 < l0_3.length) = True := eq_true (by omega)
          (try rw [show ((1 : Int)).toNat = 1 from rfl] at hx260_0)
          replace hx260_0 := oc hx260_0
          replace p260 := eq_true p260
          replace q260 := eq_true q260
          refine start_ (n := 15) (S := fun w' => w'.cell? ⟨gb253, 0, none⟩ = some (.int .i64 a0_0) ∧ w'.cell? ⟨gb253, 1, none⟩ = some (.bool a0_1) ∧ w'.cell? ⟨gb253, 2, none⟩ = some (.string a0_2) ∧ w'.cell? ⟨gb253, 3, none⟩ = some (.slice (some ad258) l0_3.length c0_3) ∧ w'.cell? ad258 = some (.int .i64 (rd l0_3 0)) ∧ w'.cell? ⟨ad258.block, ad258.off + 1, none⟩ = some (.int .i64 (rd l0_3 1))) (ds := []) #[false, false, false, false, false, false, false, false, false, false, false, false, false, false, false] (by kernel_rfl) rfl rfl ⟨(blk_cell BK253.out 0).trans rfl, (blk_cell BK253.out 1).trans rfl, (blk_cell BK253.out 2).trans rfl, (blk_cell BK253.out 3).trans rfl, (oc hw258_0), (oc hw260_0)⟩ (fun hHeld => ?_); refine with_tabW literal_Word.tab8 literal_Word.bits8 (fun HT_ HW_ => ?_)
          generalize wc.drew = w27 at BK253 HB hx258_0 hx260_0 hHeld ⊢
          refine sPu 0 (some 29) ?_
          refine sPu 1 (some 30) ?_
          refine sPu 8 (some 37) ?_
          refine sTk 2 (some 31) ?_
          refine sPu 3 (some 32) ?_
          refine sTk 4 (some 33) ?_
          refine sTk 9 (some 38) ?_
          refine sPu 10 (some 39) ?_
          refine sTk 11 (some 40) ?_
          refine sOn 5 (some 34) (fun K hK => ?_)
          refine goes_ Tryz.func43 (by kernel_rfl) rfl #[.int .i64 (rd l0_3 0)] (by rfl) rfl rfl (by (try simp only [List.map_toArray, List.map_cons, List.map_nil]); first | done | rfl | (simp only [List.length_drop, List.length_take]; rfl)) ?_
          with_reducible refine (strconv_Itoa.calls (rd l0_3 0) t259 _ ?side1 A20.out).mono ?_
          (case side1 => first | exact HG.out | exact Glob.below HG.out bel)
          rintro e w28 ⟨rfl, hb⟩
          refine ⟨_, rfl, ?_⟩
          replace BK253 := blB BK253 hb
          replace HB := Aside0.mk (below_step bel hb)
          (try clear hb)
          (try clear hb2)
          (try clear hk)
          (try clear hi)
          refine hK.out _ _ ⟨(blk_cell BK253.out 0).trans rfl, (blk_cell BK253.out 1).trans rfl, (blk_cell BK253.out 2).trans rfl, (blk_cell BK253.out 3).trans rfl, (oc hw258_0), (oc hw260_0)⟩ (fun hHeld => ?_)
          clear hK K
          refine norm_ (a' := ?_) ?_ ?_
          rotate_left
          ·show Act.put _ (some 34) _ = _
           simp only [Act.put, List.setIfInBounds_toArray, List.set_cons_zero, List.set_cons_succ, i64_w, i32_w]
           rfl
          refine sPu 6 (some 35) ?_
          refine sPu 7 (some 36) ?_
          refine sOn 12 (some 41) (fun K hK => ?_)
          refine goes_ Tryz.func43 (by kernel_rfl) rfl #[.int .i64 (rd l0_3 1)] (by rfl) rfl rfl (by (try simp only [List.map_toArray, List.map_cons, List.map_nil]); first | done | rfl | (simp only [List.length_drop, List.length_take]; rfl)) ?_
          with_reducible refine (strconv_Itoa.calls (rd l0_3 1) t261 _ ?side1 A24.out).mono ?_
          (case side1 => first | exact HG.out | exact Glob.below HG.out bel)
          rintro e w29 ⟨rfl, hb⟩
          refine ⟨_, rfl, ?_⟩
          replace BK253 := blB BK253 hb
          replace HB := Aside0.mk (below_step bel hb)
          (try clear hb)
          (try clear hb2)
          (try clear hk)
          (try clear hi)
          refine hK.out _ _ ⟨(blk_cell BK253.out 0).trans rfl, (blk_cell BK253.out 1).trans rfl, (blk_cell BK253.out 2).trans rfl, (blk_cell BK253.out 3).trans rfl, (oc hw258_0), (oc hw260_0)⟩ (fun hHeld => ?_)
          clear hK K
          refine norm_ (a' := ?_) ?_ ?_
          rotate_left
          ·show Act.put _ (some 41) _ = _
           simp only [Act.put, List.setIfInBounds_toArray, List.set_cons_zero, List.set_cons_succ, i64_w, i32_w]
           rfl
          refine sPu 13 (some 42) ?_
          refine sPu 14 (some 2) ?_
          refine done_ (done_of HT_.out (by kernel_rfl)) ?_
          try go_wp2
          go_ret
          exact ⟨eN, bel⟩
         ·rw [if_neg c25] at H
          exact absurd H (by simp)
        ·rw [if_neg c23] at H
         exact absurd H (by simp)
       ·rw [if_neg c22] at H
        exact absurd H (by simp)
      ·rw [if_neg c21] at H
       exact absurd H (by simp)
     ·rw [if_neg c19] at H
      exact absurd H (by simp)
    ·rw [if_neg c18] at H
     have c18b0 : (a0_0 == 2) = false := beq_eq_false_iff_ne.mpr c18
     have c18b1 : (a0_0 != 2) = true := bne_iff_ne.mpr c18
     have H' := Aside0.mk H
     clear H
     obtain ⟨hcz30_0, hcz30_1, hcz30_2, hcz30_3, hfz30_0, hfz30_1, hfz30_2, hfz30_3⟩ := bq4 BK253
     go_wp2
     go_loopg [4, 46] kj1 (fun kq v4 v46 w' => ∃ (x4_2 : List ByteArray) (x46_2 : Int), v46 = .int .i64 x46_2 ∧ Aside0 (literal_Word.l0 kq x3_1 x4_2 l0_3 (l0_3.length : Int) x46_2 a0_0 a0_1 a0_2 l0_3 = some r) ∧ Aside0 (kq ≤ kj1) ∧ Aside0 (Kd.R Kd.string 9 w' w.heap.size (fun _ => True) v4 x4_2) ∧ Aside0 (w'.heap[gb253]? = some (.cells #[.int .i64 a0_0, .bool a0_1, .string a0_2, (.slice A0_3 l0_3.length c0_3)] 42 (0, 0))) ∧ Aside0 (Below w.heap.size w w'))
     case atStart => exact ⟨(([] : List ByteArray)), (0), eS, H', ⟨Nat.le_refl _⟩, ⟨by first | exact Kd.R_nil _ _ _ _ _ | exact Kd.N_nil _ _ _ _ _ | exact Kd.V_nil _ _ _ _ _ | exact Kd.Q_nil _ _ _ _ _ | exact Kd.S_nil _ _ _ _ _⟩, ⟨bk BK253⟩, ⟨bel⟩⟩
     case round =>
      clear H'
      (try clear c6); (try clear c6b0); (try clear c6b1); (try clear c18); (try clear c18b0); (try clear c18b1); (try clear hcz30_0); (try clear hcz30_1); (try clear hcz30_2); (try clear hcz30_3); (try clear hcz4_0); (try clear hcz4_1); (try clear hcz4_2); (try clear hcz4_3); (try clear hfz30_0); (try clear hfz30_1); (try clear hfz30_2); (try clear hfz30_3); (try clear hfz4_0); (try clear hfz4_1); (try clear hfz4_2); (try clear hfz4_3)
      obtain ⟨x4_2, x46_2, rfl, HA, HK2, HO_4, BK253, HB⟩ := hrel
      cases gk with
      | zero => exact absurd HA.out (by simp [literal_Word.l0])
      | succ k2 =>
       have H := HA.out
       clear HA
       simp only [literal_Word.l0] at H
       by_cases c31 : x46_2 < (l0_3.length : Int)
       ·rw [if_pos c31] at H
        have c31b0 : decide (x46_2 < (l0_3.length : Int)) = true := decide_eq_true c31
        clear c31
        by_cases c32 : 0 ≤ x46_2
        ·rw [if_pos c32] at H
         have c32b0 : decide (0 ≤ x46_2) = true := decide_eq_true c32
         clear c32
         by_cases c33 : x46_2 < (l0_3.length : Int)
         ·rw [if_pos c33] at H
          have c33b0 : decide (x46_2 < (l0_3.length : Int)) = true := decide_eq_true c33
          clear c33
          replace H := Option.bind_eq_some_iff.mp H
          obtain ⟨t263, A340, H⟩ := H
          replace H : (if x4_2.length < 8796093022208 then (literal_Word.l0 k2 x3_1 (x4_2 ++ [t263]) l0_3 (l0_3.length : Int) (wrap64 (x46_2 + 1)) a0_0 a0_1 a0_2 l0_3) else (none)) = some r := H
          have A34 := Aside0.mk A340
          clear A340
          by_cases c35 : x4_2.length < 8796093022208
          ·rw [if_pos c35] at H
           have LMc35 := Aside0.mk c35
           clear c35
           obtain ⟨y264, hy264⟩ : ∃ y_ : List ByteArray, y_ = (x4_2 ++ [t263]) := ⟨_, rfl⟩
           replace H : (literal_Word.l0 k2 x3_1 y264 l0_3 (l0_3.length : Int) (wrap64 (x46_2 + 1)) a0_0 a0_1 a0_2 l0_3) = some r := by first | (rw [hy264]; with_reducible exact H) | (have H2_ := (Option.bind_some _ _).symm.trans H; rw [hy264]; with_reducible exact H2_) | (have H2_ := (Option.bind_some _ _).symm.trans H; with_reducible exact H2_) | with_reducible exact H | (rw [hy264]; exact H) | exact H
           have Ny264 := Aside0.mk hy264
           clear hy264
           have H' := Aside0.mk H
           clear H
           have p262 : 0 ≤ (x46_2 : Int) := dtr
           have q262 : x46_2 < (l0_3.length : Int) := dtr
           obtain ⟨ad262, e262, hx262_0⟩ := Kd.at_int HR0_3.out x46_2 p262 q262
           cases e262
           replace hx262_0 := oc hx262_0
           replace p262 := eq_true p262
           replace q262 := eq_true q262
           go_wp2_with (first | ((with_reducible refine gate_callee (f := 43) rfl ?_); refine gL (some 52) Tryz.func43 #[.int .i64 (rd l0_3 x46_2)] ?_; (with_reducible refine (strconv_Itoa.calls (rd l0_3 x46_2) t263 _ ?side1 A34.out).mono ?_); (case side1 => first | exact HG.out | exact Glob.below HG.out bel); rintro e w36 ⟨rfl, hb⟩; refine ⟨_, rfl, ?_⟩; replace HO_4 := rD HO_4 hb; replace BK253 := blB BK253 hb; replace HB := Aside0.mk (below_step bel hb); (try clear hb); (try clear hb2); (try clear hk); (try clear hi)) | ((with_reducible refine gate_builtin (b := .append) (xs := #[.tmp 50, .tmp 53]) rfl ?_); at_builtin; refine Kd.R_append Kd.string (w0 := w) w.heap.size rfl (.tmp 50) (.tmp 53) 51 9 (.string ⟨#[]⟩) 16 rfl Tryz.underlying51 info9 rfl (by decide) (by omega) u4 x4_2 t263 [.string t263] (fun _ => True) (fun _ => False) rfl rfl ?aP (fun _ hk => hk.elim) ?aF ?aO ?aB ?aS ?aL ?_; (case aP => exact rfl); (case aB => exact bel); (case aF => exact (fun _ _ => trivial)); (case aO => exact (tw HO_4.out)); (case aS => exact (below_size bel)); (case aL => have := LMc35.out; omega); intro v265 w37 ho hb hg hat; rw [← Ny264.out] at ho; have HO266 := Aside0.mk (ho); replace BK253 := Aside0.mk (blk_grown (g := gb253) (o := .cells #[.int .i64 a0_0, .bool a0_1, .string a0_2, .slice (some ad262) l0_3.length c0_3] 42 (0, 0)) (bk BK253) hg (Kd.R_ne HO_4.out BK253.out (by decide))); replace HB := Aside0.mk (hb); clear HO_4; clear ho hb hg hat))
           go_roundg k2
           case measure => have := HJ1.out; have := HK2.out; omega
           case rel => exact ⟨(y264), (wrap64 (x46_2 + 1)), eS, H', ⟨by have := HJ1.out; have := HK2.out; omega⟩, ⟨by (with_reducible repeat (first | apply Kd.R_alloc | apply Kd.R_drewN | apply Kd.R_drew)); exact HO266.out⟩, ⟨bk BK253⟩, ⟨bel⟩⟩
          ·rw [if_neg c35] at H
           exact absurd H (by simp)
         ·rw [if_neg c33] at H
          exact absurd H (by simp)
        ·rw [if_neg c32] at H
         exact absurd H (by simp)
       ·rw [if_neg c31] at H
        have c31b0 : decide (x46_2 < (l0_3.length : Int)) = false := decide_eq_false c31
        clear c31
        by_cases c38 : x3_1.size + a0_2.size ≤ 9223372036854775807
        ·rw [if_pos c38] at H
         have c38b0 := eq_true c38
         have c38b1 : decide (x3_1.size + a0_2.size ≤ 9223372036854775807) = true := decide_eq_true c38
         try have c38b2 : (9223372036854775807 < x3_1.size + a0_2.size) = False := eq_false (Nat.not_lt.2 c38)
         by_cases c39 : (x3_1 ++ a0_2).size + 1 ≤ 9223372036854775807
         ·rw [if_pos c39] at H
          have c39b0 := eq_true c39
          have c39b1 : decide ((x3_1 ++ a0_2).size + 1 ≤ 9223372036854775807) = true := decide_eq_true c39
          try have c39b2 : (9223372036854775807 < (x3_1 ++ a0_2).size + 1) = False := eq_false (Nat.not_lt.2 c39)
          try have c39b3 : (9223372036854775807 < x3_1.size + a0_2.size + 1) = False := by have h_ := c39; simp only [ByteArray.size_append] at h_; exact eq_false (Nat.not_lt.2 h_)
          replace H := Option.bind_eq_some_iff.mp H
          obtain ⟨t267, A400, H⟩ := H
          replace H : (if ((x3_1 ++ a0_2) ++ (⟨#[40]⟩ : ByteArray)).size + t267.size ≤ 9223372036854775807 then (if (((x3_1 ++ a0_2) ++ (⟨#[40]⟩ : ByteArray)) ++ t267).size + 1 ≤ 9223372036854775807 then (some ((((x3_1 ++ a0_2) ++ (⟨#[40]⟩ : ByteArray)) ++ t267) ++ (⟨#[41]⟩ : ByteArray))) else (none)) else (none)) = some r := H
          have A40 := Aside0.mk A400
          clear A400
          by_cases c41 : ((x3_1 ++ a0_2) ++ (⟨#[40]⟩ : ByteArray)).size + t267.size ≤ 9223372036854775807
          ·rw [if_pos c41] at H
           have c41b0 := eq_true c41
           have c41b1 : decide (((x3_1 ++ a0_2) ++ (⟨#[40]⟩ : ByteArray)).size + t267.size ≤ 9223372036854775807) = true := decide_eq_true c41
           try have c41b2 : (9223372036854775807 < ((x3_1 ++ a0_2) ++ (⟨#[40]⟩ : ByteArray)).size + t267.size) = False := eq_false (Nat.not_lt.2 c41)
           try have c41b3 : (9223372036854775807 < x3_1.size + a0_2.size + 1 + t267.size) = False := by have h_ := c41; simp only [ByteArray.size_append] at h_; exact eq_false (Nat.not_lt.2 h_)
           by_cases c42 : (((x3_1 ++ a0_2) ++ (⟨#[40]⟩ : ByteArray)) ++ t267).size + 1 ≤ 9223372036854775807
           ·rw [if_pos c42] at H
            have c42b0 := eq_true c42
            have c42b1 : decide ((((x3_1 ++ a0_2) ++ (⟨#[40]⟩ : ByteArray)) ++ t267).size + 1 ≤ 9223372036854775807) = true := decide_eq_true c42
            try have c42b2 : (9223372036854775807 < (((x3_1 ++ a0_2) ++ (⟨#[40]⟩ : ByteArray)) ++ t267).size + 1) = False := eq_false (Nat.not_lt.2 c42)
            try have c42b3 : (9223372036854775807 < x3_1.size + a0_2.size + 1 + t267.size + 1) = False := by have h_ := c42; simp only [ByteArray.size_append] at h_; exact eq_false (Nat.not_lt.2 h_)
            obtain rfl := Option.some.inj H
            try go_wp2
            replace HO_4 := Aside0.mk (Kd.R_drew HO_4.out)
            replace BK253 := Aside0.mk (blk_drew BK253.out)
            replace HB := Aside0.mk (below_drew1 HB.out)
            obtain ⟨Ao44, co44, eo44⟩ := Kd.R_slice HO_4.out
            (first | subst eo44 | (injection eo44 with f1_ f2_ f3_; have f4_ := f1_.symm; have f5_ := f3_.symm; clear f1_ f2_ f3_; subst f4_; subst f5_))
            refine start_ (n := 10) (S := fun w' => w'.cell? ⟨gb253, 0, none⟩ = some (.int .i64 a0_0) ∧ w'.cell? ⟨gb253, 1, none⟩ = some (.bool a0_1) ∧ w'.cell? ⟨gb253, 2, none⟩ = some (.string a0_2) ∧ w'.cell? ⟨gb253, 3, none⟩ = some (.slice A0_3 l0_3.length c0_3)) (ds := []) #[false, false, false, false, false, false, false, false, false, false] (by kernel_rfl) rfl rfl ⟨(blk_cell BK253.out 0).trans rfl, (blk_cell BK253.out 1).trans rfl, (blk_cell BK253.out 2).trans rfl, (blk_cell BK253.out 3).trans rfl⟩ (fun hHeld => ?_); refine with_tabW literal_Word.tab15 literal_Word.bits15 (fun HT_ HW_ => ?_)
            generalize wr.drew = w43 at HO_4 BK253 HB hHeld ⊢
            refine sPu 0 (some 56) ?_
            refine sPu 1 (some 57) ?_
            refine sPu 5 (some 61) ?_
            refine sTk 2 (some 58) ?_
            refine sPu 3 (some 59) ?_
            refine sPu 4 (some 60) ?_
            refine sOn 6 (some 62) (fun K hK => ?_)
            refine goes_ Tryz.func90 (by kernel_rfl) rfl #[.slice Ao44 x4_2.length co44, .string (⟨#[44]⟩ : ByteArray)] (by rfl) rfl rfl (by (try simp only [List.map_toArray, List.map_cons, List.map_nil]); first | done | rfl | (simp only [List.length_drop, List.length_take]; rfl)) ?_
            with_reducible refine (strings_Join.calls _ _ x4_2 (⟨#[44]⟩ : ByteArray) t267 _ ?side1 ?side2 A40.out).mono ?_
            (case side1 => exact cS (Kd.R_reads' HO_4.out).2.2)
            (case side2 => exact (Kd.R_reads' HO_4.out).2.1)
            rintro e w45 ⟨rfl, hb⟩
            refine ⟨_, rfl, ?_⟩
            replace HO_4 := rD HO_4 hb
            replace BK253 := blB BK253 hb
            replace HB := Aside0.mk (below_step bel hb)
            (try clear hb)
            (try clear hb2)
            (try clear hk)
            (try clear hi)
            refine hK.out _ _ ⟨(blk_cell BK253.out 0).trans rfl, (blk_cell BK253.out 1).trans rfl, (blk_cell BK253.out 2).trans rfl, (blk_cell BK253.out 3).trans rfl⟩ (fun hHeld => ?_)
            clear hK K
            refine norm_ (a' := ?_) ?_ ?_
            rotate_left
            ·show Act.put _ (some 62) _ = _
             simp only [Act.put, List.setIfInBounds_toArray, List.set_cons_zero, List.set_cons_succ, i64_w, i32_w]
             rfl
            refine sPu 7 (some 63) ?_
            refine sPu 8 (some 64) ?_
            refine sPu 9 (some 2) ?_
            refine done_ (done_of HT_.out (by kernel_rfl)) ?_
            try go_wp2
            go_ret
            exact ⟨eN, bel⟩
           ·rw [if_neg c42] at H
            exact absurd H (by simp)
          ·rw [if_neg c41] at H
           exact absurd H (by simp)
         ·rw [if_neg c39] at H
          exact absurd H (by simp)
        ·rw [if_neg c38] at H
         exact absurd H (by simp)
end Go.Proofs.YtailpfcbdopfeaaGreatDoor.F
/- tape.write, by hand. -/
namespace Go.Proofs.YtailpfcbdopfeaaGreatDoor.F
open Go.RowKit Go.Proofs.YtailpfcbdopfeaaGreatDoorW.PrintWords Go.Proofs.YtailpfcbdopfeaaGreatDoorW.PrintLast Go.Proofs.YtailpfcbdopfeaaGreatDoorW.PrintMore Go.Proofs.YtailpfcbdopfeaaGreatDoor.Build
set_option linter.unusedVariables false
set_option linter.unusedSimpArgs false
/-- What tape.write asks of a machine: its words are told, its numbers are whole numbers of 64 bits. -/
structure OkM (n0 n1 n2 n3 : Int) (ls : List S42) (ss : List S69) : Prop where
  hd : ∀ x ∈ [n0, n1, n2, n3], okN x
  word : ∀ l ∈ ls, ∃ k, literal_Word.f k l.f0 l.f1 l.f2 l.f3 = some (mkB (litT l))
  short : ∀ l ∈ ls, (litT l).length ≤ 100000
  step : ∀ x ∈ ss, ∀ y ∈ stepL x, okN y
  len : ls.length ≤ 1000 ∧ ss.length ≤ 1000
theorem litsT_le (N : Nat) : ∀ ls : List S42, (∀ l ∈ ls, (litT l).length ≤ N) → (litsT ls).length ≤ (N + 1) * ls.length
  | [], _ => by simp [litsT]
  | a :: r, h => by
    have h1 := h a (by simp)
    have h2 := litsT_le N r (fun y hy => h y (by simp [hy]))
    simp [litsT, Nat.mul_add]
    omega
theorem stepsT_le : ∀ ss : List S69, (∀ x ∈ ss, ∀ y ∈ stepL x, okN y) → (stepsT ss).length ≤ 112 * ss.length
  | [], _ => by simp [stepsT]
  | a :: r, h => by
    have h1 := numsJ_le (stepL a) (h a (by simp))
    have h2 := stepsT_le r (fun y hy => h y (by simp [hy]))
    simp [stepsT, stepL] at h1 ⊢
    omega
theorem BL_weaken {B B' b : Nat} {l : List UInt8} {w : World} (h : BL B b l w) (hB : B' ≤ B) : BL B' b l w := by
  have one : ∀ p, Lib.BuilderAtF 105 5 B b p (Lib.byteCells l) w → Lib.BuilderAtF 105 5 B' b p (Lib.byteCells l) w := fun p ⟨h0, v, h1, h2, h3⟩ => by
    refine ⟨Nat.le_trans hB h0, v, h1, ⟨h2.1, ?_⟩, h3⟩
    rcases h2.2 with q | ⟨g, cap, cur, fz, hv, hb, rest⟩
    · exact .inl q
    · exact .inr ⟨g, cap, cur, fz, hv, Nat.le_trans hB hb, rest⟩
  exact h.elim (fun x => .inl (one _ x)) (fun x => .inr (one _ x))
theorem BL_fresh (B : Nat) (W : World) (hB : B ≤ W.heap.size) : BL B W.heap.size [] (W.alloc (.cells #[.pointer none, .slice none 0 0] 105)) := BL_weaken (BL.fresh W) hB
theorem rds_step {l : List S69} {k : Nat} (h : k < l.length) : l[k]? = some (rd_T69 l (k : Int)) := by
  unfold rd_T69
  rw [List.getElem?_eq_getElem h, List.getD_eq_getElem?_getD, Int.toNat_natCast, List.getElem?_eq_getElem h]
  rfl
theorem sp_size (q : ByteArray) : ((⟨#[32]⟩ : ByteArray) ++ q).size = 1 + q.size := by rw [ByteArray.size_append]; rfl
theorem sp_list (q : ByteArray) : ((⟨#[32]⟩ : ByteArray) ++ q).data.toList = 32 :: q.data.toList := by rw [ByteArray.data_append]; simp
theorem BL_lt {B b : Nat} {l : List UInt8} {w : World} (h : BL B b l w) : b < w.heap.size := by
  have one : ∀ p, Lib.BuilderAtF 105 5 B b p (Lib.byteCells l) w → b < w.heap.size := fun p ⟨_, v, h1, _, _⟩ => by
    by_cases hlt : b < w.heap.size
    · exact hlt
    · rw [Array.getElem?_eq_none (by omega)] at h1
      cases h1
  exact h.elim (one _) (one _)
set_option maxHeartbeats 4000000 in
set_option maxRecDepth 100000 in
theorem write_calls (n0 n1 n2 n3 : Int) (A4 : Option Addr) (c4 : Nat) (ls : List S42) (A5 : Option Addr) (c5 : Nat) (ss : List S69) (w : World) (hG : Glob w) (hr4 : Kd.C k42 w A4 ls.length ls) (hc4 : ls.length ≤ c4) (hr5 : Kd.C k69 w A5 ss.length ss) (hc5 : ss.length ≤ c5) (hok : OkM n0 n1 n2 n3 ls ss) :
    Calls Tryz.prog 30 #[.agg #[.int .i64 n0, .int .i64 n1, .int .i64 n2, .int .i64 n3, .slice A4 ls.length c4, .slice A5 ss.length c5]] w fun e w' => e = .returned (.string (mkB (tapeT n0 n1 n2 n3 ls ss))) ∧ Below w.heap.size w w' := by
  have HG := Aside0.mk hG
  have H4 := Aside0.mk hr4
  have H5 := Aside0.mk hr5
  have HO := Aside0.mk hok
  have hl4 := hok.len.1
  have hl5 := hok.len.2
  have HL4 := Aside0.mk (litsT_le 100000 ls hok.short)
  have HL5 := Aside0.mk (stepsT_le ss hok.step)
  clear hG hr4 hr5 hok
  go_enter Tryz.func30, Tryz.ntmps30
  go_wp2_with fail
  have hb1 := (box1 w (.cells #[.int .i64 n0, .int .i64 n1, .int .i64 n2, .int .i64 n3, .slice A4 ls.length c4, .slice A5 ss.length c5] 25)).2
  have K1 := Aside0.mk (box1 w (.cells #[.int .i64 n0, .int .i64 n1, .int .i64 n2, .int .i64 n3, .slice A4 ls.length c4, .slice A5 ss.length c5] 25)).1
  have HB := Aside0.mk hb1
  have hs1 : (w.alloc (.cells #[.int .i64 n0, .int .i64 n1, .int .i64 n2, .int .i64 n3, .slice A4 ls.length c4, .slice A5 ss.length c5] 25)).heap.size = w.heap.size + 1 := by simp
  generalize w.alloc (.cells #[.int .i64 n0, .int .i64 n1, .int .i64 n2, .int .i64 n3, .slice A4 ls.length c4, .slice A5 ss.length c5] 25) = W1 at *
  have HBL := Aside0.mk (BL_fresh w.heap.size W1 (by omega))
  have hb2 := (box1 W1 (.cells #[.pointer none, .slice none 0 0] 105)).2
  replace K1 := blkB K1 hb2
  replace HB := belB HB hb2
  have hs2 : (W1.alloc (.cells #[.pointer none, .slice none 0 0] 105)).heap.size = w.heap.size + 1 + 1 := by simp [hs1]
  rw [hs1] at HBL
  generalize W1.alloc (.cells #[.pointer none, .slice none 0 0] 105) = W2 at *
  have KN := Aside0.mk (box1 W2 (.cells #[.int .i64 n0, .int .i64 n1, .int .i64 n2, .int .i64 n3] 3)).1
  have hb3 := (box1 W2 (.cells #[.int .i64 n0, .int .i64 n1, .int .i64 n2, .int .i64 n3] 3)).2
  replace K1 := blkB K1 hb3
  replace HB := belB HB hb3
  replace HBL := Aside0.mk (BL_below HBL.out hb3)
  rw [hs2] at KN
  generalize W2.alloc (.cells #[.int .i64 n0, .int .i64 n1, .int .i64 n2, .int .i64 n3] 3) = W3 at *
  clear hb1 hb2 hb3 hs1 hs2
  obtain ⟨b, hbe⟩ : ∃ b, w.heap.size + 1 = b := ⟨_, rfl⟩
  have hbw : w.heap.size ≤ b := by omega
  have hwb : w.heap.size ≠ b := by omega
  have hgb : b + 1 ≠ b := by omega
  simp only [hbe] at HBL KN ⊢
  clear hbe
  refine (write1_calls w HG.out b (b + 1) [] [n0, n1, n2, n3] 4 W3 HB.out hbw hgb KN.out HO.out.hd (Nat.le_refl _) (by simp) (by simp) HBL.out).mono ?_
  rintro e w4 ⟨rfl, hbl, hbe, hk⟩
  replace HBL := Aside0.mk hbl
  replace HB := Aside0.mk (HB.out.trans hbe)
  replace K1 := Aside0.mk (kept_blk hk K1.out hwb (by decide))
  clear hbl hbe hk KN
  have hN4 := numsJ_le [n0, n1, n2, n3] HO.out.hd
  simp only [List.length_cons, List.length_nil] at hN4
  have hbs := HB.out.size
  go_wp2_with fail
  refine (write_byte' w.heap.size b _ 59 59 w4 rfl HBL.out (by simp; omega) (by omega)).mono ?_
  rintro e w5 ⟨rfl, hbl, hbe, hk⟩
  replace HBL := Aside0.mk hbl
  replace HB := Aside0.mk (HB.out.trans hbe)
  replace K1 := Aside0.mk (kept_blk hk K1.out hwb (by decide))
  clear hbl hbe hk hbs
  have p4 : w5.cell? ⟨w.heap.size, 4, none⟩ = some (.slice A4 ls.length c4) := (blk_cell K1.out 4).trans rfl
  go_wp2
  clear p4
  go_loopw [25] (fun v25 wr => ∃ i : Nat, v25 = .int .i64 i ∧ i ≤ ls.length ∧ Aside0 (BL w.heap.size b (numsJ [n0, n1, n2, n3] ++ 59 :: litsT (ls.take i)) wr) ∧ Aside0 (Below w.heap.size w wr) ∧ Aside0 (wr.heap[w.heap.size]? = some (.cells #[.int .i64 n0, .int .i64 n1, .int .i64 n2, .int .i64 n3, .slice A4 ls.length c4, .slice A5 ss.length c5] 25 (0, 0)))) (fun v25 _ => ls.length - (intOf v25).toNat)
  case atStart => exact ⟨0, rfl, Nat.zero_le _, ⟨by simpa [litsT] using HBL.out⟩, HB, K1⟩
  case round =>
    clear HBL HB K1
    obtain ⟨i, rfl, hi, HBL, HB, K1⟩ := hrel
    generalize wr = wq at *
    by_cases hlt : i < ls.length
    · obtain ⟨ad, A3, c3, hA, hz0, hz1, hz2, hz3, hl3, hC3⟩ := at_T42 (Kd.C_below H4.out HB.out) (i : Int) (by omega) (by omega)
      subst hA
      simp only [Int.toNat_natCast] at hz0 hz1 hz2 hz3
      have hx := rds_lit hlt
      have HW := Aside0.mk (HO.out.word _ (List.mem_of_getElem? hx))
      have hxs := HO.out.short _ (List.mem_of_getElem? hx)
      generalize rd_T42 ls (i : Int) = x at *
      have HXI := Aside0.mk hx
      have HC3 := Aside0.mk hC3
      clear hx hC3
      go_wp2_with fail
      have hbx := (box1 wq (.cells #[.int .i64 x.f0, .bool x.f1, .string x.f2, .slice A3 x.f3.length c3] 42)).2
      replace HB := belB HB hbx
      replace K1 := blkB K1 hbx
      have hBs := hbx.size
      replace HBL := Aside0.mk (BL_below HBL.out hbx)
      have hC3x := Kd.C_below HC3.out hbx
      generalize wq.alloc (.cells #[.int .i64 x.f0, .bool x.f1, .string x.f2, .slice A3 x.f3.length c3] 42) = wq1 at *
      clear hbx
      obtain ⟨k, hk⟩ := HW.out
      clear HW
      obtain ⟨q, hq⟩ : ∃ q, mkB (litT x) = q := ⟨_, rfl⟩
      have hqs : q.size ≤ 100000 := by rw [← hq, mkB_size]; exact hxs
      have hql : Aside0 (q.data.toList = litT x) := ⟨by rw [← hq, mkB_list]⟩
      rw [hq] at hk
      refine (literal_Word.calls k x.f0 x.f1 x.f2 A3 c3 x.f3 q wq1 (HG.out.below HB.out) hC3x hl3 hk).mono ?_
      rintro e w6 ⟨rfl, hb6⟩
      have h6s := hb6.size
      have hBw6 := HB.out.size
      replace HBL := Aside0.mk (BL_below HBL.out hb6)
      replace HB := belB HB hb6
      replace K1 := blkB K1 hb6
      clear hb6
      have hno : ¬ 9223372036854775807 < 1 + q.size := by omega
      have hlt4 := litsT_le 100000 (ls.take i) (fun y hy => HO.out.short y (List.mem_of_mem_take hy))
      have hli : (ls.take i).length ≤ 1000 := by rw [List.length_take]; omega
      have HLi := Aside0.mk (Nat.le_trans hlt4 (Nat.mul_le_mul_left 100001 hli))
      clear hlt4 hli
      go_wp2_with fail
      have hq2s := sp_size q
      have hq2l := Aside0.mk (sp_list q)
      generalize (⟨#[32]⟩ : ByteArray) ++ q = q2 at *
      refine (write_string w.heap.size b _ q2 w6 HBL.out (by rw [hq2s]; simp only [List.length_append, List.length_cons]; have := HLi.out; omega) (by omega)).mono ?_
      rintro e w7 ⟨rfl, hb7, hbe7, hk7⟩
      rw [hq2l.out, hql.out] at hb7
      clear hq2s hq2l
      replace HBL := Aside0.mk hb7
      replace HB := Aside0.mk (HB.out.trans hbe7)
      replace K1 := Aside0.mk (kept_blk hk7 K1.out hwb (by decide))
      clear hb7 hbe7 hk7
      go_wp2
      go_roundw
      case rel => exact ⟨i + 1, by go_num, by omega, ⟨by rw [take_snocG HXI.out, litsT_snoc]; simpa using HBL.out⟩, HB, K1⟩
      case measure => simp [intOf]; omega
    · obtain rfl : i = ls.length := by omega
      rw [List.take_length] at HBL
      have p5 : wq.cell? ⟨w.heap.size, 5, none⟩ = some (.slice A5 ss.length c5) := (blk_cell K1.out 5).trans rfl
      go_wp2
      clear p5
      go_loopw [37] (fun v37 wr => ∃ i : Nat, v37 = .int .i64 i ∧ i ≤ ss.length ∧ Aside0 (BL w.heap.size b (numsJ [n0, n1, n2, n3] ++ 59 :: (litsT ls ++ stepsT (ss.take i))) wr) ∧ Aside0 (Below w.heap.size w wr)) (fun v37 _ => ss.length - (intOf v37).toNat)
      case atStart => exact ⟨0, rfl, Nat.zero_le _, ⟨by simpa [stepsT] using HBL.out⟩, HB⟩
      case round =>
        clear HBL HB K1
        obtain ⟨i, rfl, hi, HBL, HB⟩ := hrel
        generalize wr = wq at *
        by_cases hlt : i < ss.length
        · obtain ⟨ad, hA, hz0, hz1, hz2, hz3, hz4⟩ := at_T69 (Kd.C_below H5.out HB.out) (i : Int) (by omega) (by omega)
          subst hA
          simp only [Int.toNat_natCast] at hz0 hz1 hz2 hz3 hz4
          have hx := rds_step hlt
          have HS := Aside0.mk (HO.out.step _ (List.mem_of_getElem? hx))
          generalize rd_T69 ss (i : Int) = x at *
          have HXI := Aside0.mk hx
          clear hx
          go_wp2_with fail
          have hbx := (box1 wq (.cells #[.int .i64 x.f0, .int .i64 x.f1, .int .i64 x.f2, .int .i64 x.f3, .int .i64 x.f4] 69)).2
          have KX := Aside0.mk (box1 wq (.cells #[.int .i64 x.f0, .int .i64 x.f1, .int .i64 x.f2, .int .i64 x.f3, .int .i64 x.f4] 69)).1
          have hwq := HB.out.size
          have hbq := BL_lt HBL.out
          replace HB := belB HB hbx
          have hBs := hbx.size
          replace HBL := Aside0.mk (BL_below HBL.out hbx)
          generalize wq.alloc (.cells #[.int .i64 x.f0, .int .i64 x.f1, .int .i64 x.f2, .int .i64 x.f3, .int .i64 x.f4] 69) = wq1 at *
          clear hbx
          have hlt5 := stepsT_le (ss.take i) (fun y hy => HO.out.step y (List.mem_of_mem_take hy))
          have hli : (ss.take i).length ≤ 1000 := by rw [List.length_take]; omega
          have HLi := Aside0.mk (Nat.le_trans hlt5 (Nat.mul_le_mul_left 112 hli))
          clear hlt5 hli
          have HL4' := HL4.out
          have HT : Aside0 ((numsJ [n0, n1, n2, n3] ++ 59 :: (litsT ls ++ stepsT (ss.take i))).length ≤ 1000000000) := ⟨by simp only [List.length_append, List.length_cons]; have := HLi.out; omega⟩
          clear HL4' HLi
          obtain ⟨T, hT⟩ : ∃ T, numsJ [n0, n1, n2, n3] ++ 59 :: (litsT ls ++ stepsT (ss.take i)) = T := ⟨_, rfl⟩
          rw [hT] at HBL HT
          replace hT := Aside0.mk hT
          refine (write_string w.heap.size b T ⟨#[59, 32]⟩ wq1 HBL.out (by have := HT.out; show _ + 2 ≤ _; omega) (by omega)).mono ?_
          rintro e w7 ⟨rfl, hb7, hbe7, hk7⟩
          have h7s := hbe7.size
          replace HBL := Aside0.mk hb7
          replace HB := Aside0.mk (HB.out.trans hbe7)
          have h7n : wq.heap.size ≠ b := by omega
          replace KX := Aside0.mk (kept_blk hk7 KX.out h7n (by decide))
          clear hb7 hbe7 hk7
          have p0 : w7.cell? ⟨wq.heap.size, 0, none⟩ = some (.int .i64 x.f0) := (blk_cell KX.out 0).trans rfl
          have p1 : w7.cell? ⟨wq.heap.size, 1, none⟩ = some (.int .i64 x.f1) := (blk_cell KX.out 1).trans rfl
          have p2 : w7.cell? ⟨wq.heap.size, 2, none⟩ = some (.int .i64 x.f2) := (blk_cell KX.out 2).trans rfl
          have p3 : w7.cell? ⟨wq.heap.size, 3, none⟩ = some (.int .i64 x.f3) := (blk_cell KX.out 3).trans rfl
          have p4 : w7.cell? ⟨wq.heap.size, 4, none⟩ = some (.int .i64 x.f4) := (blk_cell KX.out 4).trans rfl
          go_wp2_with fail
          have KN := Aside0.mk (box1 w7 (.cells #[.int .i64 x.f0, .int .i64 x.f1, .int .i64 x.f2, .int .i64 x.f3, .int .i64 x.f4] 3)).1
          have hbn := (box1 w7 (.cells #[.int .i64 x.f0, .int .i64 x.f1, .int .i64 x.f2, .int .i64 x.f3, .int .i64 x.f4] 3)).2
          replace HB := belB HB hbn
          replace HBL := Aside0.mk (BL_below HBL.out hbn)
          have h7nb : w7.heap.size ≠ b := by omega
          clear p0 p1 p2 p3 p4
          generalize w7.alloc (.cells #[.int .i64 x.f0, .int .i64 x.f1, .int .i64 x.f2, .int .i64 x.f3, .int .i64 x.f4] 3) = w8 at *
          clear hbn
          have hT9 : (T ++ (⟨#[59, 32]⟩ : ByteArray).data.toList).length ≤ 100000000000 := by rw [List.length_append]; have := HT.out; show _ + 2 ≤ _; omega
          refine (write1_calls w HG.out b w7.heap.size (T ++ (⟨#[59, 32]⟩ : ByteArray).data.toList) (stepL x) 5 w8 HB.out hbw h7nb KN.out HS.out (Nat.le_refl _) (by show 5 ≤ _; omega) hT9 HBL.out).mono ?_
          rintro e w9 ⟨rfl, hbl, hbe, hk⟩
          replace HBL := Aside0.mk hbl
          replace HB := Aside0.mk (HB.out.trans hbe)
          clear hbl hbe hk KN
          go_wp2
          go_roundw
          case rel => exact ⟨i + 1, by go_num, by omega, ⟨by rw [take_snocG HXI.out, stepsT_snoc]; have := HBL.out; rw [← hT.out] at this; simpa using this⟩, HB⟩
          case measure => simp [intOf]; omega
        · obtain rfl : i = ss.length := by omega
          rw [List.take_length] at HBL
          have hwq := HB.out.size
          go_wp2_with fail
          refine (string_of w.heap.size b _ wq HBL.out (by omega)).mono ?_
          rintro e w9 ⟨rfl, hbl, hbe⟩
          replace HB := Aside0.mk (HB.out.trans hbe)
          clear hbl hbe
          go_wp2
          go_ret
          exact ⟨rfl, HB.out⟩
end Go.Proofs.YtailpfcbdopfeaaGreatDoor.F
/- paraphrastref12.SymbolsOf, by hand. -/
namespace Go.Proofs.YtailpfcbdopfeaaGreatDoor.F
open Go.RowKit Go.Proofs.YtailpfcbdopfeaaGreatDoorW.PrintWords Go.Proofs.YtailpfcbdopfeaaGreatDoorW.PrintLast Go.Proofs.YtailpfcbdopfeaaGreatDoorW.PrintMore
set_option linter.unusedVariables false
set_option linter.unusedSimpArgs false
def lessB (a b : ByteArray) : Bool := Op.bytesLess a.toList b.toList
def insAt (ys : List S46) (n : ByteArray) : Nat := (ys.takeWhile fun s => lessB s.f0 n).length
/-- A symbol goes into a sorted list, if its name is not there yet. -/
def insY (ys : List S46) (n : ByteArray) (a : Int) : List S46 :=
  if (ys[insAt ys n]?).map (·.f0) = some n then ys else ys.take (insAt ys n) ++ ⟨n, a⟩ :: ys.drop (insAt ys n)
def symsG (ys : List S46) (x : S42) : List S46 := if x.f0 = 0 then insY ys x.f2 x.f3.length else ys
/-- The symbols of literals. -/
def symsL (l : List S42) : List S46 := l.foldl symsG []
theorem symsL_snoc (l : List S42) (x : S42) : symsL (l ++ [x]) = symsG (symsL l) x := by simp [symsL, List.foldl_append]
theorem infoY2 : (Tryz.prog.info? 46).map (·.size) = some 2 := by kernel_rfl
theorem insAt_le (ys : List S46) (n : ByteArray) : insAt ys n ≤ ys.length := (List.takeWhile_sublist _).length_le
theorem insAt_of (n : ByteArray) : ∀ (ys : List S46) (k : Nat), k ≤ ys.length → (∀ (j : Nat) (s : S46), j < k → ys[j]? = some s → lessB s.f0 n = true) → (∀ s : S46, ys[k]? = some s → lessB s.f0 n = false) → insAt ys n = k
  | [], k, hk, _, _ => by
    simp at hk
    subst hk
    rfl
  | y :: ys, k, hk, h1, h2 => by
    cases k with
    | zero =>
      have := h2 y rfl
      simp [insAt, List.takeWhile_cons, this]
    | succ k =>
      have h0 := h1 0 y (by omega) rfl
      have ih := insAt_of n ys k (by simpa using hk) (fun j s hj hs => h1 (j + 1) s (by omega) (by simpa using hs)) (fun s hs => h2 s (by simpa using hs))
      unfold insAt at ih ⊢
      rw [List.takeWhile_cons, h0, if_pos rfl, List.length_cons, ih]
theorem insY_len (ys : List S46) (n : ByteArray) (a : Int) : (insY ys n a).length ≤ ys.length + 1 := by
  unfold insY
  split
  · omega
  · rw [List.length_append, List.length_cons, List.length_take, List.length_drop]
    have := insAt_le ys n
    omega
theorem symsG_len (ys : List S46) (x : S42) : (symsG ys x).length ≤ ys.length + 1 := by
  unfold symsG
  split
  · exact insY_len _ _ _
  · omega
theorem symsL_len (l : List S42) : (symsL l).length ≤ l.length := by
  suffices h : ∀ (l : List S42) (ys : List S46), (l.foldl symsG ys).length ≤ ys.length + l.length by simpa [symsL] using h l []
  intro l
  induction l with
  | nil => intro ys; simp
  | cons x l ih =>
    intro ys
    have := ih (symsG ys x)
    have := symsG_len ys x
    simp
    omega
theorem shifted (ys : List S46) (z x : S46) (k : Nat) (hk : k ≤ ys.length) : (((ys ++ [z]).take (k + 1) ++ ((ys ++ [z]).drop k).take (ys.length + 1 - (k + 1))).set k x) = ys.take k ++ x :: ys.drop k := by
  have e1 : ((ys ++ [z]).drop k).take (ys.length + 1 - (k + 1)) = ys.drop k := by
    rw [List.drop_append_of_le_length hk, List.take_append_of_le_length (by rw [List.length_drop]; omega), List.take_of_length_le (by rw [List.length_drop]; omega)]
  rw [e1]
  obtain ⟨s, hs⟩ : ∃ s, (ys ++ [z])[k]? = some s := ⟨_, List.getElem?_eq_getElem (by rw [List.length_append, List.length_singleton]; omega)⟩
  rw [take_snocG hs, List.take_append_of_le_length hk, List.append_assoc]
  rw [List.set_append_right _ _ (by rw [List.length_take]; omega), List.length_take, Nat.min_eq_left hk, Nat.sub_self]
  rfl
set_option maxHeartbeats 4000000 in
set_option maxRecDepth 100000 in
theorem symsOf_calls (A : Option Addr) (c : Nat) (l : List S42) (w : World) (hr : Kd.C k42 w A l.length l) (hc : l.length ≤ c) (hl : l.length ≤ 100000) (hln : ∀ x ∈ l, x.f3.length ≤ 1000000) :
    Calls Tryz.prog 67 #[.slice A l.length c] w fun e w' => ∃ v, e = .returned v ∧ k46.R 46 w' w.heap.size (fun _ => True) v (symsL l) ∧ Below w.heap.size w w' := by
  have HR := Aside0.mk hr
  have HLN := Aside0.mk hln
  clear hr hln
  go_enter Tryz.func67, Tryz.ntmps67
  go_wp2
  go_loopw [3, 4] (fun v3 v4 wr => ∃ (i : Nat) (ys : List S46), v4 = .int .i64 i ∧ i ≤ l.length ∧ Aside0 (symsL (l.take i) = ys) ∧ Aside0 (k46.R 46 wr w.heap.size (fun _ => True) v3 ys) ∧ Aside0 (Below w.heap.size w wr)) (fun _ v4 _ => l.length - (intOf v4).toNat)
  case atStart => exact ⟨0, [], rfl, Nat.zero_le _, ⟨by rw [List.take_zero]; rfl⟩, ⟨Kd.R_nil _ _ _ _ _⟩, ⟨Below.refl _ _⟩⟩
  case round =>
    obtain ⟨i, ys, rfl, hi, HY, HO, HB⟩ := hrel
    generalize wr = wq at *
    have hyl : ys.length ≤ 100000 := by
      have := symsL_len (l.take i)
      rw [HY.out, List.length_take] at this
      omega
    obtain ⟨Ay, cy, rfl⟩ := Kd.R_slice HO.out
    by_cases hlt : i < l.length
    · obtain ⟨ad, A3, c3, hA, hz0, hz1, hz2, hz3, hl3, hC3⟩ := at_T42 (Kd.C_below HR.out HB.out) (i : Int) (by omega) (by omega)
      subst hA
      simp only [Int.toNat_natCast] at hz0 hz1 hz2 hz3
      have hx := rds_lit hlt
      generalize hrd : rd_T42 l (i : Int) = x at *
      have HRD := Aside0.mk hrd
      have HXI := Aside0.mk hx
      have hxl := HLN.out x (List.mem_of_getElem? hx)
      clear hx hC3 hrd
      by_cases h0 : x.f0 = 0
      · have h0b : (x.f0 != 0) = false := by simp [h0]
        have HX0 := Aside0.mk h0
        clear h0
        go_wp2
        clear hz0 hz1 hz2 hz3
        go_loopw [5] (fun v5 wr => ∃ kk : Nat, v5 = .int .i64 kk ∧ kk ≤ ys.length ∧ Aside0 (∀ (j : Nat) (s : S46), j < kk → ys[j]? = some s → lessB s.f0 x.f2 = true) ∧ Aside0 (k46.R 46 wr w.heap.size (fun _ => True) (.slice Ay ys.length cy) ys) ∧ Aside0 (Below w.heap.size w wr)) (fun v5 _ => ys.length - (intOf v5).toNat)
        case atStart => exact ⟨0, rfl, Nat.zero_le _, ⟨fun _ _ h _ => by omega⟩, HO, HB⟩
        case round =>
          clear HO HB
          obtain ⟨kk, rfl, hkk, HLT, HO, HB⟩ := hrel
          generalize wr = wt at *
          obtain ⟨ad', A3', c3', hA', hz0, hz1, hz2, hz3, hl3', hC3'⟩ := at_T42 (Kd.C_below HR.out HB.out) (i : Int) (by omega) (by omega)
          injection hA' with hA'
          subst hA'
          simp only [Int.toNat_natCast] at hz0 hz1 hz2 hz3
          rw [HRD.out] at hz0 hz1 hz2 hz3
          rw [HRD.out] at hl3' hC3'
          by_cases hk2 : kk < ys.length
          · obtain ⟨ay, hAy, hy0, hy1⟩ := at_T46 (Kd.R_reads' HO.out).2.2 (kk : Int) (by omega) (by omega)
            subst hAy
            simp only [Int.toNat_natCast] at hy0 hy1
            have hy := rds_sym hk2
            generalize rd_T46 ys (kk : Int) = y at *
            have HYI := Aside0.mk hy
            clear hy
            have hd7 : decide ((kk : Int) < (ys.length : Int)) = true := decide_eq_true (by omega)
            cases hless : Op.bytesLess y.f0.toList x.f2.toList with
            | true =>
              go_upto_region 7 with (fail)
              go_quiet (fail)
              go_wp2
              replace HB := Aside0.mk (pw_below_drewN HB.out nq)
              replace HO := Aside0.mk (Kd.R_drewN HO.out nq)
              have HLS := Aside0.mk hless
              clear hless
              go_roundw
              case rel => exact ⟨kk + 1, by go_num, by omega, ⟨fun j s hj hs => by
                rcases Nat.lt_or_ge j kk with h | h
                · exact HLT.out j s h hs
                · obtain rfl : j = kk := by omega
                  rw [HYI.out] at hs
                  injection hs with hs
                  subst hs
                  exact HLS.out⟩, HO, HB⟩
              case measure => simp [intOf]; omega
            | false =>
              have HIA : Aside0 (insAt ys x.f2 = kk) := ⟨insAt_of x.f2 ys kk hkk HLT.out (fun s hs => by
                rw [HYI.out] at hs
                injection hs with hs
                subst hs
                exact hless)⟩
              go_upto_region 7 with (fail)
              go_quiet (fail)
              replace HB := Aside0.mk (pw_below_drewN HB.out nq)
              replace HO := Aside0.mk (Kd.R_drewN HO.out nq)
              change (wt.drewN nq).cell? _ = _ at hz0
              change (wt.drewN nq).cell? _ = _ at hz1
              change (wt.drewN nq).cell? _ = _ at hz2
              change (wt.drewN nq).cell? _ = _ at hz3
              change (wt.drewN nq).cell? _ = _ at hy0
              change (wt.drewN nq).cell? _ = _ at hy1
              clear hC3' hl3'
              generalize wt.drewN nq = w5 at *
              by_cases heq : y.f0 = x.f2
              · have heqb : (y.f0.toList == x.f2.toList) = true := by rw [heq]; exact beq_self_eq_true _
                go_upto_region 9 with (fail)
                go_quiet (fail)
                replace HB := Aside0.mk (pw_below_drewN HB.out nq)
                replace HO := Aside0.mk (Kd.R_drewN HO.out nq)
                generalize w5.drewN nq = w6 at *
                have HEQ := Aside0.mk heq
                clear heq
                go_wp2
                go_roundw
                case rel => exact ⟨i + 1, ys, by go_num, by omega, ⟨by rw [take_snocG HXI.out, symsL_snoc, HY.out]; unfold symsG insY; rw [if_pos HX0.out, HIA.out, HYI.out, Option.map_some, HEQ.out, if_pos rfl]⟩, HO, HB⟩
                case measure => simp [intOf]; omega
              · have heqb : (y.f0.toList == x.f2.toList) = false := beq_eq_false_iff_ne.mpr (fun h => heq (toList_inj h))
                have HINS : Aside0 (insY ys x.f2 x.f3.length = ys.take kk ++ ⟨x.f2, x.f3.length⟩ :: ys.drop kk) := ⟨by unfold insY; rw [HIA.out, HYI.out, Option.map_some, if_neg (fun h => heq (Option.some.inj h))]⟩
                clear heq
                go_upto_region 9 with (fail)
                go_quiet (fail)
                replace HB := Aside0.mk (pw_below_drewN HB.out nq)
                replace HO := Aside0.mk (Kd.R_drewN HO.out nq)
                generalize w5.drewN nq = w6 at *
                clear hz0 hz1 hz2 hz3
                have hwW := HB.out.size
                go_wp2_with (first | ((with_reducible refine gate_builtin (b := .append) (xs := #[.tmp 54, .tmp 56]) rfl ?_); at_builtin; refine Kd.R_append k46 (w0 := w) w.heap.size rfl (.tmp 54) (.tmp 56) 29 46 (.agg #[.string ⟨#[]⟩, .int .i64 0]) 24 rfl Tryz.underlying29 infoY rfl (by decide) (by omega) _ ys ⟨⟨#[]⟩, 0⟩ [.string ⟨#[]⟩, .int .i64 0] (fun _ => True) (fun _ => False) rfl rfl ?aP (fun _ hk => hk.elim) ?aF ?aO ?aB ?aS ?aL ?_; (case aP => exact k46_mkM _ _ _ (⟨⟨#[]⟩, 0⟩ : S46)); (case aB => exact HB.out); (case aF => exact (fun _ _ => trivial)); (case aO => exact HO.out); (case aS => exact hwW); (case aL => omega); intro v' w8 ho hb hg hat; have HOn := Aside0.mk ho; have HBn := Aside0.mk hb; clear ho hb hg hat))
                obtain ⟨g, cz, rfl, hgb, hgl, _⟩ := Kd.R_form HOn.out (by simp)
                have hzc := (Kd.R_reads' HOn.out).2.1
                obtain ⟨zs, hzs⟩ : ∃ zs, ys ++ [(⟨⟨#[]⟩, 0⟩ : S46)] = zs := ⟨_, rfl⟩
                have hzl : zs.length = ys.length + 1 := by rw [← hzs, List.length_append, List.length_singleton]
                rw [hzs] at HOn hzc ⊢
                rw [hzl] at HOn hzc ⊢
                have HZS := Aside0.mk hzs
                have HZL := Aside0.mk hzl
                clear hzs hzl
                have hck0 : ¬ cz = kk := by omega
                have hwr : IntKind.i64.wrap ((kk : Int) + 1) = (kk : Int) + 1 := by rw [IntKind.wrap_i64]; omega
                have htn : ((kk : Int) + 1).toNat = kk + 1 := by omega
                have hl0 : (0 : Int) ≤ (kk : Int) + 1 := by omega
                have hl1 : (kk : Int) + 1 ≤ (ys.length : Int) + 1 := by omega
                have hl2 : (kk : Int) ≤ (ys.length : Int) + 1 := by omega
                have hck : ¬ cz = kk + 1 := by omega
                · go_region_law (refine copy_law k46 (w0 := w) w.heap.size rfl (.tmp 61) (.tmp 64) 29 46 rfl Tryz.underlying29 infoY2 (g := g) (n := ys.length + 1) (c := cz) (k := kk) (m1 := ys.length - kk) (m2 := ys.length + 1 - kk) (xs := zs) (ok := fun _ => True) (A := some ⟨g, kk * 2, none⟩) (B := some ⟨g, (kk + 1) * 2, none⟩) (cz - (kk + 1)) (cz - kk) (by simp [Act.eval, Act.put]) (by simp [Act.eval, Act.put]) (Kd.R_drew HOn.out) (by omega) (by rw [if_neg (by omega), Option.map_some, add_at, Nat.zero_add]; rfl) (by rw [if_neg (by omega), Option.map_some, add_at, Nat.zero_add]; rfl) (by omega) (by omega) (below_drew HBn.out) ?_; intro v9 w9 ho hb hg; have HO9 := Aside0.mk ho; have HB9 := Aside0.mk hb; clear ho hb hg)
                  go_wp2
                  obtain ⟨qs, hqs⟩ : ∃ qs, zs.take (kk + 1) ++ (zs.drop kk).take (ys.length + 1 - (kk + 1)) = qs := ⟨_, rfl⟩
                  have hql : qs.length = ys.length + 1 := by rw [← hqs, List.length_append, List.length_take, List.length_take, List.length_drop, HZL.out]; omega
                  rw [hqs] at HO9
                  have HQS := Aside0.mk hqs
                  clear hqs
                  obtain ⟨ad9, A9, c9, hA9, hz0, hz1, hz2, hz3, hl9, hC9⟩ := at_T42 (Kd.C_below HR.out HB9.out) (i : Int) (by omega) (by omega)
                  injection hA9 with hA9
                  subst hA9
                  simp only [Int.toNat_natCast] at hz0 hz1 hz2 hz3
                  rw [HRD.out] at hz0 hz1 hz2 hz3
                  clear hC9 hl9
                  obtain ⟨cc, hcl, hM, hcc, hfr⟩ := Kd.R_elem HO9.out ⟨⟨#[]⟩, 0⟩ (kk : Int) (by omega) (by omega)
                  obtain ⟨u0_, u1_, rfl⟩ : ∃ u0_ u1_, cc = [u0_, u1_] := by
                    match cc, hcl with
                    | [a, b], _ => exact ⟨a, b, rfl⟩
                  have t0 : w9.cell? ⟨g, kk * 2, none⟩ = some u0_ := hcc 0 u0_ rfl
                  have t1 : w9.cell? ⟨g, kk * 2 + 1, none⟩ = some u1_ := hcc 1 u1_ rfl
                  have f0 : w9.frozen? ⟨g, kk * 2, none⟩ = false := hfr 0
                  have f1 : w9.frozen? ⟨g, kk * 2 + 1, none⟩ = false := hfr 1
                  have HSEG := Aside0.mk (Kd.R_seg (x' := (⟨x.f2, x.f3.length⟩ : S46)) (seg := [.string x.f2, .int .i64 x.f3.length]) (j := 0) (okp := fun k => True ∧ k ≠ g) HO9.out (kk : Int) (by omega) (by omega) hcl hcc (Nat.le_refl 2) (k46_mkM _ _ _ (⟨x.f2, x.f3.length⟩ : S46)) (fun _ h => h))
                  clear hcl hM hcc hfr
                  go_region
                  have HO12 := Aside0.mk (Kd.R_drew (show k46.R 46 ((w9.setCell ⟨g, kk * 2, none⟩ (.string x.f2)).setCell ⟨g, kk * 2 + 1, none⟩ (.int .i64 x.f3.length)) w.heap.size (fun _ => True) (.slice (some ⟨g, 0, none⟩) (ys.length + 1) cz) (qs.set kk ⟨x.f2, x.f3.length⟩) from HSEG.out.1))
                  have HB12 := Aside0.mk (below_drew (belS (belS HB9 hgb (kk * 2) (.string x.f2)) hgb (kk * 2 + 1) (.int .i64 x.f3.length)).out)
                  generalize (((w9.setCell ⟨g, kk * 2, none⟩ (.string x.f2)).setCell ⟨g, kk * 2 + 1, none⟩ (.int .i64 x.f3.length)).drew) = w12 at *
                  clear hz0 hz1 hz2 hz3 t0 t1 f0 f1
                  go_wp2
                  go_roundw
                  case rel => exact ⟨i + 1, qs.set kk ⟨x.f2, x.f3.length⟩, by go_num, by omega, ⟨by rw [take_snocG HXI.out, symsL_snoc, HY.out]; unfold symsG; rw [if_pos HX0.out, HINS.out, ← HQS.out, ← HZS.out, shifted ys _ _ kk hkk]⟩, HO12, HB12⟩
                  case measure => simp [intOf]; omega
          · have hd7 : decide ((kk : Int) < (ys.length : Int)) = false := decide_eq_false (by omega)
            have HIA : Aside0 (insAt ys x.f2 = kk) := ⟨insAt_of x.f2 ys kk hkk HLT.out (fun s hs => by
                rw [List.getElem?_eq_none (by omega)] at hs
                cases hs)⟩
            go_upto_region 7 with (fail)
            go_quiet (fail)
            change (wt.drewN nq).cell? _ = _ at hz0
            change (wt.drewN nq).cell? _ = _ at hz1
            change (wt.drewN nq).cell? _ = _ at hz2
            change (wt.drewN nq).cell? _ = _ at hz3
            replace HB := Aside0.mk (pw_below_drewN HB.out nq)
            replace HO := Aside0.mk (Kd.R_drewN HO.out nq)
            clear hC3' hl3'
            generalize wt.drewN nq = w5 at *
            go_upto_region 9 with (fail)
            go_quiet (fail)
            have HINS : Aside0 (insY ys x.f2 x.f3.length = ys.take kk ++ ⟨x.f2, x.f3.length⟩ :: ys.drop kk) := ⟨by unfold insY; rw [HIA.out, List.getElem?_eq_none (by omega), Option.map_none, if_neg (fun h => by cases h)]⟩
            replace HB := Aside0.mk (pw_below_drewN HB.out nq)
            replace HO := Aside0.mk (Kd.R_drewN HO.out nq)
            generalize w5.drewN nq = w6 at *
            clear hz0 hz1 hz2 hz3
            have hwW := HB.out.size
            go_wp2_with (first | ((with_reducible refine gate_builtin (b := .append) (xs := #[.tmp 54, .tmp 56]) rfl ?_); at_builtin; refine Kd.R_append k46 (w0 := w) w.heap.size rfl (.tmp 54) (.tmp 56) 29 46 (.agg #[.string ⟨#[]⟩, .int .i64 0]) 24 rfl Tryz.underlying29 infoY rfl (by decide) (by omega) _ ys ⟨⟨#[]⟩, 0⟩ [.string ⟨#[]⟩, .int .i64 0] (fun _ => True) (fun _ => False) rfl rfl ?aP (fun _ hk => hk.elim) ?aF ?aO ?aB ?aS ?aL ?_; (case aP => exact k46_mkM _ _ _ (⟨⟨#[]⟩, 0⟩ : S46)); (case aB => exact HB.out); (case aF => exact (fun _ _ => trivial)); (case aO => exact HO.out); (case aS => exact hwW); (case aL => omega); intro v' w8 ho hb hg hat; have HOn := Aside0.mk ho; have HBn := Aside0.mk hb; clear ho hb hg hat))
            obtain ⟨g, cz, rfl, hgb, hgl, _⟩ := Kd.R_form HOn.out (by simp)
            have hzc := (Kd.R_reads' HOn.out).2.1
            obtain ⟨zs, hzs⟩ : ∃ zs, ys ++ [(⟨⟨#[]⟩, 0⟩ : S46)] = zs := ⟨_, rfl⟩
            have hzl : zs.length = ys.length + 1 := by rw [← hzs, List.length_append, List.length_singleton]
            rw [hzs] at HOn hzc ⊢
            rw [hzl] at HOn hzc ⊢
            have HZS := Aside0.mk hzs
            have HZL := Aside0.mk hzl
            clear hzs hzl
            have hck0 : ¬ cz = kk := by omega
            have hwr : IntKind.i64.wrap ((kk : Int) + 1) = (kk : Int) + 1 := by rw [IntKind.wrap_i64]; omega
            have htn : ((kk : Int) + 1).toNat = kk + 1 := by omega
            have hl0 : (0 : Int) ≤ (kk : Int) + 1 := by omega
            have hl1 : (kk : Int) + 1 ≤ (ys.length : Int) + 1 := by omega
            have hl2 : (kk : Int) ≤ (ys.length : Int) + 1 := by omega
            by_cases hck : cz = kk + 1
            · subst hck
              go_region_law (refine copy_law k46 (w0 := w) w.heap.size rfl (.tmp 61) (.tmp 64) 29 46 rfl Tryz.underlying29 infoY2 (g := g) (n := ys.length + 1) (c := kk + 1) (k := kk) (m1 := 0) (m2 := ys.length + 1 - kk) (xs := zs) (ok := fun _ => True) (A := some ⟨g, kk * 2, none⟩) (B := some ⟨g, 0, none⟩) 0 1 (by simp [Act.eval, Act.put]) (by simp [Act.eval, Act.put]) (Kd.R_drew HOn.out) (by omega) (by rw [if_neg (by omega), Option.map_some, add_at, Nat.zero_add]; rfl) (by rw [if_pos rfl]) (by omega) (by omega) (below_drew HBn.out) ?_; intro v9 w9 ho hb hg; have HO9 := Aside0.mk ho; have HB9 := Aside0.mk hb; clear ho hb hg)
              go_wp2
              obtain ⟨qs, hqs⟩ : ∃ qs, zs.take (kk + 1) ++ (zs.drop kk).take (ys.length + 1 - (kk + 1)) = qs := ⟨_, rfl⟩
              have hql : qs.length = ys.length + 1 := by rw [← hqs, List.length_append, List.length_take, List.length_take, List.length_drop, HZL.out]; omega
              rw [hqs] at HO9
              have HQS := Aside0.mk hqs
              clear hqs
              obtain ⟨ad9, A9, c9, hA9, hz0, hz1, hz2, hz3, hl9, hC9⟩ := at_T42 (Kd.C_below HR.out HB9.out) (i : Int) (by omega) (by omega)
              injection hA9 with hA9
              subst hA9
              simp only [Int.toNat_natCast] at hz0 hz1 hz2 hz3
              rw [HRD.out] at hz0 hz1 hz2 hz3
              clear hC9 hl9
              obtain ⟨cc, hcl, hM, hcc, hfr⟩ := Kd.R_elem HO9.out ⟨⟨#[]⟩, 0⟩ (kk : Int) (by omega) (by omega)
              obtain ⟨u0_, u1_, rfl⟩ : ∃ u0_ u1_, cc = [u0_, u1_] := by
                match cc, hcl with
                | [a, b], _ => exact ⟨a, b, rfl⟩
              have t0 : w9.cell? ⟨g, kk * 2, none⟩ = some u0_ := hcc 0 u0_ rfl
              have t1 : w9.cell? ⟨g, kk * 2 + 1, none⟩ = some u1_ := hcc 1 u1_ rfl
              have f0 : w9.frozen? ⟨g, kk * 2, none⟩ = false := hfr 0
              have f1 : w9.frozen? ⟨g, kk * 2 + 1, none⟩ = false := hfr 1
              have HSEG := Aside0.mk (Kd.R_seg (x' := (⟨x.f2, x.f3.length⟩ : S46)) (seg := [.string x.f2, .int .i64 x.f3.length]) (j := 0) (okp := fun k => True ∧ k ≠ g) HO9.out (kk : Int) (by omega) (by omega) hcl hcc (Nat.le_refl 2) (k46_mkM _ _ _ (⟨x.f2, x.f3.length⟩ : S46)) (fun _ h => h))
              clear hcl hM hcc hfr
              go_region
              have HO12 := Aside0.mk (Kd.R_drew (show k46.R 46 ((w9.setCell ⟨g, kk * 2, none⟩ (.string x.f2)).setCell ⟨g, kk * 2 + 1, none⟩ (.int .i64 x.f3.length)) w.heap.size (fun _ => True) (.slice (some ⟨g, 0, none⟩) (ys.length + 1) (kk + 1)) (qs.set kk ⟨x.f2, x.f3.length⟩) from HSEG.out.1))
              have HB12 := Aside0.mk (below_drew (belS (belS HB9 hgb (kk * 2) (.string x.f2)) hgb (kk * 2 + 1) (.int .i64 x.f3.length)).out)
              generalize (((w9.setCell ⟨g, kk * 2, none⟩ (.string x.f2)).setCell ⟨g, kk * 2 + 1, none⟩ (.int .i64 x.f3.length)).drew) = w12 at *
              clear hz0 hz1 hz2 hz3 t0 t1 f0 f1
              go_wp2
              go_roundw
              case rel => exact ⟨i + 1, qs.set kk ⟨x.f2, x.f3.length⟩, by go_num, by omega, ⟨by rw [take_snocG HXI.out, symsL_snoc, HY.out]; unfold symsG; rw [if_pos HX0.out, HINS.out, ← HQS.out, ← HZS.out, shifted ys _ _ kk hkk]⟩, HO12, HB12⟩
              case measure => simp [intOf]; omega
            · go_region_law (refine copy_law k46 (w0 := w) w.heap.size rfl (.tmp 61) (.tmp 64) 29 46 rfl Tryz.underlying29 infoY2 (g := g) (n := ys.length + 1) (c := cz) (k := kk) (m1 := ys.length - kk) (m2 := ys.length + 1 - kk) (xs := zs) (ok := fun _ => True) (A := some ⟨g, kk * 2, none⟩) (B := some ⟨g, (kk + 1) * 2, none⟩) (cz - (kk + 1)) (cz - kk) (by simp [Act.eval, Act.put]) (by simp [Act.eval, Act.put]) (Kd.R_drew HOn.out) (by omega) (by rw [if_neg (by omega), Option.map_some, add_at, Nat.zero_add]; rfl) (by rw [if_neg (by omega), Option.map_some, add_at, Nat.zero_add]; rfl) (by omega) (by omega) (below_drew HBn.out) ?_; intro v9 w9 ho hb hg; have HO9 := Aside0.mk ho; have HB9 := Aside0.mk hb; clear ho hb hg)
              go_wp2
              obtain ⟨qs, hqs⟩ : ∃ qs, zs.take (kk + 1) ++ (zs.drop kk).take (ys.length + 1 - (kk + 1)) = qs := ⟨_, rfl⟩
              have hql : qs.length = ys.length + 1 := by rw [← hqs, List.length_append, List.length_take, List.length_take, List.length_drop, HZL.out]; omega
              rw [hqs] at HO9
              have HQS := Aside0.mk hqs
              clear hqs
              obtain ⟨ad9, A9, c9, hA9, hz0, hz1, hz2, hz3, hl9, hC9⟩ := at_T42 (Kd.C_below HR.out HB9.out) (i : Int) (by omega) (by omega)
              injection hA9 with hA9
              subst hA9
              simp only [Int.toNat_natCast] at hz0 hz1 hz2 hz3
              rw [HRD.out] at hz0 hz1 hz2 hz3
              clear hC9 hl9
              obtain ⟨cc, hcl, hM, hcc, hfr⟩ := Kd.R_elem HO9.out ⟨⟨#[]⟩, 0⟩ (kk : Int) (by omega) (by omega)
              obtain ⟨u0_, u1_, rfl⟩ : ∃ u0_ u1_, cc = [u0_, u1_] := by
                match cc, hcl with
                | [a, b], _ => exact ⟨a, b, rfl⟩
              have t0 : w9.cell? ⟨g, kk * 2, none⟩ = some u0_ := hcc 0 u0_ rfl
              have t1 : w9.cell? ⟨g, kk * 2 + 1, none⟩ = some u1_ := hcc 1 u1_ rfl
              have f0 : w9.frozen? ⟨g, kk * 2, none⟩ = false := hfr 0
              have f1 : w9.frozen? ⟨g, kk * 2 + 1, none⟩ = false := hfr 1
              have HSEG := Aside0.mk (Kd.R_seg (x' := (⟨x.f2, x.f3.length⟩ : S46)) (seg := [.string x.f2, .int .i64 x.f3.length]) (j := 0) (okp := fun k => True ∧ k ≠ g) HO9.out (kk : Int) (by omega) (by omega) hcl hcc (Nat.le_refl 2) (k46_mkM _ _ _ (⟨x.f2, x.f3.length⟩ : S46)) (fun _ h => h))
              clear hcl hM hcc hfr
              go_region
              have HO12 := Aside0.mk (Kd.R_drew (show k46.R 46 ((w9.setCell ⟨g, kk * 2, none⟩ (.string x.f2)).setCell ⟨g, kk * 2 + 1, none⟩ (.int .i64 x.f3.length)) w.heap.size (fun _ => True) (.slice (some ⟨g, 0, none⟩) (ys.length + 1) cz) (qs.set kk ⟨x.f2, x.f3.length⟩) from HSEG.out.1))
              have HB12 := Aside0.mk (below_drew (belS (belS HB9 hgb (kk * 2) (.string x.f2)) hgb (kk * 2 + 1) (.int .i64 x.f3.length)).out)
              generalize (((w9.setCell ⟨g, kk * 2, none⟩ (.string x.f2)).setCell ⟨g, kk * 2 + 1, none⟩ (.int .i64 x.f3.length)).drew) = w12 at *
              clear hz0 hz1 hz2 hz3 t0 t1 f0 f1
              go_wp2
              go_roundw
              case rel => exact ⟨i + 1, qs.set kk ⟨x.f2, x.f3.length⟩, by go_num, by omega, ⟨by rw [take_snocG HXI.out, symsL_snoc, HY.out]; unfold symsG; rw [if_pos HX0.out, HINS.out, ← HQS.out, ← HZS.out, shifted ys _ _ kk hkk]⟩, HO12, HB12⟩
              case measure => simp [intOf]; omega
      · have h0b : (x.f0 != 0) = true := by simp [h0]
        have HX0 := Aside0.mk h0
        clear h0
        go_wp2
        go_roundw
        case rel => exact ⟨i + 1, ys, by go_num, by omega, ⟨by rw [take_snocG HXI.out, symsL_snoc, HY.out]; unfold symsG; rw [if_neg HX0.out]⟩, HO, HB⟩
        case measure => simp [intOf]; omega
    · obtain rfl : i = l.length := by omega
      rw [List.take_length] at HY
      go_wp2
      go_ret
      exact ⟨_, rfl, by rw [HY.out]; exact HO.out, HB.out⟩
/-- For the printer. -/
def paraphrastref12_SymbolsOf.f (l : List S42) : Option (List S46) := if l.length ≤ 100000 ∧ ∀ x ∈ l, x.f3.length ≤ 1000000 then some (symsL l) else none
theorem paraphrastref12_SymbolsOf.calls (A : Option Addr) (c : Nat) (l : List S42) (r : List S46) (w : World) (hr : Kd.C k42 w A l.length l) (hc : l.length ≤ c) (h : paraphrastref12_SymbolsOf.f l = some r) :
    Calls Tryz.prog 67 #[.slice A l.length c] w fun e w' => ∃ v, e = .returned v ∧ k46.R 46 w' w.heap.size (fun _ => True) v r ∧ Below w.heap.size w w' := by
  unfold paraphrastref12_SymbolsOf.f at h
  split at h
  · rename_i hp
    injection h with h
    subst h
    exact symsOf_calls A c l w hr hc hp.1 hp.2
  · cases h
end Go.Proofs.YtailpfcbdopfeaaGreatDoor.F
/- GuessRelations, the plain law: the symbols bear the literals' names. -/
namespace Go.Proofs.YtailpfcbdopfeaaGreatDoor.F
open Go.RowKit Go.Proofs.YtailpfcbdopfeaaGreatDoorW.PrintWords Go.Proofs.YtailpfcbdopfeaaGreatDoorW.PrintLast Go.Proofs.YtailpfcbdopfeaaGreatDoorW.PrintMore
set_option linter.unusedVariables false
set_option linter.unusedSimpArgs false
theorem hit_ins (ys : List S46) (n : ByteArray) (a : Int) (m : ByteArray) : hitB (insY ys n a) m = (hitB ys m || decide (n = m)) := by
  unfold insY
  split
  · rename_i h
    obtain ⟨s, hs, e⟩ := Option.map_eq_some_iff.1 h
    by_cases q : n = m
    · have : hitB ys m = true := List.any_eq_true.2 ⟨s, List.mem_of_getElem? hs, by rw [e, q]; simp⟩
      rw [this, Bool.true_or]
    · rw [decide_eq_false q, Bool.or_false]
  · conv => rhs; rw [← List.take_append_drop (insAt ys n) ys]
    simp only [hitB, List.any_append, List.any_cons]
    cases (List.take (insAt ys n) ys).any (fun s => decide (s.f0 = m)) <;> cases (List.drop (insAt ys n) ys).any (fun s => decide (s.f0 = m)) <;> cases decide (n = m) <;> rfl
theorem hit_syms (m : ByteArray) : ∀ (l : List S42) (ys : List S46), hitB (l.foldl symsG ys) m = (hitB ys m || l.any (bears m))
  | [], ys => by simp
  | x :: l, ys => by
    rw [List.foldl_cons, hit_syms m l, List.any_cons]
    have hx : hitB (symsG ys x) m = (hitB ys m || bears m x) := by
      unfold symsG bears
      by_cases h0 : x.f0 = 0
      · rw [if_pos h0, if_pos h0, hit_ins]
        congr 1
        by_cases q : x.f2 = m
        · rw [decide_eq_true q, q]
          exact (beq_self_eq_true _).symm
        · rw [decide_eq_false q]
          exact (beq_eq_false_iff_ne.2 (fun e => q (toList_inj e))).symm
      · rw [if_neg h0, if_neg h0, Bool.or_false]
    rw [hx, Bool.or_assoc]
theorem hit_eq (l : List S42) (m : ByteArray) : hitB (symsL l) m = l.any (bears m) := by
  unfold symsL
  rw [hit_syms]
  rfl
theorem taken_eq (ls : List S42) (y z m : Nat) : ((rowB 89 y m ++ hdB m :: rowB 90 z m).any (hitB (symsL ls))) = takenB ls y z m := by
  unfold takenB
  congr 1
  funext n
  exact hit_eq ls n
end Go.Proofs.YtailpfcbdopfeaaGreatDoor.F
