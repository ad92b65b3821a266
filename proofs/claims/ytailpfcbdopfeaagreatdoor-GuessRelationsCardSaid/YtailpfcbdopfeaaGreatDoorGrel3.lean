/- Part 3 of the proof: For every machine and every size, GuessRelations answers true, whatever the input; no condition. -/
import Derived.Test.YtailpfcbdopfeaaGreatDoorGrel2
import Derived.Maps.StringElems
import Derived.Maps.RangeWalk
import Derived.Maps.OwnSet
import Derived.StringKeys
import Derived.Shelf.SlLaysF0
import Derived.Ground.SlsfProg
import Derived.Test.YtailpfcbdopfeaaGreatDoorProg
import Derived.Shelf.SlSortCmp.NoneTotal
import Derived.BigQuiet
/- literal.Symbols, by hand: the map's walk. -/
namespace Go.Proofs.YtailpfcbdopfeaaGreatDoor.F
open Go.RowKit Go.Proofs.YtailpfcbdopfeaaGreatDoorW.PrintWords Go.Proofs.YtailpfcbdopfeaaGreatDoorW.PrintLast Go.Proofs.YtailpfcbdopfeaaGreatDoorW.PrintMore Go.Proofs.YtailpfcbdopfeaaGreatDoor.Build
set_option linter.unusedVariables false
set_option linter.unusedSimpArgs false
/-- The key of a name. -/
def nk (n : ByteArray) : Lit := .string n.data.toList
theorem nk_inj {a b : ByteArray} (h : nk a = nk b) : a = b := by
  injection h with h
  rw [← mkB_data a, ← mkB_data b, h]
theorem nk_key (n : ByteArray) : WideAt.IsKeyLit (nk n) := by simp [nk, WideAt.IsKeyLit]
theorem nk_of {n : ByteArray} (h : n.size ≤ maxLen) : keyOf Tryz.prog 9 (.string n) = some (nk n) := WideMaps.keyOf_string_mk Tryz.underlying9 h
/-- No name has two arities. -/
def SymOk (l : List S42) : Prop := ∀ x ∈ l, ∀ y ∈ l, x.f0 = 0 → y.f0 = 0 → x.f2 = y.f2 → x.f3.length = y.f3.length
/-- What the map holds. -/
structure MapD (l : List S42) (D : DataW Unit) : Prop where
  at_ : ∀ x ∈ l, x.f0 = 0 → ∀ zd, D.atKey (nk x.f2) zd = .lit (.int .i64 x.f3.length)
  has : ∀ kl, Maps.has D kl = true → ∃ x ∈ l, x.f0 = 0 ∧ kl = nk x.f2
theorem MapD.nil : MapD [] (.map []) := ⟨fun x h => by simp at h, fun kl h => by cases h⟩
theorem MapD.skip {l : List S42} {D : DataW Unit} (h : MapD l D) (x : S42) (h0 : x.f0 ≠ 0) : MapD (l ++ [x]) D where
  at_ := fun y hy hy0 => by
    rcases List.mem_append.1 hy with h1 | h1
    · exact h.at_ y h1 hy0
    · rw [List.mem_singleton] at h1
      subst h1
      exact absurd hy0 h0
  has := fun kl hk => let ⟨y, hy, e⟩ := h.has kl hk; ⟨y, List.mem_append_left _ hy, e⟩
theorem SymOk.skip {l : List S42} (h : SymOk l) (x : S42) (h0 : x.f0 ≠ 0) : SymOk (l ++ [x]) := by
  intro y hy z hz hy0 hz0 e
  rw [List.mem_append, List.mem_singleton] at hy hz
  rcases hy with hy | rfl
  · rcases hz with hz | rfl
    · exact h y hy z hz hy0 hz0 e
    · exact absurd hz0 h0
  · exact absurd hy0 h0
theorem MapD.put {l : List S42} {D : DataW Unit} (h : MapD l D) (hm : Maps.IsMap D) (x : S42) (h0 : x.f0 = 0) (hc : ∀ y ∈ l, y.f0 = 0 → y.f2 = x.f2 → y.f3.length = x.f3.length) : MapD (l ++ [x]) (D.put (nk x.f2) (.lit (.int .i64 x.f3.length))) where
  at_ := fun y hy hy0 zd => by
    by_cases e : y.f2 = x.f2
    · have el : y.f3.length = x.f3.length := by
        rcases List.mem_append.1 hy with h1 | h1
        · exact hc y h1 hy0 e
        · rw [List.mem_singleton] at h1
          rw [h1]
      rw [e, Maps.atKey_put_same hm (nk_key _), el]
    · rw [Maps.atKey_put_other (fun q => e (nk_inj q))]
      rcases List.mem_append.1 hy with h1 | h1
      · exact h.at_ y h1 hy0 zd
      · rw [List.mem_singleton] at h1
        exact absurd (by rw [h1]) e
  has := fun kl hk => by
    by_cases e : kl = nk x.f2
    · exact ⟨x, by simp, h0, e⟩
    · rw [Maps.has_put_other e] at hk
      obtain ⟨y, hy, q⟩ := h.has kl hk
      exact ⟨y, List.mem_append_left _ hy, q⟩
theorem SymOk.put {l : List S42} (h : SymOk l) (x : S42) (h0 : x.f0 = 0) (hc : ∀ y ∈ l, y.f0 = 0 → y.f2 = x.f2 → y.f3.length = x.f3.length) : SymOk (l ++ [x]) := by
  intro y hy z hz hy0 hz0 e
  rw [List.mem_append, List.mem_singleton] at hy hz
  rcases hy with hy | rfl
  · rcases hz with hz | rfl
    · exact h y hy z hz hy0 hz0 e
    · exact hc y hy hy0 e
  · rcases hz with hz | rfl
    · exact (hc z hz hz0 e.symm).symm
    · rfl
/-- The lookup's answer says whether the arities agree. -/
theorem MapD.look {l : List S42} {D : DataW Unit} (h : MapD l D) (x : S42) (c : Int) (hat : D.atKey (nk x.f2) (.lit (.int .i64 0)) = .lit (.int .i64 c)) (hh : Maps.has D (nk x.f2) = true) :
    ∃ y ∈ l, y.f0 = 0 ∧ y.f2 = x.f2 ∧ c = y.f3.length ∧ ∀ z ∈ l, z.f0 = 0 → z.f2 = x.f2 → (z.f3.length : Int) = c := by
  have one : ∀ z ∈ l, z.f0 = 0 → z.f2 = x.f2 → (z.f3.length : Int) = c := fun z hz hz0 e => by
    have h1 := h.at_ z hz hz0 (.lit (.int .i64 0))
    rw [e, hat] at h1
    injection h1 with h1
    injection h1 with _ h1
    exact h1.symm
  obtain ⟨y, hy, hy0, e⟩ := h.has _ hh
  exact ⟨y, hy, hy0, (nk_inj e).symm, (one y hy hy0 (nk_inj e).symm).symm, one⟩
theorem MapD.none {l : List S42} {D : DataW Unit} (h : MapD l D) (x : S42) (hh : Maps.has D (nk x.f2) = false) : ∀ y ∈ l, y.f0 = 0 → y.f2 = x.f2 → y.f3.length = x.f3.length := fun y hy hy0 e => by
  have := Maps.has_true_of_atKey (h.at_ y hy hy0)
  rw [e, hh] at this
  cases this
/-- The arity of a name. -/
def ar (l : List S42) (n : ByteArray) : Int := ((l.find? (fun x => decide (x.f0 = 0) && decide (x.f2 = n))).map (fun x => (x.f3.length : Int))).getD 0
theorem MapD.ar_of {l : List S42} {D : DataW Unit} (h : MapD l D) {n : ByteArray} {c : Int} (hat : ∀ zd, D.atKey (nk n) zd = .lit (.int .i64 c)) : (∃ x ∈ l, x.f0 = 0 ∧ x.f2 = n) ∧ c = ar l n := by
  obtain ⟨x, hx, h0, e⟩ := h.has _ (Maps.has_true_of_atKey hat)
  have e := nk_inj e
  refine ⟨⟨x, hx, h0, e.symm⟩, ?_⟩
  cases hf : l.find? (fun x => decide (x.f0 = 0) && decide (x.f2 = n)) with
  | none =>
    have := List.find?_eq_none.1 hf x hx
    simp [h0, e] at this
  | some y =>
    have h1 := List.find?_some hf
    simp at h1
    have h2 := h.at_ y (List.mem_of_find?_eq_some hf) h1.1 .nil
    rw [h1.2, hat] at h2
    injection h2 with h2
    injection h2 with _ h2
    unfold ar
    rw [hf]
    exact h2
theorem SymOk.ar {l : List S42} (h : SymOk l) {x : S42} (hx : x ∈ l) (h0 : x.f0 = 0) : ar l x.f2 = x.f3.length := by
  cases hf : l.find? (fun y => decide (y.f0 = 0) && decide (y.f2 = x.f2)) with
  | none =>
    have := List.find?_eq_none.1 hf x hx
    simp [h0] at this
  | some y =>
    have h1 := List.find?_some hf
    simp at h1
    unfold F.ar
    rw [hf]
    exact congrArg _ (h y (List.mem_of_find?_eq_some hf) x hx h1.1 h0 h1.2)
/-- THE RANGE's STEP, string keys, elements of an integer kind. -/
theorem wpList_next_ranges_si {H : Type} {P : Program} (w : World) {ops : Array Oper} {rest : List Oper} {o : Oper} {a : Act} {Q : Exit → Act → World → Prop}
    (hg : o.guard = none) (it : Operand) (hop : o.op = Op.next it false) (k e : TypeId) (qe : IntKind) (K : Maps.Keyed P k) (hk : P.underlying k = some .string) (he : P.underlying e = some (.int qe))
    (b r n : Nat) (D : DataW H) (left : Lit → Bool) (cnt : Nat) (hit : a.eval it = .pointer (some ⟨r, 0, none⟩)) (h : w.ranges P k (plainElem P e) b r n D left cnt)
    (hDone : cnt = 0 → (∀ kl, left kl = false) → wpList P ops Q rest (a.put o.dst (.tuple #[.bool false])) w)
    (hMore : ∀ (x : ByteArray) (c : Int) (w' : World) (cnt' : Nat), x.size ≤ maxLen → left (nk x) = true → (∀ zd, D.atKey (nk x) zd = .lit (.int qe c)) → w'.ranges P k (plainElem P e) b r n D (fun z => left z && !z.sameKey (nk x)) cnt' → cnt' < cnt →
      w.grownBy w' (some r) → w'.heap.size = w.heap.size → (Instr.entry (.pointer (some ⟨r, 0, none⟩))).run P w' = .ok (.tuple #[.string x, .int qe c]) w' → wpList P ops Q rest (a.put o.dst (.tuple #[.bool true, .string x, .int qe c])) w') :
    wpList P ops Q (o :: rest) a w :=
  wpList_next_ranges w hg it hop k K (plainElem P e) Value.string (Value.int qe) (fun key kl hkey => by obtain ⟨x, rfl, _⟩ := WideMaps.string_of_keyOf hk hkey; exact ⟨x, rfl⟩) (fun v y hv => by obtain ⟨c, rfl, _⟩ := plainElem_int_inv he hv; exact ⟨c, rfl⟩)
    b r n D left cnt hit h hDone (fun x c kl y w' cnt' hkey hlk hv hat hrg hlt hgr hsz hen => by
      obtain ⟨x', ex, rfl, hwx⟩ := WideMaps.string_of_keyOf hk hkey
      cases ex
      obtain ⟨c', ec, rfl, hwc⟩ := plainElem_int_inv he hv
      cases ec
      exact hMore x c w' cnt' hwx hlk hat hrg hlt hgr hsz hen)
theorem nk_self (n : ByteArray) : (nk n).sameKey (nk n) = true := by simp [nk, Lit.sameKey]
theorem nk_other {a b : ByteArray} (h : a ≠ b) : (nk a).sameKey (nk b) = false := Maps.sameKey_ne (fun e => h (nk_inj e))
theorem left_has {D : DataW Unit} {left : Lit → Bool} {os : List ByteArray} (x : ByteArray) (h : ∀ n, Maps.has D (nk n) = true → left (nk n) = true ∨ n ∈ os) : ∀ n, Maps.has D (nk n) = true → (left (nk n) && !(nk n).sameKey (nk x)) = true ∨ n ∈ os ++ [x] := fun n hn => by
  by_cases e : n = x
  · exact .inr (by rw [e]; simp)
  · rcases h n hn with h1 | h1
    · exact .inl (by rw [h1, nk_other e]; rfl)
    · exact .inr (List.mem_append_left _ h1)
theorem left_in {l : List S42} {left : Lit → Bool} {os : List ByteArray} {x : ByteArray} (h : ∀ n ∈ os, left (nk n) = false ∧ ∃ x ∈ l, x.f0 = 0 ∧ x.f2 = n) (hx : ∃ y ∈ l, y.f0 = 0 ∧ y.f2 = x) : ∀ n ∈ os ++ [x], (left (nk n) && !(nk n).sameKey (nk x)) = false ∧ ∃ x ∈ l, x.f0 = 0 ∧ x.f2 = n := fun n hn => by
  rw [List.mem_append, List.mem_singleton] at hn
  rcases hn with hn | rfl
  · exact ⟨by rw [(h n hn).1]; rfl, (h n hn).2⟩
  · exact ⟨by rw [nk_self]; simp, hx⟩
theorem left_nodup {l : List S42} {left : Lit → Bool} {os : List ByteArray} {x : ByteArray} (h : ∀ n ∈ os, left (nk n) = false ∧ ∃ x ∈ l, x.f0 = 0 ∧ x.f2 = n) (hn : os.Nodup) (hx : left (nk x) = true) : (os ++ [x]).Nodup := by
  rw [List.nodup_append]
  refine ⟨hn, by simp, fun a ha b hb e => ?_⟩
  rw [List.mem_singleton] at hb
  rw [e, hb] at ha
  rw [(h x ha).1] at hx
  cases hx
end Go.Proofs.YtailpfcbdopfeaaGreatDoor.F
/-
  DERIVED: THE SHELF's CONTRACTS AT THIS DUMP, IN PLAIN WORDS (tools/lay-plain.mjs out of 'TryzSort.lean', which tools/lay-shelf.mjs wrote): THE SAME DECLARATIONS UNDER THE SAME NAMES: 'import', 'namespace', 'open', 'def', 'theorem' AND NOTHING ELSE: no command of the shelf's: FOR A HAND-IN. Each laying: the table of numbers ('.._ren') and one theorem, a field a fact of the dump's own or the kernel's comparison; each contract: ONE APPLICATION.
-/
namespace Go.Proofs
open Go.Shelf
def Tryz.sortL_ren : Go.Shelf.Ren := ⟨fun | 6 => 71 | 15 => 97 | 14 => 96 | 28 => 128 | 29 => 129 | 20 => 120 | 21 => 121 | 22 => 122 | 23 => 123 | 24 => 124 | 25 => 125 | 26 => 126 | 27 => 127 | 46 => 141 | 47 => 142 | 48 => 143 | 49 => 144 | 50 => 145 | 57 => 153 | n => n, fun | 22 => 29 | 24 => 46 | 25 => 119 | 3 => 3 | 39 => 138 | 0 => 0 | 53 => 128 | 55 => 176 | 4 => 4 | 46 => 169 | 45 => 168 | 50 => 116 | 5 => 5 | 9 => 9 | 66 => 191 | 70 => 195 | 76 => 208 | 77 => 209 | n => n, fun | n => n⟩
theorem Tryz.sortL : Go.Proofs.SlLaysF0.n6 Tryz.prog Tryz.sortL_ren := {
  mixed := by kernel_rfl
  f6 := ⟨Tryz.f71.name, by decide, Tryz.func71.trans (congrArg some (by kernel_rfl))⟩
  f14 := ⟨Tryz.f96.name, by decide, Tryz.func96.trans (congrArg some (by kernel_rfl))⟩
  f15 := Tryz.func97.trans (congrArg some (by kernel_rfl))
  f20 := ⟨Tryz.f120.name, by decide, Tryz.func120.trans (congrArg some (by kernel_rfl))⟩
  f21 := ⟨Tryz.f121.name, by decide, Tryz.func121.trans (congrArg some (by kernel_rfl))⟩
  f22 := ⟨Tryz.f122.name, by decide, Tryz.func122.trans (congrArg some (by kernel_rfl))⟩
  f23 := ⟨Tryz.f123.name, by decide, Tryz.func123.trans (congrArg some (by kernel_rfl))⟩
  f24 := ⟨Tryz.f124.name, by decide, Tryz.func124.trans (congrArg some (by kernel_rfl))⟩
  f25 := ⟨Tryz.f125.name, by decide, Tryz.func125.trans (congrArg some (by kernel_rfl))⟩
  f26 := ⟨Tryz.f126.name, by decide, Tryz.func126.trans (congrArg some (by kernel_rfl))⟩
  f27 := ⟨Tryz.f127.name, by decide, Tryz.func127.trans (congrArg some (by kernel_rfl))⟩
  f28 := Tryz.func128.trans (congrArg some (by kernel_rfl))
  f29 := Tryz.func129.trans (congrArg some (by kernel_rfl))
  f46 := ⟨Tryz.f141.name, by decide, Tryz.func141.trans (congrArg some (by kernel_rfl))⟩
  f47 := Tryz.func142.trans (congrArg some (by kernel_rfl))
  f48 := Tryz.func143.trans (congrArg some (by kernel_rfl))
  f49 := ⟨Tryz.f144.name, by decide, Tryz.func144.trans (congrArg some (by kernel_rfl))⟩
  f50 := ⟨Tryz.f145.name, by decide, Tryz.func145.trans (congrArg some (by kernel_rfl))⟩
  f57 := ⟨Tryz.f153.name, by decide, Tryz.func153.trans (congrArg some (by kernel_rfl))⟩
  t0 := Tryz.underlying0
  a0 := Tryz.isAgg0
  z0 := Tryz.sizeOf0
  v0 := Tryz.zeroValue0
  t3 := Tryz.underlying3
  a3 := Tryz.isAgg3
  z3 := Tryz.sizeOf3
  v3 := Tryz.zeroValue3
  t4 := Tryz.underlying4
  a4 := Tryz.isAgg4
  z4 := Tryz.sizeOf4
  v4 := Tryz.zeroValue4
  t5 := Tryz.underlying5
  a5 := Tryz.isAgg5
  z5 := Tryz.sizeOf5
  v5 := Tryz.zeroValue5
  t9 := Tryz.underlying9
  a9 := Tryz.isAgg9
  z9 := Tryz.sizeOf9
  v9 := Tryz.zeroValue9
  t22 := Tryz.underlying29
  a22 := Tryz.isAgg29
  z22 := Tryz.sizeOf29
  v22 := Tryz.zeroValue29
  t25 := Tryz.underlying119
  a25 := Tryz.isAgg119
  z25 := Tryz.sizeOf119
  v25 := Tryz.zeroValue119
  t39 := Tryz.underlying138
  a39 := Tryz.isAgg138
  z39 := Tryz.sizeOf138
  v39 := Tryz.zeroValue138
  t45 := Tryz.underlying168
  a45 := Tryz.isAgg168
  z45 := Tryz.sizeOf168
  v45 := Tryz.zeroValue168
  t46 := Tryz.underlying169
  a46 := Tryz.isAgg169
  z46 := Tryz.sizeOf169
  v46 := Tryz.zeroValue169
  t50 := Tryz.underlying116
  a50 := Tryz.isAgg116
  z50 := Tryz.sizeOf116
  v50 := Tryz.zeroValue116
  t53 := Tryz.underlying128
  a53 := Tryz.isAgg128
  z53 := Tryz.sizeOf128
  v53 := Tryz.zeroValue128
  t55 := Tryz.underlying176
  a55 := Tryz.isAgg176
  z55 := Tryz.sizeOf176
  v55 := Tryz.zeroValue176
  t66 := Tryz.underlying191
  a66 := Tryz.isAgg191
  z66 := Tryz.sizeOf191
  v66 := Tryz.zeroValue191
  t70 := Tryz.underlying195
  a70 := Tryz.isAgg195
  z70 := Tryz.sizeOf195
  v70 := Tryz.zeroValue195
  t76 := Tryz.underlying208
  a76 := Tryz.isAgg208
  z76 := Tryz.sizeOf208
  v76 := Tryz.zeroValue208
  t77 := Tryz.underlying209
  a77 := Tryz.isAgg209
  z77 := Tryz.sizeOf209
  v77 := Tryz.zeroValue209 }
end Go.Proofs
/- slices.SortFunc(symbols, by their names), by the shelf's contract. -/
namespace Go.Proofs.YtailpfcbdopfeaaGreatDoor.F
open Go.RowKit Go.Lib Go.Sort Go.Proofs.YtailpfcbdopfeaaGreatDoorW.PrintWords Go.Proofs.YtailpfcbdopfeaaGreatDoorW.PrintLast Go.Proofs.YtailpfcbdopfeaaGreatDoorW.PrintMore
set_option linter.unusedVariables false
set_option linter.unusedSimpArgs false
/-- The order of two names. -/
def cmpS (a b : ByteArray) : Int := if Op.bytesLess a.toList b.toList = true then -1 else if (!a.toList == b.toList) = true then 1 else 0
theorem cmpS_lt {a b : ByteArray} (h : Op.bytesLess a.toList b.toList = true) : cmpS a b = -1 := by unfold cmpS; rw [if_pos h]
theorem cmpS_gt {a b : ByteArray} (h : Op.bytesLess a.toList b.toList = false) (g : (!a.toList == b.toList) = true) : cmpS a b = 1 := by unfold cmpS; rw [if_neg (by rw [h]; decide), if_pos g]
theorem cmpS_eq {a b : ByteArray} (h : Op.bytesLess a.toList b.toList = false) (g : (!a.toList == b.toList) = false) : cmpS a b = 0 := by unfold cmpS; rw [if_neg (by rw [h]; decide), if_neg (by rw [g]; decide)]
theorem ltOf_cmpS (a b : ByteArray) : ltOf cmpS a b = ltStr a.data.toList b.data.toList := by
  unfold ltOf ltStr
  rw [← bytesLess_eq, ← toList_data, ← toList_data]
  cases h : Op.bytesLess a.toList b.toList with
  | true => rw [cmpS_lt h]; rfl
  | false =>
    cases g : (!a.toList == b.toList) with
    | true => rw [cmpS_gt h g]; rfl
    | false => rw [cmpS_eq h g]; rfl
theorem swoS : SWO (ltOf cmpS) where
  irrefl x := by rw [ltOf_cmpS]; exact swo_ltStr.irrefl _
  trans x y z h1 h2 := by rw [ltOf_cmpS] at *; exact swo_ltStr.trans _ _ _ h1 h2
  ntrans x y z h1 h2 := by rw [ltOf_cmpS] at *; exact swo_ltStr.ntrans _ _ _ h1 h2
theorem totS (x y : ByteArray) (h1 : ltOf cmpS x y = false) (h2 : ltOf cmpS y x = false) : x = y := by
  rw [ltOf_cmpS] at h1 h2
  simp only [ltStr, decide_eq_false_iff_not, List.not_lt] at h1 h2
  have := List.le_antisymm h2 h1
  rw [← mkB_data x, ← mkB_data y, this]
theorem isNaN_calls (a : ByteArray) (w : World) : Calls Tryz.prog 98 #[.string a] w fun e w' => e = .returned (.bool false) ∧ w' = w := by
  go_enter Tryz.func98, Tryz.ntmps98
  go_wp2
  go_ret
  exact ⟨rfl, rfl⟩
theorem compare_calls (a b : ByteArray) (w : World) : Calls Tryz.prog 73 #[.string a, .string b] w fun e w' => e = .returned (.int .i64 (cmpS a b)) ∧ w' = w := by
  go_enter Tryz.func73, Tryz.ntmps73
  go_wp2_with (first | (go_at_call 98; refine (isNaN_calls _ _).mono ?_; rintro e w' ⟨rfl, rfl⟩))
  · go_ret
    exact ⟨congrArg (fun x => Ending.returned (.int .i64 x)) (cmpS_lt (by assumption)).symm, rfl⟩
  · go_ret
    exact ⟨congrArg (fun x => Ending.returned (.int .i64 x)) (cmpS_gt (by assumption) (by assumption)).symm, rfl⟩
  · go_ret
    exact ⟨congrArg (fun x => Ending.returned (.int .i64 x)) (cmpS_eq (by assumption) (by assumption)).symm, rfl⟩
/-- A symbol's two cells. -/
def encY (f : ByteArray → Int) (n : ByteArray) : List Value := [.string n, .int .i64 (f n)]
theorem closure_calls (f : ByteArray → Int) (x y : ByteArray) (W : World) : Calls Tryz.prog 72 #[.agg (encY f x).toArray, .agg (encY f y).toArray] W fun e w' => e = .returned (.int .i64 (cmpS x y)) ∧ ∃ q os', w' = grow (W.drewN q) os' := by
  unfold encY
  go_enter Tryz.func72, Tryz.ntmps72
  go_wp2_with (go_at_call 73; refine (compare_calls _ _ _).mono ?_; rintro e w' ⟨rfl, rfl⟩)
  go_ret
  exact ⟨rfl, 0, _, by rw [alloc_eq_grow, alloc_eq_grow, grow_grow]; rfl⟩
section
variable {α : Type} [Inhabited α] {enc : α → Value} {w : World} {blk : Nat} {n : Nat} {d : Array α} {os : Array Obj}
theorem sw_other (k : Nat) (hk : k < w.heap.size) (hne : k ≠ blk) : (sortWorld enc w blk 0 n d os).heap[k]? = w.heap[k]? := by
  unfold sortWorld
  show ((putRow enc (Sort.ahead w n) blk 0 d).heap ++ os)[k]? = _
  rw [Array.getElem?_append, if_pos (by simpa [putRow, mapBlock] using hk)]
  show (w.heap.modify blk _)[k]? = _
  rw [Array.getElem?_modify, if_neg (Ne.symm hne)]
theorem sw_size : w.heap.size ≤ (sortWorld enc w blk 0 n d os).heap.size := by
  unfold sortWorld
  show _ ≤ ((putRow enc (Sort.ahead w n) blk 0 d).heap ++ os).size
  simp [putRow, mapBlock]
theorem sw_below (B : Nat) (hB : B ≤ blk) (hBw : B ≤ w.heap.size) : Below B w (sortWorld enc w blk 0 n d os) := ⟨rfl, rfl, rfl, sw_size, fun k hk => sw_other k (by omega) (by omega)⟩
end
instance : Inhabited ByteArray := ⟨⟨#[]⟩⟩
theorem holdsY (f : ByteArray → Int) (os : List ByteArray) (W : World) (base : Nat) (ok : Nat → Prop) (g c : Nat) (hR : k46.R 46 W base ok (.slice (some ⟨g, 0, none⟩) os.length c) (os.map (fun n => (⟨n, f n⟩ : S46)))) (hp : 0 < os.length) : HoldsK (encY f) 2 W g 0 os.toArray := by
  have hR' := hR
  rw [show os.length = (os.map (fun n => (⟨n, f n⟩ : S46))).length by rw [List.length_map]] at hR'
  obtain ⟨_, _, ev, _, _, cells, hb⟩ := Kd.R_form hR' (by rw [List.length_map]; exact hp)
  injection ev with ev _ _
  injection ev with ev
  injection ev with ev _ _
  subst ev
  obtain ⟨_, _, hC⟩ := Kd.R_reads' hR
  intro j hj
  rw [size_flatK, List.size_toArray] at hj
  refine ⟨?_, blk_frozen hb _⟩
  rw [get_flatK _ _ _ j (by rw [List.size_toArray]; exact hj)]
  have hj2 : j / 2 < os.length := by omega
  obtain ⟨ad, hA, hz0, hz1⟩ := at_T46 hC ((j / 2 : Nat) : Int) (by omega) (by rw [List.length_map]; exact_mod_cast hj2)
  injection hA with hA
  subst hA
  have hrd : rd_T46 (os.map (fun n => (⟨n, f n⟩ : S46))) ((j / 2 : Nat) : Int) = ⟨os.toArray[j / 2]!, f os.toArray[j / 2]!⟩ := by
    unfold rd_T46
    rw [Int.toNat_natCast, List.getD_eq_getElem?_getD, List.getElem?_map, List.getElem?_eq_getElem hj2]
    simp [hj2]
  rw [hrd] at hz0 hz1
  rw [Int.toNat_natCast] at hz0 hz1
  rcases Nat.mod_two_eq_zero_or_one j with e | e
  · rw [e]
    have ej : j / 2 * 2 = 0 + j := by omega
    rw [Go.Proofs.YtailpfcbdopfeaaGreatDoorW.PrintWords.add_plain, ej] at hz0
    exact hz0
  · rw [e]
    have ej : j / 2 * 2 + 1 = 0 + j := by omega
    rw [Go.Proofs.YtailpfcbdopfeaaGreatDoorW.PrintWords.add_plain] at hz1
    rw [← ej]
    exact hz1
set_option maxHeartbeats 1000000 in
theorem sort_calls (f : ByteArray → Int) (os : List ByteArray) (W : World) (base B : Nat) (ok : Nat → Prop) (v : Value) (hB : B ≤ base) (hBW : B ≤ W.heap.size) (hl : os.length ≤ 1000000) (hR : k46.R 46 W base ok v (os.map (fun n => (⟨n, f n⟩ : S46)))) :
    Calls Tryz.prog 71 #[v, .func (.func 72) #[] #[]] W fun e w' => e = .returned (.tuple #[]) ∧ Below B W w' := by
  by_cases hp : 0 < os.length
  · obtain ⟨g, c, rfl, hbg, hgw, _⟩ := Kd.R_form hR (by rw [List.length_map]; exact hp)
    rw [List.length_map] at hR ⊢
    have eg : ∀ args w, (callFunc 72 args).run Tryz.prog w = .ok (.enter 72 args) w := enters_of Tryz.func72 (by kernel_rfl) rfl
    have hS := AnyQ.slices_SortFunc_total Tryz.sortL 2 Tryz.isAgg46 Tryz.sizeOf46 (encY f) (fun _ => rfl) (fun x v hv => by simp [encY] at hv; rcases hv with rfl | rfl <;> rfl) cmpS swoS 72 #[] g 0 c os.toArray W eg (fun _ _ _ _ x y => closure_calls f x y _) (holdsY f os W base ok g c hR hp) hgw (by rw [List.size_toArray]; omega) totS
    rw [List.size_toArray] at hS
    refine hS.mono ?_
    rintro e w' ⟨rfl, n, os', rfl⟩
    exact ⟨rfl, sw_below (enc := id) (d := flatK (encY f) 2 _) B (by omega) hBW⟩
  · obtain rfl : os = [] := List.length_eq_zero_iff.1 (by omega)
    obtain ⟨A, c, rfl⟩ := Kd.R_slice hR
    exact (AnyF.slices_SortFunc_none (P := Tryz.prog) (ρ := Tryz.sortL_ren) Tryz.sortL A c _ W).mono fun _ _ ⟨he, hw⟩ => ⟨he, by rw [hw]; exact Below.refl _ _⟩
end Go.Proofs.YtailpfcbdopfeaaGreatDoor.F
/- literal.Symbols, by hand: the walk. -/
namespace Go.Proofs.YtailpfcbdopfeaaGreatDoor.F
open Go.RowKit Go.Proofs.YtailpfcbdopfeaaGreatDoorW.PrintWords Go.Proofs.YtailpfcbdopfeaaGreatDoorW.PrintLast Go.Proofs.YtailpfcbdopfeaaGreatDoorW.PrintMore Go.Proofs.YtailpfcbdopfeaaGreatDoor.Build
set_option linter.unusedVariables false
set_option linter.unusedSimpArgs false
set_option maxHeartbeats 2000000 in
set_option maxRecDepth 100000 in
theorem symbols_calls (A : Option Addr) (c : Nat) (l : List S42) (w : World) (hr : Kd.C k42 w A l.length l) (hc : l.length ≤ c) (hs : ∀ x ∈ l, x.f2.size ≤ 1000000 ∧ x.f3.length ≤ 1000000) (hl : l.length ≤ 1000000) :
    Calls Tryz.prog 41 #[.slice A l.length c] w fun e w' => ∃ (v : Value) (b : Bool), e = .returned (.tuple #[v, .bool b]) ∧ (b = true ↔ SymOk l) ∧ Below w.heap.size w w' := by
  have HR := Aside0.mk hr
  have HS := Aside0.mk hs
  clear hr hs
  have hmm := @run_makeMap Tryz.prog
  go_enter Tryz.func41, Tryz.ntmps41
  go_wp2
  have HM := Aside0.mk (World.ownsMap_made w Tryz.prog 9 (plainElem (H := Unit) Tryz.prog 3))
  have HB := Aside0.mk (box1 w (.map #[] 0)).2
  generalize w.alloc (.map #[] 0) = W1 at *
  go_loopw [15] (fun v15 wr => ∃ (i : Nat) (D : DataW Unit), v15 = .int .i64 i ∧ i ≤ l.length ∧ Aside0 (wr.ownsMap Tryz.prog 9 (plainElem (H := Unit) Tryz.prog 3) w.heap.size i D) ∧ Aside0 (MapD (l.take i) D) ∧ Aside0 (SymOk (l.take i)) ∧ Aside0 (Below w.heap.size w wr)) (fun v15 _ => l.length - (intOf v15).toNat)
  case atStart => exact ⟨0, _, rfl, Nat.zero_le _, HM, ⟨by rw [List.take_zero]; exact MapD.nil⟩, ⟨fun x hx => by simp at hx⟩, HB⟩
  case round =>
    clear HM HB
    obtain ⟨i, D, rfl, hi, HM, HD, HO, HB⟩ := hrel
    generalize wr = wq at *
    by_cases hlt : i < l.length
    · obtain ⟨ad, A3, c3, hA, hz0, hz1, hz2, hz3, hl3, hC3⟩ := at_T42 (Kd.C_below HR.out HB.out) (i : Int) (by omega) (by omega)
      subst hA
      simp only [Int.toNat_natCast] at hz0 hz1 hz2 hz3
      have hx := rds_lit hlt
      obtain ⟨hxs, hxn⟩ := HS.out _ (List.mem_of_getElem? hx)
      generalize rd_T42 l (i : Int) = x at *
      have HXI := Aside0.mk hx
      clear hx hC3
      by_cases h0 : x.f0 = 0
      · have h0b : (x.f0 != 0) = false := by simp [h0]
        have hkx := nk_of (n := x.f2) (Nat.le_trans hxs (by unfold maxLen; omega))
        have HX0 := Aside0.mk h0
        clear h0
        have hpl : plainElem (H := Unit) Tryz.prog 3 (.int .i64 x.f3.length) = some (.lit (.int .i64 x.f3.length), []) := plainElem_int Tryz.underlying3 (by simp [Lit.wf, IntKind.min, IntKind.max, IntKind.signed, IntKind.bits]; omega)
        cases hh : Maps.has D (nk x.f2) with
        | true =>
          go_wp2_with (first | (at_lookup; refine wpList_lookup_own_ok_int _ rfl _ _ 115 rfl 9 3 .i64 (Maps.string_keyed Tryz.underlying9) Tryz.underlying115 Tryz.underlying3 (Tryz.zeroValue3 _) w.heap.size i D rfl (HM.out.alloc _) _ _ rfl hkx ?_; intro cL hat hwc; rw [hh]) | (at_mapUpdate; refine wpList_mapUpdate_own _ rfl _ _ _ 115 rfl 9 3 (Maps.string_keyed Tryz.underlying9) Tryz.underlying115 _ w.heap.size i D rfl (HM.out.alloc _) (by unfold maxLen; omega) _ _ _ rfl rfl hkx _ [] hpl ?_; intro w1 hown1 hg1))
          · rename_i hne
            have hno : ¬ SymOk l := fun ho => by
              obtain ⟨y, hy, hy0, e, ec, _⟩ := HD.out.look x cL hat hh
              have := ho y (List.mem_of_mem_take hy) x (List.mem_of_getElem? HXI.out) hy0 HX0.out e
              rw [ec, this] at hne
              simp at hne
            replace HB := belB HB (box1 wq (.cells #[.int .i64 x.f0, .bool x.f1, .string x.f2, .slice A3 x.f3.length c3] 42)).2
            go_ret2
            exact ⟨_, false, rfl, ⟨(fun h => by cases h), fun h => absurd h hno⟩, HB.out⟩
          · rename_i hne
            have HN : Aside0 (∀ y ∈ l.take i, y.f0 = 0 → y.f2 = x.f2 → y.f3.length = x.f3.length) := ⟨fun y hy hy0 e => by
              obtain ⟨_, _, _, _, _, hz⟩ := HD.out.look x cL hat hh
              have := hz y hy hy0 e
              simp at hne
              omega⟩
            replace HB := belB HB (box1 wq (.cells #[.int .i64 x.f0, .bool x.f1, .string x.f2, .slice A3 x.f3.length c3] 42)).2
            replace HB := belG HB hg1 (Nat.le_refl _)
            have HM1 := Aside0.mk hown1
            clear hown1 hg1
            go_roundw
            case rel => exact ⟨i + 1, _, by go_num, by omega, HM1, ⟨by rw [take_snocG HXI.out]; exact HD.out.put HM.out.isMap x HX0.out HN.out⟩, ⟨by rw [take_snocG HXI.out]; exact HO.out.put x HX0.out HN.out⟩, HB⟩
            case measure => simp [intOf]; omega
        | false =>
          go_wp2_with (first | (at_lookup; refine wpList_lookup_own_ok_int _ rfl _ _ 115 rfl 9 3 .i64 (Maps.string_keyed Tryz.underlying9) Tryz.underlying115 Tryz.underlying3 (Tryz.zeroValue3 _) w.heap.size i D rfl (HM.out.alloc _) _ _ rfl hkx ?_; intro cL hat hwc; rw [hh]) | (at_mapUpdate; refine wpList_mapUpdate_own _ rfl _ _ _ 115 rfl 9 3 (Maps.string_keyed Tryz.underlying9) Tryz.underlying115 _ w.heap.size i D rfl (HM.out.alloc _) (by unfold maxLen; omega) _ _ _ rfl rfl hkx _ [] hpl ?_; intro w1 hown1 hg1))
          have HN : Aside0 (∀ y ∈ l.take i, y.f0 = 0 → y.f2 = x.f2 → y.f3.length = x.f3.length) := ⟨HD.out.none x hh⟩
          replace HB := belB HB (box1 wq (.cells #[.int .i64 x.f0, .bool x.f1, .string x.f2, .slice A3 x.f3.length c3] 42)).2
          replace HB := belG HB hg1 (Nat.le_refl _)
          have HM1 := Aside0.mk hown1
          clear hown1 hg1
          go_roundw
          case rel => exact ⟨i + 1, _, by go_num, by omega, HM1, ⟨by rw [take_snocG HXI.out]; exact HD.out.put HM.out.isMap x HX0.out HN.out⟩, ⟨by rw [take_snocG HXI.out]; exact HO.out.put x HX0.out HN.out⟩, HB⟩
          case measure => simp [intOf]; omega
      · have h0b : (x.f0 != 0) = true := by simp [h0]
        have HX0 := Aside0.mk h0
        clear h0
        go_wp2
        replace HB := belB HB (box1 wq (.cells #[.int .i64 x.f0, .bool x.f1, .string x.f2, .slice A3 x.f3.length c3] 42)).2
        replace HM := Aside0.mk (HM.out.alloc (.cells #[.int .i64 x.f0, .bool x.f1, .string x.f2, .slice A3 x.f3.length c3] 42))
        go_roundw
        case rel => exact ⟨i + 1, D, by go_num, by omega, ⟨HM.out.mono (by omega)⟩, ⟨by rw [take_snocG HXI.out]; exact HD.out.skip x HX0.out⟩, ⟨by rw [take_snocG HXI.out]; exact HO.out.skip x HX0.out⟩, HB⟩
        case measure => simp [intOf]; omega
    · obtain rfl : i = l.length := by omega
      rw [List.take_length] at HD HO
      go_wp2_with (at_range; refine wpList_range_own _ rfl _ 115 rfl 9 3 (Maps.string_keyed Tryz.underlying9) Tryz.underlying115 _ w.heap.size l.length _ rfl HM.out ?_; intro w0 hrg0 hg0 hs0)
      go_frame
      replace HB := belN HB hg0
      have HRG := Aside0.mk hrg0
      have hqi : w.heap.size < wq.heap.size := HM.out.lt
      obtain ⟨gi, hgi⟩ : ∃ g, wq.heap.size = g := ⟨_, rfl⟩
      have hgw : w.heap.size ≤ gi := by omega
      have hs0' : gi < w0.heap.size := by omega
      simp only [hgi] at HRG ⊢
      have hDl := HM.out.size_le
      clear hg0 hrg0 hs0 hgi hqi HM
      go_loopw [9] (fun v9 wr => ∃ (os : List ByteArray) (left : Lit → Bool) (cnt : Nat), Aside0 (wr.ranges Tryz.prog 9 (plainElem (H := Unit) Tryz.prog 3) w.heap.size gi l.length D left cnt) ∧ Aside0 (k46.R 46 wr w.heap.size (fun k => gi < k) v9 (os.map (fun n => (⟨n, ar l n⟩ : S46))))
        ∧ Aside0 (∀ n, Maps.has D (nk n) = true → left (nk n) = true ∨ n ∈ os) ∧ Aside0 (∀ n ∈ os, left (nk n) = false ∧ ∃ x ∈ l, x.f0 = 0 ∧ x.f2 = n) ∧ Aside0 os.Nodup ∧ Aside0 (os.length + cnt ≤ Maps.size D) ∧ gi < wr.heap.size ∧ Aside0 (Below w.heap.size w wr)) (fun _ wr => wr.rangeLeft w.heap.size gi)
      case atStart => exact ⟨[], _, _, HRG, ⟨Kd.R_nil _ _ _ _ _⟩, ⟨fun n hn => .inl hn⟩, ⟨fun n hn => by simp at hn⟩, ⟨List.nodup_nil⟩, ⟨by simp⟩, hs0', HB⟩
      case round =>
        clear HRG HB hs0'
        obtain ⟨os, left, cnt, HRG, HV, HL, HI, HN, HC, hgs, HB⟩ := hrel
        go_wp2_with (first | (at_next; refine wpList_next_ranges_si _ rfl _ rfl 9 3 .i64 (Maps.string_keyed Tryz.underlying9) Tryz.underlying9 Tryz.underlying3 w.heap.size gi l.length _ _ _ rfl HRG.out ?_ ?_))
        · intro hc0 hl0
          have HLA := Aside0.mk hl0
          clear hl0
          have hos : os.length ≤ 1000000 := by have := HC.out; omega
          have hww := HB.out.size
          go_wp2_with fail
          refine (sort_calls (ar l) os wr w.heap.size w.heap.size (fun k => gi < k) _ (Nat.le_refl _) hww hos HV.out).mono ?_
          rintro e w9 ⟨rfl, hb9⟩
          replace HB := Aside0.mk (HB.out.trans hb9)
          clear hb9
          go_wp2
          go_ret2
          exact ⟨_, true, rfl, ⟨fun _ => HO.out, fun _ => rfl⟩, HB.out⟩
        · intro x c w1 cnt1 hwx hlx hat hrg1 hlt hg1 hs1' hen
          obtain ⟨hxl, hca⟩ := HD.out.ar_of hat
          have HXL := Aside0.mk hxl
          have HCA := Aside0.mk hca
          have HLX := Aside0.mk hlx
          have HBs := HB.out.size
          replace HB := belG HB hg1 hgw
          have HV1 := Aside0.mk (Kd.R_grown HV.out hg1 (fun k hk e => by injection e with e; omega))
          have HRG1 := Aside0.mk hrg1
          have HE := Aside0.mk (HRG.out.left_eq)
          have HLT := Aside0.mk hlt
          have hgs1 : gi < w1.heap.size := by omega
          have hol : os.length ≤ 1000000 := by have := HC.out; omega
          clear hxl hca hlx hg1 hat hlt hrg1 hs1' HV HRG hgs hwx
          have hwb1 := HB.out.size
          obtain ⟨ys, hys⟩ : ∃ ys, os.map (fun n => (⟨n, ar l n⟩ : S46)) = ys := ⟨_, rfl⟩
          have hyl : ys.length ≤ 1000000 := by rw [← hys, List.length_map]; exact hol
          rw [hys] at HV1
          replace hys := Aside0.mk hys
          go_wp2_with (first | ((with_reducible refine gate_builtin (b := .append) (xs := #[.tmp 51, .tmp 55]) rfl ?_); at_builtin; refine Kd.R_append k46 (w0 := w) w.heap.size rfl (.tmp 51) (.tmp 55) 29 46 (.agg #[.string ⟨#[]⟩, .int .i64 0]) 24 rfl Tryz.underlying29 infoY rfl (by decide) (by omega) _ ys ⟨x, c⟩ [.string x, .int .i64 c] (fun k => gi < k) (fun _ => False) rfl rfl ?aP (fun _ hk => hk.elim) ?aF ?aO ?aB ?aS ?aL ?_; (case aP => exact k46_mkM _ _ _ (⟨x, c⟩ : S46)); (case aB => exact HB.out); (case aF => exact (fun _ _ => by omega)); (case aO => exact HV1.out); (case aS => exact hwb1); (case aL => omega); intro v' w8 ho hb hg hat; have HOn := Aside0.mk ho; have HBn := Aside0.mk hb; have HRn := Aside0.mk (HRG1.out.kept hg (Kd.R_away HV1.out (fun k hk => by omega)) (Kd.R_away HV1.out (fun k hk => by omega))); have hg8 : gi < w8.heap.size := Nat.lt_of_lt_of_le hgs1 hg.size; clear ho hb hg hat))
          go_roundw
          case rel => exact ⟨os ++ [x], _, _, HRn, ⟨by rw [List.map_append, hys.out]; have := HOn.out; rw [HCA.out] at this; exact this⟩, ⟨left_has x HL.out⟩, ⟨left_in HI.out HXL.out⟩, ⟨left_nodup HI.out HN.out HLX.out⟩, ⟨by have := HC.out; have := HLT.out; rw [List.length_append, List.length_singleton]; omega⟩, hg8, HBn⟩
          case measure => rw [HRn.out.left_eq, HE.out]; exact HLT.out
end Go.Proofs.YtailpfcbdopfeaaGreatDoor.F
namespace Go.Proofs.YtailpfcbdopfeaaGreatDoor.F
open Go.RowKit Go.Proofs.YtailpfcbdopfeaaGreatDoorW.PrintWords Go.Proofs.YtailpfcbdopfeaaGreatDoorW.PrintLast Go.Proofs.YtailpfcbdopfeaaGreatDoorW.PrintMore
attribute [local go_sem] max2_int min2_int max_two min_two max_three min_three max_four min_four
set_option linter.unusedVariables false
set_option linter.unusedSimpArgs false
/-! ### shape_letter: function 48 -/
def shape_letter.f (a0 : Int) : Option (Bool) := if a0 ≥ 97 then (if a0 ≤ 122 then (some true) else (if a0 ≥ 65 then (some (decide (a0 ≤ 90))) else (some false))) else (if a0 ≥ 65 then (some (decide (a0 ≤ 90))) else (some false))
set_option maxHeartbeats 8000000 in
set_option maxRecDepth 100000 in
theorem shape_letter.calls (a0 : Int) (r : Bool) (w : World) (h : shape_letter.f a0 = some r) :
  Calls Tryz.prog 48 #[.int .u8 a0] w fun e w' => e = .returned (.bool r) ∧ Drawn0 w w' := by
 have H : (if a0 ≥ 97 then (if a0 ≤ 122 then (some true) else (if a0 ≥ 65 then (some (decide (a0 ≤ 90))) else (some false))) else (if a0 ≥ 65 then (some (decide (a0 ≤ 90))) else (some false))) = some r := h
 clear h
 by_cases c2 : a0 ≥ 97
 ·rw [if_pos c2] at H
  have c2b0 : decide (97 ≤ a0) = true := decide_eq_true c2
  clear c2
  by_cases c3 : a0 ≤ 122
  ·rw [if_pos c3] at H
   have c3b0 : decide (a0 ≤ 122) = true := decide_eq_true c3
   clear c3
   obtain rfl := Option.some.inj H
   go_enter Tryz.func48, Tryz.ntmps48
   go_wp2
   go_ret
   exact ⟨eS, dr0⟩
  ·rw [if_neg c3] at H
   have c3b0 : decide (a0 ≤ 122) = false := decide_eq_false c3
   clear c3
   by_cases c4 : a0 ≥ 65
   ·rw [if_pos c4] at H
    have c4b0 : decide (65 ≤ a0) = true := decide_eq_true c4
    clear c4
    obtain rfl := Option.some.inj H
    go_enter Tryz.func48, Tryz.ntmps48
    go_wp2
    go_ret
    exact ⟨eS, dr0⟩
   ·rw [if_neg c4] at H
    have c4b0 : decide (65 ≤ a0) = false := decide_eq_false c4
    clear c4
    obtain rfl := Option.some.inj H
    go_enter Tryz.func48, Tryz.ntmps48
    go_wp2
    go_ret
    exact ⟨eS, dr0⟩
 ·rw [if_neg c2] at H
  have c2b0 : decide (97 ≤ a0) = false := decide_eq_false c2
  clear c2
  by_cases c5 : a0 ≥ 65
  ·rw [if_pos c5] at H
   have c5b0 : decide (65 ≤ a0) = true := decide_eq_true c5
   clear c5
   obtain rfl := Option.some.inj H
   go_enter Tryz.func48, Tryz.ntmps48
   go_wp2
   go_ret
   exact ⟨eS, dr0⟩
  ·rw [if_neg c5] at H
   have c5b0 : decide (65 ≤ a0) = false := decide_eq_false c5
   clear c5
   obtain rfl := Option.some.inj H
   go_enter Tryz.func48, Tryz.ntmps48
   go_wp2
   go_ret
   exact ⟨eS, dr0⟩
end Go.Proofs.YtailpfcbdopfeaaGreatDoor.F
namespace Go.Proofs.YtailpfcbdopfeaaGreatDoor.F
open Go.RowKit Go.Proofs.YtailpfcbdopfeaaGreatDoorW.PrintWords Go.Proofs.YtailpfcbdopfeaaGreatDoorW.PrintLast Go.Proofs.YtailpfcbdopfeaaGreatDoorW.PrintMore
attribute [local go_sem] max2_int min2_int max_two min_two max_three min_three max_four min_four
set_option linter.unusedVariables false
set_option linter.unusedSimpArgs false
/-! ### shape_word: function 49 -/
def shape_word.f (a0 : ByteArray) : Option (Bool) := if a0.toList = ([97, 110, 100] : List UInt8) then (some true) else (if a0.toList = ([111, 114] : List UInt8) then (some true) else (if a0.toList = ([110, 111, 116] : List UInt8) then (some true) else (if a0.toList = ([115, 111, 109, 101] : List UInt8) then (some true) else (if a0.toList = ([97, 108, 108] : List UInt8) then (some true) else (if a0.toList = ([108, 102, 112] : List UInt8) then (some true) else (if a0.toList = ([112, 102, 112] : List UInt8) then (some true) else (if a0.toList = ([116, 99] : List UInt8) then (some true) else (if a0.toList = ([101, 120, 105, 115, 116, 115] : List UInt8) then (some true) else (if a0.toList = ([116, 114, 117, 101] : List UInt8) then (some true) else (if a0.toList = ([102, 97, 108, 115, 101] : List UInt8) then (some true) else (some false)))))))))))
set_option maxHeartbeats 8000000 in
set_option maxRecDepth 100000 in
theorem shape_word.calls (a0 : ByteArray) (r : Bool) (w : World) (h : shape_word.f a0 = some r) :
  Calls Tryz.prog 49 #[.string a0] w fun e w' => e = .returned (.bool r) ∧ Drawn0 w w' := by
 have H : (if a0.toList = ([97, 110, 100] : List UInt8) then (some true) else (if a0.toList = ([111, 114] : List UInt8) then (some true) else (if a0.toList = ([110, 111, 116] : List UInt8) then (some true) else (if a0.toList = ([115, 111, 109, 101] : List UInt8) then (some true) else (if a0.toList = ([97, 108, 108] : List UInt8) then (some true) else (if a0.toList = ([108, 102, 112] : List UInt8) then (some true) else (if a0.toList = ([112, 102, 112] : List UInt8) then (some true) else (if a0.toList = ([116, 99] : List UInt8) then (some true) else (if a0.toList = ([101, 120, 105, 115, 116, 115] : List UInt8) then (some true) else (if a0.toList = ([116, 114, 117, 101] : List UInt8) then (some true) else (if a0.toList = ([102, 97, 108, 115, 101] : List UInt8) then (some true) else (some false)))))))))))) = some r := h
 clear h
 by_cases c2 : a0.toList = ([97, 110, 100] : List UInt8)
 ·rw [if_pos c2] at H
  have c2b0 : (a0.toList == ([97, 110, 100] : List UInt8)) = true := beq_iff_eq.mpr c2
  have c2b1 : (a0.toList != ([97, 110, 100] : List UInt8)) = false := bne_eq_false_iff_eq.mpr c2
  clear c2
  obtain rfl := Option.some.inj H
  go_enter Tryz.func49, Tryz.ntmps49
  go_wp2
  go_ret
  exact ⟨eS, dr0⟩
 ·rw [if_neg c2] at H
  have c2b0 : (a0.toList == ([97, 110, 100] : List UInt8)) = false := beq_eq_false_iff_ne.mpr c2
  have c2b1 : (a0.toList != ([97, 110, 100] : List UInt8)) = true := bne_iff_ne.mpr c2
  by_cases c3 : a0.toList = ([111, 114] : List UInt8)
  ·rw [if_pos c3] at H
   have c3b0 : (a0.toList == ([111, 114] : List UInt8)) = true := beq_iff_eq.mpr c3
   have c3b1 : (a0.toList != ([111, 114] : List UInt8)) = false := bne_eq_false_iff_eq.mpr c3
   clear c3
   obtain rfl := Option.some.inj H
   go_enter Tryz.func49, Tryz.ntmps49
   go_wp2
   go_ret
   exact ⟨eS, dr0⟩
  ·rw [if_neg c3] at H
   have c3b0 : (a0.toList == ([111, 114] : List UInt8)) = false := beq_eq_false_iff_ne.mpr c3
   have c3b1 : (a0.toList != ([111, 114] : List UInt8)) = true := bne_iff_ne.mpr c3
   by_cases c4 : a0.toList = ([110, 111, 116] : List UInt8)
   ·rw [if_pos c4] at H
    have c4b0 : (a0.toList == ([110, 111, 116] : List UInt8)) = true := beq_iff_eq.mpr c4
    have c4b1 : (a0.toList != ([110, 111, 116] : List UInt8)) = false := bne_eq_false_iff_eq.mpr c4
    clear c4
    obtain rfl := Option.some.inj H
    go_enter Tryz.func49, Tryz.ntmps49
    go_wp2
    go_ret
    exact ⟨eS, dr0⟩
   ·rw [if_neg c4] at H
    have c4b0 : (a0.toList == ([110, 111, 116] : List UInt8)) = false := beq_eq_false_iff_ne.mpr c4
    have c4b1 : (a0.toList != ([110, 111, 116] : List UInt8)) = true := bne_iff_ne.mpr c4
    by_cases c5 : a0.toList = ([115, 111, 109, 101] : List UInt8)
    ·rw [if_pos c5] at H
     have c5b0 : (a0.toList == ([115, 111, 109, 101] : List UInt8)) = true := beq_iff_eq.mpr c5
     have c5b1 : (a0.toList != ([115, 111, 109, 101] : List UInt8)) = false := bne_eq_false_iff_eq.mpr c5
     clear c5
     obtain rfl := Option.some.inj H
     go_enter Tryz.func49, Tryz.ntmps49
     go_wp2
     go_ret
     exact ⟨eS, dr0⟩
    ·rw [if_neg c5] at H
     have c5b0 : (a0.toList == ([115, 111, 109, 101] : List UInt8)) = false := beq_eq_false_iff_ne.mpr c5
     have c5b1 : (a0.toList != ([115, 111, 109, 101] : List UInt8)) = true := bne_iff_ne.mpr c5
     by_cases c6 : a0.toList = ([97, 108, 108] : List UInt8)
     ·rw [if_pos c6] at H
      have c6b0 : (a0.toList == ([97, 108, 108] : List UInt8)) = true := beq_iff_eq.mpr c6
      have c6b1 : (a0.toList != ([97, 108, 108] : List UInt8)) = false := bne_eq_false_iff_eq.mpr c6
      clear c6
      obtain rfl := Option.some.inj H
      go_enter Tryz.func49, Tryz.ntmps49
      go_wp2
      go_ret
      exact ⟨eS, dr0⟩
     ·rw [if_neg c6] at H
      have c6b0 : (a0.toList == ([97, 108, 108] : List UInt8)) = false := beq_eq_false_iff_ne.mpr c6
      have c6b1 : (a0.toList != ([97, 108, 108] : List UInt8)) = true := bne_iff_ne.mpr c6
      by_cases c7 : a0.toList = ([108, 102, 112] : List UInt8)
      ·rw [if_pos c7] at H
       have c7b0 : (a0.toList == ([108, 102, 112] : List UInt8)) = true := beq_iff_eq.mpr c7
       have c7b1 : (a0.toList != ([108, 102, 112] : List UInt8)) = false := bne_eq_false_iff_eq.mpr c7
       clear c7
       obtain rfl := Option.some.inj H
       go_enter Tryz.func49, Tryz.ntmps49
       go_wp2
       go_ret
       exact ⟨eS, dr0⟩
      ·rw [if_neg c7] at H
       have c7b0 : (a0.toList == ([108, 102, 112] : List UInt8)) = false := beq_eq_false_iff_ne.mpr c7
       have c7b1 : (a0.toList != ([108, 102, 112] : List UInt8)) = true := bne_iff_ne.mpr c7
       by_cases c8 : a0.toList = ([112, 102, 112] : List UInt8)
       ·rw [if_pos c8] at H
        have c8b0 : (a0.toList == ([112, 102, 112] : List UInt8)) = true := beq_iff_eq.mpr c8
        have c8b1 : (a0.toList != ([112, 102, 112] : List UInt8)) = false := bne_eq_false_iff_eq.mpr c8
        clear c8
        obtain rfl := Option.some.inj H
        go_enter Tryz.func49, Tryz.ntmps49
        go_wp2
        go_ret
        exact ⟨eS, dr0⟩
       ·rw [if_neg c8] at H
        have c8b0 : (a0.toList == ([112, 102, 112] : List UInt8)) = false := beq_eq_false_iff_ne.mpr c8
        have c8b1 : (a0.toList != ([112, 102, 112] : List UInt8)) = true := bne_iff_ne.mpr c8
        by_cases c9 : a0.toList = ([116, 99] : List UInt8)
        ·rw [if_pos c9] at H
         have c9b0 : (a0.toList == ([116, 99] : List UInt8)) = true := beq_iff_eq.mpr c9
         have c9b1 : (a0.toList != ([116, 99] : List UInt8)) = false := bne_eq_false_iff_eq.mpr c9
         clear c9
         obtain rfl := Option.some.inj H
         go_enter Tryz.func49, Tryz.ntmps49
         go_wp2
         go_ret
         exact ⟨eS, dr0⟩
        ·rw [if_neg c9] at H
         have c9b0 : (a0.toList == ([116, 99] : List UInt8)) = false := beq_eq_false_iff_ne.mpr c9
         have c9b1 : (a0.toList != ([116, 99] : List UInt8)) = true := bne_iff_ne.mpr c9
         by_cases c10 : a0.toList = ([101, 120, 105, 115, 116, 115] : List UInt8)
         ·rw [if_pos c10] at H
          have c10b0 : (a0.toList == ([101, 120, 105, 115, 116, 115] : List UInt8)) = true := beq_iff_eq.mpr c10
          have c10b1 : (a0.toList != ([101, 120, 105, 115, 116, 115] : List UInt8)) = false := bne_eq_false_iff_eq.mpr c10
          clear c10
          obtain rfl := Option.some.inj H
          go_enter Tryz.func49, Tryz.ntmps49
          go_wp2
          go_ret
          exact ⟨eS, dr0⟩
         ·rw [if_neg c10] at H
          have c10b0 : (a0.toList == ([101, 120, 105, 115, 116, 115] : List UInt8)) = false := beq_eq_false_iff_ne.mpr c10
          have c10b1 : (a0.toList != ([101, 120, 105, 115, 116, 115] : List UInt8)) = true := bne_iff_ne.mpr c10
          by_cases c11 : a0.toList = ([116, 114, 117, 101] : List UInt8)
          ·rw [if_pos c11] at H
           have c11b0 : (a0.toList == ([116, 114, 117, 101] : List UInt8)) = true := beq_iff_eq.mpr c11
           have c11b1 : (a0.toList != ([116, 114, 117, 101] : List UInt8)) = false := bne_eq_false_iff_eq.mpr c11
           clear c11
           obtain rfl := Option.some.inj H
           go_enter Tryz.func49, Tryz.ntmps49
           go_wp2
           go_ret
           exact ⟨eS, dr0⟩
          ·rw [if_neg c11] at H
           have c11b0 : (a0.toList == ([116, 114, 117, 101] : List UInt8)) = false := beq_eq_false_iff_ne.mpr c11
           have c11b1 : (a0.toList != ([116, 114, 117, 101] : List UInt8)) = true := bne_iff_ne.mpr c11
           by_cases c12 : a0.toList = ([102, 97, 108, 115, 101] : List UInt8)
           ·rw [if_pos c12] at H
            have c12b0 : (a0.toList == ([102, 97, 108, 115, 101] : List UInt8)) = true := beq_iff_eq.mpr c12
            have c12b1 : (a0.toList != ([102, 97, 108, 115, 101] : List UInt8)) = false := bne_eq_false_iff_eq.mpr c12
            clear c12
            obtain rfl := Option.some.inj H
            go_enter Tryz.func49, Tryz.ntmps49
            go_wp2
            go_ret
            exact ⟨eS, dr0⟩
           ·rw [if_neg c12] at H
            have c12b0 : (a0.toList == ([102, 97, 108, 115, 101] : List UInt8)) = false := beq_eq_false_iff_ne.mpr c12
            have c12b1 : (a0.toList != ([102, 97, 108, 115, 101] : List UInt8)) = true := bne_iff_ne.mpr c12
            obtain rfl := Option.some.inj H
            go_enter Tryz.func49, Tryz.ntmps49
            go_wp2
            go_ret
            exact ⟨eS, dr0⟩
end Go.Proofs.YtailpfcbdopfeaaGreatDoor.F
namespace Go.Proofs.YtailpfcbdopfeaaGreatDoor.F
open Go.RowKit Go.Proofs.YtailpfcbdopfeaaGreatDoorW.PrintWords Go.Proofs.YtailpfcbdopfeaaGreatDoorW.PrintLast Go.Proofs.YtailpfcbdopfeaaGreatDoorW.PrintMore
attribute [local go_sem] max2_int min2_int max_two min_two max_three min_three max_four min_four
set_option linter.unusedVariables false
set_option linter.unusedSimpArgs false
/-! ### shape_digit: function 50 -/
def shape_digit.f (a0 : Int) : Option (Bool) := if a0 ≥ 48 then (some (decide (a0 ≤ 57))) else (some false)
set_option maxHeartbeats 8000000 in
set_option maxRecDepth 100000 in
theorem shape_digit.calls (a0 : Int) (r : Bool) (w : World) (h : shape_digit.f a0 = some r) :
  Calls Tryz.prog 50 #[.int .u8 a0] w fun e w' => e = .returned (.bool r) ∧ Drawn0 w w' := by
 have H : (if a0 ≥ 48 then (some (decide (a0 ≤ 57))) else (some false)) = some r := h
 clear h
 by_cases c2 : a0 ≥ 48
 ·rw [if_pos c2] at H
  have c2b0 : decide (48 ≤ a0) = true := decide_eq_true c2
  clear c2
  obtain rfl := Option.some.inj H
  go_enter Tryz.func50, Tryz.ntmps50
  go_wp2
  go_ret
  exact ⟨eS, dr0⟩
 ·rw [if_neg c2] at H
  have c2b0 : decide (48 ≤ a0) = false := decide_eq_false c2
  clear c2
  obtain rfl := Option.some.inj H
  go_enter Tryz.func50, Tryz.ntmps50
  go_wp2
  go_ret
  exact ⟨eS, dr0⟩
end Go.Proofs.YtailpfcbdopfeaaGreatDoor.F
namespace Go.Proofs.YtailpfcbdopfeaaGreatDoor.F
open Go.RowKit Go.Proofs.YtailpfcbdopfeaaGreatDoorW.PrintWords Go.Proofs.YtailpfcbdopfeaaGreatDoorW.PrintLast Go.Proofs.YtailpfcbdopfeaaGreatDoorW.PrintMore
attribute [local go_sem] max2_int min2_int max_two min_two max_three min_three max_four min_four
set_option linter.unusedVariables false
set_option linter.unusedSimpArgs false
/-! ### shape_Name: function 20 -/
mutual
def shape_Name.j0 : Nat → ByteArray → Bool → Option (Bool)
 | 0, _, _ => none
 | k + 1, x0, x20 => if x20 = true then (some false) else (shape_Name.l0 k x0 (x0.size : Int) 0)
def shape_Name.l0 : Nat → ByteArray → Int → Int → Option (Bool)
 | 0, _, _, _ => none
 | k + 1, x0, x22, x23 => if x23 < x22 then (if 0 ≤ x23 then (if x23 < (x0.size : Int) then ((shape_letter.f (bt x0 x23)).bind fun t247 => (if t247 = true then (shape_Name.l0 k x0 x22 (wrap64 (x23 + 1))) else ((shape_digit.f (bt x0 x23)).bind fun t248 => (if t248 = true then (shape_Name.l0 k x0 x22 (wrap64 (x23 + 1))) else (some false))))) else (none)) else (none)) else (some true)
end
def shape_Name.f (k : Nat) (a0 : ByteArray) : Option (Bool) := if a0.toList = ([] : List UInt8) then (shape_Name.j0 k a0 true) else (if (a0.size : Int) > 12 then (shape_Name.j0 k a0 true) else (if 0 < (a0.size : Int) then ((shape_letter.f (bt a0 0)).bind fun t245 => (if t245 = true then ((shape_word.f a0).bind fun t246 => (shape_Name.j0 k a0 t246)) else (shape_Name.j0 k a0 true))) else (none)))
set_option maxHeartbeats 8000000 in
set_option maxRecDepth 100000 in
theorem shape_Name.calls (k : Nat) (a0 : ByteArray) (r : Bool) (w : World) (h : shape_Name.f k a0 = some r) :
  Calls Tryz.prog 20 #[.string a0] w fun e w' => e = .returned (.bool r) ∧ Drawn0 w w' := by
 have H : (if a0.toList = ([] : List UInt8) then (shape_Name.j0 k a0 true) else (if (a0.size : Int) > 12 then (shape_Name.j0 k a0 true) else (if 0 < (a0.size : Int) then ((shape_letter.f (bt a0 0)).bind fun t245 => (if t245 = true then ((shape_word.f a0).bind fun t246 => (shape_Name.j0 k a0 t246)) else (shape_Name.j0 k a0 true))) else (none)))) = some r := h
 clear h
 have HC2 := Aside0.mk H
 clear H
 go_enter Tryz.func20, Tryz.ntmps20
 go_upto_region 1 with (fail)
 go_cut [20] (fun v20 wc => ∃ (kq : Nat) (x20_1 : Bool), v20 = .bool x20_1 ∧ Aside0 (shape_Name.j0 kq a0 x20_1 = some r) ∧ Aside0 (kq ≤ k) ∧ Drawn0 w wc)
 case first =>
  have H := HC2.out
  clear HC2
  by_cases c3 : a0.toList = ([] : List UInt8)
  ·rw [if_pos c3] at H
   have c3b0 : (a0.toList == ([] : List UInt8)) = true := beq_iff_eq.mpr c3
   have c3b1 : (a0.toList != ([] : List UInt8)) = false := bne_eq_false_iff_eq.mpr c3
   clear c3
   (first | rw [c3b0] | (simp only [i64_w, i32_w]; rw [c3b0]) | skip)
   have H' := Aside0.mk H
   clear H
   go_wp2
   go_meet
   case rel => exact ⟨_, (true), eS, H', ⟨kle⟩, dr0⟩
  ·rw [if_neg c3] at H
   have c3b0 : (a0.toList == ([] : List UInt8)) = false := beq_eq_false_iff_ne.mpr c3
   have c3b1 : (a0.toList != ([] : List UInt8)) = true := bne_iff_ne.mpr c3
   (first | rw [c3b0] | (simp only [i64_w, i32_w]; rw [c3b0]) | skip)
   by_cases c4 : (a0.size : Int) > 12
   ·rw [if_pos c4] at H
    have c4b0 : decide (12 < (a0.size : Int)) = true := decide_eq_true c4
    have c4b1 : decide (12 < a0.size) = true := decide_eq_true (by omega)
    clear c4
    have H' := Aside0.mk H
    clear H
    go_wp2
    go_meet
    case rel => exact ⟨_, (true), eS, H', ⟨kle⟩, dr0⟩
   ·rw [if_neg c4] at H
    have c4b0 : decide (12 < (a0.size : Int)) = false := decide_eq_false c4
    have c4b1 : decide (12 < a0.size) = false := decide_eq_false (by omega)
    clear c4
    by_cases c5 : 0 < (a0.size : Int)
    ·rw [if_pos c5] at H
     have c5b0 : decide (0 < (a0.size : Int)) = true := decide_eq_true c5
     have c5b1 : decide (0 < a0.size) = true := decide_eq_true (by omega)
     clear c5
     replace H := Option.bind_eq_some_iff.mp H
     obtain ⟨t245, A70, H⟩ := H
     replace H : (if t245 = true then ((shape_word.f a0).bind fun t246 => (shape_Name.j0 k a0 t246)) else (shape_Name.j0 k a0 true)) = some r := H
     have A7 := Aside0.mk A70
     clear A70
     by_cases c8 : t245 = true
     ·subst c8
      have H1 : ((shape_word.f a0).bind fun t246 => (shape_Name.j0 k a0 t246)) = some r := by rw [if_pos rfl] at H; exact H
      clear H
      have H := H1
      clear H1
      replace H := Option.bind_eq_some_iff.mp H
      obtain ⟨t246, A90, H⟩ := H
      replace H : (shape_Name.j0 k a0 t246) = some r := H
      have A9 := Aside0.mk A90
      clear A90
      have H' := Aside0.mk H
      clear H
      have p6 : 0 ≤ (0 : Int) := (by omega)
      have q6 : 0 < a0.size := (by have : (0 : Int) < (a0.size : Int) := dtr; omega)
      have hx6 : ∀ h : 0 < a0.size, ((a0[0]'h).toNat : Int) = bt a0 0 := bt_at a0 0
      clear p6
      have qi6 : (0 < (a0.size : Int)) = True := eq_true (dtr)
      replace q6 := eq_true q6
      go_wp2_with (first | (go_at_call 48; (with_reducible refine (shape_letter.calls (bt a0 0) true _ A7.out).mono ?_); rintro e w' ⟨rfl, ⟨nd, rfl⟩⟩) | (go_at_call 49; (with_reducible refine (shape_word.calls a0 t246 _ A9.out).mono ?_); rintro e w' ⟨rfl, ⟨nd, rfl⟩⟩))
      go_meet
      case rel => exact ⟨_, (t246), eS, H', ⟨kle⟩, dr0⟩
     ·replace c8 := Bool.eq_false_iff.mpr c8
      subst c8
      have H1 : (shape_Name.j0 k a0 true) = some r := by rw [if_neg (show ¬ (false = true) by decide)] at H; exact H
      clear H
      have H := H1
      clear H1
      have H' := Aside0.mk H
      clear H
      have p6 : 0 ≤ (0 : Int) := (by omega)
      have q6 : 0 < a0.size := (by have : (0 : Int) < (a0.size : Int) := dtr; omega)
      have hx6 : ∀ h : 0 < a0.size, ((a0[0]'h).toNat : Int) = bt a0 0 := bt_at a0 0
      clear p6
      have qi6 : (0 < (a0.size : Int)) = True := eq_true (dtr)
      replace q6 := eq_true q6
      go_wp2_with (first | (go_at_call 48; (with_reducible refine (shape_letter.calls (bt a0 0) false _ A7.out).mono ?_); rintro e w' ⟨rfl, ⟨nd, rfl⟩⟩))
      go_meet
      case rel => exact ⟨_, (true), eS, H', ⟨kle⟩, dr0⟩
    ·rw [if_neg c5] at H
     exact absurd H (by simp)
 case rest =>
  clear HC2
  obtain ⟨kq, x20_1, rfl, HA, HJ1, ⟨mc1, rfl⟩⟩ := hcut
  cases kq with
  | zero => exact absurd HA.out (by simp [shape_Name.j0])
  | succ kj1 =>
   have H := HA.out
   clear HA
   simp only [shape_Name.j0] at H
   by_cases c10 : x20_1 = true
   ·subst c10
    have H1 : (some false) = some r := by rw [if_pos rfl] at H; exact H
    clear H
    have H := H1
    clear H1
    obtain rfl := Option.some.inj H
    go_wp2
    go_ret
    exact ⟨eS, dr0⟩
   ·replace c10 := Bool.eq_false_iff.mpr c10
    subst c10
    have H1 : (shape_Name.l0 kj1 a0 (a0.size : Int) 0) = some r := by rw [if_neg (show ¬ (false = true) by decide)] at H; exact H
    clear H
    have H := H1
    clear H1
    have H' := Aside0.mk H
    clear H
    go_wp2
    go_loopg [23] kj1 (fun kq v23 w' => ∃ (x23_2 : Int), v23 = .int .i64 x23_2 ∧ Aside0 (shape_Name.l0 kq a0 (a0.size : Int) x23_2 = some r) ∧ Aside0 (kq ≤ kj1) ∧ Drawn0 w w')
    case atStart => exact ⟨(0), eS, H', ⟨Nat.le_refl _⟩, dr0⟩
    case round =>
     clear H'
     (try clear c10)
     obtain ⟨x23_2, rfl, HA, HK2, ⟨m2, rfl⟩⟩ := hrel
     cases gk with
     | zero => exact absurd HA.out (by simp [shape_Name.l0])
     | succ k2 =>
      have H := HA.out
      clear HA
      simp only [shape_Name.l0] at H
      by_cases c11 : x23_2 < (a0.size : Int)
      ·rw [if_pos c11] at H
       have c11b0 : decide (x23_2 < (a0.size : Int)) = true := decide_eq_true c11
       clear c11
       by_cases c12 : 0 ≤ x23_2
       ·rw [if_pos c12] at H
        have c12b0 : decide (0 ≤ x23_2) = true := decide_eq_true c12
        clear c12
        by_cases c13 : x23_2 < (a0.size : Int)
        ·rw [if_pos c13] at H
         have c13b0 : decide (x23_2 < (a0.size : Int)) = true := decide_eq_true c13
         clear c13
         replace H := Option.bind_eq_some_iff.mp H
         obtain ⟨t247, A150, H⟩ := H
         replace H : (if t247 = true then (shape_Name.l0 k2 a0 (a0.size : Int) (wrap64 (x23_2 + 1))) else ((shape_digit.f (bt a0 x23_2)).bind fun t248 => (if t248 = true then (shape_Name.l0 k2 a0 (a0.size : Int) (wrap64 (x23_2 + 1))) else (some false)))) = some r := H
         have A15 := Aside0.mk A150
         clear A150
         by_cases c16 : t247 = true
         ·subst c16
          have H1 : (shape_Name.l0 k2 a0 (a0.size : Int) (wrap64 (x23_2 + 1))) = some r := by rw [if_pos rfl] at H; exact H
          clear H
          have H := H1
          clear H1
          have H' := Aside0.mk H
          clear H
          have p14 : 0 ≤ (x23_2 : Int) := dtr
          have q14 : x23_2 < (a0.size : Int) := dtr
          have hx14 := bt_at a0 x23_2
          replace p14 := eq_true p14
          replace q14 := eq_true q14
          go_wp2_with (first | ((with_reducible refine gate_callee (f := 48) rfl ?_); refine gL (some 29) Tryz.func48 #[.int .u8 (bt a0 x23_2)] ?_; (with_reducible refine (shape_letter.calls (bt a0 x23_2) true _ A15.out).mono ?_); rintro e w' ⟨rfl, ⟨nd, rfl⟩⟩; refine ⟨_, rfl, ?_⟩))
          go_roundg k2
          case measure => have := HJ1.out; have := HK2.out; omega
          case rel => exact ⟨(wrap64 (x23_2 + 1)), eS, H', ⟨by have := HJ1.out; have := HK2.out; omega⟩, dr0⟩
         ·replace c16 := Bool.eq_false_iff.mpr c16
          subst c16
          have H1 : ((shape_digit.f (bt a0 x23_2)).bind fun t248 => (if t248 = true then (shape_Name.l0 k2 a0 (a0.size : Int) (wrap64 (x23_2 + 1))) else (some false))) = some r := by rw [if_neg (show ¬ (false = true) by decide)] at H; exact H
          clear H
          have H := H1
          clear H1
          replace H := Option.bind_eq_some_iff.mp H
          obtain ⟨t248, A180, H⟩ := H
          replace H : (if t248 = true then (shape_Name.l0 k2 a0 (a0.size : Int) (wrap64 (x23_2 + 1))) else (some false)) = some r := H
          have A18 := Aside0.mk A180
          clear A180
          by_cases c19 : t248 = true
          ·subst c19
           have H1 : (shape_Name.l0 k2 a0 (a0.size : Int) (wrap64 (x23_2 + 1))) = some r := by rw [if_pos rfl] at H; exact H
           clear H
           have H := H1
           clear H1
           have H' := Aside0.mk H
           clear H
           have p14 : 0 ≤ (x23_2 : Int) := dtr
           have q14 : x23_2 < (a0.size : Int) := dtr
           have hx14 := bt_at a0 x23_2
           replace p14 := eq_true p14
           replace q14 := eq_true q14
           go_wp2_with (first | ((with_reducible refine gate_callee (f := 48) rfl ?_); refine gL (some 29) Tryz.func48 #[.int .u8 (bt a0 x23_2)] ?_; (with_reducible refine (shape_letter.calls (bt a0 x23_2) false _ A15.out).mono ?_); rintro e w' ⟨rfl, ⟨nd, rfl⟩⟩; refine ⟨_, rfl, ?_⟩; have p17 : 0 ≤ (x23_2 : Int) := dtr; have q17 : x23_2 < (a0.size : Int) := dtr; have hx17 := bt_at a0 x23_2; replace p17 := eq_true p17; replace q17 := eq_true q17) | (go_at_call 50; (with_reducible refine (shape_digit.calls (bt a0 x23_2) true _ A18.out).mono ?_); rintro e w' ⟨rfl, ⟨nd, rfl⟩⟩))
           go_roundg k2
           case measure => have := HJ1.out; have := HK2.out; omega
           case rel => exact ⟨(wrap64 (x23_2 + 1)), eS, H', ⟨by have := HJ1.out; have := HK2.out; omega⟩, dr0⟩
          ·replace c19 := Bool.eq_false_iff.mpr c19
           subst c19
           have H1 : (some false) = some r := by rw [if_neg (show ¬ (false = true) by decide)] at H; exact H
           clear H
           have H := H1
           clear H1
           obtain rfl := Option.some.inj H
           have p14 : 0 ≤ (x23_2 : Int) := dtr
           have q14 : x23_2 < (a0.size : Int) := dtr
           have hx14 := bt_at a0 x23_2
           replace p14 := eq_true p14
           replace q14 := eq_true q14
           go_wp2_with (first | ((with_reducible refine gate_callee (f := 48) rfl ?_); refine gL (some 29) Tryz.func48 #[.int .u8 (bt a0 x23_2)] ?_; (with_reducible refine (shape_letter.calls (bt a0 x23_2) false _ A15.out).mono ?_); rintro e w' ⟨rfl, ⟨nd, rfl⟩⟩; refine ⟨_, rfl, ?_⟩; have p17 : 0 ≤ (x23_2 : Int) := dtr; have q17 : x23_2 < (a0.size : Int) := dtr; have hx17 := bt_at a0 x23_2; replace p17 := eq_true p17; replace q17 := eq_true q17) | (go_at_call 50; (with_reducible refine (shape_digit.calls (bt a0 x23_2) false _ A18.out).mono ?_); rintro e w' ⟨rfl, ⟨nd, rfl⟩⟩))
           go_ret
           exact ⟨eS, dr0⟩
        ·rw [if_neg c13] at H
         exact absurd H (by simp)
       ·rw [if_neg c12] at H
        exact absurd H (by simp)
      ·rw [if_neg c11] at H
       have c11b0 : decide (x23_2 < (a0.size : Int)) = false := decide_eq_false c11
       clear c11
       obtain rfl := Option.some.inj H
       go_wp2
       go_ret
       exact ⟨eS, dr0⟩
end Go.Proofs.YtailpfcbdopfeaaGreatDoor.F
namespace Go.Proofs.YtailpfcbdopfeaaGreatDoor.F
open Go.RowKit Go.Proofs.YtailpfcbdopfeaaGreatDoorW.PrintWords Go.Proofs.YtailpfcbdopfeaaGreatDoorW.PrintLast Go.Proofs.YtailpfcbdopfeaaGreatDoorW.PrintMore
attribute [local go_sem] max2_int min2_int max_two min_two max_three min_three max_four min_four
set_option linter.unusedVariables false
set_option linter.unusedSimpArgs false
/-! ### paraphrastref01_letter: function 91 -/
def paraphrastref01_letter.f (a0 : Int) : Option (Bool) := if a0 ≥ 97 then (if a0 ≤ 122 then (some true) else (if a0 ≥ 65 then (some (decide (a0 ≤ 90))) else (some false))) else (if a0 ≥ 65 then (some (decide (a0 ≤ 90))) else (some false))
set_option maxHeartbeats 8000000 in
set_option maxRecDepth 100000 in
theorem paraphrastref01_letter.calls (a0 : Int) (r : Bool) (w : World) (h : paraphrastref01_letter.f a0 = some r) :
  Calls Tryz.prog 91 #[.int .u8 a0] w fun e w' => e = .returned (.bool r) ∧ Drawn0 w w' := by
 have H : (if a0 ≥ 97 then (if a0 ≤ 122 then (some true) else (if a0 ≥ 65 then (some (decide (a0 ≤ 90))) else (some false))) else (if a0 ≥ 65 then (some (decide (a0 ≤ 90))) else (some false))) = some r := h
 clear h
 by_cases c2 : a0 ≥ 97
 ·rw [if_pos c2] at H
  have c2b0 : decide (97 ≤ a0) = true := decide_eq_true c2
  clear c2
  by_cases c3 : a0 ≤ 122
  ·rw [if_pos c3] at H
   have c3b0 : decide (a0 ≤ 122) = true := decide_eq_true c3
   clear c3
   obtain rfl := Option.some.inj H
   go_enter Tryz.func91, Tryz.ntmps91
   go_wp2
   go_ret
   exact ⟨eS, dr0⟩
  ·rw [if_neg c3] at H
   have c3b0 : decide (a0 ≤ 122) = false := decide_eq_false c3
   clear c3
   by_cases c4 : a0 ≥ 65
   ·rw [if_pos c4] at H
    have c4b0 : decide (65 ≤ a0) = true := decide_eq_true c4
    clear c4
    obtain rfl := Option.some.inj H
    go_enter Tryz.func91, Tryz.ntmps91
    go_wp2
    go_ret
    exact ⟨eS, dr0⟩
   ·rw [if_neg c4] at H
    have c4b0 : decide (65 ≤ a0) = false := decide_eq_false c4
    clear c4
    obtain rfl := Option.some.inj H
    go_enter Tryz.func91, Tryz.ntmps91
    go_wp2
    go_ret
    exact ⟨eS, dr0⟩
 ·rw [if_neg c2] at H
  have c2b0 : decide (97 ≤ a0) = false := decide_eq_false c2
  clear c2
  by_cases c5 : a0 ≥ 65
  ·rw [if_pos c5] at H
   have c5b0 : decide (65 ≤ a0) = true := decide_eq_true c5
   clear c5
   obtain rfl := Option.some.inj H
   go_enter Tryz.func91, Tryz.ntmps91
   go_wp2
   go_ret
   exact ⟨eS, dr0⟩
  ·rw [if_neg c5] at H
   have c5b0 : decide (65 ≤ a0) = false := decide_eq_false c5
   clear c5
   obtain rfl := Option.some.inj H
   go_enter Tryz.func91, Tryz.ntmps91
   go_wp2
   go_ret
   exact ⟨eS, dr0⟩
end Go.Proofs.YtailpfcbdopfeaaGreatDoor.F
namespace Go.Proofs.YtailpfcbdopfeaaGreatDoor.F
open Go.RowKit Go.Proofs.YtailpfcbdopfeaaGreatDoorW.PrintWords Go.Proofs.YtailpfcbdopfeaaGreatDoorW.PrintLast Go.Proofs.YtailpfcbdopfeaaGreatDoorW.PrintMore
attribute [local go_sem] max2_int min2_int max_two min_two max_three min_three max_four min_four
set_option linter.unusedVariables false
set_option linter.unusedSimpArgs false
/-! ### paraphrastref01_Word: function 92 -/
def paraphrastref01_Word.f (a0 : ByteArray) : Option (Bool) := if a0.toList = ([97, 110, 100] : List UInt8) then (some true) else (if a0.toList = ([111, 114] : List UInt8) then (some true) else (if a0.toList = ([110, 111, 116] : List UInt8) then (some true) else (if a0.toList = ([115, 111, 109, 101] : List UInt8) then (some true) else (if a0.toList = ([97, 108, 108] : List UInt8) then (some true) else (if a0.toList = ([108, 102, 112] : List UInt8) then (some true) else (if a0.toList = ([112, 102, 112] : List UInt8) then (some true) else (if a0.toList = ([116, 99] : List UInt8) then (some true) else (if a0.toList = ([101, 120, 105, 115, 116, 115] : List UInt8) then (some true) else (if a0.toList = ([116, 114, 117, 101] : List UInt8) then (some true) else (if a0.toList = ([102, 97, 108, 115, 101] : List UInt8) then (some true) else (some false)))))))))))
set_option maxHeartbeats 8000000 in
set_option maxRecDepth 100000 in
theorem paraphrastref01_Word.calls (a0 : ByteArray) (r : Bool) (w : World) (h : paraphrastref01_Word.f a0 = some r) :
  Calls Tryz.prog 92 #[.string a0] w fun e w' => e = .returned (.bool r) ∧ Drawn0 w w' := by
 have H : (if a0.toList = ([97, 110, 100] : List UInt8) then (some true) else (if a0.toList = ([111, 114] : List UInt8) then (some true) else (if a0.toList = ([110, 111, 116] : List UInt8) then (some true) else (if a0.toList = ([115, 111, 109, 101] : List UInt8) then (some true) else (if a0.toList = ([97, 108, 108] : List UInt8) then (some true) else (if a0.toList = ([108, 102, 112] : List UInt8) then (some true) else (if a0.toList = ([112, 102, 112] : List UInt8) then (some true) else (if a0.toList = ([116, 99] : List UInt8) then (some true) else (if a0.toList = ([101, 120, 105, 115, 116, 115] : List UInt8) then (some true) else (if a0.toList = ([116, 114, 117, 101] : List UInt8) then (some true) else (if a0.toList = ([102, 97, 108, 115, 101] : List UInt8) then (some true) else (some false)))))))))))) = some r := h
 clear h
 by_cases c2 : a0.toList = ([97, 110, 100] : List UInt8)
 ·rw [if_pos c2] at H
  have c2b0 : (a0.toList == ([97, 110, 100] : List UInt8)) = true := beq_iff_eq.mpr c2
  have c2b1 : (a0.toList != ([97, 110, 100] : List UInt8)) = false := bne_eq_false_iff_eq.mpr c2
  clear c2
  obtain rfl := Option.some.inj H
  go_enter Tryz.func92, Tryz.ntmps92
  go_wp2
  go_ret
  exact ⟨eS, dr0⟩
 ·rw [if_neg c2] at H
  have c2b0 : (a0.toList == ([97, 110, 100] : List UInt8)) = false := beq_eq_false_iff_ne.mpr c2
  have c2b1 : (a0.toList != ([97, 110, 100] : List UInt8)) = true := bne_iff_ne.mpr c2
  by_cases c3 : a0.toList = ([111, 114] : List UInt8)
  ·rw [if_pos c3] at H
   have c3b0 : (a0.toList == ([111, 114] : List UInt8)) = true := beq_iff_eq.mpr c3
   have c3b1 : (a0.toList != ([111, 114] : List UInt8)) = false := bne_eq_false_iff_eq.mpr c3
   clear c3
   obtain rfl := Option.some.inj H
   go_enter Tryz.func92, Tryz.ntmps92
   go_wp2
   go_ret
   exact ⟨eS, dr0⟩
  ·rw [if_neg c3] at H
   have c3b0 : (a0.toList == ([111, 114] : List UInt8)) = false := beq_eq_false_iff_ne.mpr c3
   have c3b1 : (a0.toList != ([111, 114] : List UInt8)) = true := bne_iff_ne.mpr c3
   by_cases c4 : a0.toList = ([110, 111, 116] : List UInt8)
   ·rw [if_pos c4] at H
    have c4b0 : (a0.toList == ([110, 111, 116] : List UInt8)) = true := beq_iff_eq.mpr c4
    have c4b1 : (a0.toList != ([110, 111, 116] : List UInt8)) = false := bne_eq_false_iff_eq.mpr c4
    clear c4
    obtain rfl := Option.some.inj H
    go_enter Tryz.func92, Tryz.ntmps92
    go_wp2
    go_ret
    exact ⟨eS, dr0⟩
   ·rw [if_neg c4] at H
    have c4b0 : (a0.toList == ([110, 111, 116] : List UInt8)) = false := beq_eq_false_iff_ne.mpr c4
    have c4b1 : (a0.toList != ([110, 111, 116] : List UInt8)) = true := bne_iff_ne.mpr c4
    by_cases c5 : a0.toList = ([115, 111, 109, 101] : List UInt8)
    ·rw [if_pos c5] at H
     have c5b0 : (a0.toList == ([115, 111, 109, 101] : List UInt8)) = true := beq_iff_eq.mpr c5
     have c5b1 : (a0.toList != ([115, 111, 109, 101] : List UInt8)) = false := bne_eq_false_iff_eq.mpr c5
     clear c5
     obtain rfl := Option.some.inj H
     go_enter Tryz.func92, Tryz.ntmps92
     go_wp2
     go_ret
     exact ⟨eS, dr0⟩
    ·rw [if_neg c5] at H
     have c5b0 : (a0.toList == ([115, 111, 109, 101] : List UInt8)) = false := beq_eq_false_iff_ne.mpr c5
     have c5b1 : (a0.toList != ([115, 111, 109, 101] : List UInt8)) = true := bne_iff_ne.mpr c5
     by_cases c6 : a0.toList = ([97, 108, 108] : List UInt8)
     ·rw [if_pos c6] at H
      have c6b0 : (a0.toList == ([97, 108, 108] : List UInt8)) = true := beq_iff_eq.mpr c6
      have c6b1 : (a0.toList != ([97, 108, 108] : List UInt8)) = false := bne_eq_false_iff_eq.mpr c6
      clear c6
      obtain rfl := Option.some.inj H
      go_enter Tryz.func92, Tryz.ntmps92
      go_wp2
      go_ret
      exact ⟨eS, dr0⟩
     ·rw [if_neg c6] at H
      have c6b0 : (a0.toList == ([97, 108, 108] : List UInt8)) = false := beq_eq_false_iff_ne.mpr c6
      have c6b1 : (a0.toList != ([97, 108, 108] : List UInt8)) = true := bne_iff_ne.mpr c6
      by_cases c7 : a0.toList = ([108, 102, 112] : List UInt8)
      ·rw [if_pos c7] at H
       have c7b0 : (a0.toList == ([108, 102, 112] : List UInt8)) = true := beq_iff_eq.mpr c7
       have c7b1 : (a0.toList != ([108, 102, 112] : List UInt8)) = false := bne_eq_false_iff_eq.mpr c7
       clear c7
       obtain rfl := Option.some.inj H
       go_enter Tryz.func92, Tryz.ntmps92
       go_wp2
       go_ret
       exact ⟨eS, dr0⟩
      ·rw [if_neg c7] at H
       have c7b0 : (a0.toList == ([108, 102, 112] : List UInt8)) = false := beq_eq_false_iff_ne.mpr c7
       have c7b1 : (a0.toList != ([108, 102, 112] : List UInt8)) = true := bne_iff_ne.mpr c7
       by_cases c8 : a0.toList = ([112, 102, 112] : List UInt8)
       ·rw [if_pos c8] at H
        have c8b0 : (a0.toList == ([112, 102, 112] : List UInt8)) = true := beq_iff_eq.mpr c8
        have c8b1 : (a0.toList != ([112, 102, 112] : List UInt8)) = false := bne_eq_false_iff_eq.mpr c8
        clear c8
        obtain rfl := Option.some.inj H
        go_enter Tryz.func92, Tryz.ntmps92
        go_wp2
        go_ret
        exact ⟨eS, dr0⟩
       ·rw [if_neg c8] at H
        have c8b0 : (a0.toList == ([112, 102, 112] : List UInt8)) = false := beq_eq_false_iff_ne.mpr c8
        have c8b1 : (a0.toList != ([112, 102, 112] : List UInt8)) = true := bne_iff_ne.mpr c8
        by_cases c9 : a0.toList = ([116, 99] : List UInt8)
        ·rw [if_pos c9] at H
         have c9b0 : (a0.toList == ([116, 99] : List UInt8)) = true := beq_iff_eq.mpr c9
         have c9b1 : (a0.toList != ([116, 99] : List UInt8)) = false := bne_eq_false_iff_eq.mpr c9
         clear c9
         obtain rfl := Option.some.inj H
         go_enter Tryz.func92, Tryz.ntmps92
         go_wp2
         go_ret
         exact ⟨eS, dr0⟩
        ·rw [if_neg c9] at H
         have c9b0 : (a0.toList == ([116, 99] : List UInt8)) = false := beq_eq_false_iff_ne.mpr c9
         have c9b1 : (a0.toList != ([116, 99] : List UInt8)) = true := bne_iff_ne.mpr c9
         by_cases c10 : a0.toList = ([101, 120, 105, 115, 116, 115] : List UInt8)
         ·rw [if_pos c10] at H
          have c10b0 : (a0.toList == ([101, 120, 105, 115, 116, 115] : List UInt8)) = true := beq_iff_eq.mpr c10
          have c10b1 : (a0.toList != ([101, 120, 105, 115, 116, 115] : List UInt8)) = false := bne_eq_false_iff_eq.mpr c10
          clear c10
          obtain rfl := Option.some.inj H
          go_enter Tryz.func92, Tryz.ntmps92
          go_wp2
          go_ret
          exact ⟨eS, dr0⟩
         ·rw [if_neg c10] at H
          have c10b0 : (a0.toList == ([101, 120, 105, 115, 116, 115] : List UInt8)) = false := beq_eq_false_iff_ne.mpr c10
          have c10b1 : (a0.toList != ([101, 120, 105, 115, 116, 115] : List UInt8)) = true := bne_iff_ne.mpr c10
          by_cases c11 : a0.toList = ([116, 114, 117, 101] : List UInt8)
          ·rw [if_pos c11] at H
           have c11b0 : (a0.toList == ([116, 114, 117, 101] : List UInt8)) = true := beq_iff_eq.mpr c11
           have c11b1 : (a0.toList != ([116, 114, 117, 101] : List UInt8)) = false := bne_eq_false_iff_eq.mpr c11
           clear c11
           obtain rfl := Option.some.inj H
           go_enter Tryz.func92, Tryz.ntmps92
           go_wp2
           go_ret
           exact ⟨eS, dr0⟩
          ·rw [if_neg c11] at H
           have c11b0 : (a0.toList == ([116, 114, 117, 101] : List UInt8)) = false := beq_eq_false_iff_ne.mpr c11
           have c11b1 : (a0.toList != ([116, 114, 117, 101] : List UInt8)) = true := bne_iff_ne.mpr c11
           by_cases c12 : a0.toList = ([102, 97, 108, 115, 101] : List UInt8)
           ·rw [if_pos c12] at H
            have c12b0 : (a0.toList == ([102, 97, 108, 115, 101] : List UInt8)) = true := beq_iff_eq.mpr c12
            have c12b1 : (a0.toList != ([102, 97, 108, 115, 101] : List UInt8)) = false := bne_eq_false_iff_eq.mpr c12
            clear c12
            obtain rfl := Option.some.inj H
            go_enter Tryz.func92, Tryz.ntmps92
            go_wp2
            go_ret
            exact ⟨eS, dr0⟩
           ·rw [if_neg c12] at H
            have c12b0 : (a0.toList == ([102, 97, 108, 115, 101] : List UInt8)) = false := beq_eq_false_iff_ne.mpr c12
            have c12b1 : (a0.toList != ([102, 97, 108, 115, 101] : List UInt8)) = true := bne_iff_ne.mpr c12
            obtain rfl := Option.some.inj H
            go_enter Tryz.func92, Tryz.ntmps92
            go_wp2
            go_ret
            exact ⟨eS, dr0⟩
end Go.Proofs.YtailpfcbdopfeaaGreatDoor.F
namespace Go.Proofs.YtailpfcbdopfeaaGreatDoor.F
open Go.RowKit Go.Proofs.YtailpfcbdopfeaaGreatDoorW.PrintWords Go.Proofs.YtailpfcbdopfeaaGreatDoorW.PrintLast Go.Proofs.YtailpfcbdopfeaaGreatDoorW.PrintMore
attribute [local go_sem] max2_int min2_int max_two min_two max_three min_three max_four min_four
set_option linter.unusedVariables false
set_option linter.unusedSimpArgs false
/-! ### paraphrastref01_digit: function 93 -/
def paraphrastref01_digit.f (a0 : Int) : Option (Bool) := if a0 ≥ 48 then (some (decide (a0 ≤ 57))) else (some false)
set_option maxHeartbeats 8000000 in
set_option maxRecDepth 100000 in
theorem paraphrastref01_digit.calls (a0 : Int) (r : Bool) (w : World) (h : paraphrastref01_digit.f a0 = some r) :
  Calls Tryz.prog 93 #[.int .u8 a0] w fun e w' => e = .returned (.bool r) ∧ Drawn0 w w' := by
 have H : (if a0 ≥ 48 then (some (decide (a0 ≤ 57))) else (some false)) = some r := h
 clear h
 by_cases c2 : a0 ≥ 48
 ·rw [if_pos c2] at H
  have c2b0 : decide (48 ≤ a0) = true := decide_eq_true c2
  clear c2
  obtain rfl := Option.some.inj H
  go_enter Tryz.func93, Tryz.ntmps93
  go_wp2
  go_ret
  exact ⟨eS, dr0⟩
 ·rw [if_neg c2] at H
  have c2b0 : decide (48 ≤ a0) = false := decide_eq_false c2
  clear c2
  obtain rfl := Option.some.inj H
  go_enter Tryz.func93, Tryz.ntmps93
  go_wp2
  go_ret
  exact ⟨eS, dr0⟩
end Go.Proofs.YtailpfcbdopfeaaGreatDoor.F
namespace Go.Proofs.YtailpfcbdopfeaaGreatDoor.F
open Go.RowKit Go.Proofs.YtailpfcbdopfeaaGreatDoorW.PrintWords Go.Proofs.YtailpfcbdopfeaaGreatDoorW.PrintLast Go.Proofs.YtailpfcbdopfeaaGreatDoorW.PrintMore
attribute [local go_sem] max2_int min2_int max_two min_two max_three min_three max_four min_four
set_option linter.unusedVariables false
set_option linter.unusedSimpArgs false
/-! ### paraphrastref01_Name: function 65 -/
mutual
def paraphrastref01_Name.j0 : Nat → ByteArray → Bool → Option (Bool)
 | 0, _, _ => none
 | k + 1, x0, x21 => if x21 = true then (some false) else (paraphrastref01_Name.l0 k x0 1)
def paraphrastref01_Name.l0 : Nat → ByteArray → Int → Option (Bool)
 | 0, _, _ => none
 | k + 1, x0, x3 => if x3 < (x0.size : Int) then (if 0 ≤ x3 then ((paraphrastref01_letter.f (bt x0 x3)).bind fun t148 => (if t148 = true then (paraphrastref01_Name.l0 k x0 (wrap64 (x3 + 1))) else ((paraphrastref01_digit.f (bt x0 x3)).bind fun t149 => (if t149 = true then (paraphrastref01_Name.l0 k x0 (wrap64 (x3 + 1))) else (some false))))) else (none)) else (some true)
end
def paraphrastref01_Name.f (k : Nat) (a0 : ByteArray) : Option (Bool) := if (a0.size : Int) < 1 then (paraphrastref01_Name.j0 k a0 true) else (if (a0.size : Int) > 12 then (paraphrastref01_Name.j0 k a0 true) else (if 0 < (a0.size : Int) then ((paraphrastref01_letter.f (bt a0 0)).bind fun t146 => (if t146 = true then ((paraphrastref01_Word.f a0).bind fun t147 => (paraphrastref01_Name.j0 k a0 t147)) else (paraphrastref01_Name.j0 k a0 true))) else (none)))
set_option maxHeartbeats 8000000 in
set_option maxRecDepth 100000 in
theorem paraphrastref01_Name.calls (k : Nat) (a0 : ByteArray) (r : Bool) (w : World) (h : paraphrastref01_Name.f k a0 = some r) :
  Calls Tryz.prog 65 #[.string a0] w fun e w' => e = .returned (.bool r) ∧ Drawn0 w w' := by
 have H : (if (a0.size : Int) < 1 then (paraphrastref01_Name.j0 k a0 true) else (if (a0.size : Int) > 12 then (paraphrastref01_Name.j0 k a0 true) else (if 0 < (a0.size : Int) then ((paraphrastref01_letter.f (bt a0 0)).bind fun t146 => (if t146 = true then ((paraphrastref01_Word.f a0).bind fun t147 => (paraphrastref01_Name.j0 k a0 t147)) else (paraphrastref01_Name.j0 k a0 true))) else (none)))) = some r := h
 clear h
 have HC2 := Aside0.mk H
 clear H
 go_enter Tryz.func65, Tryz.ntmps65
 go_upto_region 1 with (fail)
 go_cut [21] (fun v21 wc => ∃ (kq : Nat) (x21_1 : Bool), v21 = .bool x21_1 ∧ Aside0 (paraphrastref01_Name.j0 kq a0 x21_1 = some r) ∧ Aside0 (kq ≤ k) ∧ Drawn0 w wc)
 case first =>
  have H := HC2.out
  clear HC2
  by_cases c3 : (a0.size : Int) < 1
  ·rw [if_pos c3] at H
   have c3b0 : decide ((a0.size : Int) < 1) = true := decide_eq_true c3
   have c3b1 : decide (a0.size < 1) = true := decide_eq_true (by omega)
   clear c3
   (first | rw [c3b0] | (simp only [i64_w, i32_w]; rw [c3b0]) | skip)
   have H' := Aside0.mk H
   clear H
   go_wp2
   go_meet
   case rel => exact ⟨_, (true), eS, H', ⟨kle⟩, dr0⟩
  ·rw [if_neg c3] at H
   have c3b0 : decide ((a0.size : Int) < 1) = false := decide_eq_false c3
   have c3b1 : decide (a0.size < 1) = false := decide_eq_false (by omega)
   clear c3
   (first | rw [c3b0] | (simp only [i64_w, i32_w]; rw [c3b0]) | skip)
   by_cases c4 : (a0.size : Int) > 12
   ·rw [if_pos c4] at H
    have c4b0 : decide (12 < (a0.size : Int)) = true := decide_eq_true c4
    have c4b1 : decide (12 < a0.size) = true := decide_eq_true (by omega)
    clear c4
    have H' := Aside0.mk H
    clear H
    go_wp2
    go_meet
    case rel => exact ⟨_, (true), eS, H', ⟨kle⟩, dr0⟩
   ·rw [if_neg c4] at H
    have c4b0 : decide (12 < (a0.size : Int)) = false := decide_eq_false c4
    have c4b1 : decide (12 < a0.size) = false := decide_eq_false (by omega)
    clear c4
    by_cases c5 : 0 < (a0.size : Int)
    ·rw [if_pos c5] at H
     have c5b0 : decide (0 < (a0.size : Int)) = true := decide_eq_true c5
     have c5b1 : decide (0 < a0.size) = true := decide_eq_true (by omega)
     clear c5
     replace H := Option.bind_eq_some_iff.mp H
     obtain ⟨t146, A70, H⟩ := H
     replace H : (if t146 = true then ((paraphrastref01_Word.f a0).bind fun t147 => (paraphrastref01_Name.j0 k a0 t147)) else (paraphrastref01_Name.j0 k a0 true)) = some r := H
     have A7 := Aside0.mk A70
     clear A70
     by_cases c8 : t146 = true
     ·subst c8
      have H1 : ((paraphrastref01_Word.f a0).bind fun t147 => (paraphrastref01_Name.j0 k a0 t147)) = some r := by rw [if_pos rfl] at H; exact H
      clear H
      have H := H1
      clear H1
      replace H := Option.bind_eq_some_iff.mp H
      obtain ⟨t147, A90, H⟩ := H
      replace H : (paraphrastref01_Name.j0 k a0 t147) = some r := H
      have A9 := Aside0.mk A90
      clear A90
      have H' := Aside0.mk H
      clear H
      have p6 : 0 ≤ (0 : Int) := (by omega)
      have q6 : 0 < a0.size := (by have : (0 : Int) < (a0.size : Int) := dtr; omega)
      have hx6 : ∀ h : 0 < a0.size, ((a0[0]'h).toNat : Int) = bt a0 0 := bt_at a0 0
      clear p6
      have qi6 : (0 < (a0.size : Int)) = True := eq_true (dtr)
      replace q6 := eq_true q6
      go_wp2_with (first | (go_at_call 91; (with_reducible refine (paraphrastref01_letter.calls (bt a0 0) true _ A7.out).mono ?_); rintro e w' ⟨rfl, ⟨nd, rfl⟩⟩) | (go_at_call 92; (with_reducible refine (paraphrastref01_Word.calls a0 t147 _ A9.out).mono ?_); rintro e w' ⟨rfl, ⟨nd, rfl⟩⟩))
      go_meet
      case rel => exact ⟨_, (t147), eS, H', ⟨kle⟩, dr0⟩
     ·replace c8 := Bool.eq_false_iff.mpr c8
      subst c8
      have H1 : (paraphrastref01_Name.j0 k a0 true) = some r := by rw [if_neg (show ¬ (false = true) by decide)] at H; exact H
      clear H
      have H := H1
      clear H1
      have H' := Aside0.mk H
      clear H
      have p6 : 0 ≤ (0 : Int) := (by omega)
      have q6 : 0 < a0.size := (by have : (0 : Int) < (a0.size : Int) := dtr; omega)
      have hx6 : ∀ h : 0 < a0.size, ((a0[0]'h).toNat : Int) = bt a0 0 := bt_at a0 0
      clear p6
      have qi6 : (0 < (a0.size : Int)) = True := eq_true (dtr)
      replace q6 := eq_true q6
      go_wp2_with (first | (go_at_call 91; (with_reducible refine (paraphrastref01_letter.calls (bt a0 0) false _ A7.out).mono ?_); rintro e w' ⟨rfl, ⟨nd, rfl⟩⟩))
      go_meet
      case rel => exact ⟨_, (true), eS, H', ⟨kle⟩, dr0⟩
    ·rw [if_neg c5] at H
     exact absurd H (by simp)
 case rest =>
  clear HC2
  obtain ⟨kq, x21_1, rfl, HA, HJ1, ⟨mc1, rfl⟩⟩ := hcut
  cases kq with
  | zero => exact absurd HA.out (by simp [paraphrastref01_Name.j0])
  | succ kj1 =>
   have H := HA.out
   clear HA
   simp only [paraphrastref01_Name.j0] at H
   by_cases c10 : x21_1 = true
   ·subst c10
    have H1 : (some false) = some r := by rw [if_pos rfl] at H; exact H
    clear H
    have H := H1
    clear H1
    obtain rfl := Option.some.inj H
    go_wp2
    go_ret
    exact ⟨eS, dr0⟩
   ·replace c10 := Bool.eq_false_iff.mpr c10
    subst c10
    have H1 : (paraphrastref01_Name.l0 kj1 a0 1) = some r := by rw [if_neg (show ¬ (false = true) by decide)] at H; exact H
    clear H
    have H := H1
    clear H1
    have H' := Aside0.mk H
    clear H
    go_wp2
    go_loopg [3] kj1 (fun kq v3 w' => ∃ (x3_2 : Int), v3 = .int .i64 x3_2 ∧ Aside0 (paraphrastref01_Name.l0 kq a0 x3_2 = some r) ∧ Aside0 (kq ≤ kj1) ∧ Drawn0 w w')
    case atStart => exact ⟨(1), eS, H', ⟨Nat.le_refl _⟩, dr0⟩
    case round =>
     clear H'
     (try clear c10)
     obtain ⟨x3_2, rfl, HA, HK2, ⟨m2, rfl⟩⟩ := hrel
     cases gk with
     | zero => exact absurd HA.out (by simp [paraphrastref01_Name.l0])
     | succ k2 =>
      have H := HA.out
      clear HA
      simp only [paraphrastref01_Name.l0] at H
      by_cases c11 : x3_2 < (a0.size : Int)
      ·rw [if_pos c11] at H
       have c11b0 : decide (x3_2 < (a0.size : Int)) = true := decide_eq_true c11
       clear c11
       by_cases c12 : 0 ≤ x3_2
       ·rw [if_pos c12] at H
        have c12b0 : decide (0 ≤ x3_2) = true := decide_eq_true c12
        clear c12
        replace H := Option.bind_eq_some_iff.mp H
        obtain ⟨t148, A140, H⟩ := H
        replace H : (if t148 = true then (paraphrastref01_Name.l0 k2 a0 (wrap64 (x3_2 + 1))) else ((paraphrastref01_digit.f (bt a0 x3_2)).bind fun t149 => (if t149 = true then (paraphrastref01_Name.l0 k2 a0 (wrap64 (x3_2 + 1))) else (some false)))) = some r := H
        have A14 := Aside0.mk A140
        clear A140
        by_cases c15 : t148 = true
        ·subst c15
         have H1 : (paraphrastref01_Name.l0 k2 a0 (wrap64 (x3_2 + 1))) = some r := by rw [if_pos rfl] at H; exact H
         clear H
         have H := H1
         clear H1
         have H' := Aside0.mk H
         clear H
         have p13 : 0 ≤ (x3_2 : Int) := dtr
         have q13 : x3_2 < (a0.size : Int) := dtr
         have hx13 := bt_at a0 x3_2
         replace p13 := eq_true p13
         replace q13 := eq_true q13
         go_wp2_with (first | ((with_reducible refine gate_callee (f := 91) rfl ?_); refine gL (some 31) Tryz.func91 #[.int .u8 (bt a0 x3_2)] ?_; (with_reducible refine (paraphrastref01_letter.calls (bt a0 x3_2) true _ A14.out).mono ?_); rintro e w' ⟨rfl, ⟨nd, rfl⟩⟩; refine ⟨_, rfl, ?_⟩))
         go_roundg k2
         case measure => have := HJ1.out; have := HK2.out; omega
         case rel => exact ⟨(wrap64 (x3_2 + 1)), eS, H', ⟨by have := HJ1.out; have := HK2.out; omega⟩, dr0⟩
        ·replace c15 := Bool.eq_false_iff.mpr c15
         subst c15
         have H1 : ((paraphrastref01_digit.f (bt a0 x3_2)).bind fun t149 => (if t149 = true then (paraphrastref01_Name.l0 k2 a0 (wrap64 (x3_2 + 1))) else (some false))) = some r := by rw [if_neg (show ¬ (false = true) by decide)] at H; exact H
         clear H
         have H := H1
         clear H1
         replace H := Option.bind_eq_some_iff.mp H
         obtain ⟨t149, A170, H⟩ := H
         replace H : (if t149 = true then (paraphrastref01_Name.l0 k2 a0 (wrap64 (x3_2 + 1))) else (some false)) = some r := H
         have A17 := Aside0.mk A170
         clear A170
         by_cases c18 : t149 = true
         ·subst c18
          have H1 : (paraphrastref01_Name.l0 k2 a0 (wrap64 (x3_2 + 1))) = some r := by rw [if_pos rfl] at H; exact H
          clear H
          have H := H1
          clear H1
          have H' := Aside0.mk H
          clear H
          have p13 : 0 ≤ (x3_2 : Int) := dtr
          have q13 : x3_2 < (a0.size : Int) := dtr
          have hx13 := bt_at a0 x3_2
          replace p13 := eq_true p13
          replace q13 := eq_true q13
          go_wp2_with (first | ((with_reducible refine gate_callee (f := 91) rfl ?_); refine gL (some 31) Tryz.func91 #[.int .u8 (bt a0 x3_2)] ?_; (with_reducible refine (paraphrastref01_letter.calls (bt a0 x3_2) false _ A14.out).mono ?_); rintro e w' ⟨rfl, ⟨nd, rfl⟩⟩; refine ⟨_, rfl, ?_⟩; have p16 : 0 ≤ (x3_2 : Int) := dtr; have q16 : x3_2 < (a0.size : Int) := dtr; have hx16 := bt_at a0 x3_2; replace p16 := eq_true p16; replace q16 := eq_true q16) | (go_at_call 93; (with_reducible refine (paraphrastref01_digit.calls (bt a0 x3_2) true _ A17.out).mono ?_); rintro e w' ⟨rfl, ⟨nd, rfl⟩⟩))
          go_roundg k2
          case measure => have := HJ1.out; have := HK2.out; omega
          case rel => exact ⟨(wrap64 (x3_2 + 1)), eS, H', ⟨by have := HJ1.out; have := HK2.out; omega⟩, dr0⟩
         ·replace c18 := Bool.eq_false_iff.mpr c18
          subst c18
          have H1 : (some false) = some r := by rw [if_neg (show ¬ (false = true) by decide)] at H; exact H
          clear H
          have H := H1
          clear H1
          obtain rfl := Option.some.inj H
          have p13 : 0 ≤ (x3_2 : Int) := dtr
          have q13 : x3_2 < (a0.size : Int) := dtr
          have hx13 := bt_at a0 x3_2
          replace p13 := eq_true p13
          replace q13 := eq_true q13
          go_wp2_with (first | ((with_reducible refine gate_callee (f := 91) rfl ?_); refine gL (some 31) Tryz.func91 #[.int .u8 (bt a0 x3_2)] ?_; (with_reducible refine (paraphrastref01_letter.calls (bt a0 x3_2) false _ A14.out).mono ?_); rintro e w' ⟨rfl, ⟨nd, rfl⟩⟩; refine ⟨_, rfl, ?_⟩; have p16 : 0 ≤ (x3_2 : Int) := dtr; have q16 : x3_2 < (a0.size : Int) := dtr; have hx16 := bt_at a0 x3_2; replace p16 := eq_true p16; replace q16 := eq_true q16) | (go_at_call 93; (with_reducible refine (paraphrastref01_digit.calls (bt a0 x3_2) false _ A17.out).mono ?_); rintro e w' ⟨rfl, ⟨nd, rfl⟩⟩))
          go_ret
          exact ⟨eS, dr0⟩
       ·rw [if_neg c12] at H
        exact absurd H (by simp)
      ·rw [if_neg c11] at H
       have c11b0 : decide (x3_2 < (a0.size : Int)) = false := decide_eq_false c11
       clear c11
       obtain rfl := Option.some.inj H
       go_wp2
       go_ret
       exact ⟨eS, dr0⟩
end Go.Proofs.YtailpfcbdopfeaaGreatDoor.F
/- Names: what shape.Name and the document's Name answer, as a plain Bool. -/
namespace Go.Proofs.YtailpfcbdopfeaaGreatDoor.F
open Go.RowKit Go.Proofs.YtailpfcbdopfeaaGreatDoorW.PrintWords Go.Proofs.YtailpfcbdopfeaaGreatDoorW.PrintLast Go.Proofs.YtailpfcbdopfeaaGreatDoorW.PrintMore
set_option linter.unusedVariables false
theorem w64 {x : Int} (h0 : -9223372036854775808 ≤ x) (h1 : x ≤ 9223372036854775807) : wrap64 x = x := by unfold wrap64; omega
def letB (c : Int) : Bool := (decide (97 ≤ c) && decide (c ≤ 122)) || (decide (65 ≤ c) && decide (c ≤ 90))
def digB (c : Int) : Bool := decide (48 ≤ c) && decide (c ≤ 57)
theorem letter_eq (c : Int) : shape_letter.f c = some (letB c) := by
  unfold shape_letter.f letB
  simp only [ge_iff_le]
  by_cases h1 : 97 ≤ c <;> by_cases h2 : c ≤ 122 <;> by_cases h3 : 65 ≤ c <;> by_cases h4 : c ≤ 90 <;> simp [h1, h2, h3, h4]
theorem digit_eq (c : Int) : shape_digit.f c = some (digB c) := by
  unfold shape_digit.f digB
  split <;> simp <;> omega
def wordB (s : ByteArray) : Bool := (shape_word.f s).getD false
theorem word_eq (s : ByteArray) : shape_word.f s = some (wordB s) := by
  unfold wordB shape_word.f
  repeat' split
  all_goals rfl
/-- The d bytes from i on are letters or digits. -/
def restB (s : ByteArray) : Nat → Nat → Bool
  | 0, _ => true
  | d + 1, i => (letB (bt s i) || digB (bt s i)) && restB s d (i + 1)
def nameB (s : ByteArray) : Bool := decide (1 ≤ s.size) && decide (s.size ≤ 12) && letB (bt s 0) && !wordB s && restB s (s.size - 1) 1
theorem name_loop (s : ByteArray) (hs : s.size ≤ 12) : ∀ (d i k : Nat), i + d = s.size → d + 1 ≤ k → shape_Name.l0 k s (s.size : Int) (i : Int) = some (restB s d i)
  | 0, i, k + 1, h, hk => by unfold shape_Name.l0; rw [if_neg (by omega)]; rfl
  | d + 1, i, k + 1, h, hk => by
    unfold shape_Name.l0 restB
    have ih := name_loop s hs d (i + 1) k (by omega) (by omega)
    rw [show ((i + 1 : Nat) : Int) = (i : Int) + 1 by omega] at ih
    rw [if_pos (by omega), if_pos (by omega), if_pos (by omega), letter_eq, digit_eq, w64 (by omega) (by omega), ih]
    simp only [Option.bind_some]
    cases letB (bt s i) <;> cases digB (bt s i) <;> rfl
theorem name_eq (s : ByteArray) (k : Nat) (hk : 20 ≤ k) : shape_Name.f k s = some (nameB s) := by
  obtain ⟨k, rfl⟩ : ∃ k', k = k' + 1 := ⟨k - 1, by omega⟩
  unfold shape_Name.f nameB
  by_cases h0 : s.size = 0
  · rw [if_pos ((toList_nil s).2 h0)]; simp [shape_Name.j0, h0]
  · rw [if_neg (fun h => h0 ((toList_nil s).1 h))]
    by_cases h1 : (s.size : Int) > 12
    · rw [if_pos h1]; simp [shape_Name.j0, show ¬ s.size ≤ 12 by omega]
    · rw [if_neg h1, if_pos (by omega), letter_eq]
      simp only [Option.bind_some]
      cases hl : letB (bt s 0) with
      | false => simp [shape_Name.j0]
      | true =>
        rw [if_pos rfl, word_eq]
        simp only [Option.bind_some]
        cases hw : wordB s with
        | true => simp [shape_Name.j0]
        | false =>
          unfold shape_Name.j0
          simp only [Bool.false_eq_true, if_false]
          have := name_loop s (by omega) s.size 0 k (by omega) (by omega)
          rw [show ((0 : Nat) : Int) = 0 from rfl] at this
          rw [this]
          obtain ⟨m, hm⟩ : ∃ m, s.size = m + 1 := ⟨s.size - 1, by omega⟩
          rw [hm, restB, show ((0 : Nat) : Int) = 0 from rfl, hl]
          simp; omega
/-! ### the document's functions -/
theorem ref_letter_eq (c : Int) : paraphrastref01_letter.f c = some (letB c) := letter_eq c
theorem ref_digit_eq (c : Int) : paraphrastref01_digit.f c = some (digB c) := digit_eq c
theorem ref_word_eq (s : ByteArray) : paraphrastref01_Word.f s = some (wordB s) := word_eq s
theorem ref_name_loop (s : ByteArray) (hs : s.size ≤ 12) : ∀ (d i k : Nat), i + d = s.size → d + 1 ≤ k → paraphrastref01_Name.l0 k s (i : Int) = some (restB s d i)
  | 0, i, k + 1, h, hk => by unfold paraphrastref01_Name.l0; rw [if_neg (by omega)]; rfl
  | d + 1, i, k + 1, h, hk => by
    unfold paraphrastref01_Name.l0 restB
    have ih := ref_name_loop s hs d (i + 1) k (by omega) (by omega)
    rw [show ((i + 1 : Nat) : Int) = (i : Int) + 1 by omega] at ih
    rw [if_pos (by omega), if_pos (by omega), ref_letter_eq, ref_digit_eq, w64 (by omega) (by omega), ih]
    simp only [Option.bind_some]
    cases letB (bt s i) <;> cases digB (bt s i) <;> rfl
theorem ref_name_eq (s : ByteArray) (k : Nat) (hk : 20 ≤ k) : paraphrastref01_Name.f k s = some (nameB s) := by
  obtain ⟨k, rfl⟩ : ∃ k', k = k' + 1 := ⟨k - 1, by omega⟩
  unfold paraphrastref01_Name.f nameB
  by_cases h0 : s.size = 0
  · rw [if_pos (by omega)]; simp [paraphrastref01_Name.j0, h0]
  · rw [if_neg (by omega)]
    by_cases h1 : (s.size : Int) > 12
    · rw [if_pos h1]; simp [paraphrastref01_Name.j0, show ¬ s.size ≤ 12 by omega]
    · rw [if_neg h1, if_pos (by omega), ref_letter_eq]
      simp only [Option.bind_some]
      cases hl : letB (bt s 0) with
      | false => simp [paraphrastref01_Name.j0]
      | true =>
        rw [if_pos rfl, ref_word_eq]
        simp only [Option.bind_some]
        cases hw : wordB s with
        | true => simp [paraphrastref01_Name.j0]
        | false =>
          unfold paraphrastref01_Name.j0
          simp only [Bool.false_eq_true, if_false]
          have := ref_name_loop s (by omega) (s.size - 1) 1 k (by omega) (by omega)
          rw [show ((1 : Nat) : Int) = 1 from rfl] at this
          rw [this]
          simp; omega
end Go.Proofs.YtailpfcbdopfeaaGreatDoor.F
namespace Go.Proofs.YtailpfcbdopfeaaGreatDoor.F
open Go.RowKit Go.Proofs.YtailpfcbdopfeaaGreatDoorW.PrintWords Go.Proofs.YtailpfcbdopfeaaGreatDoorW.PrintLast Go.Proofs.YtailpfcbdopfeaaGreatDoorW.PrintMore
attribute [local go_sem] max2_int min2_int max_two min_two max_three min_three max_four min_four
set_option linter.unusedVariables false
set_option linter.unusedSimpArgs false
/-! ### literal_Valid: function 40 -/
def literal_Valid.f (k : Nat) (a0_0 : Int) (a0_1 : Bool) (a0_2 : ByteArray) (l0_3 : List Int) (a1 : Int) : Option (Bool) := (literal_Valid_1_any.f l0_3 a1).bind fun t251 => (if t251 = true then (some false) else (if a0_0 = 0 then ((shape_Name.f k a0_2).bind fun t252 => (if t252 = true then (some (decide ((l0_3.length : Int) ≤ 12))) else (some false))) else (if a0_0 = 1 then (if a0_2.toList = ([] : List UInt8) then (some ((l0_3.length : Int) == 2)) else (some false)) else (if a0_0 = 2 then (if a0_2.toList = ([] : List UInt8) then (some ((l0_3.length : Int) == 2)) else (some false)) else (some false)))))
set_option maxHeartbeats 8000000 in
set_option maxRecDepth 100000 in
theorem literal_Valid.calls (k : Nat) (a0_0 : Int) (a0_1 : Bool) (a0_2 : ByteArray) (A0_3 : Option Addr) (c0_3 : Nat) (l0_3 : List Int) (a1 : Int) (r : Bool) (w : World) (hr0_3 : Kd.C (Kd.int .i64) w A0_3 l0_3.length l0_3) (hc0_3 : l0_3.length ≤ c0_3) (h : literal_Valid.f k a0_0 a0_1 a0_2 l0_3 a1 = some r) :
  Calls Tryz.prog 40 #[.agg #[.int .i64 a0_0, .bool a0_1, .string a0_2, .slice A0_3 l0_3.length c0_3], .int .i64 a1] w fun e w' => e = .returned (.bool r) ∧ Below w.heap.size w w' := by
 have hu42 := Tryz.underlying42
 have HR0_3 := Aside0.mk hr0_3
 have HC0_3 := Aside0.mk hc0_3
 clear hr0_3 hc0_3
 have HB := Aside0.mk (Below.refl w.heap.size w)
 have H : ((literal_Valid_1_any.f l0_3 a1).bind fun t251 => (if t251 = true then (some false) else (if a0_0 = 0 then ((shape_Name.f k a0_2).bind fun t252 => (if t252 = true then (some (decide ((l0_3.length : Int) ≤ 12))) else (some false))) else (if a0_0 = 1 then (if a0_2.toList = ([] : List UInt8) then (some ((l0_3.length : Int) == 2)) else (some false)) else (if a0_0 = 2 then (if a0_2.toList = ([] : List UInt8) then (some ((l0_3.length : Int) == 2)) else (some false)) else (some false)))))) = some r := h
 clear h
 replace H := Option.bind_eq_some_iff.mp H
 obtain ⟨t251, A30, H⟩ := H
 replace H : (if t251 = true then (some false) else (if a0_0 = 0 then ((shape_Name.f k a0_2).bind fun t252 => (if t252 = true then (some (decide ((l0_3.length : Int) ≤ 12))) else (some false))) else (if a0_0 = 1 then (if a0_2.toList = ([] : List UInt8) then (some ((l0_3.length : Int) == 2)) else (some false)) else (if a0_0 = 2 then (if a0_2.toList = ([] : List UInt8) then (some ((l0_3.length : Int) == 2)) else (some false)) else (some false))))) = some r := H
 have A3 := Aside0.mk A30
 clear A30
 by_cases c4 : t251 = true
 ·subst c4
  have H1 : (some false) = some r := by rw [if_pos rfl] at H; exact H
  clear H
  have H := H1
  clear H1
  obtain rfl := Option.some.inj H
  go_enter Tryz.func40, Tryz.ntmps40
  go_wp2_with (first | ((with_reducible refine gate_dst (N := 2) rfl ?_); (try (refine gate_guard (by rfl) ?_; dsimp only)); refine box_event ?hg (N := 2) ?hd (cs := #[.int .i64 a0_0, .bool a0_1, .string a0_2, .slice A0_3 l0_3.length c0_3]) (t := 42) ?hr ?_; (case hd => rfl); (case hg => rfl); (case hr => first | (go_simp; done) | (go_simp; rfl)); intro gb249 hg w5 hbox hb; have BK249 := Aside0.mk (hbox); have GW249 := geB w hg; have GE249 := geB w hg; replace HB := Aside0.mk (below_step bel hb); clear hb hbox hg) | ((with_reducible refine gate_dst (N := 3) rfl ?_); (try (refine gate_guard (by rfl) ?_; dsimp only)); refine box_event ?hg (N := 3) ?hd (cs := #[.int .i64 a1]) (t := 3) ?hr ?_; (case hd => rfl); (case hg => rfl); (case hr => first | (go_simp; done) | (go_simp; rfl)); intro gb250 hg w6 hbox hb; have BK250 := Aside0.mk (hbox); have GW250 := geB w hg; have GE250 := geB w hg; have NB249_250 := neL BK249 hg; have NB250_249 := neG BK249 hg; replace BK249 := blB BK249 hb; replace HB := Aside0.mk (below_step bel hb); clear hb hbox hg; have hnb7 := NB249_250.out; have hnc7 := NB250_249.out; obtain ⟨hcz8_0, hcz8_1, hcz8_2, hcz8_3, hfz8_0, hfz8_1, hfz8_2, hfz8_3⟩ := bq4 BK249) | ((with_reducible refine gate_callee (f := 69) rfl ?_); refine gL (some 8) Tryz.func69 #[.slice A0_3 l0_3.length c0_3, .func (.func 70) #[] #[.pointer (some ⟨gb250, 0, none⟩)]] ?_; (with_reducible refine (literal_Valid_1_any.calls _ _ l0_3 gb250 a1 true _ ?side1 ?side2 ?side3 A3.out).mono ?_); (case side1 => exact cS (Kd.C_below HR0_3.out HB.out)); (case side2 => exact HC0_3.out); (case side3 => exact (bk BK250)); rintro e w9 ⟨rfl, hb⟩; refine ⟨_, rfl, ?_⟩; replace BK249 := blB BK249 hb; replace BK250 := blB BK250 hb; replace HB := Aside0.mk (below_step bel hb); (try clear hb); (try clear hb2); (try clear hk); (try clear hi)))
  go_ret
  exact ⟨eN, bel⟩
 ·replace c4 := Bool.eq_false_iff.mpr c4
  subst c4
  have H1 : (if a0_0 = 0 then ((shape_Name.f k a0_2).bind fun t252 => (if t252 = true then (some (decide ((l0_3.length : Int) ≤ 12))) else (some false))) else (if a0_0 = 1 then (if a0_2.toList = ([] : List UInt8) then (some ((l0_3.length : Int) == 2)) else (some false)) else (if a0_0 = 2 then (if a0_2.toList = ([] : List UInt8) then (some ((l0_3.length : Int) == 2)) else (some false)) else (some false)))) = some r := by rw [if_neg (show ¬ (false = true) by decide)] at H; exact H
  clear H
  have H := H1
  clear H1
  by_cases c10 : a0_0 = 0
  ·rw [if_pos c10] at H
   have c10b0 : (a0_0 == 0) = true := beq_iff_eq.mpr c10
   have c10b1 : (a0_0 != 0) = false := bne_eq_false_iff_eq.mpr c10
   clear c10
   replace H := Option.bind_eq_some_iff.mp H
   obtain ⟨t252, A110, H⟩ := H
   replace H : (if t252 = true then (some (decide ((l0_3.length : Int) ≤ 12))) else (some false)) = some r := H
   have A11 := Aside0.mk A110
   clear A110
   by_cases c12 : t252 = true
   ·subst c12
    have H1 : (some (decide ((l0_3.length : Int) ≤ 12))) = some r := by rw [if_pos rfl] at H; exact H
    clear H
    have H := H1
    clear H1
    obtain rfl := Option.some.inj H
    go_enter Tryz.func40, Tryz.ntmps40
    go_wp2_with (first | ((with_reducible refine gate_dst (N := 2) rfl ?_); (try (refine gate_guard (by rfl) ?_; dsimp only)); refine box_event ?hg (N := 2) ?hd (cs := #[.int .i64 a0_0, .bool a0_1, .string a0_2, .slice A0_3 l0_3.length c0_3]) (t := 42) ?hr ?_; (case hd => rfl); (case hg => rfl); (case hr => first | (go_simp; done) | (go_simp; rfl)); intro gb249 hg w13 hbox hb; have BK249 := Aside0.mk (hbox); have GW249 := geB w hg; have GE249 := geB w hg; replace HB := Aside0.mk (below_step bel hb); clear hb hbox hg) | ((with_reducible refine gate_dst (N := 3) rfl ?_); (try (refine gate_guard (by rfl) ?_; dsimp only)); refine box_event ?hg (N := 3) ?hd (cs := #[.int .i64 a1]) (t := 3) ?hr ?_; (case hd => rfl); (case hg => rfl); (case hr => first | (go_simp; done) | (go_simp; rfl)); intro gb250 hg w14 hbox hb; have BK250 := Aside0.mk (hbox); have GW250 := geB w hg; have GE250 := geB w hg; have NB249_250 := neL BK249 hg; have NB250_249 := neG BK249 hg; replace BK249 := blB BK249 hb; replace HB := Aside0.mk (below_step bel hb); clear hb hbox hg; have hnb15 := NB249_250.out; have hnc15 := NB250_249.out; obtain ⟨hcz16_0, hcz16_1, hcz16_2, hcz16_3, hfz16_0, hfz16_1, hfz16_2, hfz16_3⟩ := bq4 BK249) | ((with_reducible refine gate_callee (f := 69) rfl ?_); refine gL (some 8) Tryz.func69 #[.slice A0_3 l0_3.length c0_3, .func (.func 70) #[] #[.pointer (some ⟨gb250, 0, none⟩)]] ?_; (with_reducible refine (literal_Valid_1_any.calls _ _ l0_3 gb250 a1 false _ ?side1 ?side2 ?side3 A3.out).mono ?_); (case side1 => exact cS (Kd.C_below HR0_3.out HB.out)); (case side2 => exact HC0_3.out); (case side3 => exact (bk BK250)); rintro e w17 ⟨rfl, hb⟩; refine ⟨_, rfl, ?_⟩; replace BK249 := blB BK249 hb; replace BK250 := blB BK250 hb; replace HB := Aside0.mk (below_step bel hb); (try clear hb); (try clear hb2); (try clear hk); (try clear hi); obtain ⟨hcz18_0, hcz18_1, hcz18_2, hcz18_3, hfz18_0, hfz18_1, hfz18_2, hfz18_3⟩ := bq4 BK249) | ((with_reducible refine gate_callee (f := 20) rfl ?_); refine gL (some 15) Tryz.func20 #[.string a0_2] ?_; (with_reducible refine (shape_Name.calls k a0_2 true _ A11.out).mono ?_); rintro e w' ⟨rfl, ⟨nd, rfl⟩⟩; refine ⟨_, rfl, ?_⟩))
    go_ret
    exact ⟨eN, bel⟩
   ·replace c12 := Bool.eq_false_iff.mpr c12
    subst c12
    have H1 : (some false) = some r := by rw [if_neg (show ¬ (false = true) by decide)] at H; exact H
    clear H
    have H := H1
    clear H1
    obtain rfl := Option.some.inj H
    go_enter Tryz.func40, Tryz.ntmps40
    go_wp2_with (first | ((with_reducible refine gate_dst (N := 2) rfl ?_); (try (refine gate_guard (by rfl) ?_; dsimp only)); refine box_event ?hg (N := 2) ?hd (cs := #[.int .i64 a0_0, .bool a0_1, .string a0_2, .slice A0_3 l0_3.length c0_3]) (t := 42) ?hr ?_; (case hd => rfl); (case hg => rfl); (case hr => first | (go_simp; done) | (go_simp; rfl)); intro gb249 hg w19 hbox hb; have BK249 := Aside0.mk (hbox); have GW249 := geB w hg; have GE249 := geB w hg; replace HB := Aside0.mk (below_step bel hb); clear hb hbox hg) | ((with_reducible refine gate_dst (N := 3) rfl ?_); (try (refine gate_guard (by rfl) ?_; dsimp only)); refine box_event ?hg (N := 3) ?hd (cs := #[.int .i64 a1]) (t := 3) ?hr ?_; (case hd => rfl); (case hg => rfl); (case hr => first | (go_simp; done) | (go_simp; rfl)); intro gb250 hg w20 hbox hb; have BK250 := Aside0.mk (hbox); have GW250 := geB w hg; have GE250 := geB w hg; have NB249_250 := neL BK249 hg; have NB250_249 := neG BK249 hg; replace BK249 := blB BK249 hb; replace HB := Aside0.mk (below_step bel hb); clear hb hbox hg; have hnb21 := NB249_250.out; have hnc21 := NB250_249.out; obtain ⟨hcz22_0, hcz22_1, hcz22_2, hcz22_3, hfz22_0, hfz22_1, hfz22_2, hfz22_3⟩ := bq4 BK249) | ((with_reducible refine gate_callee (f := 69) rfl ?_); refine gL (some 8) Tryz.func69 #[.slice A0_3 l0_3.length c0_3, .func (.func 70) #[] #[.pointer (some ⟨gb250, 0, none⟩)]] ?_; (with_reducible refine (literal_Valid_1_any.calls _ _ l0_3 gb250 a1 false _ ?side1 ?side2 ?side3 A3.out).mono ?_); (case side1 => exact cS (Kd.C_below HR0_3.out HB.out)); (case side2 => exact HC0_3.out); (case side3 => exact (bk BK250)); rintro e w23 ⟨rfl, hb⟩; refine ⟨_, rfl, ?_⟩; replace BK249 := blB BK249 hb; replace BK250 := blB BK250 hb; replace HB := Aside0.mk (below_step bel hb); (try clear hb); (try clear hb2); (try clear hk); (try clear hi); obtain ⟨hcz24_0, hcz24_1, hcz24_2, hcz24_3, hfz24_0, hfz24_1, hfz24_2, hfz24_3⟩ := bq4 BK249) | ((with_reducible refine gate_callee (f := 20) rfl ?_); refine gL (some 15) Tryz.func20 #[.string a0_2] ?_; (with_reducible refine (shape_Name.calls k a0_2 false _ A11.out).mono ?_); rintro e w' ⟨rfl, ⟨nd, rfl⟩⟩; refine ⟨_, rfl, ?_⟩))
    go_ret
    exact ⟨eN, bel⟩
  ·rw [if_neg c10] at H
   have c10b0 : (a0_0 == 0) = false := beq_eq_false_iff_ne.mpr c10
   have c10b1 : (a0_0 != 0) = true := bne_iff_ne.mpr c10
   by_cases c25 : a0_0 = 1
   ·rw [if_pos c25] at H
    have c25b0 : (a0_0 == 1) = true := beq_iff_eq.mpr c25
    have c25b1 : (a0_0 != 1) = false := bne_eq_false_iff_eq.mpr c25
    clear c25
    by_cases c26 : a0_2.toList = ([] : List UInt8)
    ·rw [if_pos c26] at H
     have c26b0 : (a0_2.toList == ([] : List UInt8)) = true := beq_iff_eq.mpr c26
     have c26b1 : (a0_2.toList != ([] : List UInt8)) = false := bne_eq_false_iff_eq.mpr c26
     clear c26
     obtain rfl := Option.some.inj H
     go_enter Tryz.func40, Tryz.ntmps40
     go_wp2_with (first | ((with_reducible refine gate_dst (N := 2) rfl ?_); (try (refine gate_guard (by rfl) ?_; dsimp only)); refine box_event ?hg (N := 2) ?hd (cs := #[.int .i64 a0_0, .bool a0_1, .string a0_2, .slice A0_3 l0_3.length c0_3]) (t := 42) ?hr ?_; (case hd => rfl); (case hg => rfl); (case hr => first | (go_simp; done) | (go_simp; rfl)); intro gb249 hg w27 hbox hb; have BK249 := Aside0.mk (hbox); have GW249 := geB w hg; have GE249 := geB w hg; replace HB := Aside0.mk (below_step bel hb); clear hb hbox hg) | ((with_reducible refine gate_dst (N := 3) rfl ?_); (try (refine gate_guard (by rfl) ?_; dsimp only)); refine box_event ?hg (N := 3) ?hd (cs := #[.int .i64 a1]) (t := 3) ?hr ?_; (case hd => rfl); (case hg => rfl); (case hr => first | (go_simp; done) | (go_simp; rfl)); intro gb250 hg w28 hbox hb; have BK250 := Aside0.mk (hbox); have GW250 := geB w hg; have GE250 := geB w hg; have NB249_250 := neL BK249 hg; have NB250_249 := neG BK249 hg; replace BK249 := blB BK249 hb; replace HB := Aside0.mk (below_step bel hb); clear hb hbox hg; have hnb29 := NB249_250.out; have hnc29 := NB250_249.out; obtain ⟨hcz30_0, hcz30_1, hcz30_2, hcz30_3, hfz30_0, hfz30_1, hfz30_2, hfz30_3⟩ := bq4 BK249) | ((with_reducible refine gate_callee (f := 69) rfl ?_); refine gL (some 8) Tryz.func69 #[.slice A0_3 l0_3.length c0_3, .func (.func 70) #[] #[.pointer (some ⟨gb250, 0, none⟩)]] ?_; (with_reducible refine (literal_Valid_1_any.calls _ _ l0_3 gb250 a1 false _ ?side1 ?side2 ?side3 A3.out).mono ?_); (case side1 => exact cS (Kd.C_below HR0_3.out HB.out)); (case side2 => exact HC0_3.out); (case side3 => exact (bk BK250)); rintro e w31 ⟨rfl, hb⟩; refine ⟨_, rfl, ?_⟩; replace BK249 := blB BK249 hb; replace BK250 := blB BK250 hb; replace HB := Aside0.mk (below_step bel hb); (try clear hb); (try clear hb2); (try clear hk); (try clear hi); obtain ⟨hcz32_0, hcz32_1, hcz32_2, hcz32_3, hfz32_0, hfz32_1, hfz32_2, hfz32_3⟩ := bq4 BK249))
     go_ret
     exact ⟨eN, bel⟩
    ·rw [if_neg c26] at H
     have c26b0 : (a0_2.toList == ([] : List UInt8)) = false := beq_eq_false_iff_ne.mpr c26
     have c26b1 : (a0_2.toList != ([] : List UInt8)) = true := bne_iff_ne.mpr c26
     obtain rfl := Option.some.inj H
     go_enter Tryz.func40, Tryz.ntmps40
     go_wp2_with (first | ((with_reducible refine gate_dst (N := 2) rfl ?_); (try (refine gate_guard (by rfl) ?_; dsimp only)); refine box_event ?hg (N := 2) ?hd (cs := #[.int .i64 a0_0, .bool a0_1, .string a0_2, .slice A0_3 l0_3.length c0_3]) (t := 42) ?hr ?_; (case hd => rfl); (case hg => rfl); (case hr => first | (go_simp; done) | (go_simp; rfl)); intro gb249 hg w33 hbox hb; have BK249 := Aside0.mk (hbox); have GW249 := geB w hg; have GE249 := geB w hg; replace HB := Aside0.mk (below_step bel hb); clear hb hbox hg) | ((with_reducible refine gate_dst (N := 3) rfl ?_); (try (refine gate_guard (by rfl) ?_; dsimp only)); refine box_event ?hg (N := 3) ?hd (cs := #[.int .i64 a1]) (t := 3) ?hr ?_; (case hd => rfl); (case hg => rfl); (case hr => first | (go_simp; done) | (go_simp; rfl)); intro gb250 hg w34 hbox hb; have BK250 := Aside0.mk (hbox); have GW250 := geB w hg; have GE250 := geB w hg; have NB249_250 := neL BK249 hg; have NB250_249 := neG BK249 hg; replace BK249 := blB BK249 hb; replace HB := Aside0.mk (below_step bel hb); clear hb hbox hg; have hnb35 := NB249_250.out; have hnc35 := NB250_249.out; obtain ⟨hcz36_0, hcz36_1, hcz36_2, hcz36_3, hfz36_0, hfz36_1, hfz36_2, hfz36_3⟩ := bq4 BK249) | ((with_reducible refine gate_callee (f := 69) rfl ?_); refine gL (some 8) Tryz.func69 #[.slice A0_3 l0_3.length c0_3, .func (.func 70) #[] #[.pointer (some ⟨gb250, 0, none⟩)]] ?_; (with_reducible refine (literal_Valid_1_any.calls _ _ l0_3 gb250 a1 false _ ?side1 ?side2 ?side3 A3.out).mono ?_); (case side1 => exact cS (Kd.C_below HR0_3.out HB.out)); (case side2 => exact HC0_3.out); (case side3 => exact (bk BK250)); rintro e w37 ⟨rfl, hb⟩; refine ⟨_, rfl, ?_⟩; replace BK249 := blB BK249 hb; replace BK250 := blB BK250 hb; replace HB := Aside0.mk (below_step bel hb); (try clear hb); (try clear hb2); (try clear hk); (try clear hi); obtain ⟨hcz38_0, hcz38_1, hcz38_2, hcz38_3, hfz38_0, hfz38_1, hfz38_2, hfz38_3⟩ := bq4 BK249))
     go_ret
     exact ⟨eN, bel⟩
   ·rw [if_neg c25] at H
    have c25b0 : (a0_0 == 1) = false := beq_eq_false_iff_ne.mpr c25
    have c25b1 : (a0_0 != 1) = true := bne_iff_ne.mpr c25
    by_cases c39 : a0_0 = 2
    ·rw [if_pos c39] at H
     have c39b0 : (a0_0 == 2) = true := beq_iff_eq.mpr c39
     have c39b1 : (a0_0 != 2) = false := bne_eq_false_iff_eq.mpr c39
     clear c39
     by_cases c40 : a0_2.toList = ([] : List UInt8)
     ·rw [if_pos c40] at H
      have c40b0 : (a0_2.toList == ([] : List UInt8)) = true := beq_iff_eq.mpr c40
      have c40b1 : (a0_2.toList != ([] : List UInt8)) = false := bne_eq_false_iff_eq.mpr c40
      clear c40
      obtain rfl := Option.some.inj H
      go_enter Tryz.func40, Tryz.ntmps40
      go_wp2_with (first | ((with_reducible refine gate_dst (N := 2) rfl ?_); (try (refine gate_guard (by rfl) ?_; dsimp only)); refine box_event ?hg (N := 2) ?hd (cs := #[.int .i64 a0_0, .bool a0_1, .string a0_2, .slice A0_3 l0_3.length c0_3]) (t := 42) ?hr ?_; (case hd => rfl); (case hg => rfl); (case hr => first | (go_simp; done) | (go_simp; rfl)); intro gb249 hg w41 hbox hb; have BK249 := Aside0.mk (hbox); have GW249 := geB w hg; have GE249 := geB w hg; replace HB := Aside0.mk (below_step bel hb); clear hb hbox hg) | ((with_reducible refine gate_dst (N := 3) rfl ?_); (try (refine gate_guard (by rfl) ?_; dsimp only)); refine box_event ?hg (N := 3) ?hd (cs := #[.int .i64 a1]) (t := 3) ?hr ?_; (case hd => rfl); (case hg => rfl); (case hr => first | (go_simp; done) | (go_simp; rfl)); intro gb250 hg w42 hbox hb; have BK250 := Aside0.mk (hbox); have GW250 := geB w hg; have GE250 := geB w hg; have NB249_250 := neL BK249 hg; have NB250_249 := neG BK249 hg; replace BK249 := blB BK249 hb; replace HB := Aside0.mk (below_step bel hb); clear hb hbox hg; have hnb43 := NB249_250.out; have hnc43 := NB250_249.out; obtain ⟨hcz44_0, hcz44_1, hcz44_2, hcz44_3, hfz44_0, hfz44_1, hfz44_2, hfz44_3⟩ := bq4 BK249) | ((with_reducible refine gate_callee (f := 69) rfl ?_); refine gL (some 8) Tryz.func69 #[.slice A0_3 l0_3.length c0_3, .func (.func 70) #[] #[.pointer (some ⟨gb250, 0, none⟩)]] ?_; (with_reducible refine (literal_Valid_1_any.calls _ _ l0_3 gb250 a1 false _ ?side1 ?side2 ?side3 A3.out).mono ?_); (case side1 => exact cS (Kd.C_below HR0_3.out HB.out)); (case side2 => exact HC0_3.out); (case side3 => exact (bk BK250)); rintro e w45 ⟨rfl, hb⟩; refine ⟨_, rfl, ?_⟩; replace BK249 := blB BK249 hb; replace BK250 := blB BK250 hb; replace HB := Aside0.mk (below_step bel hb); (try clear hb); (try clear hb2); (try clear hk); (try clear hi); obtain ⟨hcz46_0, hcz46_1, hcz46_2, hcz46_3, hfz46_0, hfz46_1, hfz46_2, hfz46_3⟩ := bq4 BK249))
      go_ret
      exact ⟨eN, bel⟩
     ·rw [if_neg c40] at H
      have c40b0 : (a0_2.toList == ([] : List UInt8)) = false := beq_eq_false_iff_ne.mpr c40
      have c40b1 : (a0_2.toList != ([] : List UInt8)) = true := bne_iff_ne.mpr c40
      obtain rfl := Option.some.inj H
      go_enter Tryz.func40, Tryz.ntmps40
      go_wp2_with (first | ((with_reducible refine gate_dst (N := 2) rfl ?_); (try (refine gate_guard (by rfl) ?_; dsimp only)); refine box_event ?hg (N := 2) ?hd (cs := #[.int .i64 a0_0, .bool a0_1, .string a0_2, .slice A0_3 l0_3.length c0_3]) (t := 42) ?hr ?_; (case hd => rfl); (case hg => rfl); (case hr => first | (go_simp; done) | (go_simp; rfl)); intro gb249 hg w47 hbox hb; have BK249 := Aside0.mk (hbox); have GW249 := geB w hg; have GE249 := geB w hg; replace HB := Aside0.mk (below_step bel hb); clear hb hbox hg) | ((with_reducible refine gate_dst (N := 3) rfl ?_); (try (refine gate_guard (by rfl) ?_; dsimp only)); refine box_event ?hg (N := 3) ?hd (cs := #[.int .i64 a1]) (t := 3) ?hr ?_; (case hd => rfl); (case hg => rfl); (case hr => first | (go_simp; done) | (go_simp; rfl)); intro gb250 hg w48 hbox hb; have BK250 := Aside0.mk (hbox); have GW250 := geB w hg; have GE250 := geB w hg; have NB249_250 := neL BK249 hg; have NB250_249 := neG BK249 hg; replace BK249 := blB BK249 hb; replace HB := Aside0.mk (below_step bel hb); clear hb hbox hg; have hnb49 := NB249_250.out; have hnc49 := NB250_249.out; obtain ⟨hcz50_0, hcz50_1, hcz50_2, hcz50_3, hfz50_0, hfz50_1, hfz50_2, hfz50_3⟩ := bq4 BK249) | ((with_reducible refine gate_callee (f := 69) rfl ?_); refine gL (some 8) Tryz.func69 #[.slice A0_3 l0_3.length c0_3, .func (.func 70) #[] #[.pointer (some ⟨gb250, 0, none⟩)]] ?_; (with_reducible refine (literal_Valid_1_any.calls _ _ l0_3 gb250 a1 false _ ?side1 ?side2 ?side3 A3.out).mono ?_); (case side1 => exact cS (Kd.C_below HR0_3.out HB.out)); (case side2 => exact HC0_3.out); (case side3 => exact (bk BK250)); rintro e w51 ⟨rfl, hb⟩; refine ⟨_, rfl, ?_⟩; replace BK249 := blB BK249 hb; replace BK250 := blB BK250 hb; replace HB := Aside0.mk (below_step bel hb); (try clear hb); (try clear hb2); (try clear hk); (try clear hi); obtain ⟨hcz52_0, hcz52_1, hcz52_2, hcz52_3, hfz52_0, hfz52_1, hfz52_2, hfz52_3⟩ := bq4 BK249))
      go_ret
      exact ⟨eN, bel⟩
    ·rw [if_neg c39] at H
     have c39b0 : (a0_0 == 2) = false := beq_eq_false_iff_ne.mpr c39
     have c39b1 : (a0_0 != 2) = true := bne_iff_ne.mpr c39
     obtain rfl := Option.some.inj H
     go_enter Tryz.func40, Tryz.ntmps40
     go_wp2_with (first | ((with_reducible refine gate_dst (N := 2) rfl ?_); (try (refine gate_guard (by rfl) ?_; dsimp only)); refine box_event ?hg (N := 2) ?hd (cs := #[.int .i64 a0_0, .bool a0_1, .string a0_2, .slice A0_3 l0_3.length c0_3]) (t := 42) ?hr ?_; (case hd => rfl); (case hg => rfl); (case hr => first | (go_simp; done) | (go_simp; rfl)); intro gb249 hg w53 hbox hb; have BK249 := Aside0.mk (hbox); have GW249 := geB w hg; have GE249 := geB w hg; replace HB := Aside0.mk (below_step bel hb); clear hb hbox hg) | ((with_reducible refine gate_dst (N := 3) rfl ?_); (try (refine gate_guard (by rfl) ?_; dsimp only)); refine box_event ?hg (N := 3) ?hd (cs := #[.int .i64 a1]) (t := 3) ?hr ?_; (case hd => rfl); (case hg => rfl); (case hr => first | (go_simp; done) | (go_simp; rfl)); intro gb250 hg w54 hbox hb; have BK250 := Aside0.mk (hbox); have GW250 := geB w hg; have GE250 := geB w hg; have NB249_250 := neL BK249 hg; have NB250_249 := neG BK249 hg; replace BK249 := blB BK249 hb; replace HB := Aside0.mk (below_step bel hb); clear hb hbox hg; have hnb55 := NB249_250.out; have hnc55 := NB250_249.out; obtain ⟨hcz56_0, hcz56_1, hcz56_2, hcz56_3, hfz56_0, hfz56_1, hfz56_2, hfz56_3⟩ := bq4 BK249) | ((with_reducible refine gate_callee (f := 69) rfl ?_); refine gL (some 8) Tryz.func69 #[.slice A0_3 l0_3.length c0_3, .func (.func 70) #[] #[.pointer (some ⟨gb250, 0, none⟩)]] ?_; (with_reducible refine (literal_Valid_1_any.calls _ _ l0_3 gb250 a1 false _ ?side1 ?side2 ?side3 A3.out).mono ?_); (case side1 => exact cS (Kd.C_below HR0_3.out HB.out)); (case side2 => exact HC0_3.out); (case side3 => exact (bk BK250)); rintro e w57 ⟨rfl, hb⟩; refine ⟨_, rfl, ?_⟩; replace BK249 := blB BK249 hb; replace BK250 := blB BK250 hb; replace HB := Aside0.mk (below_step bel hb); (try clear hb); (try clear hb2); (try clear hk); (try clear hi); obtain ⟨hcz58_0, hcz58_1, hcz58_2, hcz58_3, hfz58_0, hfz58_1, hfz58_2, hfz58_3⟩ := bq4 BK249))
     go_ret
     exact ⟨eN, bel⟩
end Go.Proofs.YtailpfcbdopfeaaGreatDoor.F
/- tape.Valid's function literals. -/
namespace Go.Proofs.YtailpfcbdopfeaaGreatDoor.F
open Go.RowKit Go.Proofs.YtailpfcbdopfeaaGreatDoorW.PrintWords Go.Proofs.YtailpfcbdopfeaaGreatDoorW.PrintLast Go.Proofs.YtailpfcbdopfeaaGreatDoorW.PrintMore
set_option linter.unusedVariables false
set_option linter.unusedSimpArgs false
/-- Is a test valid? -/
def litB (n : Int) (l : S42) : Bool := if l.f3.any (outB n) = true then false else if l.f0 = 0 then (if nameB l.f2 = true then decide ((l.f3.length : Int) ≤ 12) else false) else if l.f0 = 1 then (if l.f2.toList = ([] : List UInt8) then ((l.f3.length : Int) == 2) else false) else if l.f0 = 2 then (if l.f2.toList = ([] : List UInt8) then ((l.f3.length : Int) == 2) else false) else false
theorem litV_eq (n : Int) (l : S42) : literal_Valid.f 20 l.f0 l.f1 l.f2 l.f3 n = some (litB n l) := by
  unfold literal_Valid.f literal_Valid_1_any.f litB
  rw [Option.bind_some, name_eq _ _ (Nat.le_refl _), Option.bind_some]
  by_cases h : l.f3.any (outB n) = true
  · rw [if_pos h, if_pos h]
  · rw [if_neg h, if_neg h]
    by_cases h0 : l.f0 = 0
    · rw [if_pos h0, if_pos h0]
      split <;> rfl
    · rw [if_neg h0, if_neg h0]
      by_cases h1 : l.f0 = 1
      · rw [if_pos h1, if_pos h1]
        split <;> rfl
      · rw [if_neg h1, if_neg h1]
        by_cases h2 : l.f0 = 2
        · rw [if_pos h2, if_pos h2]
          split <;> rfl
        · rw [if_neg h2, if_neg h2]
/-- Does a number lie between two? -/
def wi (n a b : Int) : Bool := decide (a ≤ n) && decide (n ≤ b)
theorem within_calls (n a b : Int) (w : World) : Calls Tryz.prog 37 #[.int .i64 n, .int .i64 a, .int .i64 b] w fun e w' => e = .returned (.bool (wi n a b)) ∧ w' = w := by
  unfold wi
  by_cases h : a ≤ n
  · have hd : decide (a ≤ n) = true := decide_eq_true h
    have hd2 : decide (n ≥ a) = true := decide_eq_true h
    rw [hd, Bool.true_and]
    clear h
    go_enter Tryz.func37, Tryz.ntmps37
    go_wp2
    go_ret
    exact ⟨rfl, rfl⟩
  · have hd : decide (a ≤ n) = false := decide_eq_false h
    have hd2 : decide (n ≥ a) = false := decide_eq_false h
    rw [hd, Bool.false_and]
    clear h
    go_enter Tryz.func37, Tryz.ntmps37
    go_wp2
    go_ret
    exact ⟨rfl, rfl⟩
theorem valid2_pred (n : Int) (B : Nat) (w : World) (hB : B < w.heap.size) (hcell : w.cell? ⟨B, 2, none⟩ = some (.int .i64 n)) :
    Predlit 39 #[.pointer (some ⟨B, 0, none⟩)] (fun l => !litB n l) w := fun W x A2 c2 hb hc hC => by
  have hcl : W.cell? ⟨B, 2, none⟩ = some (.int .i64 n) := (hb.cell (p := ⟨B, 2, none⟩) hB).trans hcell
  have H := Aside0.mk (litV_eq n x)
  have HC := Aside0.mk hC
  clear hcell hb hC
  show Calls Tryz.prog 39 #[.agg #[.int .i64 x.f0, .bool x.f1, .string x.f2, .slice A2 x.f3.length c2], .pointer (some ⟨B, 0, none⟩)] W fun e w' => e = .returned (.bool (!litB n x)) ∧ Below W.heap.size W w'
  generalize litB n x = r at H ⊢
  have hBW : B < W.heap.size := World.block_lt_of_cell? W _ hcl
  go_enter Tryz.func39, Tryz.ntmps39
  go_wp2_with fail
  have hb := (box1 W (.cells #[.int .i64 x.f0, .bool x.f1, .string x.f2, .slice A2 x.f3.length c2] 42)).2
  refine (literal_Valid.calls 20 x.f0 x.f1 x.f2 A2 c2 x.f3 n r _ (Kd.C_below HC.out hb) hc H.out).mono ?_
  rintro e w' ⟨rfl, hb2⟩
  go_wp2
  go_ret
  exact ⟨rfl, below_step hb hb2⟩
end Go.Proofs.YtailpfcbdopfeaaGreatDoor.F
/- tape.Valid, by hand. -/
namespace Go.Proofs.YtailpfcbdopfeaaGreatDoor.F
open Go.RowKit Go.Proofs.YtailpfcbdopfeaaGreatDoorW.PrintWords Go.Proofs.YtailpfcbdopfeaaGreatDoorW.PrintLast Go.Proofs.YtailpfcbdopfeaaGreatDoorW.PrintMore
set_option linter.unusedVariables false
set_option linter.unusedSimpArgs false
/-- Does a step fit? -/
def stepB (n0 n1 : Int) (x : S69) : Bool := !(x.f0 == 1) && wi x.f0 0 (n0 - 1) && wi x.f2 0 (n0 - 1) && wi x.f1 0 (n1 - 1) && wi x.f3 0 (n1 - 1) && wi x.f4 (-1) 1
/-- A machine that tape.Valid takes. -/
structure TapeOk (n0 n1 n2 n3 : Int) (ls : List S42) (ss : List S69) : Prop where
  h0 : wi n0 2 400 = true
  h1 : wi n1 1 16 = true
  h2 : wi n2 1 3 = true
  h3 : wi n3 1 3 = true
  len4 : ls.length ≤ 4
  pow : (2 ^ ls.length : Int) ≤ n1
  len5 : ss.length ≤ 400
  lit : ∀ l ∈ ls, litB n2 l = true
  step : ∀ x ∈ ss, stepB n0 n1 x = true
  nodup : ss.Nodup
  sym : SymOk ls
theorem shl_eq {n : Nat} (h : n ≤ 4) : IntKind.i64.wrap ((2 : Int) ^ n) = (2 : Int) ^ n := by
  have : n = 0 ∨ n = 1 ∨ n = 2 ∨ n = 3 ∨ n = 4 := by omega
  rcases this with rfl | rfl | rfl | rfl | rfl <;> rfl
set_option maxHeartbeats 4000000 in
set_option maxRecDepth 100000 in
theorem valid_head (n0 n1 n2 n3 : Int) (A4 : Option Addr) (c4 : Nat) (ls : List S42) (A5 : Option Addr) (c5 : Nat) (ss : List S69) (w : World) (hr4 : Kd.C k42 w A4 ls.length ls) (hc4 : ls.length ≤ c4) (hr5 : Kd.C k69 w A5 ss.length ss) (hc5 : ss.length ≤ c5) (hn : ¬ (wi n0 2 400 = true ∧ wi n1 1 16 = true ∧ wi n2 1 3 = true ∧ wi n3 1 3 = true ∧ ls.length ≤ 4 ∧ (2 : Int) ^ ls.length ≤ n1 ∧ ss.length ≤ 400)) :
    Calls Tryz.prog 15 #[.agg #[.int .i64 n0, .int .i64 n1, .int .i64 n2, .int .i64 n3, .slice A4 ls.length c4, .slice A5 ss.length c5]] w fun e w' => ∃ b : Bool, e = .returned (.bool b) ∧ (b = true ↔ TapeOk n0 n1 n2 n3 ls ss) ∧ Below w.heap.size w w' := by
  have H4 := Aside0.mk hr4
  have H5 := Aside0.mk hr5
  have HNN := Aside0.mk hn
  clear hr4 hr5 hn
  cases h0 : wi n0 2 400 with
  | false =>
    go_enter Tryz.func15, Tryz.ntmps15
    go_wp2_with (go_at_call 37; refine (within_calls _ _ _ _).mono ?_; rintro e w' ⟨rfl, rfl⟩)
    go_ret
    exact ⟨false, rfl, ⟨(fun h => by cases h), fun h => absurd h.h0 (by rw [h0]; decide)⟩, (box1 w _).2⟩
  | true =>
  cases h1 : wi n1 1 16 with
  | false =>
    go_enter Tryz.func15, Tryz.ntmps15
    go_wp2_with (go_at_call 37; refine (within_calls _ _ _ _).mono ?_; rintro e w' ⟨rfl, rfl⟩)
    go_ret
    exact ⟨false, rfl, ⟨(fun h => by cases h), fun h => absurd h.h1 (by rw [h1]; decide)⟩, (box1 w _).2⟩
  | true =>
  cases h2 : wi n2 1 3 with
  | false =>
    go_enter Tryz.func15, Tryz.ntmps15
    go_wp2_with (go_at_call 37; refine (within_calls _ _ _ _).mono ?_; rintro e w' ⟨rfl, rfl⟩)
    go_ret
    exact ⟨false, rfl, ⟨(fun h => by cases h), fun h => absurd h.h2 (by rw [h2]; decide)⟩, (box1 w _).2⟩
  | true =>
  cases h3 : wi n3 1 3 with
  | false =>
    go_enter Tryz.func15, Tryz.ntmps15
    go_wp2_with (go_at_call 37; refine (within_calls _ _ _ _).mono ?_; rintro e w' ⟨rfl, rfl⟩)
    go_ret
    exact ⟨false, rfl, ⟨(fun h => by cases h), fun h => absurd h.h3 (by rw [h3]; decide)⟩, (box1 w _).2⟩
  | true =>
  by_cases hl4 : ls.length ≤ 4
  · have hd4 : decide ((4 : Int) < (ls.length : Int)) = false := decide_eq_false (by omega)
    by_cases hpn : (2 : Int) ^ ls.length ≤ n1
    · have hdp : decide (n1 < IntKind.i64.wrap ((2 : Int) ^ ls.length)) = false := decide_eq_false (by rw [shl_eq hl4]; omega)
      have HPN := Aside0.mk hpn
      clear hpn
      by_cases hl5 : ss.length ≤ 400
      · have hd5 : decide ((400 : Int) < (ss.length : Int)) = false := decide_eq_false (by omega)
        exact absurd ⟨h0, h1, h2, h3, hl4, HPN.out, hl5⟩ HNN.out
      · have hd5 : decide ((400 : Int) < (ss.length : Int)) = true := decide_eq_true (by omega)
        go_enter Tryz.func15, Tryz.ntmps15
        go_upto_region 4 with (go_at_call 37; refine (within_calls _ _ _ _).mono ?_; rintro e w' ⟨rfl, rfl⟩)
        go_quiet (fail)
        go_wp2
        go_ret
        exact ⟨false, rfl, ⟨(fun h => by cases h), fun h => absurd h.len5 hl5⟩, pw_below_drewN (box1 w _).2 nq⟩
    · have hdp : decide (n1 < IntKind.i64.wrap ((2 : Int) ^ ls.length)) = true := decide_eq_true (by rw [shl_eq hl4]; omega)
      have HPN := Aside0.mk hpn
      clear hpn
      go_enter Tryz.func15, Tryz.ntmps15
      go_upto_region 4 with (go_at_call 37; refine (within_calls _ _ _ _).mono ?_; rintro e w' ⟨rfl, rfl⟩)
      go_quiet (fail)
      go_wp2
      go_ret
      exact ⟨false, rfl, ⟨(fun h => by cases h), fun h => absurd h.pow (fun q => absurd q (by have := HPN.out; omega))⟩, pw_below_drewN (box1 w _).2 nq⟩
  · have hd4 : decide ((4 : Int) < (ls.length : Int)) = true := decide_eq_true (by omega)
    go_enter Tryz.func15, Tryz.ntmps15
    go_upto_region 4 with (go_at_call 37; refine (within_calls _ _ _ _).mono ?_; rintro e w' ⟨rfl, rfl⟩)
    go_quiet (fail)
    go_wp2
    go_ret
    exact ⟨false, rfl, ⟨(fun h => by cases h), fun h => absurd h.len4 hl4⟩, pw_below_drewN (box1 w _).2 nq⟩
end Go.Proofs.YtailpfcbdopfeaaGreatDoor.F
/- tape.Valid, by hand: behind its first tests. -/
namespace Go.Proofs.YtailpfcbdopfeaaGreatDoor.F
open Go.RowKit Go.Proofs.YtailpfcbdopfeaaGreatDoorW.PrintWords Go.Proofs.YtailpfcbdopfeaaGreatDoorW.PrintLast Go.Proofs.YtailpfcbdopfeaaGreatDoorW.PrintMore
set_option linter.unusedVariables false
set_option linter.unusedSimpArgs false
theorem nodup_take {α : Type} {l : List α} {i : Nat} {x : α} (h : l.Nodup) (hx : l[i]? = some x) (hm : x ∈ l.take i) : False := by
  obtain ⟨j, hj, e⟩ := List.mem_iff_getElem?.1 hm |>.imp fun j hj => (⟨(by
    rcases Nat.lt_or_ge j (l.take i).length with h1 | h1
    · exact h1
    · rw [List.getElem?_eq_none h1] at hj
      cases hj), hj⟩ : ∃ _ : j < (l.take i).length, (l.take i)[j]? = some x)
  rw [List.length_take] at hj
  rw [List.getElem?_take, if_pos (by omega)] at e
  have hi : i < l.length := by
    rcases Nat.lt_or_ge i l.length with h1 | h1
    · exact h1
    · rw [List.getElem?_eq_none h1] at hx
      cases hx
  have := (List.getElem?_inj (by omega) h).1 (e.trans hx.symm)
  omega
theorem nodup_snoc {α : Type} {l : List α} {x : α} (h : l.Nodup) (hx : x ∉ l) : (l ++ [x]).Nodup := by
  rw [List.nodup_append]
  refine ⟨h, by simp, fun a ha b hb e => ?_⟩
  rw [List.mem_singleton] at hb
  exact hx (hb ▸ e ▸ ha)
theorem name_small {s : ByteArray} (h : nameB s = true) : s.size ≤ 12 := by
  unfold nameB at h
  simp only [Bool.and_eq_true, decide_eq_true_eq] at h
  exact h.1.1.1.2
theorem lit_small {n : Int} {l : S42} (h : litB n l = true) : l.f2.size ≤ 1000000 ∧ l.f3.length ≤ 1000000 := by
  unfold litB at h
  split at h
  · cases h
  split at h
  · split at h
    · rename_i hn
      have h1 := of_decide_eq_true h
      exact ⟨Nat.le_trans (name_small hn) (by omega), by omega⟩
    · cases h
  split at h
  · split at h
    · rename_i he
      have h1 := (toList_nil l.f2).1 he
      have h2 : (l.f3.length : Int) = 2 := by simpa using h
      exact ⟨by omega, by omega⟩
    · cases h
  split at h
  · split at h
    · rename_i he
      have h1 := (toList_nil l.f2).1 he
      have h2 : (l.f3.length : Int) = 2 := by simpa using h
      exact ⟨by omega, by omega⟩
    · cases h
  · cases h
set_option maxHeartbeats 8000000 in
set_option maxRecDepth 100000 in
theorem valid_rest (n0 n1 n2 n3 : Int) (A4 : Option Addr) (c4 : Nat) (ls : List S42) (A5 : Option Addr) (c5 : Nat) (ss : List S69) (w : World) (hr4 : Kd.C k42 w A4 ls.length ls) (hc4 : ls.length ≤ c4) (hr5 : Kd.C k69 w A5 ss.length ss) (hc5 : ss.length ≤ c5) (hst : ∀ x ∈ ss, stepW x) (h0 : wi n0 2 400 = true) (h1 : wi n1 1 16 = true) (h2 : wi n2 1 3 = true) (h3 : wi n3 1 3 = true) (hl4 : ls.length ≤ 4) (hpn : (2 : Int) ^ ls.length ≤ n1) (hl5 : ss.length ≤ 400) :
    Calls Tryz.prog 15 #[.agg #[.int .i64 n0, .int .i64 n1, .int .i64 n2, .int .i64 n3, .slice A4 ls.length c4, .slice A5 ss.length c5]] w fun e w' => ∃ b : Bool, e = .returned (.bool b) ∧ (b = true ↔ TapeOk n0 n1 n2 n3 ls ss) ∧ Below w.heap.size w w' := by
  have H4 := Aside0.mk hr4
  have H5 := Aside0.mk hr5
  have HST := Aside0.mk hst
  have hmm := @run_makeMap Tryz.prog
  have hd4 : decide ((4 : Int) < (ls.length : Int)) = false := decide_eq_false (by omega)
  have hdp : decide (n1 < IntKind.i64.wrap ((2 : Int) ^ ls.length)) = false := decide_eq_false (by rw [shl_eq hl4]; omega)
  have HPN := Aside0.mk hpn
  have hd5 : decide ((400 : Int) < (ss.length : Int)) = false := decide_eq_false (by omega)
  clear hr4 hr5 hst hpn
  go_enter Tryz.func15, Tryz.ntmps15
  go_upto_region 4 with (go_at_call 37; refine (within_calls _ _ _ _).mono ?_; rintro e w' ⟨rfl, rfl⟩)
  go_quiet (fail)
  clear hdp
  generalize IntKind.i64.wrap ((2 : Int) ^ ls.length) = p43
  have K1 : Aside0 (((w.alloc (.cells #[.int .i64 n0, .int .i64 n1, .int .i64 n2, .int .i64 n3, .slice A4 ls.length c4, .slice A5 ss.length c5] 25)).drewN nq).heap[w.heap.size]? = some (.cells #[.int .i64 n0, .int .i64 n1, .int .i64 n2, .int .i64 n3, .slice A4 ls.length c4, .slice A5 ss.length c5] 25 (0, 0))) := ⟨(box1 w _).1⟩
  have HB := Aside0.mk (pw_below_drewN (box1 w (.cells #[.int .i64 n0, .int .i64 n1, .int .i64 n2, .int .i64 n3, .slice A4 ls.length c4, .slice A5 ss.length c5] 25)).2 nq)
  generalize (w.alloc (.cells #[.int .i64 n0, .int .i64 n1, .int .i64 n2, .int .i64 n3, .slice A4 ls.length c4, .slice A5 ss.length c5] 25)).drewN nq = W1 at *
  have p4 : W1.cell? ⟨w.heap.size, 4, none⟩ = some (.slice A4 ls.length c4) := (blk_cell K1.out 4).trans rfl
  go_wp2_with fail
  have HLB := Aside0.mk (List.any_eq_true (l := ls) (p := fun l => !litB n2 l))
  have hcon := contains_lit 39 #[.pointer (some ⟨w.heap.size, 0, none⟩)] (fun l => !litB n2 l) A4 c4 ls W1 (enters_of Tryz.func39 (by kernel_rfl) rfl) (Kd.C_below H4.out HB.out) hc4 (valid2_pred n2 w.heap.size W1 (blk_lt K1.out) ((blk_cell K1.out 2).trans rfl))
  refine hcon.mono ?_
  clear hcon
  cases hany : ls.any (fun l => !litB n2 l) with
  | true =>
    rintro e w2 ⟨rfl, hb2⟩
    have hno : ¬ TapeOk n0 n1 n2 n3 ls ss := fun h => by
      obtain ⟨l, hl, e⟩ := List.any_eq_true.1 hany
      rw [h.lit l hl] at e
      cases e
    replace HB := belB HB hb2
    go_wp2
    go_ret
    exact ⟨false, rfl, ⟨(fun h => by cases h), fun h => absurd h hno⟩, HB.out⟩
  | false =>
    rintro e w2 ⟨rfl, hb2⟩
    have HLIT : Aside0 (∀ l ∈ ls, litB n2 l = true) := ⟨fun l hl => by
      have := List.any_eq_false.1 hany l hl
      simpa using this⟩
    clear HLB hany p4
    replace HB := belB HB hb2
    replace K1 := blkB K1 hb2
    clear hb2
    have hgs := HB.out.size
    have h1s := blk_lt K1.out
    have hba := (box1 w2 (.map #[] 0)).2
    replace HB := belB HB hba
    replace K1 := blkB K1 hba
    have p5 : (w2.alloc (.map #[] 0)).cell? ⟨w.heap.size, 5, none⟩ = some (.slice A5 ss.length c5) := (blk_cell K1.out 5).trans rfl
    go_wp2
    have HM := Aside0.mk (World.ownsMap_made w2 Tryz.prog 69 (plainElem (H := Unit) Tryz.prog 4))
    obtain ⟨gm, hgm⟩ : ∃ g, w2.heap.size = g := ⟨_, rfl⟩
    have hgw : w.heap.size < gm := by omega
    have hgw' : w.heap.size ≤ gm := by omega
    have hgwn : w.heap.size ≠ gm := by omega
    rw [hgm] at HM
    simp only [hgm]
    clear hba p5 hgs h1s hgm
    generalize w2.alloc (.map #[] 0) = W3 at *
    go_loopw [62] (fun v62 wr => ∃ (i : Nat) (D : DataW Unit), v62 = .int .i64 i ∧ i ≤ ss.length ∧ Aside0 (wr.ownsMap Tryz.prog 69 (plainElem (H := Unit) Tryz.prog 4) gm i D) ∧ Aside0 (StepD (ss.take i) D) ∧ Aside0 (ss.take i).Nodup ∧ Aside0 (∀ x ∈ ss.take i, stepB n0 n1 x = true)
      ∧ Aside0 (wr.heap[w.heap.size]? = some (.cells #[.int .i64 n0, .int .i64 n1, .int .i64 n2, .int .i64 n3, .slice A4 ls.length c4, .slice A5 ss.length c5] 25 (0, 0))) ∧ Aside0 (Below w.heap.size w wr)) (fun v62 _ => ss.length - (intOf v62).toNat)
    case atStart => exact ⟨0, _, rfl, Nat.zero_le _, HM, ⟨by rw [List.take_zero]; exact StepD.nil⟩, ⟨by simp⟩, ⟨fun x hx => by simp at hx⟩, K1, HB⟩
    case round =>
      clear HM HB K1
      obtain ⟨i, D, rfl, hi, HM, HD, HN, HOK, K1, HB⟩ := hrel
      generalize wr = wq at *
      by_cases hlt : i < ss.length
      · obtain ⟨ad, hA, hz0, hz1, hz2, hz3, hz4⟩ := at_T69 (Kd.C_below H5.out HB.out) (i : Int) (by omega) (by omega)
        subst hA
        simp only [Int.toNat_natCast] at hz0 hz1 hz2 hz3 hz4
        have hx := rds_step hlt
        have HXW := HST.out _ (List.mem_of_getElem? hx)
        generalize rd_T69 ss (i : Int) = x at *
        have HXI := Aside0.mk hx
        clear hx
        have HKX := Aside0.mk (step_key HXW)
        have HAT := Aside0.mk (HD.out x HXW)
        have p0 : wq.cell? ⟨w.heap.size, 0, none⟩ = some (.int .i64 n0) := (blk_cell K1.out 0).trans rfl
        have p1 : wq.cell? ⟨w.heap.size, 1, none⟩ = some (.int .i64 n1) := (blk_cell K1.out 1).trans rfl
        have hbx := (box1 wq (.cells #[.int .i64 x.f0, .int .i64 x.f1, .int .i64 x.f2, .int .i64 x.f3, .int .i64 x.f4] 69)).2
        have K2 := blkB K1 hbx
        have HB2 := belB HB hbx
        have q0 : (wq.alloc (.cells #[.int .i64 x.f0, .int .i64 x.f1, .int .i64 x.f2, .int .i64 x.f3, .int .i64 x.f4] 69)).cell? ⟨w.heap.size, 0, none⟩ = some (.int .i64 n0) := (blk_cell K2.out 0).trans rfl
        have q1 : (wq.alloc (.cells #[.int .i64 x.f0, .int .i64 x.f1, .int .i64 x.f2, .int .i64 x.f3, .int .i64 x.f4] 69)).cell? ⟨w.heap.size, 1, none⟩ = some (.int .i64 n1) := (blk_cell K2.out 1).trans rfl
        have HMEM := Aside0.mk (List.mem_of_getElem? HXI.out)
        clear hbx
        have hb0 : 2 ≤ n0 ∧ n0 ≤ 400 := by simpa [wi] using h0
        have hb1 : 1 ≤ n1 ∧ n1 ≤ 16 := by simpa [wi] using h1
        obtain ⟨hb00, hb01⟩ := hb0
        obtain ⟨hb10, hb11⟩ := hb1
        cases hm : decide (x ∈ ss.take i) with
        | true =>
          have HAT2 := Aside0.mk (HAT.out.trans (by rw [hm]))
          have hno : ¬ TapeOk n0 n1 n2 n3 ls ss := fun h => nodup_take h.nodup HXI.out (by simpa using hm)
          go_wp2_with (first | (at_lookup; refine wpList_lookup_own_bool _ rfl _ _ 80 rfl 69 4 step_keyed Tryz.underlying80 Tryz.underlying4 (Tryz.zeroValue4 _) gm i D rfl (HM.out.alloc _) _ _ rfl HKX.out true HAT2.out ?_) | (go_at_call 37; refine (within_calls _ _ _ _).mono ?_; rintro e w' ⟨rfl, rfl⟩))
          go_ret
          exact ⟨false, rfl, ⟨(fun h => by cases h), fun h => absurd h hno⟩, HB2.out⟩
        | false =>
        have HAT2 := Aside0.mk (HAT.out.trans (by rw [hm]))
        cases he : (x.f0 == 1) with
        | true =>
          have hno : ¬ TapeOk n0 n1 n2 n3 ls ss := fun h => absurd (h.step x HMEM.out) (by unfold stepB; rw [he]; simp)
          go_wp2_with (first | (at_lookup; refine wpList_lookup_own_bool _ rfl _ _ 80 rfl 69 4 step_keyed Tryz.underlying80 Tryz.underlying4 (Tryz.zeroValue4 _) gm i D rfl (HM.out.alloc _) _ _ rfl HKX.out false HAT2.out ?_) | (go_at_call 37; refine (within_calls _ _ _ _).mono ?_; rintro e w' ⟨rfl, rfl⟩))
          go_ret
          exact ⟨false, rfl, ⟨(fun h => by cases h), fun h => absurd h hno⟩, HB2.out⟩
        | false =>
        cases ha : wi x.f0 0 (n0 - 1) with
        | false =>
          have hno : ¬ TapeOk n0 n1 n2 n3 ls ss := fun h => absurd (h.step x HMEM.out) (by unfold stepB; rw [ha]; simp)
          go_wp2_with (first | (at_lookup; refine wpList_lookup_own_bool _ rfl _ _ 80 rfl 69 4 step_keyed Tryz.underlying80 Tryz.underlying4 (Tryz.zeroValue4 _) gm i D rfl (HM.out.alloc _) _ _ rfl HKX.out false HAT2.out ?_) | (go_at_call 37; refine (within_calls _ _ _ _).mono ?_; rintro e w' ⟨rfl, rfl⟩))
          go_ret
          exact ⟨false, rfl, ⟨(fun h => by cases h), fun h => absurd h hno⟩, HB2.out⟩
        | true =>
        cases hb : wi x.f2 0 (n0 - 1) with
        | false =>
          have hno : ¬ TapeOk n0 n1 n2 n3 ls ss := fun h => absurd (h.step x HMEM.out) (by unfold stepB; rw [hb]; simp)
          go_wp2_with (first | (at_lookup; refine wpList_lookup_own_bool _ rfl _ _ 80 rfl 69 4 step_keyed Tryz.underlying80 Tryz.underlying4 (Tryz.zeroValue4 _) gm i D rfl (HM.out.alloc _) _ _ rfl HKX.out false HAT2.out ?_) | (go_at_call 37; refine (within_calls _ _ _ _).mono ?_; rintro e w' ⟨rfl, rfl⟩))
          go_ret
          exact ⟨false, rfl, ⟨(fun h => by cases h), fun h => absurd h hno⟩, HB2.out⟩
        | true =>
        cases hc : wi x.f1 0 (n1 - 1) with
        | false =>
          have hno : ¬ TapeOk n0 n1 n2 n3 ls ss := fun h => absurd (h.step x HMEM.out) (by unfold stepB; rw [hc]; simp)
          go_wp2_with (first | (at_lookup; refine wpList_lookup_own_bool _ rfl _ _ 80 rfl 69 4 step_keyed Tryz.underlying80 Tryz.underlying4 (Tryz.zeroValue4 _) gm i D rfl (HM.out.alloc _) _ _ rfl HKX.out false HAT2.out ?_) | (go_at_call 37; refine (within_calls _ _ _ _).mono ?_; rintro e w' ⟨rfl, rfl⟩))
          go_ret
          exact ⟨false, rfl, ⟨(fun h => by cases h), fun h => absurd h hno⟩, HB2.out⟩
        | true =>
        cases hd : wi x.f3 0 (n1 - 1) with
        | false =>
          have hno : ¬ TapeOk n0 n1 n2 n3 ls ss := fun h => absurd (h.step x HMEM.out) (by unfold stepB; rw [hd]; simp)
          go_wp2_with (first | (at_lookup; refine wpList_lookup_own_bool _ rfl _ _ 80 rfl 69 4 step_keyed Tryz.underlying80 Tryz.underlying4 (Tryz.zeroValue4 _) gm i D rfl (HM.out.alloc _) _ _ rfl HKX.out false HAT2.out ?_) | (go_at_call 37; refine (within_calls _ _ _ _).mono ?_; rintro e w' ⟨rfl, rfl⟩))
          go_ret
          exact ⟨false, rfl, ⟨(fun h => by cases h), fun h => absurd h hno⟩, HB2.out⟩
        | true =>
        cases hf : wi x.f4 (-1) 1 with
        | false =>
          have hno : ¬ TapeOk n0 n1 n2 n3 ls ss := fun h => absurd (h.step x HMEM.out) (by unfold stepB; rw [hf]; simp)
          go_wp2_with (first | (at_lookup; refine wpList_lookup_own_bool _ rfl _ _ 80 rfl 69 4 step_keyed Tryz.underlying80 Tryz.underlying4 (Tryz.zeroValue4 _) gm i D rfl (HM.out.alloc _) _ _ rfl HKX.out false HAT2.out ?_) | (go_at_call 37; refine (within_calls _ _ _ _).mono ?_; rintro e w' ⟨rfl, rfl⟩))
          go_ret
          exact ⟨false, rfl, ⟨(fun h => by cases h), fun h => absurd h hno⟩, HB2.out⟩
        | true =>
        have HBO : Aside0 (stepB n0 n1 x = true) := ⟨by unfold stepB; rw [he, ha, hb, hc, hd, hf]; rfl⟩
        have HMM : Aside0 (x ∉ ss.take i) := ⟨by simpa using hm⟩
        go_wp2_with (first | (at_lookup; refine wpList_lookup_own_bool _ rfl _ _ 80 rfl 69 4 step_keyed Tryz.underlying80 Tryz.underlying4 (Tryz.zeroValue4 _) gm i D rfl (HM.out.alloc _) _ _ rfl HKX.out false HAT2.out ?_) | (go_at_call 37; refine (within_calls _ _ _ _).mono ?_; rintro e w' ⟨rfl, rfl⟩) | (at_mapUpdate; refine wpList_mapUpdate_own _ rfl _ _ _ 80 rfl 69 4 step_keyed Tryz.underlying80 _ gm i D rfl (HM.out.alloc _) (by unfold maxLen; omega) _ _ _ rfl rfl HKX.out _ [] (plainElem_bool Tryz.underlying4 true) ?_; intro w1 hown1 hg1))
        replace HB2 := belG HB2 hg1 hgw'
        replace K2 := blkG K2 hg1 hgwn
        have HM1 := Aside0.mk hown1
        clear hown1 hg1
        go_roundw
        case rel => exact ⟨i + 1, _, by go_num, by omega, HM1, ⟨by rw [take_snocG HXI.out]; exact HD.out.put HM.out.isMap x HXW⟩, ⟨by rw [take_snocG HXI.out]; exact nodup_snoc HN.out HMM.out⟩, ⟨by rw [take_snocG HXI.out]; intro y hy; rw [List.mem_append, List.mem_singleton] at hy; rcases hy with hy | rfl; exact HOK.out y hy; exact HBO.out⟩, K2, HB2⟩
        case measure => simp [intOf]; omega
      · obtain rfl : i = ss.length := by omega
        rw [List.take_length] at HN HOK
        have p4 : wq.cell? ⟨w.heap.size, 4, none⟩ = some (.slice A4 ls.length c4) := (blk_cell K1.out 4).trans rfl
        have hbq := HB.out
        go_wp2_with fail
        refine (symbols_calls A4 c4 ls wq (Kd.C_below H4.out HB.out) hc4 (fun x hx => lit_small (HLIT.out x hx)) (by omega)).mono ?_
        rintro e w9 ⟨v, b, rfl, hb, hb9⟩
        replace HB := belB HB hb9
        have HOKS := Aside0.mk hb
        clear hb hb9 hbq
        go_wp2
        go_ret
        exact ⟨b, rfl, ⟨fun h => ⟨h0, h1, h2, h3, hl4, HPN.out, hl5, HLIT.out, HOK.out, HN.out, HOKS.out.1 h⟩, fun h => HOKS.out.2 h.sym⟩, HB.out⟩
end Go.Proofs.YtailpfcbdopfeaaGreatDoor.F
/- tape.Valid: what it answers. -/
namespace Go.Proofs.YtailpfcbdopfeaaGreatDoor.F
open Go.RowKit Go.Proofs.YtailpfcbdopfeaaGreatDoorW.PrintWords Go.Proofs.YtailpfcbdopfeaaGreatDoorW.PrintLast Go.Proofs.YtailpfcbdopfeaaGreatDoorW.PrintMore
set_option linter.unusedVariables false
theorem valid_calls (n0 n1 n2 n3 : Int) (A4 : Option Addr) (c4 : Nat) (ls : List S42) (A5 : Option Addr) (c5 : Nat) (ss : List S69) (w : World) (hr4 : Kd.C k42 w A4 ls.length ls) (hc4 : ls.length ≤ c4) (hr5 : Kd.C k69 w A5 ss.length ss) (hc5 : ss.length ≤ c5) (hst : ∀ x ∈ ss, stepW x) :
    Calls Tryz.prog 15 #[.agg #[.int .i64 n0, .int .i64 n1, .int .i64 n2, .int .i64 n3, .slice A4 ls.length c4, .slice A5 ss.length c5]] w fun e w' => ∃ b : Bool, e = .returned (.bool b) ∧ (b = true ↔ TapeOk n0 n1 n2 n3 ls ss) ∧ Below w.heap.size w w' := by
  by_cases h : wi n0 2 400 = true ∧ wi n1 1 16 = true ∧ wi n2 1 3 = true ∧ wi n3 1 3 = true ∧ ls.length ≤ 4 ∧ (2 : Int) ^ ls.length ≤ n1 ∧ ss.length ≤ 400
  · obtain ⟨h0, h1, h2, h3, h4, h5, h6⟩ := h
    exact valid_rest n0 n1 n2 n3 A4 c4 ls A5 c5 ss w hr4 hc4 hr5 hc5 hst h0 h1 h2 h3 h4 h5 h6
  · exact valid_head n0 n1 n2 n3 A4 c4 ls A5 c5 ss w hr4 hc4 hr5 hc5 h
instance (ls : List S42) : Decidable (SymOk ls) := by unfold SymOk; infer_instance
instance (x : S69) : Decidable (stepW x) := by unfold stepW; infer_instance
theorem tapeOk_iff (n0 n1 n2 n3 : Int) (ls : List S42) (ss : List S69) : (wi n0 2 400 = true ∧ wi n1 1 16 = true ∧ wi n2 1 3 = true ∧ wi n3 1 3 = true ∧ ls.length ≤ 4 ∧ (2 ^ ls.length : Int) ≤ n1 ∧ ss.length ≤ 400 ∧ (∀ l ∈ ls, litB n2 l = true) ∧ (∀ x ∈ ss, stepB n0 n1 x = true) ∧ ss.Nodup ∧ SymOk ls) ↔ TapeOk n0 n1 n2 n3 ls ss :=
  ⟨fun ⟨h0, h1, h2, h3, h4, h5, h6, h7, h8, h9, h10⟩ => ⟨h0, h1, h2, h3, h4, h5, h6, h7, h8, h9, h10⟩, fun ⟨h0, h1, h2, h3, h4, h5, h6, h7, h8, h9, h10⟩ => ⟨h0, h1, h2, h3, h4, h5, h6, h7, h8, h9, h10⟩⟩
instance (n0 n1 n2 n3 : Int) (ls : List S42) (ss : List S69) : Decidable (TapeOk n0 n1 n2 n3 ls ss) := decidable_of_iff _ (tapeOk_iff n0 n1 n2 n3 ls ss)
/-- What tape.Valid answers, for the printer. -/
def tape_Valid.f (k : Nat) (n0 n1 n2 n3 : Int) (ls : List S42) (ss : List S69) : Option Bool :=
  if (∀ x ∈ ss, stepW x) then some (decide (TapeOk n0 n1 n2 n3 ls ss)) else none
theorem tape_Valid.mono : ∀ n0 n1 n2 n3 ls ss k, LeO (tape_Valid.f k n0 n1 n2 n3 ls ss) (tape_Valid.f (k + 1) n0 n1 n2 n3 ls ss) := fun _ _ _ _ _ _ _ => LeO.refl _
theorem tape_Valid.calls (k : Nat) (n0 n1 n2 n3 : Int) (A4 : Option Addr) (c4 : Nat) (ls : List S42) (A5 : Option Addr) (c5 : Nat) (ss : List S69) (r : Bool) (w : World) (hr4 : Kd.C k42 w A4 ls.length ls) (hc4 : ls.length ≤ c4) (hr5 : Kd.C k69 w A5 ss.length ss) (hc5 : ss.length ≤ c5) (h : tape_Valid.f k n0 n1 n2 n3 ls ss = some r) :
    Calls Tryz.prog 15 #[.agg #[.int .i64 n0, .int .i64 n1, .int .i64 n2, .int .i64 n3, .slice A4 ls.length c4, .slice A5 ss.length c5]] w fun e w' => e = .returned (.bool r) ∧ Below w.heap.size w w' := by
  unfold tape_Valid.f at h
  split at h
  · rename_i hp
    obtain rfl := Option.some.inj h
    refine (valid_calls n0 n1 n2 n3 A4 c4 ls A5 c5 ss w hr4 hc4 hr5 hc5 hp).mono ?_
    rintro e w' ⟨b, rfl, hb, hB⟩
    refine ⟨?_, hB⟩
    cases b with
    | true => rw [decide_eq_true (hb.1 rfl)]
    | false => rw [decide_eq_false (fun q => by cases hb.2 q)]
  · cases h
end Go.Proofs.YtailpfcbdopfeaaGreatDoor.F
namespace Go.Proofs.YtailpfcbdopfeaaGreatDoor.F
open Go.RowKit Go.Proofs.YtailpfcbdopfeaaGreatDoorW.PrintWords Go.Proofs.YtailpfcbdopfeaaGreatDoorW.PrintLast Go.Proofs.YtailpfcbdopfeaaGreatDoorW.PrintMore
attribute [local go_sem] max2_int min2_int max_two min_two max_three min_three max_four min_four
set_option linter.unusedVariables false
set_option linter.unusedSimpArgs false
/-! ### paraphrastref16_step: function 32 -/
def paraphrastref16_step.f (a0_0 : Int) (a0_1 : Int) (a0_2 : Int) (a0_3 : Int) (l0_4 : List (S42)) (l0_5 : List (S69)) (a1_0 : Int) (a1_1 : Int) (a1_2 : Int) (a1_3 : Int) (a1_4 : Int) : Option (Bool) := if a1_0 ≥ 0 then (if a1_0 < a0_0 then (if a1_0 = 1 then (some false) else (if a1_2 ≥ 0 then (if a1_2 < a0_0 then (if a1_1 ≥ 0 then (if a1_1 < a0_1 then (if a1_3 ≥ 0 then (if a1_3 < a0_1 then (if a1_4 ≥ (-1) then (some (decide (a1_4 ≤ 1))) else (some false)) else (some false)) else (some false)) else (some false)) else (some false)) else (some false)) else (some false))) else (some false)) else (some false)
set_option maxHeartbeats 8000000 in
set_option maxRecDepth 100000 in
theorem paraphrastref16_step.calls (a0_0 : Int) (a0_1 : Int) (a0_2 : Int) (a0_3 : Int) (A0_4 : Option Addr) (c0_4 : Nat) (l0_4 : List (S42)) (A0_5 : Option Addr) (c0_5 : Nat) (l0_5 : List (S69)) (a1_0 : Int) (a1_1 : Int) (a1_2 : Int) (a1_3 : Int) (a1_4 : Int) (r : Bool) (w : World) (hr0_4 : Kd.C k42 w A0_4 l0_4.length l0_4) (hc0_4 : l0_4.length ≤ c0_4) (hr0_5 : Kd.C k69 w A0_5 l0_5.length l0_5) (hc0_5 : l0_5.length ≤ c0_5) (h : paraphrastref16_step.f a0_0 a0_1 a0_2 a0_3 l0_4 l0_5 a1_0 a1_1 a1_2 a1_3 a1_4 = some r) :
  Calls Tryz.prog 32 #[.agg #[.int .i64 a0_0, .int .i64 a0_1, .int .i64 a0_2, .int .i64 a0_3, .slice A0_4 l0_4.length c0_4, .slice A0_5 l0_5.length c0_5], .agg #[.int .i64 a1_0, .int .i64 a1_1, .int .i64 a1_2, .int .i64 a1_3, .int .i64 a1_4]] w fun e w' => e = .returned (.bool r) ∧ Below w.heap.size w w' := by
 have hu25 := Tryz.underlying25
 have hu69 := Tryz.underlying69
 have HR0_4 := Aside0.mk hr0_4
 have HC0_4 := Aside0.mk hc0_4
 clear hr0_4 hc0_4
 have HR0_5 := Aside0.mk hr0_5
 have HC0_5 := Aside0.mk hc0_5
 clear hr0_5 hc0_5
 have HB := Aside0.mk (Below.refl w.heap.size w)
 have H : (if a1_0 ≥ 0 then (if a1_0 < a0_0 then (if a1_0 = 1 then (some false) else (if a1_2 ≥ 0 then (if a1_2 < a0_0 then (if a1_1 ≥ 0 then (if a1_1 < a0_1 then (if a1_3 ≥ 0 then (if a1_3 < a0_1 then (if a1_4 ≥ (-1) then (some (decide (a1_4 ≤ 1))) else (some false)) else (some false)) else (some false)) else (some false)) else (some false)) else (some false)) else (some false))) else (some false)) else (some false)) = some r := h
 clear h
 by_cases c3 : a1_0 ≥ 0
 ·rw [if_pos c3] at H
  have c3b0 : decide (0 ≤ a1_0) = true := decide_eq_true c3
  clear c3
  by_cases c4 : a1_0 < a0_0
  ·rw [if_pos c4] at H
   have c4b0 : decide (a1_0 < a0_0) = true := decide_eq_true c4
   clear c4
   by_cases c5 : a1_0 = 1
   ·rw [if_pos c5] at H
    have c5b0 : (a1_0 == 1) = true := beq_iff_eq.mpr c5
    have c5b1 : (a1_0 != 1) = false := bne_eq_false_iff_eq.mpr c5
    clear c5
    obtain rfl := Option.some.inj H
    go_enter Tryz.func32, Tryz.ntmps32
    go_wp2_with (first | ((with_reducible refine gate_dst (N := 2) rfl ?_); refine box_event ?hg (N := 2) ?hd (cs := #[.int .i64 a0_0, .int .i64 a0_1, .int .i64 a0_2, .int .i64 a0_3, .slice A0_4 l0_4.length c0_4, .slice A0_5 l0_5.length c0_5]) (t := 25) ?hr ?_; (case hd => rfl); (case hg => rfl); (case hr => first | (go_simp; done) | (go_simp; rfl)); intro gb158 hg w6 hbox hb; have BK158 := Aside0.mk (hbox); have GW158 := geB w hg; have GE158 := geB w hg; replace HB := Aside0.mk (below_step bel hb); clear hb hbox hg) | ((with_reducible refine gate_dst (N := 3) rfl ?_); refine box_event ?hg (N := 3) ?hd (cs := #[.int .i64 a1_0, .int .i64 a1_1, .int .i64 a1_2, .int .i64 a1_3, .int .i64 a1_4]) (t := 69) ?hr ?_; (case hd => rfl); (case hg => rfl); (case hr => first | (go_simp; done) | (go_simp; rfl)); intro gb159 hg w7 hbox hb; have BK159 := Aside0.mk (hbox); have GW159 := geB w hg; have GE159 := geB w hg; have NB158_159 := neL BK158 hg; have NB159_158 := neG BK158 hg; replace BK158 := blB BK158 hb; replace HB := Aside0.mk (below_step bel hb); clear hb hbox hg; have hnb8 := NB159_158.out; have hnc8 := NB158_159.out; have hcz9_0 : w7.cell? ⟨gb159, 0, none⟩ = some (.int .i64 a1_0) := (blk_cell BK159.out 0).trans rfl; have hcz9_1 : w7.cell? ⟨gb159, 1, none⟩ = some (.int .i64 a1_1) := (blk_cell BK159.out 1).trans rfl; have hcz9_2 : w7.cell? ⟨gb159, 2, none⟩ = some (.int .i64 a1_2) := (blk_cell BK159.out 2).trans rfl; have hcz9_3 : w7.cell? ⟨gb159, 3, none⟩ = some (.int .i64 a1_3) := (blk_cell BK159.out 3).trans rfl; have hcz9_4 : w7.cell? ⟨gb159, 4, none⟩ = some (.int .i64 a1_4) := (blk_cell BK159.out 4).trans rfl; have hfz9_0 := blk_frozen BK159.out 0; have hfz9_1 := blk_frozen BK159.out 1; have hfz9_2 := blk_frozen BK159.out 2; have hfz9_3 := blk_frozen BK159.out 3; have hfz9_4 := blk_frozen BK159.out 4; have hcz10_0 : w7.cell? ⟨gb158, 0, none⟩ = some (.int .i64 a0_0) := (blk_cell BK158.out 0).trans rfl; have hcz10_1 : w7.cell? ⟨gb158, 1, none⟩ = some (.int .i64 a0_1) := (blk_cell BK158.out 1).trans rfl; have hcz10_2 : w7.cell? ⟨gb158, 2, none⟩ = some (.int .i64 a0_2) := (blk_cell BK158.out 2).trans rfl; have hcz10_3 : w7.cell? ⟨gb158, 3, none⟩ = some (.int .i64 a0_3) := (blk_cell BK158.out 3).trans rfl; have hcz10_4 : w7.cell? ⟨gb158, 4, none⟩ = some (.slice A0_4 l0_4.length c0_4) := (blk_cell BK158.out 4).trans rfl; have hcz10_5 : w7.cell? ⟨gb158, 5, none⟩ = some (.slice A0_5 l0_5.length c0_5) := (blk_cell BK158.out 5).trans rfl; have hfz10_0 := blk_frozen BK158.out 0; have hfz10_1 := blk_frozen BK158.out 1; have hfz10_2 := blk_frozen BK158.out 2; have hfz10_3 := blk_frozen BK158.out 3; have hfz10_4 := blk_frozen BK158.out 4; have hfz10_5 := blk_frozen BK158.out 5))
    go_ret
    exact ⟨eN, bel⟩
   ·rw [if_neg c5] at H
    have c5b0 : (a1_0 == 1) = false := beq_eq_false_iff_ne.mpr c5
    have c5b1 : (a1_0 != 1) = true := bne_iff_ne.mpr c5
    by_cases c11 : a1_2 ≥ 0
    ·rw [if_pos c11] at H
     have c11b0 : decide (0 ≤ a1_2) = true := decide_eq_true c11
     clear c11
     by_cases c12 : a1_2 < a0_0
     ·rw [if_pos c12] at H
      have c12b0 : decide (a1_2 < a0_0) = true := decide_eq_true c12
      clear c12
      by_cases c13 : a1_1 ≥ 0
      ·rw [if_pos c13] at H
       have c13b0 : decide (0 ≤ a1_1) = true := decide_eq_true c13
       clear c13
       by_cases c14 : a1_1 < a0_1
       ·rw [if_pos c14] at H
        have c14b0 : decide (a1_1 < a0_1) = true := decide_eq_true c14
        clear c14
        by_cases c15 : a1_3 ≥ 0
        ·rw [if_pos c15] at H
         have c15b0 : decide (0 ≤ a1_3) = true := decide_eq_true c15
         clear c15
         by_cases c16 : a1_3 < a0_1
         ·rw [if_pos c16] at H
          have c16b0 : decide (a1_3 < a0_1) = true := decide_eq_true c16
          clear c16
          by_cases c17 : a1_4 ≥ (-1)
          ·rw [if_pos c17] at H
           have c17b0 : decide ((-1) ≤ a1_4) = true := decide_eq_true c17
           clear c17
           obtain rfl := Option.some.inj H
           go_enter Tryz.func32, Tryz.ntmps32
           go_wp2_with (first | ((with_reducible refine gate_dst (N := 2) rfl ?_); refine box_event ?hg (N := 2) ?hd (cs := #[.int .i64 a0_0, .int .i64 a0_1, .int .i64 a0_2, .int .i64 a0_3, .slice A0_4 l0_4.length c0_4, .slice A0_5 l0_5.length c0_5]) (t := 25) ?hr ?_; (case hd => rfl); (case hg => rfl); (case hr => first | (go_simp; done) | (go_simp; rfl)); intro gb158 hg w18 hbox hb; have BK158 := Aside0.mk (hbox); have GW158 := geB w hg; have GE158 := geB w hg; replace HB := Aside0.mk (below_step bel hb); clear hb hbox hg) | ((with_reducible refine gate_dst (N := 3) rfl ?_); refine box_event ?hg (N := 3) ?hd (cs := #[.int .i64 a1_0, .int .i64 a1_1, .int .i64 a1_2, .int .i64 a1_3, .int .i64 a1_4]) (t := 69) ?hr ?_; (case hd => rfl); (case hg => rfl); (case hr => first | (go_simp; done) | (go_simp; rfl)); intro gb159 hg w19 hbox hb; have BK159 := Aside0.mk (hbox); have GW159 := geB w hg; have GE159 := geB w hg; have NB158_159 := neL BK158 hg; have NB159_158 := neG BK158 hg; replace BK158 := blB BK158 hb; replace HB := Aside0.mk (below_step bel hb); clear hb hbox hg; have hnb20 := NB159_158.out; have hnc20 := NB158_159.out; have hcz21_0 : w19.cell? ⟨gb159, 0, none⟩ = some (.int .i64 a1_0) := (blk_cell BK159.out 0).trans rfl; have hcz21_1 : w19.cell? ⟨gb159, 1, none⟩ = some (.int .i64 a1_1) := (blk_cell BK159.out 1).trans rfl; have hcz21_2 : w19.cell? ⟨gb159, 2, none⟩ = some (.int .i64 a1_2) := (blk_cell BK159.out 2).trans rfl; have hcz21_3 : w19.cell? ⟨gb159, 3, none⟩ = some (.int .i64 a1_3) := (blk_cell BK159.out 3).trans rfl; have hcz21_4 : w19.cell? ⟨gb159, 4, none⟩ = some (.int .i64 a1_4) := (blk_cell BK159.out 4).trans rfl; have hfz21_0 := blk_frozen BK159.out 0; have hfz21_1 := blk_frozen BK159.out 1; have hfz21_2 := blk_frozen BK159.out 2; have hfz21_3 := blk_frozen BK159.out 3; have hfz21_4 := blk_frozen BK159.out 4; have hcz22_0 : w19.cell? ⟨gb158, 0, none⟩ = some (.int .i64 a0_0) := (blk_cell BK158.out 0).trans rfl; have hcz22_1 : w19.cell? ⟨gb158, 1, none⟩ = some (.int .i64 a0_1) := (blk_cell BK158.out 1).trans rfl; have hcz22_2 : w19.cell? ⟨gb158, 2, none⟩ = some (.int .i64 a0_2) := (blk_cell BK158.out 2).trans rfl; have hcz22_3 : w19.cell? ⟨gb158, 3, none⟩ = some (.int .i64 a0_3) := (blk_cell BK158.out 3).trans rfl; have hcz22_4 : w19.cell? ⟨gb158, 4, none⟩ = some (.slice A0_4 l0_4.length c0_4) := (blk_cell BK158.out 4).trans rfl; have hcz22_5 : w19.cell? ⟨gb158, 5, none⟩ = some (.slice A0_5 l0_5.length c0_5) := (blk_cell BK158.out 5).trans rfl; have hfz22_0 := blk_frozen BK158.out 0; have hfz22_1 := blk_frozen BK158.out 1; have hfz22_2 := blk_frozen BK158.out 2; have hfz22_3 := blk_frozen BK158.out 3; have hfz22_4 := blk_frozen BK158.out 4; have hfz22_5 := blk_frozen BK158.out 5))
           go_ret
           exact ⟨eN, bel⟩
          ·rw [if_neg c17] at H
           have c17b0 : decide ((-1) ≤ a1_4) = false := decide_eq_false c17
           clear c17
           obtain rfl := Option.some.inj H
           go_enter Tryz.func32, Tryz.ntmps32
           go_wp2_with (first | ((with_reducible refine gate_dst (N := 2) rfl ?_); refine box_event ?hg (N := 2) ?hd (cs := #[.int .i64 a0_0, .int .i64 a0_1, .int .i64 a0_2, .int .i64 a0_3, .slice A0_4 l0_4.length c0_4, .slice A0_5 l0_5.length c0_5]) (t := 25) ?hr ?_; (case hd => rfl); (case hg => rfl); (case hr => first | (go_simp; done) | (go_simp; rfl)); intro gb158 hg w23 hbox hb; have BK158 := Aside0.mk (hbox); have GW158 := geB w hg; have GE158 := geB w hg; replace HB := Aside0.mk (below_step bel hb); clear hb hbox hg) | ((with_reducible refine gate_dst (N := 3) rfl ?_); refine box_event ?hg (N := 3) ?hd (cs := #[.int .i64 a1_0, .int .i64 a1_1, .int .i64 a1_2, .int .i64 a1_3, .int .i64 a1_4]) (t := 69) ?hr ?_; (case hd => rfl); (case hg => rfl); (case hr => first | (go_simp; done) | (go_simp; rfl)); intro gb159 hg w24 hbox hb; have BK159 := Aside0.mk (hbox); have GW159 := geB w hg; have GE159 := geB w hg; have NB158_159 := neL BK158 hg; have NB159_158 := neG BK158 hg; replace BK158 := blB BK158 hb; replace HB := Aside0.mk (below_step bel hb); clear hb hbox hg; have hnb25 := NB159_158.out; have hnc25 := NB158_159.out; have hcz26_0 : w24.cell? ⟨gb159, 0, none⟩ = some (.int .i64 a1_0) := (blk_cell BK159.out 0).trans rfl; have hcz26_1 : w24.cell? ⟨gb159, 1, none⟩ = some (.int .i64 a1_1) := (blk_cell BK159.out 1).trans rfl; have hcz26_2 : w24.cell? ⟨gb159, 2, none⟩ = some (.int .i64 a1_2) := (blk_cell BK159.out 2).trans rfl; have hcz26_3 : w24.cell? ⟨gb159, 3, none⟩ = some (.int .i64 a1_3) := (blk_cell BK159.out 3).trans rfl; have hcz26_4 : w24.cell? ⟨gb159, 4, none⟩ = some (.int .i64 a1_4) := (blk_cell BK159.out 4).trans rfl; have hfz26_0 := blk_frozen BK159.out 0; have hfz26_1 := blk_frozen BK159.out 1; have hfz26_2 := blk_frozen BK159.out 2; have hfz26_3 := blk_frozen BK159.out 3; have hfz26_4 := blk_frozen BK159.out 4; have hcz27_0 : w24.cell? ⟨gb158, 0, none⟩ = some (.int .i64 a0_0) := (blk_cell BK158.out 0).trans rfl; have hcz27_1 : w24.cell? ⟨gb158, 1, none⟩ = some (.int .i64 a0_1) := (blk_cell BK158.out 1).trans rfl; have hcz27_2 : w24.cell? ⟨gb158, 2, none⟩ = some (.int .i64 a0_2) := (blk_cell BK158.out 2).trans rfl; have hcz27_3 : w24.cell? ⟨gb158, 3, none⟩ = some (.int .i64 a0_3) := (blk_cell BK158.out 3).trans rfl; have hcz27_4 : w24.cell? ⟨gb158, 4, none⟩ = some (.slice A0_4 l0_4.length c0_4) := (blk_cell BK158.out 4).trans rfl; have hcz27_5 : w24.cell? ⟨gb158, 5, none⟩ = some (.slice A0_5 l0_5.length c0_5) := (blk_cell BK158.out 5).trans rfl; have hfz27_0 := blk_frozen BK158.out 0; have hfz27_1 := blk_frozen BK158.out 1; have hfz27_2 := blk_frozen BK158.out 2; have hfz27_3 := blk_frozen BK158.out 3; have hfz27_4 := blk_frozen BK158.out 4; have hfz27_5 := blk_frozen BK158.out 5))
           go_ret
           exact ⟨eN, bel⟩
         ·rw [if_neg c16] at H
          have c16b0 : decide (a1_3 < a0_1) = false := decide_eq_false c16
          clear c16
          obtain rfl := Option.some.inj H
          go_enter Tryz.func32, Tryz.ntmps32
          go_wp2_with (first | ((with_reducible refine gate_dst (N := 2) rfl ?_); refine box_event ?hg (N := 2) ?hd (cs := #[.int .i64 a0_0, .int .i64 a0_1, .int .i64 a0_2, .int .i64 a0_3, .slice A0_4 l0_4.length c0_4, .slice A0_5 l0_5.length c0_5]) (t := 25) ?hr ?_; (case hd => rfl); (case hg => rfl); (case hr => first | (go_simp; done) | (go_simp; rfl)); intro gb158 hg w28 hbox hb; have BK158 := Aside0.mk (hbox); have GW158 := geB w hg; have GE158 := geB w hg; replace HB := Aside0.mk (below_step bel hb); clear hb hbox hg) | ((with_reducible refine gate_dst (N := 3) rfl ?_); refine box_event ?hg (N := 3) ?hd (cs := #[.int .i64 a1_0, .int .i64 a1_1, .int .i64 a1_2, .int .i64 a1_3, .int .i64 a1_4]) (t := 69) ?hr ?_; (case hd => rfl); (case hg => rfl); (case hr => first | (go_simp; done) | (go_simp; rfl)); intro gb159 hg w29 hbox hb; have BK159 := Aside0.mk (hbox); have GW159 := geB w hg; have GE159 := geB w hg; have NB158_159 := neL BK158 hg; have NB159_158 := neG BK158 hg; replace BK158 := blB BK158 hb; replace HB := Aside0.mk (below_step bel hb); clear hb hbox hg; have hnb30 := NB159_158.out; have hnc30 := NB158_159.out; have hcz31_0 : w29.cell? ⟨gb159, 0, none⟩ = some (.int .i64 a1_0) := (blk_cell BK159.out 0).trans rfl; have hcz31_1 : w29.cell? ⟨gb159, 1, none⟩ = some (.int .i64 a1_1) := (blk_cell BK159.out 1).trans rfl; have hcz31_2 : w29.cell? ⟨gb159, 2, none⟩ = some (.int .i64 a1_2) := (blk_cell BK159.out 2).trans rfl; have hcz31_3 : w29.cell? ⟨gb159, 3, none⟩ = some (.int .i64 a1_3) := (blk_cell BK159.out 3).trans rfl; have hcz31_4 : w29.cell? ⟨gb159, 4, none⟩ = some (.int .i64 a1_4) := (blk_cell BK159.out 4).trans rfl; have hfz31_0 := blk_frozen BK159.out 0; have hfz31_1 := blk_frozen BK159.out 1; have hfz31_2 := blk_frozen BK159.out 2; have hfz31_3 := blk_frozen BK159.out 3; have hfz31_4 := blk_frozen BK159.out 4; have hcz32_0 : w29.cell? ⟨gb158, 0, none⟩ = some (.int .i64 a0_0) := (blk_cell BK158.out 0).trans rfl; have hcz32_1 : w29.cell? ⟨gb158, 1, none⟩ = some (.int .i64 a0_1) := (blk_cell BK158.out 1).trans rfl; have hcz32_2 : w29.cell? ⟨gb158, 2, none⟩ = some (.int .i64 a0_2) := (blk_cell BK158.out 2).trans rfl; have hcz32_3 : w29.cell? ⟨gb158, 3, none⟩ = some (.int .i64 a0_3) := (blk_cell BK158.out 3).trans rfl; have hcz32_4 : w29.cell? ⟨gb158, 4, none⟩ = some (.slice A0_4 l0_4.length c0_4) := (blk_cell BK158.out 4).trans rfl; have hcz32_5 : w29.cell? ⟨gb158, 5, none⟩ = some (.slice A0_5 l0_5.length c0_5) := (blk_cell BK158.out 5).trans rfl; have hfz32_0 := blk_frozen BK158.out 0; have hfz32_1 := blk_frozen BK158.out 1; have hfz32_2 := blk_frozen BK158.out 2; have hfz32_3 := blk_frozen BK158.out 3; have hfz32_4 := blk_frozen BK158.out 4; have hfz32_5 := blk_frozen BK158.out 5))
          go_ret
          exact ⟨eN, bel⟩
        ·rw [if_neg c15] at H
         have c15b0 : decide (0 ≤ a1_3) = false := decide_eq_false c15
         clear c15
         obtain rfl := Option.some.inj H
         go_enter Tryz.func32, Tryz.ntmps32
         go_wp2_with (first | ((with_reducible refine gate_dst (N := 2) rfl ?_); refine box_event ?hg (N := 2) ?hd (cs := #[.int .i64 a0_0, .int .i64 a0_1, .int .i64 a0_2, .int .i64 a0_3, .slice A0_4 l0_4.length c0_4, .slice A0_5 l0_5.length c0_5]) (t := 25) ?hr ?_; (case hd => rfl); (case hg => rfl); (case hr => first | (go_simp; done) | (go_simp; rfl)); intro gb158 hg w33 hbox hb; have BK158 := Aside0.mk (hbox); have GW158 := geB w hg; have GE158 := geB w hg; replace HB := Aside0.mk (below_step bel hb); clear hb hbox hg) | ((with_reducible refine gate_dst (N := 3) rfl ?_); refine box_event ?hg (N := 3) ?hd (cs := #[.int .i64 a1_0, .int .i64 a1_1, .int .i64 a1_2, .int .i64 a1_3, .int .i64 a1_4]) (t := 69) ?hr ?_; (case hd => rfl); (case hg => rfl); (case hr => first | (go_simp; done) | (go_simp; rfl)); intro gb159 hg w34 hbox hb; have BK159 := Aside0.mk (hbox); have GW159 := geB w hg; have GE159 := geB w hg; have NB158_159 := neL BK158 hg; have NB159_158 := neG BK158 hg; replace BK158 := blB BK158 hb; replace HB := Aside0.mk (below_step bel hb); clear hb hbox hg; have hnb35 := NB159_158.out; have hnc35 := NB158_159.out; have hcz36_0 : w34.cell? ⟨gb159, 0, none⟩ = some (.int .i64 a1_0) := (blk_cell BK159.out 0).trans rfl; have hcz36_1 : w34.cell? ⟨gb159, 1, none⟩ = some (.int .i64 a1_1) := (blk_cell BK159.out 1).trans rfl; have hcz36_2 : w34.cell? ⟨gb159, 2, none⟩ = some (.int .i64 a1_2) := (blk_cell BK159.out 2).trans rfl; have hcz36_3 : w34.cell? ⟨gb159, 3, none⟩ = some (.int .i64 a1_3) := (blk_cell BK159.out 3).trans rfl; have hcz36_4 : w34.cell? ⟨gb159, 4, none⟩ = some (.int .i64 a1_4) := (blk_cell BK159.out 4).trans rfl; have hfz36_0 := blk_frozen BK159.out 0; have hfz36_1 := blk_frozen BK159.out 1; have hfz36_2 := blk_frozen BK159.out 2; have hfz36_3 := blk_frozen BK159.out 3; have hfz36_4 := blk_frozen BK159.out 4; have hcz37_0 : w34.cell? ⟨gb158, 0, none⟩ = some (.int .i64 a0_0) := (blk_cell BK158.out 0).trans rfl; have hcz37_1 : w34.cell? ⟨gb158, 1, none⟩ = some (.int .i64 a0_1) := (blk_cell BK158.out 1).trans rfl; have hcz37_2 : w34.cell? ⟨gb158, 2, none⟩ = some (.int .i64 a0_2) := (blk_cell BK158.out 2).trans rfl; have hcz37_3 : w34.cell? ⟨gb158, 3, none⟩ = some (.int .i64 a0_3) := (blk_cell BK158.out 3).trans rfl; have hcz37_4 : w34.cell? ⟨gb158, 4, none⟩ = some (.slice A0_4 l0_4.length c0_4) := (blk_cell BK158.out 4).trans rfl; have hcz37_5 : w34.cell? ⟨gb158, 5, none⟩ = some (.slice A0_5 l0_5.length c0_5) := (blk_cell BK158.out 5).trans rfl; have hfz37_0 := blk_frozen BK158.out 0; have hfz37_1 := blk_frozen BK158.out 1; have hfz37_2 := blk_frozen BK158.out 2; have hfz37_3 := blk_frozen BK158.out 3; have hfz37_4 := blk_frozen BK158.out 4; have hfz37_5 := blk_frozen BK158.out 5))
         go_ret
         exact ⟨eN, bel⟩
       ·rw [if_neg c14] at H
        have c14b0 : decide (a1_1 < a0_1) = false := decide_eq_false c14
        clear c14
        obtain rfl := Option.some.inj H
        go_enter Tryz.func32, Tryz.ntmps32
        go_wp2_with (first | ((with_reducible refine gate_dst (N := 2) rfl ?_); refine box_event ?hg (N := 2) ?hd (cs := #[.int .i64 a0_0, .int .i64 a0_1, .int .i64 a0_2, .int .i64 a0_3, .slice A0_4 l0_4.length c0_4, .slice A0_5 l0_5.length c0_5]) (t := 25) ?hr ?_; (case hd => rfl); (case hg => rfl); (case hr => first | (go_simp; done) | (go_simp; rfl)); intro gb158 hg w38 hbox hb; have BK158 := Aside0.mk (hbox); have GW158 := geB w hg; have GE158 := geB w hg; replace HB := Aside0.mk (below_step bel hb); clear hb hbox hg) | ((with_reducible refine gate_dst (N := 3) rfl ?_); refine box_event ?hg (N := 3) ?hd (cs := #[.int .i64 a1_0, .int .i64 a1_1, .int .i64 a1_2, .int .i64 a1_3, .int .i64 a1_4]) (t := 69) ?hr ?_; (case hd => rfl); (case hg => rfl); (case hr => first | (go_simp; done) | (go_simp; rfl)); intro gb159 hg w39 hbox hb; have BK159 := Aside0.mk (hbox); have GW159 := geB w hg; have GE159 := geB w hg; have NB158_159 := neL BK158 hg; have NB159_158 := neG BK158 hg; replace BK158 := blB BK158 hb; replace HB := Aside0.mk (below_step bel hb); clear hb hbox hg; have hnb40 := NB159_158.out; have hnc40 := NB158_159.out; have hcz41_0 : w39.cell? ⟨gb159, 0, none⟩ = some (.int .i64 a1_0) := (blk_cell BK159.out 0).trans rfl; have hcz41_1 : w39.cell? ⟨gb159, 1, none⟩ = some (.int .i64 a1_1) := (blk_cell BK159.out 1).trans rfl; have hcz41_2 : w39.cell? ⟨gb159, 2, none⟩ = some (.int .i64 a1_2) := (blk_cell BK159.out 2).trans rfl; have hcz41_3 : w39.cell? ⟨gb159, 3, none⟩ = some (.int .i64 a1_3) := (blk_cell BK159.out 3).trans rfl; have hcz41_4 : w39.cell? ⟨gb159, 4, none⟩ = some (.int .i64 a1_4) := (blk_cell BK159.out 4).trans rfl; have hfz41_0 := blk_frozen BK159.out 0; have hfz41_1 := blk_frozen BK159.out 1; have hfz41_2 := blk_frozen BK159.out 2; have hfz41_3 := blk_frozen BK159.out 3; have hfz41_4 := blk_frozen BK159.out 4; have hcz42_0 : w39.cell? ⟨gb158, 0, none⟩ = some (.int .i64 a0_0) := (blk_cell BK158.out 0).trans rfl; have hcz42_1 : w39.cell? ⟨gb158, 1, none⟩ = some (.int .i64 a0_1) := (blk_cell BK158.out 1).trans rfl; have hcz42_2 : w39.cell? ⟨gb158, 2, none⟩ = some (.int .i64 a0_2) := (blk_cell BK158.out 2).trans rfl; have hcz42_3 : w39.cell? ⟨gb158, 3, none⟩ = some (.int .i64 a0_3) := (blk_cell BK158.out 3).trans rfl; have hcz42_4 : w39.cell? ⟨gb158, 4, none⟩ = some (.slice A0_4 l0_4.length c0_4) := (blk_cell BK158.out 4).trans rfl; have hcz42_5 : w39.cell? ⟨gb158, 5, none⟩ = some (.slice A0_5 l0_5.length c0_5) := (blk_cell BK158.out 5).trans rfl; have hfz42_0 := blk_frozen BK158.out 0; have hfz42_1 := blk_frozen BK158.out 1; have hfz42_2 := blk_frozen BK158.out 2; have hfz42_3 := blk_frozen BK158.out 3; have hfz42_4 := blk_frozen BK158.out 4; have hfz42_5 := blk_frozen BK158.out 5))
        go_ret
        exact ⟨eN, bel⟩
      ·rw [if_neg c13] at H
       have c13b0 : decide (0 ≤ a1_1) = false := decide_eq_false c13
       clear c13
       obtain rfl := Option.some.inj H
       go_enter Tryz.func32, Tryz.ntmps32
       go_wp2_with (first | ((with_reducible refine gate_dst (N := 2) rfl ?_); refine box_event ?hg (N := 2) ?hd (cs := #[.int .i64 a0_0, .int .i64 a0_1, .int .i64 a0_2, .int .i64 a0_3, .slice A0_4 l0_4.length c0_4, .slice A0_5 l0_5.length c0_5]) (t := 25) ?hr ?_; (case hd => rfl); (case hg => rfl); (case hr => first | (go_simp; done) | (go_simp; rfl)); intro gb158 hg w43 hbox hb; have BK158 := Aside0.mk (hbox); have GW158 := geB w hg; have GE158 := geB w hg; replace HB := Aside0.mk (below_step bel hb); clear hb hbox hg) | ((with_reducible refine gate_dst (N := 3) rfl ?_); refine box_event ?hg (N := 3) ?hd (cs := #[.int .i64 a1_0, .int .i64 a1_1, .int .i64 a1_2, .int .i64 a1_3, .int .i64 a1_4]) (t := 69) ?hr ?_; (case hd => rfl); (case hg => rfl); (case hr => first | (go_simp; done) | (go_simp; rfl)); intro gb159 hg w44 hbox hb; have BK159 := Aside0.mk (hbox); have GW159 := geB w hg; have GE159 := geB w hg; have NB158_159 := neL BK158 hg; have NB159_158 := neG BK158 hg; replace BK158 := blB BK158 hb; replace HB := Aside0.mk (below_step bel hb); clear hb hbox hg; have hnb45 := NB159_158.out; have hnc45 := NB158_159.out; have hcz46_0 : w44.cell? ⟨gb159, 0, none⟩ = some (.int .i64 a1_0) := (blk_cell BK159.out 0).trans rfl; have hcz46_1 : w44.cell? ⟨gb159, 1, none⟩ = some (.int .i64 a1_1) := (blk_cell BK159.out 1).trans rfl; have hcz46_2 : w44.cell? ⟨gb159, 2, none⟩ = some (.int .i64 a1_2) := (blk_cell BK159.out 2).trans rfl; have hcz46_3 : w44.cell? ⟨gb159, 3, none⟩ = some (.int .i64 a1_3) := (blk_cell BK159.out 3).trans rfl; have hcz46_4 : w44.cell? ⟨gb159, 4, none⟩ = some (.int .i64 a1_4) := (blk_cell BK159.out 4).trans rfl; have hfz46_0 := blk_frozen BK159.out 0; have hfz46_1 := blk_frozen BK159.out 1; have hfz46_2 := blk_frozen BK159.out 2; have hfz46_3 := blk_frozen BK159.out 3; have hfz46_4 := blk_frozen BK159.out 4; have hcz47_0 : w44.cell? ⟨gb158, 0, none⟩ = some (.int .i64 a0_0) := (blk_cell BK158.out 0).trans rfl; have hcz47_1 : w44.cell? ⟨gb158, 1, none⟩ = some (.int .i64 a0_1) := (blk_cell BK158.out 1).trans rfl; have hcz47_2 : w44.cell? ⟨gb158, 2, none⟩ = some (.int .i64 a0_2) := (blk_cell BK158.out 2).trans rfl; have hcz47_3 : w44.cell? ⟨gb158, 3, none⟩ = some (.int .i64 a0_3) := (blk_cell BK158.out 3).trans rfl; have hcz47_4 : w44.cell? ⟨gb158, 4, none⟩ = some (.slice A0_4 l0_4.length c0_4) := (blk_cell BK158.out 4).trans rfl; have hcz47_5 : w44.cell? ⟨gb158, 5, none⟩ = some (.slice A0_5 l0_5.length c0_5) := (blk_cell BK158.out 5).trans rfl; have hfz47_0 := blk_frozen BK158.out 0; have hfz47_1 := blk_frozen BK158.out 1; have hfz47_2 := blk_frozen BK158.out 2; have hfz47_3 := blk_frozen BK158.out 3; have hfz47_4 := blk_frozen BK158.out 4; have hfz47_5 := blk_frozen BK158.out 5))
       go_ret
       exact ⟨eN, bel⟩
     ·rw [if_neg c12] at H
      have c12b0 : decide (a1_2 < a0_0) = false := decide_eq_false c12
      clear c12
      obtain rfl := Option.some.inj H
      go_enter Tryz.func32, Tryz.ntmps32
      go_wp2_with (first | ((with_reducible refine gate_dst (N := 2) rfl ?_); refine box_event ?hg (N := 2) ?hd (cs := #[.int .i64 a0_0, .int .i64 a0_1, .int .i64 a0_2, .int .i64 a0_3, .slice A0_4 l0_4.length c0_4, .slice A0_5 l0_5.length c0_5]) (t := 25) ?hr ?_; (case hd => rfl); (case hg => rfl); (case hr => first | (go_simp; done) | (go_simp; rfl)); intro gb158 hg w48 hbox hb; have BK158 := Aside0.mk (hbox); have GW158 := geB w hg; have GE158 := geB w hg; replace HB := Aside0.mk (below_step bel hb); clear hb hbox hg) | ((with_reducible refine gate_dst (N := 3) rfl ?_); refine box_event ?hg (N := 3) ?hd (cs := #[.int .i64 a1_0, .int .i64 a1_1, .int .i64 a1_2, .int .i64 a1_3, .int .i64 a1_4]) (t := 69) ?hr ?_; (case hd => rfl); (case hg => rfl); (case hr => first | (go_simp; done) | (go_simp; rfl)); intro gb159 hg w49 hbox hb; have BK159 := Aside0.mk (hbox); have GW159 := geB w hg; have GE159 := geB w hg; have NB158_159 := neL BK158 hg; have NB159_158 := neG BK158 hg; replace BK158 := blB BK158 hb; replace HB := Aside0.mk (below_step bel hb); clear hb hbox hg; have hnb50 := NB159_158.out; have hnc50 := NB158_159.out; have hcz51_0 : w49.cell? ⟨gb159, 0, none⟩ = some (.int .i64 a1_0) := (blk_cell BK159.out 0).trans rfl; have hcz51_1 : w49.cell? ⟨gb159, 1, none⟩ = some (.int .i64 a1_1) := (blk_cell BK159.out 1).trans rfl; have hcz51_2 : w49.cell? ⟨gb159, 2, none⟩ = some (.int .i64 a1_2) := (blk_cell BK159.out 2).trans rfl; have hcz51_3 : w49.cell? ⟨gb159, 3, none⟩ = some (.int .i64 a1_3) := (blk_cell BK159.out 3).trans rfl; have hcz51_4 : w49.cell? ⟨gb159, 4, none⟩ = some (.int .i64 a1_4) := (blk_cell BK159.out 4).trans rfl; have hfz51_0 := blk_frozen BK159.out 0; have hfz51_1 := blk_frozen BK159.out 1; have hfz51_2 := blk_frozen BK159.out 2; have hfz51_3 := blk_frozen BK159.out 3; have hfz51_4 := blk_frozen BK159.out 4; have hcz52_0 : w49.cell? ⟨gb158, 0, none⟩ = some (.int .i64 a0_0) := (blk_cell BK158.out 0).trans rfl; have hcz52_1 : w49.cell? ⟨gb158, 1, none⟩ = some (.int .i64 a0_1) := (blk_cell BK158.out 1).trans rfl; have hcz52_2 : w49.cell? ⟨gb158, 2, none⟩ = some (.int .i64 a0_2) := (blk_cell BK158.out 2).trans rfl; have hcz52_3 : w49.cell? ⟨gb158, 3, none⟩ = some (.int .i64 a0_3) := (blk_cell BK158.out 3).trans rfl; have hcz52_4 : w49.cell? ⟨gb158, 4, none⟩ = some (.slice A0_4 l0_4.length c0_4) := (blk_cell BK158.out 4).trans rfl; have hcz52_5 : w49.cell? ⟨gb158, 5, none⟩ = some (.slice A0_5 l0_5.length c0_5) := (blk_cell BK158.out 5).trans rfl; have hfz52_0 := blk_frozen BK158.out 0; have hfz52_1 := blk_frozen BK158.out 1; have hfz52_2 := blk_frozen BK158.out 2; have hfz52_3 := blk_frozen BK158.out 3; have hfz52_4 := blk_frozen BK158.out 4; have hfz52_5 := blk_frozen BK158.out 5))
      go_ret
      exact ⟨eN, bel⟩
    ·rw [if_neg c11] at H
     have c11b0 : decide (0 ≤ a1_2) = false := decide_eq_false c11
     clear c11
     obtain rfl := Option.some.inj H
     go_enter Tryz.func32, Tryz.ntmps32
     go_wp2_with (first | ((with_reducible refine gate_dst (N := 2) rfl ?_); refine box_event ?hg (N := 2) ?hd (cs := #[.int .i64 a0_0, .int .i64 a0_1, .int .i64 a0_2, .int .i64 a0_3, .slice A0_4 l0_4.length c0_4, .slice A0_5 l0_5.length c0_5]) (t := 25) ?hr ?_; (case hd => rfl); (case hg => rfl); (case hr => first | (go_simp; done) | (go_simp; rfl)); intro gb158 hg w53 hbox hb; have BK158 := Aside0.mk (hbox); have GW158 := geB w hg; have GE158 := geB w hg; replace HB := Aside0.mk (below_step bel hb); clear hb hbox hg) | ((with_reducible refine gate_dst (N := 3) rfl ?_); refine box_event ?hg (N := 3) ?hd (cs := #[.int .i64 a1_0, .int .i64 a1_1, .int .i64 a1_2, .int .i64 a1_3, .int .i64 a1_4]) (t := 69) ?hr ?_; (case hd => rfl); (case hg => rfl); (case hr => first | (go_simp; done) | (go_simp; rfl)); intro gb159 hg w54 hbox hb; have BK159 := Aside0.mk (hbox); have GW159 := geB w hg; have GE159 := geB w hg; have NB158_159 := neL BK158 hg; have NB159_158 := neG BK158 hg; replace BK158 := blB BK158 hb; replace HB := Aside0.mk (below_step bel hb); clear hb hbox hg; have hnb55 := NB159_158.out; have hnc55 := NB158_159.out; have hcz56_0 : w54.cell? ⟨gb159, 0, none⟩ = some (.int .i64 a1_0) := (blk_cell BK159.out 0).trans rfl; have hcz56_1 : w54.cell? ⟨gb159, 1, none⟩ = some (.int .i64 a1_1) := (blk_cell BK159.out 1).trans rfl; have hcz56_2 : w54.cell? ⟨gb159, 2, none⟩ = some (.int .i64 a1_2) := (blk_cell BK159.out 2).trans rfl; have hcz56_3 : w54.cell? ⟨gb159, 3, none⟩ = some (.int .i64 a1_3) := (blk_cell BK159.out 3).trans rfl; have hcz56_4 : w54.cell? ⟨gb159, 4, none⟩ = some (.int .i64 a1_4) := (blk_cell BK159.out 4).trans rfl; have hfz56_0 := blk_frozen BK159.out 0; have hfz56_1 := blk_frozen BK159.out 1; have hfz56_2 := blk_frozen BK159.out 2; have hfz56_3 := blk_frozen BK159.out 3; have hfz56_4 := blk_frozen BK159.out 4; have hcz57_0 : w54.cell? ⟨gb158, 0, none⟩ = some (.int .i64 a0_0) := (blk_cell BK158.out 0).trans rfl; have hcz57_1 : w54.cell? ⟨gb158, 1, none⟩ = some (.int .i64 a0_1) := (blk_cell BK158.out 1).trans rfl; have hcz57_2 : w54.cell? ⟨gb158, 2, none⟩ = some (.int .i64 a0_2) := (blk_cell BK158.out 2).trans rfl; have hcz57_3 : w54.cell? ⟨gb158, 3, none⟩ = some (.int .i64 a0_3) := (blk_cell BK158.out 3).trans rfl; have hcz57_4 : w54.cell? ⟨gb158, 4, none⟩ = some (.slice A0_4 l0_4.length c0_4) := (blk_cell BK158.out 4).trans rfl; have hcz57_5 : w54.cell? ⟨gb158, 5, none⟩ = some (.slice A0_5 l0_5.length c0_5) := (blk_cell BK158.out 5).trans rfl; have hfz57_0 := blk_frozen BK158.out 0; have hfz57_1 := blk_frozen BK158.out 1; have hfz57_2 := blk_frozen BK158.out 2; have hfz57_3 := blk_frozen BK158.out 3; have hfz57_4 := blk_frozen BK158.out 4; have hfz57_5 := blk_frozen BK158.out 5))
     go_ret
     exact ⟨eN, bel⟩
  ·rw [if_neg c4] at H
   have c4b0 : decide (a1_0 < a0_0) = false := decide_eq_false c4
   clear c4
   obtain rfl := Option.some.inj H
   go_enter Tryz.func32, Tryz.ntmps32
   go_wp2_with (first | ((with_reducible refine gate_dst (N := 2) rfl ?_); refine box_event ?hg (N := 2) ?hd (cs := #[.int .i64 a0_0, .int .i64 a0_1, .int .i64 a0_2, .int .i64 a0_3, .slice A0_4 l0_4.length c0_4, .slice A0_5 l0_5.length c0_5]) (t := 25) ?hr ?_; (case hd => rfl); (case hg => rfl); (case hr => first | (go_simp; done) | (go_simp; rfl)); intro gb158 hg w58 hbox hb; have BK158 := Aside0.mk (hbox); have GW158 := geB w hg; have GE158 := geB w hg; replace HB := Aside0.mk (below_step bel hb); clear hb hbox hg) | ((with_reducible refine gate_dst (N := 3) rfl ?_); refine box_event ?hg (N := 3) ?hd (cs := #[.int .i64 a1_0, .int .i64 a1_1, .int .i64 a1_2, .int .i64 a1_3, .int .i64 a1_4]) (t := 69) ?hr ?_; (case hd => rfl); (case hg => rfl); (case hr => first | (go_simp; done) | (go_simp; rfl)); intro gb159 hg w59 hbox hb; have BK159 := Aside0.mk (hbox); have GW159 := geB w hg; have GE159 := geB w hg; have NB158_159 := neL BK158 hg; have NB159_158 := neG BK158 hg; replace BK158 := blB BK158 hb; replace HB := Aside0.mk (below_step bel hb); clear hb hbox hg; have hnb60 := NB159_158.out; have hnc60 := NB158_159.out; have hcz61_0 : w59.cell? ⟨gb159, 0, none⟩ = some (.int .i64 a1_0) := (blk_cell BK159.out 0).trans rfl; have hcz61_1 : w59.cell? ⟨gb159, 1, none⟩ = some (.int .i64 a1_1) := (blk_cell BK159.out 1).trans rfl; have hcz61_2 : w59.cell? ⟨gb159, 2, none⟩ = some (.int .i64 a1_2) := (blk_cell BK159.out 2).trans rfl; have hcz61_3 : w59.cell? ⟨gb159, 3, none⟩ = some (.int .i64 a1_3) := (blk_cell BK159.out 3).trans rfl; have hcz61_4 : w59.cell? ⟨gb159, 4, none⟩ = some (.int .i64 a1_4) := (blk_cell BK159.out 4).trans rfl; have hfz61_0 := blk_frozen BK159.out 0; have hfz61_1 := blk_frozen BK159.out 1; have hfz61_2 := blk_frozen BK159.out 2; have hfz61_3 := blk_frozen BK159.out 3; have hfz61_4 := blk_frozen BK159.out 4; have hcz62_0 : w59.cell? ⟨gb158, 0, none⟩ = some (.int .i64 a0_0) := (blk_cell BK158.out 0).trans rfl; have hcz62_1 : w59.cell? ⟨gb158, 1, none⟩ = some (.int .i64 a0_1) := (blk_cell BK158.out 1).trans rfl; have hcz62_2 : w59.cell? ⟨gb158, 2, none⟩ = some (.int .i64 a0_2) := (blk_cell BK158.out 2).trans rfl; have hcz62_3 : w59.cell? ⟨gb158, 3, none⟩ = some (.int .i64 a0_3) := (blk_cell BK158.out 3).trans rfl; have hcz62_4 : w59.cell? ⟨gb158, 4, none⟩ = some (.slice A0_4 l0_4.length c0_4) := (blk_cell BK158.out 4).trans rfl; have hcz62_5 : w59.cell? ⟨gb158, 5, none⟩ = some (.slice A0_5 l0_5.length c0_5) := (blk_cell BK158.out 5).trans rfl; have hfz62_0 := blk_frozen BK158.out 0; have hfz62_1 := blk_frozen BK158.out 1; have hfz62_2 := blk_frozen BK158.out 2; have hfz62_3 := blk_frozen BK158.out 3; have hfz62_4 := blk_frozen BK158.out 4; have hfz62_5 := blk_frozen BK158.out 5))
   go_ret
   exact ⟨eN, bel⟩
 ·rw [if_neg c3] at H
  have c3b0 : decide (0 ≤ a1_0) = false := decide_eq_false c3
  clear c3
  obtain rfl := Option.some.inj H
  go_enter Tryz.func32, Tryz.ntmps32
  go_wp2_with (first | ((with_reducible refine gate_dst (N := 2) rfl ?_); refine box_event ?hg (N := 2) ?hd (cs := #[.int .i64 a0_0, .int .i64 a0_1, .int .i64 a0_2, .int .i64 a0_3, .slice A0_4 l0_4.length c0_4, .slice A0_5 l0_5.length c0_5]) (t := 25) ?hr ?_; (case hd => rfl); (case hg => rfl); (case hr => first | (go_simp; done) | (go_simp; rfl)); intro gb158 hg w63 hbox hb; have BK158 := Aside0.mk (hbox); have GW158 := geB w hg; have GE158 := geB w hg; replace HB := Aside0.mk (below_step bel hb); clear hb hbox hg) | ((with_reducible refine gate_dst (N := 3) rfl ?_); refine box_event ?hg (N := 3) ?hd (cs := #[.int .i64 a1_0, .int .i64 a1_1, .int .i64 a1_2, .int .i64 a1_3, .int .i64 a1_4]) (t := 69) ?hr ?_; (case hd => rfl); (case hg => rfl); (case hr => first | (go_simp; done) | (go_simp; rfl)); intro gb159 hg w64 hbox hb; have BK159 := Aside0.mk (hbox); have GW159 := geB w hg; have GE159 := geB w hg; have NB158_159 := neL BK158 hg; have NB159_158 := neG BK158 hg; replace BK158 := blB BK158 hb; replace HB := Aside0.mk (below_step bel hb); clear hb hbox hg; have hnb65 := NB159_158.out; have hnc65 := NB158_159.out; have hcz66_0 : w64.cell? ⟨gb159, 0, none⟩ = some (.int .i64 a1_0) := (blk_cell BK159.out 0).trans rfl; have hcz66_1 : w64.cell? ⟨gb159, 1, none⟩ = some (.int .i64 a1_1) := (blk_cell BK159.out 1).trans rfl; have hcz66_2 : w64.cell? ⟨gb159, 2, none⟩ = some (.int .i64 a1_2) := (blk_cell BK159.out 2).trans rfl; have hcz66_3 : w64.cell? ⟨gb159, 3, none⟩ = some (.int .i64 a1_3) := (blk_cell BK159.out 3).trans rfl; have hcz66_4 : w64.cell? ⟨gb159, 4, none⟩ = some (.int .i64 a1_4) := (blk_cell BK159.out 4).trans rfl; have hfz66_0 := blk_frozen BK159.out 0; have hfz66_1 := blk_frozen BK159.out 1; have hfz66_2 := blk_frozen BK159.out 2; have hfz66_3 := blk_frozen BK159.out 3; have hfz66_4 := blk_frozen BK159.out 4))
  go_ret
  exact ⟨eN, bel⟩
end Go.Proofs.YtailpfcbdopfeaaGreatDoor.F
/- GuessRelations, the plain law: a step of the document is a step of the walk. -/
namespace Go.Proofs.YtailpfcbdopfeaaGreatDoor.F
open Go.RowKit Go.Proofs.YtailpfcbdopfeaaGreatDoorW.PrintWords Go.Proofs.YtailpfcbdopfeaaGreatDoorW.PrintLast Go.Proofs.YtailpfcbdopfeaaGreatDoorW.PrintMore
set_option linter.unusedVariables false
set_option linter.unusedSimpArgs false
theorem step_eq (n0 n1 n2 n3 : Int) (ls : List S42) (ss : List S69) (x : S69) : paraphrastref16_step.f n0 n1 n2 n3 ls ss x.f0 x.f1 x.f2 x.f3 x.f4 = some (stepB n0 n1 x) := by
  obtain ⟨a, b, c, d, e⟩ := x
  simp only
  unfold paraphrastref16_step.f stepB wi
  simp only
  by_cases h0 : a ≥ 0
  · rw [if_pos h0]
    by_cases h1 : a < n0
    · rw [if_pos h1]
      by_cases h2 : a = 1
      · rw [if_pos h2]
        simp [h2]
      · rw [if_neg h2]
        have e2 : (a == 1) = false := by simp [h2]
        rw [e2, decide_eq_true h0, decide_eq_true (show a ≤ n0 - 1 by omega)]
        by_cases h3 : c ≥ 0
        · rw [if_pos h3, decide_eq_true h3]
          by_cases h4 : c < n0
          · rw [if_pos h4, decide_eq_true (show c ≤ n0 - 1 by omega)]
            by_cases h5 : b ≥ 0
            · rw [if_pos h5, decide_eq_true h5]
              by_cases h6 : b < n1
              · rw [if_pos h6, decide_eq_true (show b ≤ n1 - 1 by omega)]
                by_cases h7 : d ≥ 0
                · rw [if_pos h7, decide_eq_true h7]
                  by_cases h8 : d < n1
                  · rw [if_pos h8, decide_eq_true (show d ≤ n1 - 1 by omega)]
                    by_cases h9 : e ≥ -1
                    · rw [if_pos h9, decide_eq_true h9]
                      simp
                    · rw [if_neg h9, decide_eq_false h9]
                      simp
                  · rw [if_neg h8, decide_eq_false (show ¬ d ≤ n1 - 1 by omega)]
                    simp
                · rw [if_neg h7, decide_eq_false h7]
                  simp
              · rw [if_neg h6, decide_eq_false (show ¬ b ≤ n1 - 1 by omega)]
                simp
            · rw [if_neg h5, decide_eq_false h5]
              simp
          · rw [if_neg h4, decide_eq_false (show ¬ c ≤ n0 - 1 by omega)]
            simp
        · rw [if_neg h3, decide_eq_false h3]
          simp
    · rw [if_neg h1, decide_eq_false (show ¬ a ≤ n0 - 1 by omega)]
      simp
  · rw [if_neg h0, decide_eq_false h0]
    simp
end Go.Proofs.YtailpfcbdopfeaaGreatDoor.F
namespace Go.Proofs.YtailpfcbdopfeaaGreatDoor.F
open Go.RowKit Go.Proofs.YtailpfcbdopfeaaGreatDoorW.PrintWords Go.Proofs.YtailpfcbdopfeaaGreatDoorW.PrintLast Go.Proofs.YtailpfcbdopfeaaGreatDoorW.PrintMore
attribute [local go_sem] max2_int min2_int max_two min_two max_three min_three max_four min_four
set_option linter.unusedVariables false
set_option linter.unusedSimpArgs false
/-! ### paraphrastref01_In: function 94 -/
def paraphrastref01_In.l0 : Nat → Int → List Int → Int → Option (Bool)
 | 0, _, _, _ => none
 | k + 1, x0, x1, x5 => if x5 < (x1.length : Int) then (if 0 ≤ x5 then (if (rd x1 x5) < 0 then (some false) else (if (rd x1 x5) ≥ x0 then (some false) else (paraphrastref01_In.l0 k x0 x1 (wrap64 (x5 + 1))))) else (none)) else (some true)
def paraphrastref01_In.f (k : Nat) (a0 : Int) (l1 : List Int) : Option (Bool) := paraphrastref01_In.l0 k a0 l1 0
set_option maxHeartbeats 8000000 in
set_option maxRecDepth 100000 in
theorem paraphrastref01_In.calls (k : Nat) (a0 : Int) (A1 : Option Addr) (c1 : Nat) (l1 : List Int) (r : Bool) (w : World) (hr1 : Kd.C (Kd.int .i64) w A1 l1.length l1) (hc1 : l1.length ≤ c1) (h : paraphrastref01_In.f k a0 l1 = some r) :
  Calls Tryz.prog 94 #[.int .i64 a0, .slice A1 l1.length c1] w fun e w' => e = .returned (.bool r) ∧ Drawn0 w w' := by
 have HR1 := Aside0.mk hr1
 have HC1 := Aside0.mk hc1
 clear hr1 hc1
 have H : (paraphrastref01_In.l0 k a0 l1 0) = some r := h
 clear h
 have H' := Aside0.mk H
 clear H
 go_enter Tryz.func94, Tryz.ntmps94
 go_wp2
 go_loopg [5] k (fun kq v5 w' => ∃ (x5_1 : Int), v5 = .int .i64 x5_1 ∧ Aside0 (paraphrastref01_In.l0 kq a0 l1 x5_1 = some r) ∧ Aside0 (kq ≤ k) ∧ Drawn0 w w')
 case atStart => exact ⟨(0), eS, H', ⟨Nat.le_refl _⟩, dr0⟩
 case round =>
  clear H'
  (try clear c1)
  obtain ⟨x5_1, rfl, HA, HK1, ⟨m1, rfl⟩⟩ := hrel
  cases gk with
  | zero => exact absurd HA.out (by simp [paraphrastref01_In.l0])
  | succ k1 =>
   have H := HA.out
   clear HA
   simp only [paraphrastref01_In.l0] at H
   by_cases c3 : x5_1 < (l1.length : Int)
   ·rw [if_pos c3] at H
    have c3b0 : decide (x5_1 < (l1.length : Int)) = true := decide_eq_true c3
    clear c3
    by_cases c4 : 0 ≤ x5_1
    ·rw [if_pos c4] at H
     have c4b0 : decide (0 ≤ x5_1) = true := decide_eq_true c4
     clear c4
     by_cases c5 : (rd l1 x5_1) < 0
     ·rw [if_pos c5] at H
      have c5b0 : decide ((rd l1 x5_1) < 0) = true := decide_eq_true c5
      clear c5
      obtain rfl := Option.some.inj H
      have p150 : 0 ≤ (x5_1 : Int) := dtr
      have q150 : x5_1 < (l1.length : Int) := dtr
      obtain ⟨ad150, e150, hx150_0⟩ := Kd.at_int HR1.out x5_1 p150 q150
      cases e150
      replace p150 := eq_true p150
      replace q150 := eq_true q150
      go_wp2
      go_ret
      exact ⟨eS, dr0⟩
     ·rw [if_neg c5] at H
      have c5b0 : decide ((rd l1 x5_1) < 0) = false := decide_eq_false c5
      clear c5
      by_cases c6 : (rd l1 x5_1) ≥ a0
      ·rw [if_pos c6] at H
       have c6b0 : decide (a0 ≤ (rd l1 x5_1)) = true := decide_eq_true c6
       clear c6
       obtain rfl := Option.some.inj H
       have p150 : 0 ≤ (x5_1 : Int) := dtr
       have q150 : x5_1 < (l1.length : Int) := dtr
       obtain ⟨ad150, e150, hx150_0⟩ := Kd.at_int HR1.out x5_1 p150 q150
       cases e150
       replace p150 := eq_true p150
       replace q150 := eq_true q150
       have p151 : 0 ≤ (x5_1 : Int) := dtr
       have q151 : x5_1 < (l1.length : Int) := dtr
       obtain ⟨ad151, e151, hx151_0⟩ := Kd.at_int HR1.out x5_1 p151 q151
       obtain rfl : ad150 = ad151 := (by injection e151)
       replace p151 := eq_true p151
       replace q151 := eq_true q151
       go_wp2
       go_ret
       exact ⟨eS, dr0⟩
      ·rw [if_neg c6] at H
       have c6b0 : decide (a0 ≤ (rd l1 x5_1)) = false := decide_eq_false c6
       clear c6
       have H' := Aside0.mk H
       clear H
       have p150 : 0 ≤ (x5_1 : Int) := dtr
       have q150 : x5_1 < (l1.length : Int) := dtr
       obtain ⟨ad150, e150, hx150_0⟩ := Kd.at_int HR1.out x5_1 p150 q150
       cases e150
       replace p150 := eq_true p150
       replace q150 := eq_true q150
       have p151 : 0 ≤ (x5_1 : Int) := dtr
       have q151 : x5_1 < (l1.length : Int) := dtr
       obtain ⟨ad151, e151, hx151_0⟩ := Kd.at_int HR1.out x5_1 p151 q151
       obtain rfl : ad150 = ad151 := (by injection e151)
       replace p151 := eq_true p151
       replace q151 := eq_true q151
       go_wp2
       go_roundg k1
       case measure => have := HK1.out; omega
       case rel => exact ⟨(wrap64 (x5_1 + 1)), eS, H', ⟨by have := HK1.out; omega⟩, dr0⟩
    ·rw [if_neg c4] at H
     exact absurd H (by simp)
   ·rw [if_neg c3] at H
    have c3b0 : decide (x5_1 < (l1.length : Int)) = false := decide_eq_false c3
    clear c3
    obtain rfl := Option.some.inj H
    go_wp2
    go_ret
    exact ⟨eS, dr0⟩
end Go.Proofs.YtailpfcbdopfeaaGreatDoor.F
namespace Go.Proofs.YtailpfcbdopfeaaGreatDoor.F
open Go.RowKit Go.Proofs.YtailpfcbdopfeaaGreatDoorW.PrintWords Go.Proofs.YtailpfcbdopfeaaGreatDoorW.PrintLast Go.Proofs.YtailpfcbdopfeaaGreatDoorW.PrintMore
attribute [local go_sem] max2_int min2_int max_two min_two max_three min_three max_four min_four
set_option linter.unusedVariables false
set_option linter.unusedSimpArgs false
/-! ### paraphrastref12_heads: function 66 -/
def paraphrastref12_heads.f (k : Nat) (l0 : List Int) (a1 : Int) : Option (Bool) := (paraphrastref01_In.f k a1 l0).bind fun t152 => (some t152)
set_option maxHeartbeats 8000000 in
set_option maxRecDepth 100000 in
theorem paraphrastref12_heads.calls (k : Nat) (A0 : Option Addr) (c0 : Nat) (l0 : List Int) (a1 : Int) (r : Bool) (w : World) (hr0 : Kd.C (Kd.int .i64) w A0 l0.length l0) (hc0 : l0.length ≤ c0) (h : paraphrastref12_heads.f k l0 a1 = some r) :
  Calls Tryz.prog 66 #[.slice A0 l0.length c0, .int .i64 a1] w fun e w' => e = .returned (.bool r) ∧ Drawn0 w w' := by
 have HR0 := Aside0.mk hr0
 have HC0 := Aside0.mk hc0
 clear hr0 hc0
 have H : ((paraphrastref01_In.f k a1 l0).bind fun t152 => (some t152)) = some r := h
 clear h
 replace H := Option.bind_eq_some_iff.mp H
 obtain ⟨t152, A30, H⟩ := H
 replace H : (some t152) = some r := H
 have A3 := Aside0.mk A30
 clear A30
 obtain rfl := Option.some.inj H
 go_enter Tryz.func66, Tryz.ntmps66
 go_wp2_with (first | ((with_reducible refine gate_callee (f := 94) rfl ?_); refine gL (some 7) Tryz.func94 #[.int .i64 a1, .slice A0 l0.length c0] ?_; (with_reducible refine (paraphrastref01_In.calls k a1 _ _ l0 t152 _ ?side1 ?side2 A3.out).mono ?_); (case side1 => exact cS HR0.out); (case side2 => exact HC0.out); rintro e w' ⟨rfl, ⟨nd, rfl⟩⟩; refine ⟨_, rfl, ?_⟩))
 go_ret
 exact ⟨eS, dr0⟩
end Go.Proofs.YtailpfcbdopfeaaGreatDoor.F
namespace Go.Proofs.YtailpfcbdopfeaaGreatDoor.F
open Go.RowKit Go.Proofs.YtailpfcbdopfeaaGreatDoorW.PrintWords Go.Proofs.YtailpfcbdopfeaaGreatDoorW.PrintLast Go.Proofs.YtailpfcbdopfeaaGreatDoorW.PrintMore
attribute [local go_sem] max2_int min2_int max_two min_two max_three min_three max_four min_four
set_option linter.unusedVariables false
set_option linter.unusedSimpArgs false
/-! ### paraphrastref12_Literal: function 31 -/
def paraphrastref12_Literal.f (k : Nat) (a0_0 : Int) (a0_1 : Bool) (a0_2 : ByteArray) (l0_3 : List Int) (a1 : Int) : Option (Bool) := if a0_0 = 0 then ((paraphrastref01_Name.f k a0_2).bind fun t154 => (if t154 = true then (if (l0_3.length : Int) ≤ 12 then ((paraphrastref12_heads.f k l0_3 a1).bind fun t155 => (some t155)) else (some false)) else (some false))) else (if a0_0 = 1 then (if a0_2.toList = ([] : List UInt8) then (if (l0_3.length : Int) = 2 then ((paraphrastref12_heads.f k l0_3 a1).bind fun t156 => (some t156)) else (some false)) else (some false)) else (if a0_0 = 2 then (if a0_2.toList = ([] : List UInt8) then (if (l0_3.length : Int) = 2 then ((paraphrastref12_heads.f k l0_3 a1).bind fun t157 => (some t157)) else (some false)) else (some false)) else (some false)))
set_option maxHeartbeats 8000000 in
set_option maxRecDepth 100000 in
theorem paraphrastref12_Literal.calls (k : Nat) (a0_0 : Int) (a0_1 : Bool) (a0_2 : ByteArray) (A0_3 : Option Addr) (c0_3 : Nat) (l0_3 : List Int) (a1 : Int) (r : Bool) (w : World) (hr0_3 : Kd.C (Kd.int .i64) w A0_3 l0_3.length l0_3) (hc0_3 : l0_3.length ≤ c0_3) (h : paraphrastref12_Literal.f k a0_0 a0_1 a0_2 l0_3 a1 = some r) :
  Calls Tryz.prog 31 #[.agg #[.int .i64 a0_0, .bool a0_1, .string a0_2, .slice A0_3 l0_3.length c0_3], .int .i64 a1] w fun e w' => e = .returned (.bool r) ∧ Below w.heap.size w w' := by
 have hu42 := Tryz.underlying42
 have HR0_3 := Aside0.mk hr0_3
 have HC0_3 := Aside0.mk hc0_3
 clear hr0_3 hc0_3
 have HB := Aside0.mk (Below.refl w.heap.size w)
 have H : (if a0_0 = 0 then ((paraphrastref01_Name.f k a0_2).bind fun t154 => (if t154 = true then (if (l0_3.length : Int) ≤ 12 then ((paraphrastref12_heads.f k l0_3 a1).bind fun t155 => (some t155)) else (some false)) else (some false))) else (if a0_0 = 1 then (if a0_2.toList = ([] : List UInt8) then (if (l0_3.length : Int) = 2 then ((paraphrastref12_heads.f k l0_3 a1).bind fun t156 => (some t156)) else (some false)) else (some false)) else (if a0_0 = 2 then (if a0_2.toList = ([] : List UInt8) then (if (l0_3.length : Int) = 2 then ((paraphrastref12_heads.f k l0_3 a1).bind fun t157 => (some t157)) else (some false)) else (some false)) else (some false)))) = some r := h
 clear h
 by_cases c3 : a0_0 = 0
 ·rw [if_pos c3] at H
  have c3b0 : (a0_0 == 0) = true := beq_iff_eq.mpr c3
  have c3b1 : (a0_0 != 0) = false := bne_eq_false_iff_eq.mpr c3
  clear c3
  replace H := Option.bind_eq_some_iff.mp H
  obtain ⟨t154, A40, H⟩ := H
  replace H : (if t154 = true then (if (l0_3.length : Int) ≤ 12 then ((paraphrastref12_heads.f k l0_3 a1).bind fun t155 => (some t155)) else (some false)) else (some false)) = some r := H
  have A4 := Aside0.mk A40
  clear A40
  by_cases c5 : t154 = true
  ·subst c5
   have H1 : (if (l0_3.length : Int) ≤ 12 then ((paraphrastref12_heads.f k l0_3 a1).bind fun t155 => (some t155)) else (some false)) = some r := by rw [if_pos rfl] at H; exact H
   clear H
   have H := H1
   clear H1
   by_cases c6 : (l0_3.length : Int) ≤ 12
   ·rw [if_pos c6] at H
    have c6b0 : decide ((l0_3.length : Int) ≤ 12) = true := decide_eq_true c6
    have c6b1 : decide (l0_3.length ≤ 12) = true := decide_eq_true (by omega)
    clear c6
    replace H := Option.bind_eq_some_iff.mp H
    obtain ⟨t155, A70, H⟩ := H
    replace H : (some t155) = some r := H
    have A7 := Aside0.mk A70
    clear A70
    obtain rfl := Option.some.inj H
    go_enter Tryz.func31, Tryz.ntmps31
    go_wp2_with (first | ((with_reducible refine gate_dst (N := 2) rfl ?_); (try (refine gate_guard (by rfl) ?_; dsimp only)); refine box_event ?hg (N := 2) ?hd (cs := #[.int .i64 a0_0, .bool a0_1, .string a0_2, .slice A0_3 l0_3.length c0_3]) (t := 42) ?hr ?_; (case hd => rfl); (case hg => rfl); (case hr => first | (go_simp; done) | (go_simp; rfl)); intro gb153 hg w8 hbox hb; have BK153 := Aside0.mk (hbox); have GW153 := geB w hg; have GE153 := geB w hg; replace HB := Aside0.mk (below_step bel hb); clear hb hbox hg; obtain ⟨hcz9_0, hcz9_1, hcz9_2, hcz9_3, hfz9_0, hfz9_1, hfz9_2, hfz9_3⟩ := bq4 BK153) | ((with_reducible refine gate_callee (f := 65) rfl ?_); refine gL (some 11) Tryz.func65 #[.string a0_2] ?_; (with_reducible refine (paraphrastref01_Name.calls k a0_2 true _ A4.out).mono ?_); rintro e w' ⟨rfl, ⟨nd, rfl⟩⟩; refine ⟨_, rfl, ?_⟩) | (go_at_call 66; (with_reducible refine (paraphrastref12_heads.calls k _ _ l0_3 a1 t155 _ ?side1 ?side2 A7.out).mono ?_); (case side1 => exact cS (Kd.C_below HR0_3.out bel)); (case side2 => exact HC0_3.out); rintro e w' ⟨rfl, ⟨nd, rfl⟩⟩))
    go_ret
    exact ⟨eN, bel⟩
   ·rw [if_neg c6] at H
    have c6b0 : decide ((l0_3.length : Int) ≤ 12) = false := decide_eq_false c6
    have c6b1 : decide (l0_3.length ≤ 12) = false := decide_eq_false (by omega)
    clear c6
    obtain rfl := Option.some.inj H
    go_enter Tryz.func31, Tryz.ntmps31
    go_wp2_with (first | ((with_reducible refine gate_dst (N := 2) rfl ?_); (try (refine gate_guard (by rfl) ?_; dsimp only)); refine box_event ?hg (N := 2) ?hd (cs := #[.int .i64 a0_0, .bool a0_1, .string a0_2, .slice A0_3 l0_3.length c0_3]) (t := 42) ?hr ?_; (case hd => rfl); (case hg => rfl); (case hr => first | (go_simp; done) | (go_simp; rfl)); intro gb153 hg w10 hbox hb; have BK153 := Aside0.mk (hbox); have GW153 := geB w hg; have GE153 := geB w hg; replace HB := Aside0.mk (below_step bel hb); clear hb hbox hg; obtain ⟨hcz11_0, hcz11_1, hcz11_2, hcz11_3, hfz11_0, hfz11_1, hfz11_2, hfz11_3⟩ := bq4 BK153) | ((with_reducible refine gate_callee (f := 65) rfl ?_); refine gL (some 11) Tryz.func65 #[.string a0_2] ?_; (with_reducible refine (paraphrastref01_Name.calls k a0_2 true _ A4.out).mono ?_); rintro e w' ⟨rfl, ⟨nd, rfl⟩⟩; refine ⟨_, rfl, ?_⟩))
    go_ret
    exact ⟨eN, bel⟩
  ·replace c5 := Bool.eq_false_iff.mpr c5
   subst c5
   have H1 : (some false) = some r := by rw [if_neg (show ¬ (false = true) by decide)] at H; exact H
   clear H
   have H := H1
   clear H1
   obtain rfl := Option.some.inj H
   go_enter Tryz.func31, Tryz.ntmps31
   go_wp2_with (first | ((with_reducible refine gate_dst (N := 2) rfl ?_); (try (refine gate_guard (by rfl) ?_; dsimp only)); refine box_event ?hg (N := 2) ?hd (cs := #[.int .i64 a0_0, .bool a0_1, .string a0_2, .slice A0_3 l0_3.length c0_3]) (t := 42) ?hr ?_; (case hd => rfl); (case hg => rfl); (case hr => first | (go_simp; done) | (go_simp; rfl)); intro gb153 hg w12 hbox hb; have BK153 := Aside0.mk (hbox); have GW153 := geB w hg; have GE153 := geB w hg; replace HB := Aside0.mk (below_step bel hb); clear hb hbox hg; obtain ⟨hcz13_0, hcz13_1, hcz13_2, hcz13_3, hfz13_0, hfz13_1, hfz13_2, hfz13_3⟩ := bq4 BK153) | ((with_reducible refine gate_callee (f := 65) rfl ?_); refine gL (some 11) Tryz.func65 #[.string a0_2] ?_; (with_reducible refine (paraphrastref01_Name.calls k a0_2 false _ A4.out).mono ?_); rintro e w' ⟨rfl, ⟨nd, rfl⟩⟩; refine ⟨_, rfl, ?_⟩))
   go_ret
   exact ⟨eN, bel⟩
 ·rw [if_neg c3] at H
  have c3b0 : (a0_0 == 0) = false := beq_eq_false_iff_ne.mpr c3
  have c3b1 : (a0_0 != 0) = true := bne_iff_ne.mpr c3
  by_cases c14 : a0_0 = 1
  ·rw [if_pos c14] at H
   have c14b0 : (a0_0 == 1) = true := beq_iff_eq.mpr c14
   have c14b1 : (a0_0 != 1) = false := bne_eq_false_iff_eq.mpr c14
   clear c14
   by_cases c15 : a0_2.toList = ([] : List UInt8)
   ·rw [if_pos c15] at H
    have c15b0 : (a0_2.toList == ([] : List UInt8)) = true := beq_iff_eq.mpr c15
    have c15b1 : (a0_2.toList != ([] : List UInt8)) = false := bne_eq_false_iff_eq.mpr c15
    clear c15
    by_cases c16 : (l0_3.length : Int) = 2
    ·rw [if_pos c16] at H
     have c16b0 : ((l0_3.length : Int) == 2) = true := beq_iff_eq.mpr c16
     have c16b1 : ((l0_3.length : Int) != 2) = false := bne_eq_false_iff_eq.mpr c16
     clear c16
     replace H := Option.bind_eq_some_iff.mp H
     obtain ⟨t156, A170, H⟩ := H
     replace H : (some t156) = some r := H
     have A17 := Aside0.mk A170
     clear A170
     obtain rfl := Option.some.inj H
     go_enter Tryz.func31, Tryz.ntmps31
     go_wp2_with (first | ((with_reducible refine gate_dst (N := 2) rfl ?_); (try (refine gate_guard (by rfl) ?_; dsimp only)); refine box_event ?hg (N := 2) ?hd (cs := #[.int .i64 a0_0, .bool a0_1, .string a0_2, .slice A0_3 l0_3.length c0_3]) (t := 42) ?hr ?_; (case hd => rfl); (case hg => rfl); (case hr => first | (go_simp; done) | (go_simp; rfl)); intro gb153 hg w18 hbox hb; have BK153 := Aside0.mk (hbox); have GW153 := geB w hg; have GE153 := geB w hg; replace HB := Aside0.mk (below_step bel hb); clear hb hbox hg; obtain ⟨hcz19_0, hcz19_1, hcz19_2, hcz19_3, hfz19_0, hfz19_1, hfz19_2, hfz19_3⟩ := bq4 BK153) | (go_at_call 66; (with_reducible refine (paraphrastref12_heads.calls k _ _ l0_3 a1 t156 _ ?side1 ?side2 A17.out).mono ?_); (case side1 => exact cS (Kd.C_below HR0_3.out HB.out)); (case side2 => exact HC0_3.out); rintro e w' ⟨rfl, ⟨nd, rfl⟩⟩))
     go_ret
     exact ⟨eN, bel⟩
    ·rw [if_neg c16] at H
     have c16b0 : ((l0_3.length : Int) == 2) = false := beq_eq_false_iff_ne.mpr c16
     have c16b1 : ((l0_3.length : Int) != 2) = true := bne_iff_ne.mpr c16
     obtain rfl := Option.some.inj H
     go_enter Tryz.func31, Tryz.ntmps31
     go_wp2_with (first | ((with_reducible refine gate_dst (N := 2) rfl ?_); (try (refine gate_guard (by rfl) ?_; dsimp only)); refine box_event ?hg (N := 2) ?hd (cs := #[.int .i64 a0_0, .bool a0_1, .string a0_2, .slice A0_3 l0_3.length c0_3]) (t := 42) ?hr ?_; (case hd => rfl); (case hg => rfl); (case hr => first | (go_simp; done) | (go_simp; rfl)); intro gb153 hg w20 hbox hb; have BK153 := Aside0.mk (hbox); have GW153 := geB w hg; have GE153 := geB w hg; replace HB := Aside0.mk (below_step bel hb); clear hb hbox hg; obtain ⟨hcz21_0, hcz21_1, hcz21_2, hcz21_3, hfz21_0, hfz21_1, hfz21_2, hfz21_3⟩ := bq4 BK153))
     go_ret
     exact ⟨eN, bel⟩
   ·rw [if_neg c15] at H
    have c15b0 : (a0_2.toList == ([] : List UInt8)) = false := beq_eq_false_iff_ne.mpr c15
    have c15b1 : (a0_2.toList != ([] : List UInt8)) = true := bne_iff_ne.mpr c15
    obtain rfl := Option.some.inj H
    go_enter Tryz.func31, Tryz.ntmps31
    go_wp2_with (first | ((with_reducible refine gate_dst (N := 2) rfl ?_); (try (refine gate_guard (by rfl) ?_; dsimp only)); refine box_event ?hg (N := 2) ?hd (cs := #[.int .i64 a0_0, .bool a0_1, .string a0_2, .slice A0_3 l0_3.length c0_3]) (t := 42) ?hr ?_; (case hd => rfl); (case hg => rfl); (case hr => first | (go_simp; done) | (go_simp; rfl)); intro gb153 hg w22 hbox hb; have BK153 := Aside0.mk (hbox); have GW153 := geB w hg; have GE153 := geB w hg; replace HB := Aside0.mk (below_step bel hb); clear hb hbox hg; obtain ⟨hcz23_0, hcz23_1, hcz23_2, hcz23_3, hfz23_0, hfz23_1, hfz23_2, hfz23_3⟩ := bq4 BK153))
    go_ret
    exact ⟨eN, bel⟩
  ·rw [if_neg c14] at H
   have c14b0 : (a0_0 == 1) = false := beq_eq_false_iff_ne.mpr c14
   have c14b1 : (a0_0 != 1) = true := bne_iff_ne.mpr c14
   by_cases c24 : a0_0 = 2
   ·rw [if_pos c24] at H
    have c24b0 : (a0_0 == 2) = true := beq_iff_eq.mpr c24
    have c24b1 : (a0_0 != 2) = false := bne_eq_false_iff_eq.mpr c24
    clear c24
    by_cases c25 : a0_2.toList = ([] : List UInt8)
    ·rw [if_pos c25] at H
     have c25b0 : (a0_2.toList == ([] : List UInt8)) = true := beq_iff_eq.mpr c25
     have c25b1 : (a0_2.toList != ([] : List UInt8)) = false := bne_eq_false_iff_eq.mpr c25
     clear c25
     by_cases c26 : (l0_3.length : Int) = 2
     ·rw [if_pos c26] at H
      have c26b0 : ((l0_3.length : Int) == 2) = true := beq_iff_eq.mpr c26
      have c26b1 : ((l0_3.length : Int) != 2) = false := bne_eq_false_iff_eq.mpr c26
      clear c26
      replace H := Option.bind_eq_some_iff.mp H
      obtain ⟨t157, A270, H⟩ := H
      replace H : (some t157) = some r := H
      have A27 := Aside0.mk A270
      clear A270
      obtain rfl := Option.some.inj H
      go_enter Tryz.func31, Tryz.ntmps31
      go_wp2_with (first | ((with_reducible refine gate_dst (N := 2) rfl ?_); (try (refine gate_guard (by rfl) ?_; dsimp only)); refine box_event ?hg (N := 2) ?hd (cs := #[.int .i64 a0_0, .bool a0_1, .string a0_2, .slice A0_3 l0_3.length c0_3]) (t := 42) ?hr ?_; (case hd => rfl); (case hg => rfl); (case hr => first | (go_simp; done) | (go_simp; rfl)); intro gb153 hg w28 hbox hb; have BK153 := Aside0.mk (hbox); have GW153 := geB w hg; have GE153 := geB w hg; replace HB := Aside0.mk (below_step bel hb); clear hb hbox hg; obtain ⟨hcz29_0, hcz29_1, hcz29_2, hcz29_3, hfz29_0, hfz29_1, hfz29_2, hfz29_3⟩ := bq4 BK153) | (go_at_call 66; (with_reducible refine (paraphrastref12_heads.calls k _ _ l0_3 a1 t157 _ ?side1 ?side2 A27.out).mono ?_); (case side1 => exact cS (Kd.C_below HR0_3.out HB.out)); (case side2 => exact HC0_3.out); rintro e w' ⟨rfl, ⟨nd, rfl⟩⟩))
      go_ret
      exact ⟨eN, bel⟩
     ·rw [if_neg c26] at H
      have c26b0 : ((l0_3.length : Int) == 2) = false := beq_eq_false_iff_ne.mpr c26
      have c26b1 : ((l0_3.length : Int) != 2) = true := bne_iff_ne.mpr c26
      obtain rfl := Option.some.inj H
      go_enter Tryz.func31, Tryz.ntmps31
      go_wp2_with (first | ((with_reducible refine gate_dst (N := 2) rfl ?_); (try (refine gate_guard (by rfl) ?_; dsimp only)); refine box_event ?hg (N := 2) ?hd (cs := #[.int .i64 a0_0, .bool a0_1, .string a0_2, .slice A0_3 l0_3.length c0_3]) (t := 42) ?hr ?_; (case hd => rfl); (case hg => rfl); (case hr => first | (go_simp; done) | (go_simp; rfl)); intro gb153 hg w30 hbox hb; have BK153 := Aside0.mk (hbox); have GW153 := geB w hg; have GE153 := geB w hg; replace HB := Aside0.mk (below_step bel hb); clear hb hbox hg; obtain ⟨hcz31_0, hcz31_1, hcz31_2, hcz31_3, hfz31_0, hfz31_1, hfz31_2, hfz31_3⟩ := bq4 BK153))
      go_ret
      exact ⟨eN, bel⟩
    ·rw [if_neg c25] at H
     have c25b0 : (a0_2.toList == ([] : List UInt8)) = false := beq_eq_false_iff_ne.mpr c25
     have c25b1 : (a0_2.toList != ([] : List UInt8)) = true := bne_iff_ne.mpr c25
     obtain rfl := Option.some.inj H
     go_enter Tryz.func31, Tryz.ntmps31
     go_wp2_with (first | ((with_reducible refine gate_dst (N := 2) rfl ?_); (try (refine gate_guard (by rfl) ?_; dsimp only)); refine box_event ?hg (N := 2) ?hd (cs := #[.int .i64 a0_0, .bool a0_1, .string a0_2, .slice A0_3 l0_3.length c0_3]) (t := 42) ?hr ?_; (case hd => rfl); (case hg => rfl); (case hr => first | (go_simp; done) | (go_simp; rfl)); intro gb153 hg w32 hbox hb; have BK153 := Aside0.mk (hbox); have GW153 := geB w hg; have GE153 := geB w hg; replace HB := Aside0.mk (below_step bel hb); clear hb hbox hg; obtain ⟨hcz33_0, hcz33_1, hcz33_2, hcz33_3, hfz33_0, hfz33_1, hfz33_2, hfz33_3⟩ := bq4 BK153))
     go_ret
     exact ⟨eN, bel⟩
   ·rw [if_neg c24] at H
    have c24b0 : (a0_0 == 2) = false := beq_eq_false_iff_ne.mpr c24
    have c24b1 : (a0_0 != 2) = true := bne_iff_ne.mpr c24
    obtain rfl := Option.some.inj H
    go_enter Tryz.func31, Tryz.ntmps31
    go_wp2_with (first | ((with_reducible refine gate_dst (N := 2) rfl ?_); (try (refine gate_guard (by rfl) ?_; dsimp only)); refine box_event ?hg (N := 2) ?hd (cs := #[.int .i64 a0_0, .bool a0_1, .string a0_2, .slice A0_3 l0_3.length c0_3]) (t := 42) ?hr ?_; (case hd => rfl); (case hg => rfl); (case hr => first | (go_simp; done) | (go_simp; rfl)); intro gb153 hg w34 hbox hb; have BK153 := Aside0.mk (hbox); have GW153 := geB w hg; have GE153 := geB w hg; replace HB := Aside0.mk (below_step bel hb); clear hb hbox hg; obtain ⟨hcz35_0, hcz35_1, hcz35_2, hcz35_3, hfz35_0, hfz35_1, hfz35_2, hfz35_3⟩ := bq4 BK153))
    go_ret
    exact ⟨eN, bel⟩
end Go.Proofs.YtailpfcbdopfeaaGreatDoor.F
/- GuessRelations, the plain law: a test of the document is a test of the walk. -/
namespace Go.Proofs.YtailpfcbdopfeaaGreatDoor.F
open Go.RowKit Go.Proofs.YtailpfcbdopfeaaGreatDoorW.PrintWords Go.Proofs.YtailpfcbdopfeaaGreatDoorW.PrintLast Go.Proofs.YtailpfcbdopfeaaGreatDoorW.PrintMore
set_option linter.unusedVariables false
set_option linter.unusedSimpArgs false
theorem up_ {α : Type} (f : Nat → Option α) (h : ∀ k, LeO (f k) (f (k + 1))) {a b : Nat} {r : α} (hab : a ≤ b) (e : f a = some r) : f b = some r := by
  induction hab with
  | refl => exact e
  | step _ ih => exact h _ _ ih
theorem in_loop (n : Int) (l : List Int) (hl : l.length ≤ 100) : ∀ (d i k : Nat), i + d = l.length → d + 1 ≤ k → paraphrastref01_In.l0 k n l (i : Int) = some (!((l.drop i).any (outB n)))
  | 0, i, k + 1, h, hk => by
    have hd : l.drop i = [] := by rw [List.drop_eq_nil_iff]; omega
    unfold paraphrastref01_In.l0
    rw [if_neg (by omega), hd]
    rfl
  | d + 1, i, k + 1, h, hk => by
    have hi : i < l.length := by omega
    have ih := in_loop n l hl d (i + 1) k (by omega) (by omega)
    have hr := rd_some hi
    have hd : l.drop i = rd l (i : Int) :: l.drop (i + 1) := by
      rw [List.drop_eq_getElem_cons hi]
      have := (List.getElem?_eq_getElem hi).symm.trans hr
      rw [Option.some.inj this]
    unfold paraphrastref01_In.l0
    rw [if_pos (by omega), if_pos (by omega), hd, List.any_cons]
    by_cases h1 : rd l (i : Int) < 0
    · rw [if_pos h1]
      simp [outB, h1]
    · rw [if_neg h1]
      by_cases h2 : rd l (i : Int) ≥ n
      · rw [if_pos h2]
        simp [outB, show n ≤ rd l (i : Int) from h2]
      · have ho : outB n (rd l (i : Int)) = false := by simp [outB]; omega
        rw [if_neg h2, show wrap64 ((i : Int) + 1) = ((i + 1 : Nat) : Int) by unfold wrap64; omega, ih, ho, Bool.false_or]
theorem heads_eq (l : List Int) (n : Int) (hl : l.length ≤ 12) (k : Nat) (hk : 14 ≤ k) : paraphrastref12_heads.f k l n = some (!(l.any (outB n))) := by
  have h := in_loop n l (by omega) l.length 0 k (by omega) (by omega)
  rw [List.drop_zero] at h
  unfold paraphrastref12_heads.f paraphrastref01_In.f
  rw [show (0 : Int) = ((0 : Nat) : Int) from rfl, h]
  rfl
theorem litR_eq (n : Int) (l : S42) (k : Nat) (hk : 20 ≤ k) : paraphrastref12_Literal.f k l.f0 l.f1 l.f2 l.f3 n = some (litB n l) := by
  unfold paraphrastref12_Literal.f litB
  by_cases h0 : l.f0 = 0
  · rw [if_pos h0, if_pos h0, ref_name_eq _ _ hk, Option.bind_some]
    cases hn : nameB l.f2 with
    | false =>
      rw [if_neg (Bool.false_ne_true)]
      split <;> simp
    | true =>
      rw [if_pos rfl, if_pos rfl]
      by_cases h1 : (l.f3.length : Int) ≤ 12
      · rw [if_pos h1, heads_eq _ _ (by omega) _ (by omega), Option.bind_some, decide_eq_true h1]
        cases l.f3.any (outB n) <;> rfl
      · rw [if_neg h1, decide_eq_false h1]
        split <;> rfl
  · rw [if_neg h0, if_neg h0]
    by_cases h1 : l.f0 = 1
    · rw [if_pos h1, if_pos h1]
      by_cases h3 : l.f2.toList = ([] : List UInt8)
      · rw [if_pos h3, if_pos h3]
        by_cases h4 : (l.f3.length : Int) = 2
        · rw [if_pos h4, heads_eq _ _ (by omega) _ (by omega), Option.bind_some, h4]
          cases l.f3.any (outB n) <;> rfl
        · rw [if_neg h4, beq_eq_false_iff_ne.2 h4]
          split <;> rfl
      · rw [if_neg h3, if_neg h3]
        split <;> rfl
    · rw [if_neg h1, if_neg h1]
      by_cases h2 : l.f0 = 2
      · rw [if_pos h2, if_pos h2]
        by_cases h3 : l.f2.toList = ([] : List UInt8)
        · rw [if_pos h3, if_pos h3]
          by_cases h4 : (l.f3.length : Int) = 2
          · rw [if_pos h4, heads_eq _ _ (by omega) _ (by omega), Option.bind_some, h4]
            cases l.f3.any (outB n) <;> rfl
          · rw [if_neg h4, beq_eq_false_iff_ne.2 h4]
            split <;> rfl
        · rw [if_neg h3, if_neg h3]
          split <;> rfl
      · rw [if_neg h2, if_neg h2]
        split <;> rfl
end Go.Proofs.YtailpfcbdopfeaaGreatDoor.F
namespace Go.Proofs.YtailpfcbdopfeaaGreatDoor.F
open Go.RowKit Go.Proofs.YtailpfcbdopfeaaGreatDoorW.PrintWords Go.Proofs.YtailpfcbdopfeaaGreatDoorW.PrintLast Go.Proofs.YtailpfcbdopfeaaGreatDoorW.PrintMore
attribute [local go_sem] max2_int min2_int max_two min_two max_three min_three max_four min_four
set_option linter.unusedVariables false
set_option linter.unusedSimpArgs false
/-! ### paraphrastref12_Agree: function 33 -/
mutual
def paraphrastref12_Agree.l0 : Nat → List (S42) → Int → Option (Bool)
 | 0, _, _ => none
 | k + 1, x0, x3 => if x3 < (x0.length : Int) then (paraphrastref12_Agree.l1 k x0 x3 0) else (some true)
def paraphrastref12_Agree.l1 : Nat → List (S42) → Int → Int → Option (Bool)
 | 0, _, _, _ => none
 | k + 1, x0, x3, x4 => if x4 < x3 then (if 0 ≤ x3 then (if x3 < (x0.length : Int) then (if ((rd_T42 x0 x3).f0) = 0 then (if 0 ≤ x4 then (if x4 < (x0.length : Int) then (if ((rd_T42 x0 x4).f0) = 0 then (if ((rd_T42 x0 x3).f2).toList = ((rd_T42 x0 x4).f2).toList then (if (((rd_T42 x0 x3).f3).length : Int) = (((rd_T42 x0 x4).f3).length : Int) then (paraphrastref12_Agree.l1 k x0 x3 (wrap64 (x4 + 1))) else (some false)) else (paraphrastref12_Agree.l1 k x0 x3 (wrap64 (x4 + 1)))) else (paraphrastref12_Agree.l1 k x0 x3 (wrap64 (x4 + 1)))) else (none)) else (none)) else (paraphrastref12_Agree.l1 k x0 x3 (wrap64 (x4 + 1)))) else (none)) else (none)) else (paraphrastref12_Agree.l0 k x0 (wrap64 (x3 + 1)))
end
def paraphrastref12_Agree.f (k : Nat) (l0 : List (S42)) : Option (Bool) := paraphrastref12_Agree.l0 k l0 0
set_option maxHeartbeats 8000000 in
set_option maxRecDepth 100000 in
theorem paraphrastref12_Agree.calls (k : Nat) (A0 : Option Addr) (c0 : Nat) (l0 : List (S42)) (r : Bool) (w : World) (hr0 : Kd.C k42 w A0 l0.length l0) (hc0 : l0.length ≤ c0) (h : paraphrastref12_Agree.f k l0 = some r) :
  Calls Tryz.prog 33 #[.slice A0 l0.length c0] w fun e w' => e = .returned (.bool r) ∧ Drawn0 w w' := by
 have HR0 := Aside0.mk hr0
 have HC0 := Aside0.mk hc0
 clear hr0 hc0
 have H : (paraphrastref12_Agree.l0 k l0 0) = some r := h
 clear h
 have H' := Aside0.mk H
 clear H
 go_enter Tryz.func33, Tryz.ntmps33
 go_wp2
 repeat (go_quiet (fail); try go_wp2)
 go_loopg [3] k (fun kq v3 w' => ∃ (x3_1 : Int), v3 = .int .i64 x3_1 ∧ Aside0 (paraphrastref12_Agree.l0 kq l0 x3_1 = some r) ∧ Aside0 (kq ≤ k) ∧ Drawn0 w w')
 case atStart => exact ⟨(0), eS, H', ⟨Nat.le_refl _⟩, dr0⟩
 case round =>
  clear H'
  obtain ⟨x3_1, rfl, HA, HK1, ⟨m1, rfl⟩⟩ := hrel
  cases gk with
  | zero => exact absurd HA.out (by simp [paraphrastref12_Agree.l0])
  | succ k1 =>
   have H := HA.out
   clear HA
   simp only [paraphrastref12_Agree.l0] at H
   by_cases c2 : x3_1 < (l0.length : Int)
   ·rw [if_pos c2] at H
    have c2b0 : decide (x3_1 < (l0.length : Int)) = true := decide_eq_true c2
    clear c2
    have H' := Aside0.mk H
    clear H
    go_wp2
    repeat (go_quiet (fail); try go_wp2)
    go_loopg [4] k1 (fun kq v4 w' => ∃ (x4_2 : Int), v4 = .int .i64 x4_2 ∧ Aside0 (paraphrastref12_Agree.l1 kq l0 x3_1 x4_2 = some r) ∧ Aside0 (kq ≤ k1) ∧ Drawn0 w w')
    case atStart => exact ⟨(0), eS, H', ⟨Nat.le_refl _⟩, dr0⟩
    case round =>
     clear H'
     (try clear c2); (try clear c2b0)
     obtain ⟨x4_2, rfl, HA, HK2, ⟨m2, rfl⟩⟩ := hrel
     cases gk with
     | zero => exact absurd HA.out (by simp [paraphrastref12_Agree.l1])
     | succ k2 =>
      have H := HA.out
      clear HA
      simp only [paraphrastref12_Agree.l1] at H
      by_cases c3 : x4_2 < x3_1
      ·rw [if_pos c3] at H
       have c3b0 : decide (x4_2 < x3_1) = true := decide_eq_true c3
       clear c3
       by_cases c4 : 0 ≤ x3_1
       ·rw [if_pos c4] at H
        have c4b0 : decide (0 ≤ x3_1) = true := decide_eq_true c4
        clear c4
        by_cases c5 : x3_1 < (l0.length : Int)
        ·rw [if_pos c5] at H
         have c5b0 : decide (x3_1 < (l0.length : Int)) = true := decide_eq_true c5
         clear c5
         by_cases c6 : ((rd_T42 l0 x3_1).f0) = 0
         ·rw [if_pos c6] at H
          have c6b0 : (((rd_T42 l0 x3_1).f0) == 0) = true := beq_iff_eq.mpr c6
          have c6b1 : (((rd_T42 l0 x3_1).f0) != 0) = false := bne_eq_false_iff_eq.mpr c6
          clear c6
          by_cases c7 : 0 ≤ x4_2
          ·rw [if_pos c7] at H
           have c7b0 : decide (0 ≤ x4_2) = true := decide_eq_true c7
           clear c7
           by_cases c8 : x4_2 < (l0.length : Int)
           ·rw [if_pos c8] at H
            have c8b0 : decide (x4_2 < (l0.length : Int)) = true := decide_eq_true c8
            clear c8
            by_cases c9 : ((rd_T42 l0 x4_2).f0) = 0
            ·rw [if_pos c9] at H
             have c9b0 : (((rd_T42 l0 x4_2).f0) == 0) = true := beq_iff_eq.mpr c9
             have c9b1 : (((rd_T42 l0 x4_2).f0) != 0) = false := bne_eq_false_iff_eq.mpr c9
             clear c9
             by_cases c10 : ((rd_T42 l0 x3_1).f2).toList = ((rd_T42 l0 x4_2).f2).toList
             ·rw [if_pos c10] at H
              have c10b0 : (((rd_T42 l0 x3_1).f2).toList == ((rd_T42 l0 x4_2).f2).toList) = true := beq_iff_eq.mpr c10
              have c10b1 : (((rd_T42 l0 x3_1).f2).toList != ((rd_T42 l0 x4_2).f2).toList) = false := bne_eq_false_iff_eq.mpr c10
              clear c10
              by_cases c11 : (((rd_T42 l0 x3_1).f3).length : Int) = (((rd_T42 l0 x4_2).f3).length : Int)
              ·rw [if_pos c11] at H
               have c11b0 : ((((rd_T42 l0 x3_1).f3).length : Int) == (((rd_T42 l0 x4_2).f3).length : Int)) = true := beq_iff_eq.mpr c11
               have c11b1 : ((((rd_T42 l0 x3_1).f3).length : Int) != (((rd_T42 l0 x4_2).f3).length : Int)) = false := bne_eq_false_iff_eq.mpr c11
               have c11b2 : (((rd_T42 l0 x3_1).f3).length == ((rd_T42 l0 x4_2).f3).length) = true := by first | simpa using c11 | (simp at c11 ⊢; omega)
               clear c11
               have H' := Aside0.mk H
               clear H
               have p160 : 0 ≤ (x3_1 : Int) := dtr
               have q160 : x3_1 < (l0.length : Int) := dtr
               obtain ⟨ad160, A160_3, c160_3, e160, hx160_0, hx160_1, hx160_2, hx160_3, hl160_3, hi160_3⟩ := at_T42 HR0.out x3_1 p160 q160
               cases e160
               have HR160_3 := Aside0.mk hi160_3
               have HC160_3 := Aside0.mk hl160_3
               clear hi160_3 hl160_3
               replace p160 := eq_true p160
               replace q160 := eq_true q160
               have p161 : 0 ≤ (x4_2 : Int) := dtr
               have q161 : x4_2 < (l0.length : Int) := dtr
               obtain ⟨ad161, A161_3, c161_3, e161, hx161_0, hx161_1, hx161_2, hx161_3, hl161_3, hi161_3⟩ := at_T42 HR0.out x4_2 p161 q161
               obtain rfl : ad160 = ad161 := (by injection e161)
               have HR161_3 := Aside0.mk hi161_3
               have HC161_3 := Aside0.mk hl161_3
               clear hi161_3 hl161_3
               replace p161 := eq_true p161
               replace q161 := eq_true q161
               have p162 : 0 ≤ (x3_1 : Int) := dtr
               have q162 : x3_1 < (l0.length : Int) := dtr
               obtain ⟨ad162, A162_3, c162_3, e162, hx162_0, hx162_1, hx162_2, hx162_3, hl162_3, hi162_3⟩ := at_T42 HR0.out x3_1 p162 q162
               obtain rfl : ad160 = ad162 := (by injection e162)
               have HR162_3 := Aside0.mk hi162_3
               have HC162_3 := Aside0.mk hl162_3
               clear hi162_3 hl162_3
               replace p162 := eq_true p162
               replace q162 := eq_true q162
               have ea_ := Option.some.inj (hx160_3.symm.trans hx162_3)
               injection ea_ with ea_ en_ ec_
               subst ea_
               subst ec_
               clear en_
               have p163 : 0 ≤ (x4_2 : Int) := dtr
               have q163 : x4_2 < (l0.length : Int) := dtr
               obtain ⟨ad163, A163_3, c163_3, e163, hx163_0, hx163_1, hx163_2, hx163_3, hl163_3, hi163_3⟩ := at_T42 HR0.out x4_2 p163 q163
               obtain rfl : ad160 = ad163 := (by injection e163)
               have HR163_3 := Aside0.mk hi163_3
               have HC163_3 := Aside0.mk hl163_3
               clear hi163_3 hl163_3
               replace p163 := eq_true p163
               replace q163 := eq_true q163
               have ea_ := Option.some.inj (hx161_3.symm.trans hx163_3)
               injection ea_ with ea_ en_ ec_
               subst ea_
               subst ec_
               clear en_
               have p164 : 0 ≤ (x3_1 : Int) := dtr
               have q164 : x3_1 < (l0.length : Int) := dtr
               obtain ⟨ad164, A164_3, c164_3, e164, hx164_0, hx164_1, hx164_2, hx164_3, hl164_3, hi164_3⟩ := at_T42 HR0.out x3_1 p164 q164
               obtain rfl : ad160 = ad164 := (by injection e164)
               have HR164_3 := Aside0.mk hi164_3
               have HC164_3 := Aside0.mk hl164_3
               clear hi164_3 hl164_3
               replace p164 := eq_true p164
               replace q164 := eq_true q164
               have ea_ := Option.some.inj (hx160_3.symm.trans hx164_3)
               injection ea_ with ea_ en_ ec_
               subst ea_
               subst ec_
               clear en_
               have p165 : 0 ≤ (x4_2 : Int) := dtr
               have q165 : x4_2 < (l0.length : Int) := dtr
               obtain ⟨ad165, A165_3, c165_3, e165, hx165_0, hx165_1, hx165_2, hx165_3, hl165_3, hi165_3⟩ := at_T42 HR0.out x4_2 p165 q165
               obtain rfl : ad160 = ad165 := (by injection e165)
               have HR165_3 := Aside0.mk hi165_3
               have HC165_3 := Aside0.mk hl165_3
               clear hi165_3 hl165_3
               replace p165 := eq_true p165
               replace q165 := eq_true q165
               have ea_ := Option.some.inj (hx161_3.symm.trans hx165_3)
               injection ea_ with ea_ en_ ec_
               subst ea_
               subst ec_
               clear en_
               go_wp2
               repeat (go_quiet (fail); try go_wp2)
               go_roundg k2
               case measure => have := HK1.out; have := HK2.out; omega
               case rel => exact ⟨(wrap64 (x4_2 + 1)), eS, H', ⟨by have := HK1.out; have := HK2.out; omega⟩, dr0⟩
              ·rw [if_neg c11] at H
               have c11b0 : ((((rd_T42 l0 x3_1).f3).length : Int) == (((rd_T42 l0 x4_2).f3).length : Int)) = false := beq_eq_false_iff_ne.mpr c11
               have c11b1 : ((((rd_T42 l0 x3_1).f3).length : Int) != (((rd_T42 l0 x4_2).f3).length : Int)) = true := bne_iff_ne.mpr c11
               have c11b2 : (((rd_T42 l0 x3_1).f3).length == ((rd_T42 l0 x4_2).f3).length) = false := by first | simpa using c11 | (simp at c11 ⊢; omega)
               obtain rfl := Option.some.inj H
               have p160 : 0 ≤ (x3_1 : Int) := dtr
               have q160 : x3_1 < (l0.length : Int) := dtr
               obtain ⟨ad160, A160_3, c160_3, e160, hx160_0, hx160_1, hx160_2, hx160_3, hl160_3, hi160_3⟩ := at_T42 HR0.out x3_1 p160 q160
               cases e160
               have HR160_3 := Aside0.mk hi160_3
               have HC160_3 := Aside0.mk hl160_3
               clear hi160_3 hl160_3
               replace p160 := eq_true p160
               replace q160 := eq_true q160
               have p161 : 0 ≤ (x4_2 : Int) := dtr
               have q161 : x4_2 < (l0.length : Int) := dtr
               obtain ⟨ad161, A161_3, c161_3, e161, hx161_0, hx161_1, hx161_2, hx161_3, hl161_3, hi161_3⟩ := at_T42 HR0.out x4_2 p161 q161
               obtain rfl : ad160 = ad161 := (by injection e161)
               have HR161_3 := Aside0.mk hi161_3
               have HC161_3 := Aside0.mk hl161_3
               clear hi161_3 hl161_3
               replace p161 := eq_true p161
               replace q161 := eq_true q161
               have p162 : 0 ≤ (x3_1 : Int) := dtr
               have q162 : x3_1 < (l0.length : Int) := dtr
               obtain ⟨ad162, A162_3, c162_3, e162, hx162_0, hx162_1, hx162_2, hx162_3, hl162_3, hi162_3⟩ := at_T42 HR0.out x3_1 p162 q162
               obtain rfl : ad160 = ad162 := (by injection e162)
               have HR162_3 := Aside0.mk hi162_3
               have HC162_3 := Aside0.mk hl162_3
               clear hi162_3 hl162_3
               replace p162 := eq_true p162
               replace q162 := eq_true q162
               have ea_ := Option.some.inj (hx160_3.symm.trans hx162_3)
               injection ea_ with ea_ en_ ec_
               subst ea_
               subst ec_
               clear en_
               have p163 : 0 ≤ (x4_2 : Int) := dtr
               have q163 : x4_2 < (l0.length : Int) := dtr
               obtain ⟨ad163, A163_3, c163_3, e163, hx163_0, hx163_1, hx163_2, hx163_3, hl163_3, hi163_3⟩ := at_T42 HR0.out x4_2 p163 q163
               obtain rfl : ad160 = ad163 := (by injection e163)
               have HR163_3 := Aside0.mk hi163_3
               have HC163_3 := Aside0.mk hl163_3
               clear hi163_3 hl163_3
               replace p163 := eq_true p163
               replace q163 := eq_true q163
               have ea_ := Option.some.inj (hx161_3.symm.trans hx163_3)
               injection ea_ with ea_ en_ ec_
               subst ea_
               subst ec_
               clear en_
               have p164 : 0 ≤ (x3_1 : Int) := dtr
               have q164 : x3_1 < (l0.length : Int) := dtr
               obtain ⟨ad164, A164_3, c164_3, e164, hx164_0, hx164_1, hx164_2, hx164_3, hl164_3, hi164_3⟩ := at_T42 HR0.out x3_1 p164 q164
               obtain rfl : ad160 = ad164 := (by injection e164)
               have HR164_3 := Aside0.mk hi164_3
               have HC164_3 := Aside0.mk hl164_3
               clear hi164_3 hl164_3
               replace p164 := eq_true p164
               replace q164 := eq_true q164
               have ea_ := Option.some.inj (hx160_3.symm.trans hx164_3)
               injection ea_ with ea_ en_ ec_
               subst ea_
               subst ec_
               clear en_
               have p165 : 0 ≤ (x4_2 : Int) := dtr
               have q165 : x4_2 < (l0.length : Int) := dtr
               obtain ⟨ad165, A165_3, c165_3, e165, hx165_0, hx165_1, hx165_2, hx165_3, hl165_3, hi165_3⟩ := at_T42 HR0.out x4_2 p165 q165
               obtain rfl : ad160 = ad165 := (by injection e165)
               have HR165_3 := Aside0.mk hi165_3
               have HC165_3 := Aside0.mk hl165_3
               clear hi165_3 hl165_3
               replace p165 := eq_true p165
               replace q165 := eq_true q165
               have ea_ := Option.some.inj (hx161_3.symm.trans hx165_3)
               injection ea_ with ea_ en_ ec_
               subst ea_
               subst ec_
               clear en_
               go_wp2
               repeat (go_quiet (fail); try go_wp2)
               go_ret
               exact ⟨eS, dr0⟩
             ·rw [if_neg c10] at H
              have c10b0 : (((rd_T42 l0 x3_1).f2).toList == ((rd_T42 l0 x4_2).f2).toList) = false := beq_eq_false_iff_ne.mpr c10
              have c10b1 : (((rd_T42 l0 x3_1).f2).toList != ((rd_T42 l0 x4_2).f2).toList) = true := bne_iff_ne.mpr c10
              have H' := Aside0.mk H
              clear H
              have p160 : 0 ≤ (x3_1 : Int) := dtr
              have q160 : x3_1 < (l0.length : Int) := dtr
              obtain ⟨ad160, A160_3, c160_3, e160, hx160_0, hx160_1, hx160_2, hx160_3, hl160_3, hi160_3⟩ := at_T42 HR0.out x3_1 p160 q160
              cases e160
              have HR160_3 := Aside0.mk hi160_3
              have HC160_3 := Aside0.mk hl160_3
              clear hi160_3 hl160_3
              replace p160 := eq_true p160
              replace q160 := eq_true q160
              have p161 : 0 ≤ (x4_2 : Int) := dtr
              have q161 : x4_2 < (l0.length : Int) := dtr
              obtain ⟨ad161, A161_3, c161_3, e161, hx161_0, hx161_1, hx161_2, hx161_3, hl161_3, hi161_3⟩ := at_T42 HR0.out x4_2 p161 q161
              obtain rfl : ad160 = ad161 := (by injection e161)
              have HR161_3 := Aside0.mk hi161_3
              have HC161_3 := Aside0.mk hl161_3
              clear hi161_3 hl161_3
              replace p161 := eq_true p161
              replace q161 := eq_true q161
              have p162 : 0 ≤ (x3_1 : Int) := dtr
              have q162 : x3_1 < (l0.length : Int) := dtr
              obtain ⟨ad162, A162_3, c162_3, e162, hx162_0, hx162_1, hx162_2, hx162_3, hl162_3, hi162_3⟩ := at_T42 HR0.out x3_1 p162 q162
              obtain rfl : ad160 = ad162 := (by injection e162)
              have HR162_3 := Aside0.mk hi162_3
              have HC162_3 := Aside0.mk hl162_3
              clear hi162_3 hl162_3
              replace p162 := eq_true p162
              replace q162 := eq_true q162
              have ea_ := Option.some.inj (hx160_3.symm.trans hx162_3)
              injection ea_ with ea_ en_ ec_
              subst ea_
              subst ec_
              clear en_
              have p163 : 0 ≤ (x4_2 : Int) := dtr
              have q163 : x4_2 < (l0.length : Int) := dtr
              obtain ⟨ad163, A163_3, c163_3, e163, hx163_0, hx163_1, hx163_2, hx163_3, hl163_3, hi163_3⟩ := at_T42 HR0.out x4_2 p163 q163
              obtain rfl : ad160 = ad163 := (by injection e163)
              have HR163_3 := Aside0.mk hi163_3
              have HC163_3 := Aside0.mk hl163_3
              clear hi163_3 hl163_3
              replace p163 := eq_true p163
              replace q163 := eq_true q163
              have ea_ := Option.some.inj (hx161_3.symm.trans hx163_3)
              injection ea_ with ea_ en_ ec_
              subst ea_
              subst ec_
              clear en_
              go_wp2
              repeat (go_quiet (fail); try go_wp2)
              go_roundg k2
              case measure => have := HK1.out; have := HK2.out; omega
              case rel => exact ⟨(wrap64 (x4_2 + 1)), eS, H', ⟨by have := HK1.out; have := HK2.out; omega⟩, dr0⟩
            ·rw [if_neg c9] at H
             have c9b0 : (((rd_T42 l0 x4_2).f0) == 0) = false := beq_eq_false_iff_ne.mpr c9
             have c9b1 : (((rd_T42 l0 x4_2).f0) != 0) = true := bne_iff_ne.mpr c9
             have H' := Aside0.mk H
             clear H
             have p160 : 0 ≤ (x3_1 : Int) := dtr
             have q160 : x3_1 < (l0.length : Int) := dtr
             obtain ⟨ad160, A160_3, c160_3, e160, hx160_0, hx160_1, hx160_2, hx160_3, hl160_3, hi160_3⟩ := at_T42 HR0.out x3_1 p160 q160
             cases e160
             have HR160_3 := Aside0.mk hi160_3
             have HC160_3 := Aside0.mk hl160_3
             clear hi160_3 hl160_3
             replace p160 := eq_true p160
             replace q160 := eq_true q160
             have p161 : 0 ≤ (x4_2 : Int) := dtr
             have q161 : x4_2 < (l0.length : Int) := dtr
             obtain ⟨ad161, A161_3, c161_3, e161, hx161_0, hx161_1, hx161_2, hx161_3, hl161_3, hi161_3⟩ := at_T42 HR0.out x4_2 p161 q161
             obtain rfl : ad160 = ad161 := (by injection e161)
             have HR161_3 := Aside0.mk hi161_3
             have HC161_3 := Aside0.mk hl161_3
             clear hi161_3 hl161_3
             replace p161 := eq_true p161
             replace q161 := eq_true q161
             go_wp2
             repeat (go_quiet (fail); try go_wp2)
             go_roundg k2
             case measure => have := HK1.out; have := HK2.out; omega
             case rel => exact ⟨(wrap64 (x4_2 + 1)), eS, H', ⟨by have := HK1.out; have := HK2.out; omega⟩, dr0⟩
           ·rw [if_neg c8] at H
            exact absurd H (by simp)
          ·rw [if_neg c7] at H
           exact absurd H (by simp)
         ·rw [if_neg c6] at H
          have c6b0 : (((rd_T42 l0 x3_1).f0) == 0) = false := beq_eq_false_iff_ne.mpr c6
          have c6b1 : (((rd_T42 l0 x3_1).f0) != 0) = true := bne_iff_ne.mpr c6
          have H' := Aside0.mk H
          clear H
          have p160 : 0 ≤ (x3_1 : Int) := dtr
          have q160 : x3_1 < (l0.length : Int) := dtr
          obtain ⟨ad160, A160_3, c160_3, e160, hx160_0, hx160_1, hx160_2, hx160_3, hl160_3, hi160_3⟩ := at_T42 HR0.out x3_1 p160 q160
          cases e160
          have HR160_3 := Aside0.mk hi160_3
          have HC160_3 := Aside0.mk hl160_3
          clear hi160_3 hl160_3
          replace p160 := eq_true p160
          replace q160 := eq_true q160
          go_wp2
          repeat (go_quiet (fail); try go_wp2)
          go_roundg k2
          case measure => have := HK1.out; have := HK2.out; omega
          case rel => exact ⟨(wrap64 (x4_2 + 1)), eS, H', ⟨by have := HK1.out; have := HK2.out; omega⟩, dr0⟩
        ·rw [if_neg c5] at H
         exact absurd H (by simp)
       ·rw [if_neg c4] at H
        exact absurd H (by simp)
      ·rw [if_neg c3] at H
       have c3b0 : decide (x4_2 < x3_1) = false := decide_eq_false c3
       clear c3
       have H' := Aside0.mk H
       clear H
       go_wp2
       repeat (go_quiet (fail); try go_wp2)
       go_roundg k2
       case measure => have := HK1.out; have := HK2.out; omega
       case rel => exact ⟨(wrap64 (x3_1 + 1)), eS, H', ⟨by have := HK1.out; have := HK2.out; omega⟩, dr0⟩
   ·rw [if_neg c2] at H
    have c2b0 : decide (x3_1 < (l0.length : Int)) = false := decide_eq_false c2
    clear c2
    obtain rfl := Option.some.inj H
    go_wp2
    repeat (go_quiet (fail); try go_wp2)
    go_ret
    exact ⟨eS, dr0⟩
end Go.Proofs.YtailpfcbdopfeaaGreatDoor.F
namespace Go.Proofs.YtailpfcbdopfeaaGreatDoor.F
open Go.RowKit Go.Proofs.YtailpfcbdopfeaaGreatDoorW.PrintWords Go.Proofs.YtailpfcbdopfeaaGreatDoorW.PrintLast Go.Proofs.YtailpfcbdopfeaaGreatDoorW.PrintMore
attribute [local go_sem] max2_int min2_int max_two min_two max_three min_three max_four min_four
set_option linter.unusedVariables false
set_option linter.unusedSimpArgs false
theorem eqA46 (d : Nat) (w : World) (x0 y0 : ByteArray) (x1 y1 : Int) :
    (Op.equalIn (d + 2) 46 (.agg #[.string x0, .int .i64 x1]) (.agg #[.string y0, .int .i64 y1])).run Tryz.prog w = .ok (x0.toList == y0.toList && (x1 == y1)) w := by
  refine eqA_of Tryz.underlying46 (by kernel_rfl) ?_
  refine eqf_cons (by rfl) (by go_simp; rfl) (by go_simp; rfl) (by go_simp) ?_
  exact eqf_last (by rfl) (by go_simp; rfl) (by go_simp; rfl) (by go_simp)
theorem eqA69 (d : Nat) (w : World) (x0 y0 : Int) (x1 y1 : Int) (x2 y2 : Int) (x3 y3 : Int) (x4 y4 : Int) :
    (Op.equalIn (d + 2) 69 (.agg #[.int .i64 x0, .int .i64 x1, .int .i64 x2, .int .i64 x3, .int .i64 x4]) (.agg #[.int .i64 y0, .int .i64 y1, .int .i64 y2, .int .i64 y3, .int .i64 y4])).run Tryz.prog w = .ok (x0 == y0 && (x1 == y1 && (x2 == y2 && (x3 == y3 && (x4 == y4))))) w := by
  refine eqA_of Tryz.underlying69 (by kernel_rfl) ?_
  refine eqf_cons (by rfl) (by go_simp; rfl) (by go_simp; rfl) (by go_simp) ?_
  refine eqf_cons (by rfl) (by go_simp; rfl) (by go_simp; rfl) (by go_simp) ?_
  refine eqf_cons (by rfl) (by go_simp; rfl) (by go_simp; rfl) (by go_simp) ?_
  refine eqf_cons (by rfl) (by go_simp; rfl) (by go_simp; rfl) (by go_simp) ?_
  exact eqf_last (by rfl) (by go_simp; rfl) (by go_simp; rfl) (by go_simp)
end Go.Proofs.YtailpfcbdopfeaaGreatDoor.F
