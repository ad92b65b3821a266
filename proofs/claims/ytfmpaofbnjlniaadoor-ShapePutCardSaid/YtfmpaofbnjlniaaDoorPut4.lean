/- Part 4 of the proof: ShapePut: for every structure and every list of changes, each call of Put changes exactly the one tuple that was asked for; no condition. -/
import Derived.Test.YtfmpaofbnjlniaaDoorPut3
import Derived.Lib.SplitLaws
import Derived.Lib.SliceRun
import Derived.Lib.Overlaps
import Derived.Lib.AppendZerosOnto
import Derived.Laws.NewBlocks
import Derived.Laws.IdiomCopy
import Derived.Laws.Externs
import Derived.Deep.RegionLaw
/- Plain lemmas that every law of the chapter asks: powers, elements, equality, and that the examples of the chapter come out. -/
namespace Go.Proofs.YtfmpaofbnjlniaaDoor.F
open Go.RowKit Go.Proofs.YtfmpaofbnjlniaaDoorW.PrintWords Go.Proofs.YtfmpaofbnjlniaaDoorW.PrintLast Go.Proofs.YtfmpaofbnjlniaaDoorW.PrintMore
set_option linter.unusedVariables false
theorem w64 {x : Int} (h0 : -9223372036854775808 ≤ x) (h1 : x ≤ 9223372036854775807) : wrap64 x = x := by unfold wrap64; omega
theorem pow_both (n m : Int) (hn1 : 1 ≤ n) (hn2 : n ≤ 64) (hm : m ≤ 12) : ∀ (j : Nat) (p i : Int) (k : Nat), 1 ≤ p → p ≤ 4096 → 0 ≤ i → i + j = m → j + 1 ≤ k →
    ∃ q : Int, 1 ≤ q ∧ paraphrastref01_Pow.l0 k n m p i = some q ∧ shape_power.l0 k n 4096 p m i = some (if q > 4096 then -1 else q)
  | 0, p, i, k + 1, h1, h2, h3, h4, h5 => ⟨p, h1, by unfold paraphrastref01_Pow.l0; rw [if_neg (by omega)], by unfold shape_power.l0; rw [if_neg (by omega), if_neg (by omega)]⟩
  | j + 1, p, i, k + 1, h1, h2, h3, h4, h5 => by
    have e1 : p * n ≤ 4096 * 64 := Int.mul_le_mul h2 hn2 (by omega) (by omega)
    have e2 : 1 * 1 ≤ p * n := Int.mul_le_mul h1 hn1 (by omega) (by omega)
    have w1 : wrap64 (p * n) = p * n := w64 (by omega) (by omega)
    have w2 : wrap64 (i + 1) = i + 1 := w64 (by omega) (by omega)
    unfold paraphrastref01_Pow.l0 shape_power.l0
    rw [if_pos (by omega), if_pos (by omega), if_pos (by omega), w1, w2]
    by_cases hb : p * n > 4096
    · rw [if_pos hb]
      obtain ⟨k', rfl⟩ : ∃ k', k = k' + 1 := ⟨k - 1, by omega⟩
      refine ⟨p * n, by omega, ?_, by rw [if_pos hb]⟩
      unfold paraphrastref01_Pow.l0
      split
      · rw [if_neg (by omega)]
      · rfl
    · rw [if_neg hb]
      exact pow_both n m hn1 hn2 hm j (p * n) (i + 1) k (by omega) (by omega) (by omega) (by omega) (by omega)
theorem rd_nat (l : List Int) (i : Nat) (h : i < l.length) : rd l (i : Int) = l[i] := by unfold rd; rw [Int.toNat_natCast, List.getD_eq_getElem?_getD, List.getElem?_eq_getElem h]; rfl
theorem alive_true : ∃ K, ∀ k, K ≤ k → paraphrastlaw01_alive.f k = some true := by
  have hparse : ∀ k, 100 ≤ k → shape_Parse.f k (⟨#[51, 59, 32, 69, 47, 50, 32, 48, 44, 49, 32, 49, 44, 50, 59, 32, 80, 47, 49, 32, 50, 59, 32, 81, 47, 48, 32, 40, 41]⟩ : ByteArray) = some (3, [⟨⟨#[69]⟩, 2, [[0, 1], [1, 2]]⟩, ⟨⟨#[80]⟩, 1, [[2]]⟩, ⟨⟨#[81]⟩, 0, [[]]⟩], 0) := by
    intro k hk
    have hp : parseB (⟨#[51, 59, 32, 69, 47, 50, 32, 48, 44, 49, 32, 49, 44, 50, 59, 32, 80, 47, 49, 32, 50, 59, 32, 81, 47, 48, 32, 40, 41]⟩ : ByteArray) = some (3, [⟨⟨#[69]⟩, 2, [[0, 1], [1, 2]]⟩, ⟨⟨#[80]⟩, 1, [[2]]⟩, ⟨⟨#[81]⟩, 0, [[]]⟩]) := by kernel_rfl
    have hv : shape_Valid.f k 3 [⟨⟨#[69]⟩, 2, [[0, 1], [1, 2]]⟩, ⟨⟨#[80]⟩, 1, [[2]]⟩, ⟨⟨#[81]⟩, 0, [[]]⟩] = some true := at_rounds (shape_Valid.mono _ _) hk (by kernel_rfl)
    have hw : shape_write.f 3 [⟨⟨#[69]⟩, 2, [[0, 1], [1, 2]]⟩, ⟨⟨#[80]⟩, 1, [[2]]⟩, ⟨⟨#[81]⟩, 0, [[]]⟩] = some (⟨#[51, 59, 32, 69, 47, 50, 32, 48, 44, 49, 32, 49, 44, 50, 59, 32, 80, 47, 49, 32, 50, 59, 32, 81, 47, 48, 32, 40, 41]⟩ : ByteArray) := by
      unfold shape_write.f
      rw [if_pos]
      · kernel_rfl
      · refine ⟨by decide, ?_, ?_⟩
        · simp
        · exact of_decide_eq_true (by kernel_rfl)
    unfold shape_Parse.f
    rw [if_neg (by decide), hp]
    unfold parseEnd
    simp only [hv, Option.bind_some, if_true, hw]
  have hrank : ∀ k, 100 ≤ k → shape_Rank.f k 3 [1, 2] = some (5, 0) := fun k hk => at_rounds (shape_Rank.mono _ _) hk (by kernel_rfl)
  have htup : ∀ k, 100 ≤ k → shape_Tuple.f k 2 3 5 = some ([1, 0, 1], 0) := fun k hk => at_rounds (shape_Tuple.mono _ _ _) hk (by kernel_rfl)
  have hhas : ∀ k, 100 ≤ k → shape_Has.f k 3 [⟨⟨#[69]⟩, 2, [[0, 1], [1, 2]]⟩, ⟨⟨#[80]⟩, 1, [[2]]⟩, ⟨⟨#[81]⟩, 0, [[]]⟩] (⟨#[69]⟩ : ByteArray) [1, 2] = some (true, 0) := fun k hk => at_rounds (shape_Has.mono _ _ _ _) hk (by kernel_rfl)
  have heq : ∀ k, 100 ≤ k → paraphrastref01_Equal.f k [1, 0, 1] [1, 0, 1] = some true := fun k hk => at_rounds (paraphrastref01_Equal.mono _ _) hk (by kernel_rfl)
  refine ⟨100, fun k hk => ?_⟩
  unfold paraphrastlaw01_alive.f
  rw [hparse k hk]
  simp only [Option.bind_some]
  rw [hrank k hk, htup k hk]
  simp only [Option.bind_some]
  rw [hhas k hk]
  simp only [Option.bind_some, if_true]
  rw [heq k hk]
  rfl
end Go.Proofs.YtfmpaofbnjlniaaDoor.F
/- Numbers of tuples: plain lemmas on Rank, Tuple and the lexicographic order. -/
namespace Go.Proofs.YtfmpaofbnjlniaaDoor.F
open Go.RowKit Go.Proofs.YtfmpaofbnjlniaaDoorW.PrintWords Go.Proofs.YtfmpaofbnjlniaaDoorW.PrintLast Go.Proofs.YtfmpaofbnjlniaaDoorW.PrintMore
set_option linter.unusedVariables false
def val (n a : Int) (l : List Int) : Int := l.foldl (fun a x => a * n + x) a
def lexL : List Int → List Int → Bool
  | x :: xs, y :: ys => if x = y then lexL xs ys else decide (x < y)
  | _, _ => false
theorem val_cons (n a x : Int) (l : List Int) : val n a (x :: l) = val n (a * n + x) l := rfl
theorem val_split (n : Int) : ∀ (l : List Int) (a : Int), val n a l = a * n ^ l.length + val n 0 l
  | [], a => by simp [val]
  | x :: l, a => by
    have e1 := val_split n l (a * n + x)
    have e2 := val_split n l (0 * n + x)
    rw [val_cons, val_cons, e1, e2, List.length_cons, Int.pow_succ]
    grind
theorem pow_pos' (n : Int) (hn : 1 ≤ n) : ∀ j : Nat, 1 ≤ n ^ j
  | 0 => by simp
  | j + 1 => by
    have := pow_pos' n hn j
    rw [Int.pow_succ]
    have := Int.mul_le_mul this hn (by omega) (by omega)
    omega
theorem val_cons0 (n x : Int) (l : List Int) : val n 0 (x :: l) = x * n ^ l.length + val n 0 l := by
  rw [val_cons, val_split n l (0 * n + x)]; grind
theorem val_bound (n : Int) (hn : 1 ≤ n) : ∀ (l : List Int), (∀ x ∈ l, 0 ≤ x ∧ x < n) → 0 ≤ val n 0 l ∧ val n 0 l < n ^ l.length
  | [], _ => by simp [val]
  | x :: l, h => by
    obtain ⟨h1, h2⟩ := val_bound n hn l (fun y hy => h y (List.mem_cons_of_mem _ hy))
    obtain ⟨h3, h4⟩ := h x List.mem_cons_self
    have hp := pow_pos' n hn l.length
    rw [val_cons0, List.length_cons, Int.pow_succ]
    generalize n ^ l.length = P at *
    have e1 : 0 ≤ x * P := Int.mul_nonneg h3 (by omega)
    have e2 : (x + 1) * P ≤ n * P := Int.mul_le_mul_of_nonneg_right (by omega) (by omega)
    rw [Int.add_mul, Int.one_mul, Int.mul_comm n P] at e2
    omega
theorem val_order (n : Int) (hn : 1 ≤ n) : ∀ (x y : List Int), x.length = y.length → (∀ t ∈ x, 0 ≤ t ∧ t < n) → (∀ t ∈ y, 0 ≤ t ∧ t < n) →
    decide (val n 0 x < val n 0 y) = lexL x y ∧ (val n 0 x == val n 0 y) = (x == y)
  | [], [], _, _, _ => by simp [val, lexL]
  | [], _ :: _, h, _, _ => by simp at h
  | _ :: _, [], h, _, _ => by simp at h
  | a :: x, b :: y, hl, hx, hy => by
    have hl' : x.length = y.length := by simpa using hl
    have hx' := fun t ht => hx t (List.mem_cons_of_mem _ ht)
    have hy' := fun t ht => hy t (List.mem_cons_of_mem _ ht)
    obtain ⟨i1, i2⟩ := val_order n hn x y hl' hx' hy'
    obtain ⟨b1, b2⟩ := val_bound n hn x hx'
    obtain ⟨b3, b4⟩ := val_bound n hn y hy'
    have hp := pow_pos' n hn x.length
    rw [val_cons0, val_cons0, ← hl']
    rw [← hl'] at b4
    generalize n ^ x.length = P at *
    rcases Int.lt_trichotomy a b with h | h | h
    · have e : (a + 1) * P ≤ b * P := Int.mul_le_mul_of_nonneg_right (by omega) (by omega)
      rw [Int.add_mul, Int.one_mul] at e
      refine ⟨?_, ?_⟩
      · unfold lexL
        rw [if_neg (by omega), decide_eq_true h, decide_eq_true_eq]; omega
      · rw [beq_eq_false_iff_ne.2 (by omega), beq_eq_false_iff_ne.2 (by simp; omega)]
    · subst h
      refine ⟨?_, ?_⟩
      · unfold lexL
        rw [if_pos rfl, ← i1, decide_eq_decide]; omega
      · have : (a :: x == a :: y) = (x == y) := by simp
        rw [this, ← i2]
        by_cases hv : val n 0 x = val n 0 y
        · rw [beq_iff_eq.2 hv, beq_iff_eq.2 (by omega)]
        · rw [beq_eq_false_iff_ne.2 hv, beq_eq_false_iff_ne.2 (by omega)]
    · have e : (b + 1) * P ≤ a * P := Int.mul_le_mul_of_nonneg_right (by omega) (by omega)
      rw [Int.add_mul, Int.one_mul] at e
      refine ⟨?_, ?_⟩
      · unfold lexL
        rw [if_neg (by omega), decide_eq_false (by omega : ¬ a < b), decide_eq_false_iff_not]; omega
      · rw [beq_eq_false_iff_ne.2 (by omega), beq_eq_false_iff_ne.2 (by simp; omega)]
theorem pow_exact (n m : Int) (hn1 : 1 ≤ n) (hn2 : n ≤ 64) (hm : m ≤ 12) : ∀ (j : Nat) (p i : Int) (k : Nat) (q : Int), 1 ≤ p → p ≤ 4096 → 0 ≤ i → i + j = m → paraphrastref01_Pow.l0 k n m p i = some q → q ≤ 4096 → q = p * n ^ j
  | j, p, i, 0, q, h1, h2, h3, h4, h5, h6 => by simp [paraphrastref01_Pow.l0] at h5
  | 0, p, i, k + 1, q, h1, h2, h3, h4, h5, h6 => by
    unfold paraphrastref01_Pow.l0 at h5
    rw [if_neg (by omega)] at h5
    obtain rfl := Option.some.inj h5
    simp
  | j + 1, p, i, k + 1, q, h1, h2, h3, h4, h5, h6 => by
    have e1 : p * n ≤ 4096 * 64 := Int.mul_le_mul h2 hn2 (by omega) (by omega)
    have e2 : 1 * 1 ≤ p * n := Int.mul_le_mul h1 hn1 (by omega) (by omega)
    unfold paraphrastref01_Pow.l0 at h5
    rw [if_pos (by omega), if_pos (by omega), w64 (x := p * n) (by omega) (by omega), w64 (x := i + 1) (by omega) (by omega)] at h5
    by_cases hb : p * n ≤ 4096
    · rw [pow_exact n m hn1 hn2 hm j (p * n) (i + 1) k q (by omega) hb (by omega) (by omega) h5 h6, Int.pow_succ]
      grind
    · exfalso
      cases k with
      | zero => simp [paraphrastref01_Pow.l0] at h5
      | succ k =>
        unfold paraphrastref01_Pow.l0 at h5
        split at h5
        · (try rw [if_neg hb] at h5)
          have := Option.some.inj h5; omega
        · have := Option.some.inj h5; omega
theorem equal_all (x y : List Int) (hl : x.length = y.length) (hx : x.length ≤ 1000) : ∀ (j i k : Nat), i + j = x.length → j + 1 ≤ k → paraphrastref01_Equal.l0 k x y (i : Int) = some (x.drop i == y.drop i)
  | 0, i, k + 1, h, hk => by unfold paraphrastref01_Equal.l0; rw [if_neg (by omega), List.drop_eq_nil_of_le (by omega), List.drop_eq_nil_of_le (by omega)]; rfl
  | j + 1, i, k + 1, h, hk => by
    have hi : i < x.length := by omega
    have hi2 : i < y.length := by omega
    unfold paraphrastref01_Equal.l0
    rw [if_pos (by omega), if_pos (by omega), if_pos (by omega), rd_nat x i hi, rd_nat y i hi2, List.drop_eq_getElem_cons hi, List.drop_eq_getElem_cons hi2, w64 (by omega) (by omega)]
    by_cases he : x[i] = y[i]
    · rw [if_pos he, he]
      have := equal_all x y hl hx j (i + 1) k (by omega) (by omega)
      rw [show ((i + 1 : Nat) : Int) = (i : Int) + 1 by omega] at this
      rw [this, List.cons_beq_cons, beq_self_eq_true, Bool.true_and]
    · rw [if_neg he, beq_eq_false_iff_ne.2 (fun e => he (List.cons.inj e).1)]
end Go.Proofs.YtfmpaofbnjlniaaDoor.F
/- Names, tuples, relations, structures: what Name, tuples, rel and Valid answer, as plain Bools; the program's and the document's. -/
namespace Go.Proofs.YtfmpaofbnjlniaaDoor.F
open Go.RowKit Go.Proofs.YtfmpaofbnjlniaaDoorW.PrintWords Go.Proofs.YtfmpaofbnjlniaaDoorW.PrintLast Go.Proofs.YtfmpaofbnjlniaaDoorW.PrintMore
set_option linter.unusedVariables false
def letB (c : Int) : Bool := (decide (97 ≤ c) && decide (c ≤ 122)) || (decide (65 ≤ c) && decide (c ≤ 90))
def digB (c : Int) : Bool := decide (48 ≤ c) && decide (c ≤ 57)
theorem letter_eq (c : Int) : shape_letter.f c = some (letB c) := by
  unfold shape_letter.f letB
  simp only [ge_iff_le]
  by_cases h1 : 97 ≤ c <;> by_cases h2 : c ≤ 122 <;> by_cases h3 : 65 ≤ c <;> by_cases h4 : c ≤ 90 <;> simp [h1, h2, h3, h4]
theorem digit_eq (c : Int) : shape_digit.f c = some (digB c) := by
  unfold shape_digit.f digB
  split <;> simp <;> omega
def wordB (s : ByteArray) : Bool := (shape_word.f s).getD false
theorem word_eq (s : ByteArray) : shape_word.f s = some (wordB s) := by
  unfold wordB shape_word.f
  repeat' split
  all_goals rfl
/-- The d bytes from i on are letters or digits. -/
def restB (s : ByteArray) : Nat → Nat → Bool
  | 0, _ => true
  | d + 1, i => (letB (bt s i) || digB (bt s i)) && restB s d (i + 1)
def nameB (s : ByteArray) : Bool := decide (1 ≤ s.size) && decide (s.size ≤ 12) && letB (bt s 0) && !wordB s && restB s (s.size - 1) 1
theorem name_loop (s : ByteArray) (hs : s.size ≤ 12) : ∀ (d i k : Nat), i + d = s.size → d + 1 ≤ k → shape_Name.l0 k s (s.size : Int) (i : Int) = some (restB s d i)
  | 0, i, k + 1, h, hk => by unfold shape_Name.l0; rw [if_neg (by omega)]; rfl
  | d + 1, i, k + 1, h, hk => by
    unfold shape_Name.l0 restB
    have ih := name_loop s hs d (i + 1) k (by omega) (by omega)
    rw [show ((i + 1 : Nat) : Int) = (i : Int) + 1 by omega] at ih
    rw [if_pos (by omega), if_pos (by omega), if_pos (by omega), letter_eq, digit_eq, w64 (by omega) (by omega), ih]
    simp only [Option.bind_some]
    cases letB (bt s i) <;> cases digB (bt s i) <;> rfl
theorem toList_loop (bs : ByteArray) : ∀ (d i : Nat) (r : List UInt8), i + d = bs.size → ByteArray.toList.loop bs i r = r.reverse ++ bs.data.toList.drop i
  | 0, i, r, h => by
    have hl : bs.data.toList.length = bs.size := data_length bs
    unfold ByteArray.toList.loop
    rw [if_neg (by omega), List.drop_eq_nil_of_le (by omega), List.append_nil]
  | d + 1, i, r, h => by
    have hl : bs.data.toList.length = bs.size := data_length bs
    unfold ByteArray.toList.loop
    rw [if_pos (by omega), toList_loop bs d (i + 1) _ (by omega), List.drop_eq_getElem_cons (show i < bs.data.toList.length by omega), List.reverse_cons, List.append_assoc]
    have hi : i < bs.data.size := by rw [Array.length_toList] at hl; omega
    have : bs.get! i = bs.data.toList[i]'(by omega) := by
      show bs.data[i]! = _
      rw [getElem!_pos bs.data i hi]; simp
    rw [this]; rfl
theorem toList_data (s : ByteArray) : s.toList = s.data.toList := by
  unfold ByteArray.toList
  rw [toList_loop s s.size 0 [] (by omega)]; simp
theorem toList_inj {s t : ByteArray} (h : s.toList = t.toList) : s = t := by
  rw [toList_data, toList_data] at h
  cases s; cases t
  simp at h
  simp [h]
theorem toList_nil (s : ByteArray) : s.toList = ([] : List UInt8) ↔ s.size = 0 := by
  rw [toList_data, ← data_length s]
  exact (List.length_eq_zero_iff (l := s.data.toList)).symm
theorem name_eq (s : ByteArray) (k : Nat) (hk : 20 ≤ k) : shape_Name.f k s = some (nameB s) := by
  obtain ⟨k, rfl⟩ : ∃ k', k = k' + 1 := ⟨k - 1, by omega⟩
  unfold shape_Name.f nameB
  by_cases h0 : s.size = 0
  · rw [if_pos ((toList_nil s).2 h0)]; simp [shape_Name.j0, h0]
  · rw [if_neg (fun h => h0 ((toList_nil s).1 h))]
    by_cases h1 : (s.size : Int) > 12
    · rw [if_pos h1]; simp [shape_Name.j0, show ¬ s.size ≤ 12 by omega]
    · rw [if_neg h1, if_pos (by omega), letter_eq]
      simp only [Option.bind_some]
      cases hl : letB (bt s 0) with
      | false => simp [shape_Name.j0]
      | true =>
        rw [if_pos rfl, word_eq]
        simp only [Option.bind_some]
        cases hw : wordB s with
        | true => simp [shape_Name.j0]
        | false =>
          unfold shape_Name.j0
          simp only [Bool.false_eq_true, if_false]
          have := name_loop s (by omega) s.size 0 k (by omega) (by omega)
          rw [show ((0 : Nat) : Int) = 0 from rfl] at this
          rw [this]
          obtain ⟨m, hm⟩ : ∃ m, s.size = m + 1 := ⟨s.size - 1, by omega⟩
          rw [hm, restB, show ((0 : Nat) : Int) = 0 from rfl, hl]
          simp; omega
theorem compare_loop (x y : List Int) (hl : x.length = y.length) (hx : x.length ≤ 100000) : ∀ (j i k : Nat), i + j = x.length → j + 1 ≤ k → ∃ c, slices_Compare_int_int.l0 k x y x (x.length : Int) (i : Int) = some c ∧ decide (c ≥ 0) = !lexL (x.drop i) (y.drop i)
  | 0, i, k + 1, h, hk => by
    refine ⟨0, ?_, ?_⟩
    · unfold slices_Compare_int_int.l0; rw [if_neg (by omega), if_neg (by omega)]
    · rw [List.drop_eq_nil_of_le (by omega)]; rfl
  | j + 1, i, k + 1, h, hk => by
    have hi : i < x.length := by omega
    have hi2 : i < y.length := by omega
    unfold slices_Compare_int_int.l0
    rw [if_pos (by omega), if_pos (by omega), if_pos (by omega), if_neg (by omega), if_pos (by omega), rd_nat x i hi, rd_nat y i hi2, List.drop_eq_getElem_cons hi, List.drop_eq_getElem_cons hi2, w64 (by omega) (by omega)]
    unfold cmp_Compare_int.f cmp_isNaN_int.f lexL
    simp only [bne_self_eq_false, Option.bind_some, Bool.false_eq_true, if_false]
    rcases Int.lt_trichotomy x[i] y[i] with h1 | h1 | h1
    · exact ⟨-1, by simp [h1], by rw [if_neg (by omega), decide_eq_true h1]; rfl⟩
    · obtain ⟨c, hc, hd⟩ := compare_loop x y hl hx j (i + 1) k (by omega) (by omega)
      rw [show ((i + 1 : Nat) : Int) = (i : Int) + 1 by omega] at hc
      exact ⟨c, by simp [h1, hc], by rw [if_pos h1]; exact hd⟩
    · exact ⟨1, by simp [h1, show ¬ x[i] < y[i] by omega], by rw [if_neg (by omega), decide_eq_false (by omega : ¬ x[i] < y[i])]; rfl⟩
def tupV (n a : Int) (t : List Int) : Bool := decide ((t.length : Int) = a) && !t.any (outB n)
/-- The d tuples from i on are of this arity, in range, and each is above the one before it. -/
def tupsV (n a : Int) (l : List (List Int)) : Nat → Nat → Bool
  | 0, _ => true
  | d + 1, i => tupV n a (rd_L2 l i) && (decide (i = 0) || lexL (rd_L2 l ((i : Int) - 1)) (rd_L2 l i)) && tupsV n a l d (i + 1)
theorem elements_eq (n : Int) (t : List Int) : shape_elements.f n t = some (!t.any (outB n)) := rfl
/-- shape.tuples' loop: from i on, the tuple ahead of i having this arity. -/
theorem tuples_loop (n a : Int) (nm : ByteArray) (a1 : Int) (l : List (List Int)) (hl : l.length ≤ 9223372036854775807) (ha : a ≤ 12) : ∀ (d i k : Nat), i + d = l.length → d + 100 ≤ k → (0 < i → ((rd_L2 l ((i : Int) - 1)).length : Int) = a) →
    shape_tuples.l0 k n l (l.length : Int) (i : Int) nm a l = some (tupsV n a l d i)
  | 0, i, k + 1, h, hk, hp => by unfold shape_tuples.l0; rw [if_neg (by omega)]; rfl
  | d + 1, i, k + 1, h, hk, hp => by
    unfold shape_tuples.l0 tupsV tupV
    rw [if_pos (by omega), if_pos (by omega), if_pos (by omega), w64 (x := (i : Int) + 1) (by omega) (by omega), w64 (x := (i : Int) - 1) (by omega) (by omega)]
    by_cases h1 : ((rd_L2 l (i : Int)).length : Int) = a
    · rw [if_pos h1, elements_eq, decide_eq_true h1]
      simp only [Option.bind_some, Bool.true_and]
      have ih := tuples_loop n a nm a1 l hl ha d (i + 1) k (by omega) (by omega) (fun _ => by rw [show (((i + 1 : Nat) : Int) - 1) = (i : Int) by omega]; exact h1)
      rw [show ((i + 1 : Nat) : Int) = (i : Int) + 1 by omega] at ih
      cases hb : (rd_L2 l (i : Int)).any (outB n) with
      | true => simp
      | false =>
        simp only [Bool.not_false, if_true, Bool.true_and]
        by_cases h2 : (i : Int) > 0
        · rw [if_pos h2, if_pos (by omega), if_pos (by omega), decide_eq_false (by omega), Bool.false_or]
          have hp' := hp (by omega)
          obtain ⟨c, hc, hd⟩ := compare_loop (rd_L2 l ((i : Int) - 1)) (rd_L2 l (i : Int)) (by omega) (by omega) (rd_L2 l ((i : Int) - 1)).length 0 k (by omega) (by omega)
          unfold slices_Compare_int_int.f
          rw [show ((0 : Nat) : Int) = 0 from rfl] at hc
          rw [hc]
          simp only [Option.bind_some, List.drop_zero] at hd ⊢
          by_cases h3 : c ≥ 0
          · rw [if_pos h3]
            rw [decide_eq_true h3] at hd
            rw [show lexL (rd_L2 l ((i : Int) - 1)) (rd_L2 l (i : Int)) = false from (Bool.not_eq_true' _).mp hd.symm]
            rfl
          · rw [if_neg h3, ih]
            rw [decide_eq_false h3] at hd
            rw [show lexL (rd_L2 l ((i : Int) - 1)) (rd_L2 l (i : Int)) = true from (Bool.not_eq_false' _).mp hd.symm]
            rfl
        · rw [if_neg h2, ih, decide_eq_true (by omega)]
          rfl
    · rw [if_neg h1, decide_eq_false h1]
      rfl
/-! ### the document's functions -/
/-! ### relations and structures -/
def powOk (n a : Int) : Bool := match paraphrastref01_Pow.f 14 n a with | some q => decide (q ≤ 4096) | none => false
theorem pow_ok (n a : Int) (hn1 : 1 ≤ n) (hn2 : n ≤ 64) (h0 : 0 ≤ a) (h1 : a ≤ 12) (k : Nat) (hk : 14 ≤ k) : ∃ q, paraphrastref01_Pow.f k n a = some q ∧ shape_power.f k n a 4096 = some (if q > 4096 then -1 else q) ∧ 1 ≤ q ∧ powOk n a = decide (q ≤ 4096) := by
  obtain ⟨q, hq, e1, e2⟩ := pow_both n a hn1 hn2 h1 a.toNat 1 0 14 (by omega) (by omega) (by omega) (by omega) (by omega)
  have f1 : paraphrastref01_Pow.f 14 n a = some q := e1
  exact ⟨q, at_rounds (paraphrastref01_Pow.mono _ _) hk f1, at_rounds (shape_power.mono _ _ _) hk e2, hq, by unfold powOk; rw [f1]⟩
def relV (n : Int) (r : S54) : Bool := nameB r.f0 && decide (0 ≤ r.f1) && decide (r.f1 ≤ 12) && powOk n r.f1 && tupsV n r.f1 r.f2 r.f2.length 0
def relsV (n : Int) (l : List S54) : Nat → Nat → Bool
  | 0, _ => true
  | d + 1, i => relV n (rd_T54 l i) && !(l.take i).any (nameIs (rd_T54 l i).f0) && relsV n l d (i + 1)
def validB (n : Int) (l : List S54) : Bool := decide (1 ≤ n) && decide (n ≤ 64) && decide (l.length ≤ 8) && relsV n l l.length 0
theorem rdT_nat (l : List S54) (i : Nat) (h : i < l.length) : rd_T54 l (i : Int) = l[i] := by unfold rd_T54; rw [Int.toNat_natCast, List.getD_eq_getElem?_getD, List.getElem?_eq_getElem h]; rfl
theorem valid_j2 (k : Nat) (n : Int) (l : List S54) (i : Nat) (b : Bool) (f0 : ByteArray) (f1 : Int) (f2 : List (List Int)) (hi : i < l.length) (hl : l.length ≤ 8) :
    shape_Valid.j2 (k + 1) (i : Int) l (l.length : Int) (i : Int) b n l f0 f1 f2 = if b = true then some false else if (l.take i).any (nameIs f0) = true then some false else shape_Valid.l0 k l (l.length : Int) ((i + 1 : Nat) : Int) n l := by
  conv => lhs; unfold shape_Valid.j2
  cases b with
  | true => rfl
  | false =>
    simp only [Bool.false_eq_true, if_false]
    rw [if_pos (by omega), if_pos (by omega), w64 (by omega) (by omega), Int.toNat_natCast, show ((i + 1 : Nat) : Int) = (i : Int) + 1 by omega]
    rfl
theorem valid_loop (n : Int) (hn1 : 1 ≤ n) (hn2 : n ≤ 64) (l : List S54) (hl : l.length ≤ 8) (T : Nat) (hT : T ≤ 9223372036854775807) (hall : ∀ r ∈ l, r.f2.length ≤ T) : ∀ (d i k : Nat), i + d = l.length → d * 2 + T + 200 ≤ k →
    shape_Valid.l0 k l (l.length : Int) (i : Int) n l = some (relsV n l d i)
  | 0, i, k + 1, h, hk => by unfold shape_Valid.l0; rw [if_neg (by omega)]; rfl
  | d + 1, i, k + 1, h, hk => by
    have hi : i < l.length := by omega
    have hr := hall _ (List.getElem_mem hi)
    rw [← rdT_nat l i hi] at hr
    obtain ⟨k, rfl⟩ : ∃ k', k = k' + 1 := ⟨k - 1, by omega⟩
    have ih := valid_loop n hn1 hn2 l hl T hT hall d (i + 1) k (by omega) (by omega)
    unfold shape_Valid.l0 relsV
    rw [if_pos (by omega), if_pos (by omega), if_pos (by omega), name_eq _ _ (by omega)]
    generalize rd_T54 l (i : Int) = r at hr ⊢
    simp only [Option.bind_some, valid_j2 k n l i _ r.f0 r.f1 r.f2 hi hl, ih, if_true]
    unfold relV
    cases hn : nameB r.f0 with
    | false => simp
    | true =>
      by_cases h0 : r.f1 < 0
      · rw [if_pos rfl, if_pos h0, decide_eq_false (by omega)]; simp
      · by_cases h1 : r.f1 > 12
        · rw [if_pos rfl, if_neg h0, if_pos h1, decide_eq_false (by omega : ¬ r.f1 ≤ 12)]; simp
        · obtain ⟨q, _, e2, hq, e3⟩ := pow_ok n r.f1 hn1 hn2 (by omega) (by omega) (k + 1) (by omega)
          rw [if_pos rfl, if_neg h0, if_neg h1, e2, e3, decide_eq_true (by omega : 0 ≤ r.f1), decide_eq_true (by omega : r.f1 ≤ 12)]
          simp only [Option.bind_some]
          by_cases h2 : q > 4096
          · rw [if_pos h2, if_pos (by omega), decide_eq_false (by omega)]; simp
          · rw [if_neg h2, if_neg (by omega), decide_eq_true (by omega : q ≤ 4096)]
            have ht : shape_tuples.f (k + 1) n r.f0 r.f1 r.f2 = some (tupsV n r.f1 r.f2 r.f2.length 0) := tuples_loop n r.f1 r.f0 0 r.f2 (by omega) (by omega) r.f2.length 0 (k + 1) (by omega) (by omega) (by omega)
            rw [ht]
            simp only [Option.bind_some, Bool.true_and]
            cases tupsV n r.f1 r.f2 r.f2.length 0 <;> cases (l.take i).any (nameIs r.f0) <;> rfl
theorem valid_eq (n : Int) (l : List S54) (T : Nat) (hT : T ≤ 9223372036854775807) (hall : ∀ r ∈ l, r.f2.length ≤ T) (k : Nat) (hk : T + 300 ≤ k) : shape_Valid.f k n l = some (validB n l) := by
  obtain ⟨k, rfl⟩ : ∃ k', k = k' + 1 := ⟨k - 1, by omega⟩
  have hj : shape_Valid.j0 (k + 1) true n l = some false := rfl
  unfold shape_Valid.f validB
  by_cases h1 : n < 1
  · rw [if_pos h1, hj, decide_eq_false (by omega)]; rfl
  · rw [if_neg h1]
    by_cases h2 : n > 64
    · rw [if_pos h2, hj, decide_eq_false (by omega : ¬ n ≤ 64)]; simp
    · rw [if_neg h2, decide_eq_true (by omega : 1 ≤ n), decide_eq_true (by omega : n ≤ 64)]
      by_cases h3 : (l.length : Int) > 8
      · rw [decide_eq_true h3, hj, decide_eq_false (by omega)]; rfl
      · rw [decide_eq_false h3, decide_eq_true (by omega : l.length ≤ 8)]
        unfold shape_Valid.j0
        simp only [Bool.false_eq_true, if_false, Bool.true_and]
        exact valid_loop n (by omega) (by omega) l (by omega) T hT hall l.length 0 k (by omega) (by omega)
end Go.Proofs.YtfmpaofbnjlniaaDoor.F
/- Reading back what has been written: splitting a text whose parts do not hold the separator's first byte; the numbers 0 to 99; parseB of textL. -/
namespace Go.Proofs.YtfmpaofbnjlniaaDoor.F
open Go.RowKit Go.Proofs.YtfmpaofbnjlniaaDoorW.PrintWords
set_option linter.unusedVariables false
/-! ### numbers -/
/-! ### names -/
/-! ### tuples, relations, structures -/
/-- What a tuple of a valid structure is like, as far as its text goes. -/
def tupOk (t : List Int) : Prop := ∀ x ∈ t, 0 ≤ x ∧ x < 100
def relOk (r : S54) : Prop := nameB r.f0 = true ∧ (0 ≤ r.f1 ∧ r.f1 < 100) ∧ ∀ t ∈ r.f2, tupOk t
/-! ### how long a text is -/
/-! ### what a valid structure is like -/
theorem tupsV_all (n a : Int) (l : List (List Int)) : ∀ (d i : Nat), tupsV n a l d i = true → i + d = l.length → ∀ j (hj : j < l.length), i ≤ j → tupV n a l[j] = true ∧ (0 < j → ∃ h : j - 1 < l.length, lexL l[j - 1] l[j] = true)
  | 0, i, _, h, j, hj, hi => by omega
  | d + 1, i, h, hl, j, hj, hi => by
    unfold tupsV at h
    simp only [Bool.and_eq_true, Bool.or_eq_true, decide_eq_true_eq] at h
    by_cases e : j = i
    · subst e
      have r1 : rd_L2 l (j : Int) = l[j] := by unfold rd_L2; rw [Int.toNat_natCast, List.getD_eq_getElem?_getD, List.getElem?_eq_getElem hj]; rfl
      rw [r1] at h
      refine ⟨h.1.1, fun h0 => ⟨by omega, ?_⟩⟩
      have h2 := h.1.2.resolve_left (by omega)
      have r2 : rd_L2 l ((j : Int) - 1) = l[j - 1]'(by omega) := by unfold rd_L2; rw [show ((j : Int) - 1).toNat = j - 1 by omega, List.getD_eq_getElem?_getD, List.getElem?_eq_getElem (by omega)]; rfl
      rw [r2] at h2
      exact h2
    · exact tupsV_all n a l d (i + 1) h.2 (by omega) j hj (by omega)
theorem tupV_in (n a : Int) (t : List Int) (h : tupV n a t = true) : (t.length : Int) = a ∧ ∀ x ∈ t, 0 ≤ x ∧ x < n := by
  unfold tupV at h
  simp only [Bool.and_eq_true, decide_eq_true_eq, Bool.not_eq_true', List.any_eq_false] at h
  refine ⟨h.1, fun x hx => ?_⟩
  have := h.2 x hx
  simp only [outB, Bool.or_eq_true, decide_eq_true_eq] at this
  omega
theorem rel_facts (n : Int) (hn1 : 1 ≤ n) (hn2 : n ≤ 64) (r : S54) (h : relV n r = true) : relOk r ∧ (0 ≤ r.f1 ∧ r.f1 ≤ 12) ∧ (∀ t ∈ r.f2, (t.length : Int) = r.f1 ∧ ∀ x ∈ t, 0 ≤ x ∧ x < n) ∧ r.f2.length ≤ 4096 := by
  unfold relV at h
  simp only [Bool.and_eq_true, decide_eq_true_eq] at h
  obtain ⟨⟨⟨⟨h1, h2⟩, h3⟩, h4⟩, h5⟩ := h
  have hA := tupsV_all n r.f1 r.f2 r.f2.length 0 h5 (by omega)
  have hT : ∀ t ∈ r.f2, (t.length : Int) = r.f1 ∧ ∀ x ∈ t, 0 ≤ x ∧ x < n := fun t ht => by
    obtain ⟨j, hj, rfl⟩ := List.getElem_of_mem ht
    exact tupV_in n r.f1 _ (hA j hj (by omega)).1
  have hV : ∀ (j : Nat) (hj : j < r.f2.length), (j : Int) ≤ val n 0 r.f2[j] := by
    intro j
    induction j with
    | zero => intro hj; exact (val_bound n hn1 _ (hT _ (List.getElem_mem hj)).2).1
    | succ j ih =>
      intro hj
      have h1 := ih (by omega)
      obtain ⟨_, h2⟩ := (hA (j + 1) hj (by omega)).2 (by omega)
      simp only [Nat.add_sub_cancel] at h2
      have t1 := hT _ (List.getElem_mem (show j < r.f2.length by omega))
      have t2 := hT _ (List.getElem_mem hj)
      have := (val_order n hn1 (r.f2[j]'(by omega)) r.f2[j + 1] (by omega) t1.2 t2.2).1
      rw [h2, decide_eq_true_eq] at this
      omega
  refine ⟨⟨h1, ⟨h2, by omega⟩, fun t ht x hx => ?_⟩, ⟨h2, h3⟩, hT, ?_⟩
  · have := (hT t ht).2 x hx; omega
  · obtain ⟨q, e1, _, hq1, e2⟩ := pow_ok n r.f1 hn1 hn2 h2 h3 14 (Nat.le_refl _)
    rw [e2, decide_eq_true_eq] at h4
    have hq := pow_exact n r.f1 hn1 hn2 h3 r.f1.toNat 1 0 14 q (by omega) (by omega) (by omega) (by omega) e1 h4
    by_cases hz : r.f2.length = 0
    · omega
    · have hj : r.f2.length - 1 < r.f2.length := by omega
      have b1 := hV _ hj
      have t1 := hT _ (List.getElem_mem hj)
      have b2 := (val_bound n hn1 _ t1.2).2
      rw [show (r.f2[r.f2.length - 1]'hj).length = r.f1.toNat by omega] at b2
      rw [Int.one_mul] at hq
      omega
theorem relsV_all (n : Int) (l : List S54) : ∀ (d i : Nat), relsV n l d i = true → i + d = l.length → ∀ j (hj : j < l.length), i ≤ j → relV n l[j] = true
  | 0, i, _, h, j, hj, hi => by omega
  | d + 1, i, h, hl, j, hj, hi => by
    unfold relsV at h
    simp only [Bool.and_eq_true] at h
    by_cases e : j = i
    · subst e
      rw [rdT_nat l j hj] at h
      exact h.1.1
    · exact relsV_all n l d (i + 1) h.2 (by omega) j hj (by omega)
theorem valid_facts (n : Int) (l : List S54) (h : validB n l = true) : 1 ≤ n ∧ n ≤ 64 ∧ l.length ≤ 8 ∧ ∀ r ∈ l, relOk r ∧ (0 ≤ r.f1 ∧ r.f1 ≤ 12) ∧ (∀ t ∈ r.f2, (t.length : Int) = r.f1 ∧ ∀ x ∈ t, 0 ≤ x ∧ x < n) ∧ r.f2.length ≤ 4096 := by
  unfold validB at h
  simp only [Bool.and_eq_true, decide_eq_true_eq] at h
  obtain ⟨⟨⟨h1, h2⟩, h3⟩, h4⟩ := h
  refine ⟨h1, h2, h3, fun r hr => ?_⟩
  obtain ⟨j, hj, rfl⟩ := List.getElem_of_mem hr
  exact rel_facts n h1 h2 _ (relsV_all n l l.length 0 h4 (by omega) j hj (by omega))
end Go.Proofs.YtfmpaofbnjlniaaDoor.F
namespace Go.Proofs.YtfmpaofbnjlniaaDoor.F
open Go.RowKit Go.Proofs.YtfmpaofbnjlniaaDoorW.PrintWords Go.Proofs.YtfmpaofbnjlniaaDoorW.PrintLast Go.Proofs.YtfmpaofbnjlniaaDoorW.PrintMore
attribute [local go_sem] max2_int min2_int max_two min_two max_three min_three max_four min_four
set_option linter.unusedVariables false
set_option linter.unusedSimpArgs false
/-! ### paraphrastlaw01_Few: function 18 -/
mutual
def paraphrastlaw01_Few.l0 : Nat → List (S38) → Int → Int → Int → Option (Bool)
  | 0, _, _, _, _ => none
  | k + 1, x0, x3, x4, x5 => if x5 < (x0.length : Int) then (if 0 ≤ x5 then (if (((rd_T38 x0 x5).f1).length : Int) > 12 then (some false) else (paraphrastlaw01_Few.l1 k x0 x3 x4 x5 0)) else (none)) else (some (decide (x4 ≤ 20000)))
def paraphrastlaw01_Few.l1 : Nat → List (S38) → Int → Int → Int → Int → Option (Bool)
  | 0, _, _, _, _, _ => none
  | k + 1, x0, x3, x4, x5, x6 => if 0 ≤ x5 then (if x5 < (x0.length : Int) then (if x6 < (((rd_T38 x0 x5).f1).length : Int) then (if 0 ≤ x6 then (if (wrap64 (x3 + (((rd_T54 ((rd_T38 x0 x5).f1) x6).f2).length : Int))) > 1500 then (paraphrastlaw01_Few.j2 k x0 (wrap64 (x3 + (((rd_T54 ((rd_T38 x0 x5).f1) x6).f2).length : Int))) x4 x5 x6 true) else (paraphrastlaw01_Few.j2 k x0 (wrap64 (x3 + (((rd_T54 ((rd_T38 x0 x5).f1) x6).f2).length : Int))) x4 x5 x6 (decide ((((rd_T54 ((rd_T38 x0 x5).f1) x6).f0).size : Int) > 1000)))) else (none)) else (paraphrastlaw01_Few.l0 k x0 x3 x4 (wrap64 (x5 + 1)))) else (none)) else (none)
def paraphrastlaw01_Few.j2 : Nat → List (S38) → Int → Int → Int → Int → Bool → Option (Bool)
  | 0, _, _, _, _, _, _ => none
  | k + 1, x0, x3, x4, x5, x6, x57 => if x57 = true then (some false) else (paraphrastlaw01_Few.l2 k x0 x3 x4 x5 x6 0)
def paraphrastlaw01_Few.l2 : Nat → List (S38) → Int → Int → Int → Int → Int → Option (Bool)
  | 0, _, _, _, _, _, _ => none
  | k + 1, x0, x3, x4, x5, x6, x7 => if 0 ≤ x5 then (if x5 < (x0.length : Int) then (if 0 ≤ x6 then (if x6 < (((rd_T38 x0 x5).f1).length : Int) then (if x7 < (((rd_T54 ((rd_T38 x0 x5).f1) x6).f2).length : Int) then (if 0 ≤ x7 then (paraphrastlaw01_Few.l2 k x0 x3 (wrap64 (x4 + ((rd_L2 ((rd_T54 ((rd_T38 x0 x5).f1) x6).f2) x7).length : Int))) x5 x6 (wrap64 (x7 + 1))) else (none)) else (paraphrastlaw01_Few.l1 k x0 x3 x4 x5 (wrap64 (x6 + 1)))) else (none)) else (none)) else (none)) else (none)
end
def paraphrastlaw01_Few.f (k : Nat) (l0 : List (S38)) : Option (Bool) := paraphrastlaw01_Few.l0 k l0 0 0 0
theorem paraphrastlaw01_Few.mono_l : ∀ k, (∀ y0 y1 y2 y3, LeO (paraphrastlaw01_Few.l0 k y0 y1 y2 y3) (paraphrastlaw01_Few.l0 (k + 1) y0 y1 y2 y3)) ∧ (∀ y0 y1 y2 y3 y4, LeO (paraphrastlaw01_Few.l1 k y0 y1 y2 y3 y4) (paraphrastlaw01_Few.l1 (k + 1) y0 y1 y2 y3 y4)) ∧ (∀ y0 y1 y2 y3 y4 y5, LeO (paraphrastlaw01_Few.j2 k y0 y1 y2 y3 y4 y5) (paraphrastlaw01_Few.j2 (k + 1) y0 y1 y2 y3 y4 y5)) ∧ (∀ y0 y1 y2 y3 y4 y5, LeO (paraphrastlaw01_Few.l2 k y0 y1 y2 y3 y4 y5) (paraphrastlaw01_Few.l2 (k + 1) y0 y1 y2 y3 y4 y5))
  | 0 => ⟨fun _ _ _ _ r h => by simp [paraphrastlaw01_Few.l0] at h, fun _ _ _ _ _ r h => by simp [paraphrastlaw01_Few.l1] at h, fun _ _ _ _ _ _ r h => by simp [paraphrastlaw01_Few.j2] at h, fun _ _ _ _ _ _ r h => by simp [paraphrastlaw01_Few.l2] at h⟩
  | k + 1 => by
    obtain ⟨ih0, ih1, ih2, ih3⟩ := paraphrastlaw01_Few.mono_l k
    refine ⟨?_, ?_, ?_, ?_⟩
    · intro y0 y1 y2 y3
      unfold paraphrastlaw01_Few.l0
      repeat' first
      | (with_reducible exact ih0 _ _ _ _)
      | (with_reducible exact ih1 _ _ _ _ _)
      | (with_reducible exact ih2 _ _ _ _ _ _)
      | (with_reducible exact ih3 _ _ _ _ _ _)
      | (with_reducible exact LeO.refl _)
      | (with_reducible exact LeO.none _)
      | (with_reducible refine LeO.ite ?_ ?_)
      | (with_reducible refine LeO.bind ?_ (fun _ => ?_))
      | exact ih0 _ _ _ _
      | exact ih1 _ _ _ _ _
      | exact ih2 _ _ _ _ _ _
      | exact ih3 _ _ _ _ _ _
      | exact LeO.none _
      | refine LeO.ite ?_ ?_
      | refine LeO.bind ?_ (fun _ => ?_)
    · intro y0 y1 y2 y3 y4
      unfold paraphrastlaw01_Few.l1
      repeat' first
      | (with_reducible exact ih0 _ _ _ _)
      | (with_reducible exact ih1 _ _ _ _ _)
      | (with_reducible exact ih2 _ _ _ _ _ _)
      | (with_reducible exact ih3 _ _ _ _ _ _)
      | (with_reducible exact LeO.refl _)
      | (with_reducible exact LeO.none _)
      | (with_reducible refine LeO.ite ?_ ?_)
      | (with_reducible refine LeO.bind ?_ (fun _ => ?_))
      | exact ih0 _ _ _ _
      | exact ih1 _ _ _ _ _
      | exact ih2 _ _ _ _ _ _
      | exact ih3 _ _ _ _ _ _
      | exact LeO.none _
      | refine LeO.ite ?_ ?_
      | refine LeO.bind ?_ (fun _ => ?_)
    · intro y0 y1 y2 y3 y4 y5
      unfold paraphrastlaw01_Few.j2
      repeat' first
      | (with_reducible exact ih0 _ _ _ _)
      | (with_reducible exact ih1 _ _ _ _ _)
      | (with_reducible exact ih2 _ _ _ _ _ _)
      | (with_reducible exact ih3 _ _ _ _ _ _)
      | (with_reducible exact LeO.refl _)
      | (with_reducible exact LeO.none _)
      | (with_reducible refine LeO.ite ?_ ?_)
      | (with_reducible refine LeO.bind ?_ (fun _ => ?_))
      | exact ih0 _ _ _ _
      | exact ih1 _ _ _ _ _
      | exact ih2 _ _ _ _ _ _
      | exact ih3 _ _ _ _ _ _
      | exact LeO.none _
      | refine LeO.ite ?_ ?_
      | refine LeO.bind ?_ (fun _ => ?_)
    · intro y0 y1 y2 y3 y4 y5
      unfold paraphrastlaw01_Few.l2
      repeat' first
      | (with_reducible exact ih0 _ _ _ _)
      | (with_reducible exact ih1 _ _ _ _ _)
      | (with_reducible exact ih2 _ _ _ _ _ _)
      | (with_reducible exact ih3 _ _ _ _ _ _)
      | (with_reducible exact LeO.refl _)
      | (with_reducible exact LeO.none _)
      | (with_reducible refine LeO.ite ?_ ?_)
      | (with_reducible refine LeO.bind ?_ (fun _ => ?_))
      | exact ih0 _ _ _ _
      | exact ih1 _ _ _ _ _
      | exact ih2 _ _ _ _ _ _
      | exact ih3 _ _ _ _ _ _
      | exact LeO.none _
      | refine LeO.ite ?_ ?_
      | refine LeO.bind ?_ (fun _ => ?_)
theorem paraphrastlaw01_Few.mono : ∀ a0 k, LeO (paraphrastlaw01_Few.f k a0) (paraphrastlaw01_Few.f (k + 1) a0) := by
  intro a0 k
  obtain ⟨ih0, ih1, ih2, ih3⟩ := paraphrastlaw01_Few.mono_l k
  unfold paraphrastlaw01_Few.f
  repeat' first
      | (with_reducible exact ih0 _ _ _ _)
      | (with_reducible exact ih1 _ _ _ _ _)
      | (with_reducible exact ih2 _ _ _ _ _ _)
      | (with_reducible exact ih3 _ _ _ _ _ _)
      | (with_reducible exact LeO.refl _)
      | (with_reducible exact LeO.none _)
      | (with_reducible refine LeO.ite ?_ ?_)
      | (with_reducible refine LeO.bind ?_ (fun _ => ?_))
      | exact ih0 _ _ _ _
      | exact ih1 _ _ _ _ _
      | exact ih2 _ _ _ _ _ _
      | exact ih3 _ _ _ _ _ _
      | exact LeO.none _
      | refine LeO.ite ?_ ?_
      | refine LeO.bind ?_ (fun _ => ?_)
set_option maxHeartbeats 8000000 in
set_option maxRecDepth 100000 in
theorem paraphrastlaw01_Few.calls (k : Nat) (A0 : Option Addr) (c0 : Nat) (l0 : List (S38)) (r : Bool) (w : World) (hr0 : Kd.C k38 w A0 l0.length l0) (hc0 : l0.length ≤ c0) (h : paraphrastlaw01_Few.f k l0 = some r) :
    Calls Tryd.prog 18 #[.slice A0 l0.length c0] w fun e w' => e = .returned (.bool r) ∧ Drawn0 w w' := by
  have HR0 := Aside0.mk hr0
  have HC0 := Aside0.mk hc0
  clear hr0 hc0
  have H : (paraphrastlaw01_Few.l0 k l0 0 0 0) = some r := h
  clear h
  have H' := Aside0.mk H
  clear H
  go_enter Tryd.func18, Tryd.ntmps18
  go_wp2
  go_loopg [3, 4, 5] k (fun kq v3 v4 v5 w' => ∃ (x3_1 : Int) (x4_1 : Int) (x5_1 : Int), v3 = .int .i64 x3_1 ∧ v4 = .int .i64 x4_1 ∧ v5 = .int .i64 x5_1 ∧ Aside0 (paraphrastlaw01_Few.l0 kq l0 x3_1 x4_1 x5_1 = some r) ∧ Aside0 (kq ≤ k) ∧ Drawn0 w w')
  case atStart => exact ⟨(0), (0), (0), (by first | rfl | (simp; done) | (simp [*]; done)), (by first | rfl | (simp; done) | (simp [*]; done)), (by first | rfl | (simp; done) | (simp [*]; done)), H', ⟨Nat.le_refl _⟩, by repeat (first | exact Drawn0.refl _ | apply Drawn0.step)⟩
  case round =>
    clear H'
    try clear c1
    obtain ⟨x3_1, x4_1, x5_1, rfl, rfl, rfl, HA, HK1, ⟨m1, rfl⟩⟩ := hrel
    cases gk with
    | zero => exact absurd HA.out (by simp [paraphrastlaw01_Few.l0])
    | succ k1 =>
      have H := HA.out
      clear HA
      simp only [paraphrastlaw01_Few.l0] at H
      by_cases c2 : x5_1 < (l0.length : Int)
      · rw [if_pos c2] at H
        have c2b0 : decide (x5_1 < (l0.length : Int)) = true := decide_eq_true c2
        clear c2
        by_cases c3 : 0 ≤ x5_1
        · rw [if_pos c3] at H
          have c3b0 : decide (0 ≤ x5_1) = true := decide_eq_true c3
          clear c3
          by_cases c4 : (((rd_T38 l0 x5_1).f1).length : Int) > 12
          · rw [if_pos c4] at H
            have c4b0 : decide (12 < (((rd_T38 l0 x5_1).f1).length : Int)) = true := decide_eq_true c4
            have c4b1 : decide (12 < ((rd_T38 l0 x5_1).f1).length) = true := decide_eq_true (by omega)
            clear c4
            obtain rfl := Option.some.inj H
            have p240 : 0 ≤ (x5_1 : Int) := of_decide_eq_true (by first | (with_reducible assumption) | assumption)
            have q240 : x5_1 < (l0.length : Int) := of_decide_eq_true (by first | (with_reducible assumption) | assumption)
            obtain ⟨ad240, A240_1, c240_1, e240, hx240_0, hx240_1, hl240_1, hi240_1⟩ := at_T38 HR0.out x5_1 p240 q240
            cases e240
            have HR240_1 := Aside0.mk hi240_1
            have HC240_1 := Aside0.mk hl240_1
            clear hi240_1 hl240_1
            replace p240 := eq_true p240
            replace q240 := eq_true q240
            go_wp2
            go_ret
            exact ⟨by first | rfl | (simp; done) | (simp [*]; done), by repeat (first | exact Drawn0.refl _ | apply Drawn0.step)⟩
          · rw [if_neg c4] at H
            have c4b0 : decide (12 < (((rd_T38 l0 x5_1).f1).length : Int)) = false := decide_eq_false c4
            have c4b1 : decide (12 < ((rd_T38 l0 x5_1).f1).length) = false := decide_eq_false (by omega)
            clear c4
            have H' := Aside0.mk H
            clear H
            have p240 : 0 ≤ (x5_1 : Int) := of_decide_eq_true (by first | (with_reducible assumption) | assumption)
            have q240 : x5_1 < (l0.length : Int) := of_decide_eq_true (by first | (with_reducible assumption) | assumption)
            obtain ⟨ad240, A240_1, c240_1, e240, hx240_0, hx240_1, hl240_1, hi240_1⟩ := at_T38 HR0.out x5_1 p240 q240
            cases e240
            have HR240_1 := Aside0.mk hi240_1
            have HC240_1 := Aside0.mk hl240_1
            clear hi240_1 hl240_1
            replace p240 := eq_true p240
            replace q240 := eq_true q240
            go_wp2
            go_loopg [3, 4, 6] k1 (fun kq v3 v4 v6 w' => ∃ (x3_2 : Int) (x4_2 : Int) (x6_2 : Int), v3 = .int .i64 x3_2 ∧ v4 = .int .i64 x4_2 ∧ v6 = .int .i64 x6_2 ∧ Aside0 (paraphrastlaw01_Few.l1 kq l0 x3_2 x4_2 x5_1 x6_2 = some r) ∧ Aside0 (kq ≤ k1) ∧ Drawn0 w w')
            case atStart => exact ⟨(x3_1), (x4_1), (0), (by first | rfl | (simp; done) | (simp [*]; done)), (by first | rfl | (simp; done) | (simp [*]; done)), (by first | rfl | (simp; done) | (simp [*]; done)), H', ⟨Nat.le_refl _⟩, by repeat (first | exact Drawn0.refl _ | apply Drawn0.step)⟩
            case round =>
              clear H'
              try clear c1
              try clear c2
              try clear c2b0
              try clear p2
              try clear q2
              try clear hx2
              try clear c3
              try clear c3b0
              try clear c4
              try clear c4b0
              try clear c4b1
              try clear hx240_0
              try clear hx240_1
              try clear p240
              try clear q240
              obtain ⟨x3_2, x4_2, x6_2, rfl, rfl, rfl, HA, HK2, ⟨m2, rfl⟩⟩ := hrel
              cases gk with
              | zero => exact absurd HA.out (by simp [paraphrastlaw01_Few.l1])
              | succ k2 =>
                have H := HA.out
                clear HA
                simp only [paraphrastlaw01_Few.l1] at H
                by_cases c5 : 0 ≤ x5_1
                · rw [if_pos c5] at H
                  have c5b0 : decide (0 ≤ x5_1) = true := decide_eq_true c5
                  clear c5
                  by_cases c6 : x5_1 < (l0.length : Int)
                  · rw [if_pos c6] at H
                    have c6b0 : decide (x5_1 < (l0.length : Int)) = true := decide_eq_true c6
                    clear c6
                    by_cases c7 : x6_2 < (((rd_T38 l0 x5_1).f1).length : Int)
                    · rw [if_pos c7] at H
                      have c7b0 : decide (x6_2 < (((rd_T38 l0 x5_1).f1).length : Int)) = true := decide_eq_true c7
                      clear c7
                      by_cases c8 : 0 ≤ x6_2
                      · rw [if_pos c8] at H
                        have c8b0 : decide (0 ≤ x6_2) = true := decide_eq_true c8
                        clear c8
                        have HC9 := Aside0.mk H
                        clear H
                        have p241 : 0 ≤ (x5_1 : Int) := of_decide_eq_true (by first | (with_reducible assumption) | assumption)
                        have q241 : x5_1 < (l0.length : Int) := of_decide_eq_true (by first | (with_reducible assumption) | assumption)
                        obtain ⟨ad241, A241_1, c241_1, e241, hx241_0, hx241_1, hl241_1, hi241_1⟩ := at_T38 HR0.out x5_1 p241 q241
                        obtain rfl : ad240 = ad241 := (by injection e241)
                        have HR241_1 := Aside0.mk hi241_1
                        have HC241_1 := Aside0.mk hl241_1
                        clear hi241_1 hl241_1
                        replace p241 := eq_true p241
                        replace q241 := eq_true q241
                        have p242 : 0 ≤ (x5_1 : Int) := of_decide_eq_true (by first | (with_reducible assumption) | assumption)
                        have q242 : x5_1 < (l0.length : Int) := of_decide_eq_true (by first | (with_reducible assumption) | assumption)
                        obtain ⟨ad242, A242_1, c242_1, e242, hx242_0, hx242_1, hl242_1, hi242_1⟩ := at_T38 HR0.out x5_1 p242 q242
                        obtain rfl : ad240 = ad242 := (by injection e242)
                        have HR242_1 := Aside0.mk hi242_1
                        have HC242_1 := Aside0.mk hl242_1
                        clear hi242_1 hl242_1
                        replace p242 := eq_true p242
                        replace q242 := eq_true q242
                        have ea_ := Option.some.inj (hx241_1.symm.trans hx242_1)
                        injection ea_ with ea_ en_ ec_
                        subst ea_
                        subst ec_
                        clear en_
                        have p243 : 0 ≤ (x6_2 : Int) := of_decide_eq_true (by first | (with_reducible assumption) | assumption)
                        have q243 : x6_2 < (((rd_T38 l0 x5_1).f1).length : Int) := of_decide_eq_true (by first | (with_reducible assumption) | assumption)
                        obtain ⟨ad243, A243_2, c243_2, e243, hx243_0, hx243_1, hx243_2, hl243_2, hi243_2⟩ := at_T54 HR242_1.out x6_2 p243 q243
                        cases e243
                        have HR243_2 := Aside0.mk hi243_2
                        have HC243_2 := Aside0.mk hl243_2
                        clear hi243_2 hl243_2
                        replace p243 := eq_true p243
                        replace q243 := eq_true q243
                        go_upto_region 11 with (fail)
                        go_cut [57] (fun v57 wc => ∃ (kq : Nat) (x57_8 : Bool), v57 = .bool x57_8 ∧ Aside0 (paraphrastlaw01_Few.j2 kq l0 (wrap64 (x3_2 + (((rd_T54 ((rd_T38 l0 x5_1).f1) x6_2).f2).length : Int))) x4_2 x5_1 x6_2 x57_8 = some r) ∧ Aside0 (kq ≤ k2) ∧ Drawn0 w wc)
                        case first =>
                          have H := HC9.out
                          clear HC9
                          by_cases c10 : (wrap64 (x3_2 + (((rd_T54 ((rd_T38 l0 x5_1).f1) x6_2).f2).length : Int))) > 1500
                          · rw [if_pos c10] at H
                            have c10b0 : decide (1500 < (wrap64 (x3_2 + (((rd_T54 ((rd_T38 l0 x5_1).f1) x6_2).f2).length : Int)))) = true := decide_eq_true c10
                            clear c10
                            (first | rw [c10b0] | (simp only [i64_w, i32_w]; rw [c10b0]) | skip)
                            have H' := Aside0.mk H
                            clear H
                            go_wp2
                            go_meet
                            case rel => exact ⟨_, (true), (by first | rfl | (simp; done) | (simp [*]; done)), H', ⟨by have := HK1.out; have := HK2.out; first | omega | exact Nat.le_refl _⟩, by repeat (first | exact Drawn0.refl _ | apply Drawn0.step)⟩
                          · rw [if_neg c10] at H
                            have c10b0 : decide (1500 < (wrap64 (x3_2 + (((rd_T54 ((rd_T38 l0 x5_1).f1) x6_2).f2).length : Int)))) = false := decide_eq_false c10
                            clear c10
                            (first | rw [c10b0] | (simp only [i64_w, i32_w]; rw [c10b0]) | skip)
                            have H' := Aside0.mk H
                            clear H
                            have p244 : 0 ≤ (x5_1 : Int) := of_decide_eq_true (by first | (with_reducible assumption) | assumption)
                            have q244 : x5_1 < (l0.length : Int) := of_decide_eq_true (by first | (with_reducible assumption) | assumption)
                            obtain ⟨ad244, A244_1, c244_1, e244, hx244_0, hx244_1, hl244_1, hi244_1⟩ := at_T38 HR0.out x5_1 p244 q244
                            obtain rfl : ad240 = ad244 := (by injection e244)
                            have HR244_1 := Aside0.mk hi244_1
                            have HC244_1 := Aside0.mk hl244_1
                            clear hi244_1 hl244_1
                            replace p244 := eq_true p244
                            replace q244 := eq_true q244
                            have p245 : 0 ≤ (x6_2 : Int) := of_decide_eq_true (by first | (with_reducible assumption) | assumption)
                            have q245 : x6_2 < (((rd_T38 l0 x5_1).f1).length : Int) := of_decide_eq_true (by first | (with_reducible assumption) | assumption)
                            obtain ⟨ad245, A245_2, c245_2, e245, hx245_0, hx245_1, hx245_2, hl245_2, hi245_2⟩ := at_T54 HR244_1.out x6_2 p245 q245
                            cases e245
                            have HR245_2 := Aside0.mk hi245_2
                            have HC245_2 := Aside0.mk hl245_2
                            clear hi245_2 hl245_2
                            replace p245 := eq_true p245
                            replace q245 := eq_true q245
                            go_wp2
                            go_meet
                            case rel => exact ⟨_, (decide ((((rd_T54 ((rd_T38 l0 x5_1).f1) x6_2).f0).size : Int) > 1000)), (by first | rfl | (simp; done) | (simp [*]; done)), H', ⟨by have := HK1.out; have := HK2.out; first | omega | exact Nat.le_refl _⟩, by repeat (first | exact Drawn0.refl _ | apply Drawn0.step)⟩
                        case rest =>
                          clear HC9
                          try clear c1
                          try clear c2
                          try clear c2b0
                          try clear p2
                          try clear q2
                          try clear hx2
                          try clear c3
                          try clear c3b0
                          try clear c4
                          try clear c4b0
                          try clear c4b1
                          try clear c5
                          try clear c5b0
                          try clear c6
                          try clear c6b0
                          try clear p6
                          try clear c7
                          try clear c7b0
                          try clear c8
                          try clear c8b0
                          try clear c10
                          try clear c10b0
                          try clear hx240_0
                          try clear hx240_1
                          try clear hx241_0
                          try clear hx241_1
                          try clear hx242_0
                          try clear hx242_1
                          try clear hx243_0
                          try clear hx243_1
                          try clear hx243_2
                          try clear hx244_0
                          try clear hx244_1
                          try clear hx245_0
                          try clear hx245_1
                          try clear hx245_2
                          try clear p2
                          try clear p240
                          try clear p241
                          try clear p242
                          try clear p243
                          try clear p244
                          try clear p245
                          try clear q2
                          try clear q240
                          try clear q241
                          try clear q242
                          try clear q243
                          try clear q244
                          try clear q245
                          obtain ⟨kq, x57_8, rfl, HA, HJ8, ⟨mc8, rfl⟩⟩ := hcut
                          cases kq with
                          | zero => exact absurd HA.out (by simp [paraphrastlaw01_Few.j2])
                          | succ kj8 =>
                            have H := HA.out
                            clear HA
                            simp only [paraphrastlaw01_Few.j2] at H
                            by_cases c11 : x57_8 = true
                            · subst c11
                              have H1 : (some false) = some r := by rw [if_pos rfl] at H; exact H
                              clear H
                              have H := H1
                              clear H1
                              obtain rfl := Option.some.inj H
                              go_wp2
                              go_ret
                              exact ⟨by first | rfl | (simp; done) | (simp [*]; done), by repeat (first | exact Drawn0.refl _ | apply Drawn0.step)⟩
                            · replace c11 := Bool.eq_false_iff.mpr c11
                              subst c11
                              have H1 : (paraphrastlaw01_Few.l2 kj8 l0 (wrap64 (x3_2 + (((rd_T54 ((rd_T38 l0 x5_1).f1) x6_2).f2).length : Int))) x4_2 x5_1 x6_2 0) = some r := by rw [if_neg (show ¬ (false = true) by decide)] at H; exact H
                              clear H
                              have H := H1
                              clear H1
                              have H' := Aside0.mk H
                              clear H
                              go_wp2
                              go_loopg [4, 7] kj8 (fun kq v4 v7 w' => ∃ (x4_4 : Int) (x7_4 : Int), v4 = .int .i64 x4_4 ∧ v7 = .int .i64 x7_4 ∧ Aside0 (paraphrastlaw01_Few.l2 kq l0 (wrap64 (x3_2 + (((rd_T54 ((rd_T38 l0 x5_1).f1) x6_2).f2).length : Int))) x4_4 x5_1 x6_2 x7_4 = some r) ∧ Aside0 (kq ≤ kj8) ∧ Drawn0 w w')
                              case atStart => exact ⟨(x4_2), (0), (by first | rfl | (simp; done) | (simp [*]; done)), (by first | rfl | (simp; done) | (simp [*]; done)), H', ⟨Nat.le_refl _⟩, by repeat (first | exact Drawn0.refl _ | apply Drawn0.step)⟩
                              case round =>
                                clear H'
                                try clear c1
                                try clear c2
                                try clear c2b0
                                try clear p2
                                try clear q2
                                try clear hx2
                                try clear c3
                                try clear c3b0
                                try clear c4
                                try clear c4b0
                                try clear c4b1
                                try clear c5
                                try clear c5b0
                                try clear c6
                                try clear c6b0
                                try clear p6
                                try clear c7
                                try clear c7b0
                                try clear c8
                                try clear c8b0
                                try clear c10
                                try clear c10b0
                                try clear c11
                                try clear hx240_0
                                try clear hx240_1
                                try clear hx241_0
                                try clear hx241_1
                                try clear hx242_0
                                try clear hx242_1
                                try clear hx243_0
                                try clear hx243_1
                                try clear hx243_2
                                try clear hx244_0
                                try clear hx244_1
                                try clear hx245_0
                                try clear hx245_1
                                try clear hx245_2
                                try clear p2
                                try clear p240
                                try clear p241
                                try clear p242
                                try clear p243
                                try clear p244
                                try clear p245
                                try clear p6
                                try clear q2
                                try clear q240
                                try clear q241
                                try clear q242
                                try clear q243
                                try clear q244
                                try clear q245
                                obtain ⟨x4_4, x7_4, rfl, rfl, HA, HK4, ⟨m4, rfl⟩⟩ := hrel
                                cases gk with
                                | zero => exact absurd HA.out (by simp [paraphrastlaw01_Few.l2])
                                | succ k4 =>
                                  have H := HA.out
                                  clear HA
                                  simp only [paraphrastlaw01_Few.l2] at H
                                  by_cases c12 : 0 ≤ x5_1
                                  · rw [if_pos c12] at H
                                    have c12b0 : decide (0 ≤ x5_1) = true := decide_eq_true c12
                                    clear c12
                                    by_cases c13 : x5_1 < (l0.length : Int)
                                    · rw [if_pos c13] at H
                                      have c13b0 : decide (x5_1 < (l0.length : Int)) = true := decide_eq_true c13
                                      clear c13
                                      by_cases c14 : 0 ≤ x6_2
                                      · rw [if_pos c14] at H
                                        have c14b0 : decide (0 ≤ x6_2) = true := decide_eq_true c14
                                        clear c14
                                        by_cases c15 : x6_2 < (((rd_T38 l0 x5_1).f1).length : Int)
                                        · rw [if_pos c15] at H
                                          have c15b0 : decide (x6_2 < (((rd_T38 l0 x5_1).f1).length : Int)) = true := decide_eq_true c15
                                          clear c15
                                          by_cases c16 : x7_4 < (((rd_T54 ((rd_T38 l0 x5_1).f1) x6_2).f2).length : Int)
                                          · rw [if_pos c16] at H
                                            have c16b0 : decide (x7_4 < (((rd_T54 ((rd_T38 l0 x5_1).f1) x6_2).f2).length : Int)) = true := decide_eq_true c16
                                            clear c16
                                            by_cases c17 : 0 ≤ x7_4
                                            · rw [if_pos c17] at H
                                              have c17b0 : decide (0 ≤ x7_4) = true := decide_eq_true c17
                                              clear c17
                                              have H' := Aside0.mk H
                                              clear H
                                              have p246 : 0 ≤ (x5_1 : Int) := of_decide_eq_true (by first | (with_reducible assumption) | assumption)
                                              have q246 : x5_1 < (l0.length : Int) := of_decide_eq_true (by first | (with_reducible assumption) | assumption)
                                              obtain ⟨ad246, A246_1, c246_1, e246, hx246_0, hx246_1, hl246_1, hi246_1⟩ := at_T38 HR0.out x5_1 p246 q246
                                              obtain rfl : ad240 = ad246 := (by injection e246)
                                              have HR246_1 := Aside0.mk hi246_1
                                              have HC246_1 := Aside0.mk hl246_1
                                              clear hi246_1 hl246_1
                                              replace p246 := eq_true p246
                                              replace q246 := eq_true q246
                                              have p247 : 0 ≤ (x6_2 : Int) := of_decide_eq_true (by first | (with_reducible assumption) | assumption)
                                              have q247 : x6_2 < (((rd_T38 l0 x5_1).f1).length : Int) := of_decide_eq_true (by first | (with_reducible assumption) | assumption)
                                              obtain ⟨ad247, A247_2, c247_2, e247, hx247_0, hx247_1, hx247_2, hl247_2, hi247_2⟩ := at_T54 HR246_1.out x6_2 p247 q247
                                              cases e247
                                              have HR247_2 := Aside0.mk hi247_2
                                              have HC247_2 := Aside0.mk hl247_2
                                              clear hi247_2 hl247_2
                                              replace p247 := eq_true p247
                                              replace q247 := eq_true q247
                                              have p248 : 0 ≤ (x5_1 : Int) := of_decide_eq_true (by first | (with_reducible assumption) | assumption)
                                              have q248 : x5_1 < (l0.length : Int) := of_decide_eq_true (by first | (with_reducible assumption) | assumption)
                                              obtain ⟨ad248, A248_1, c248_1, e248, hx248_0, hx248_1, hl248_1, hi248_1⟩ := at_T38 HR0.out x5_1 p248 q248
                                              obtain rfl : ad240 = ad248 := (by injection e248)
                                              have HR248_1 := Aside0.mk hi248_1
                                              have HC248_1 := Aside0.mk hl248_1
                                              clear hi248_1 hl248_1
                                              replace p248 := eq_true p248
                                              replace q248 := eq_true q248
                                              have ea_ := Option.some.inj (hx246_1.symm.trans hx248_1)
                                              injection ea_ with ea_ en_ ec_
                                              subst ea_
                                              subst ec_
                                              clear en_
                                              have p249 : 0 ≤ (x6_2 : Int) := of_decide_eq_true (by first | (with_reducible assumption) | assumption)
                                              have q249 : x6_2 < (((rd_T38 l0 x5_1).f1).length : Int) := of_decide_eq_true (by first | (with_reducible assumption) | assumption)
                                              obtain ⟨ad249, A249_2, c249_2, e249, hx249_0, hx249_1, hx249_2, hl249_2, hi249_2⟩ := at_T54 HR248_1.out x6_2 p249 q249
                                              cases e249
                                              have HR249_2 := Aside0.mk hi249_2
                                              have HC249_2 := Aside0.mk hl249_2
                                              clear hi249_2 hl249_2
                                              replace p249 := eq_true p249
                                              replace q249 := eq_true q249
                                              have ea_ := Option.some.inj (hx247_2.symm.trans hx249_2)
                                              injection ea_ with ea_ en_ ec_
                                              subst ea_
                                              subst ec_
                                              clear en_
                                              have p250 : 0 ≤ (x7_4 : Int) := of_decide_eq_true (by first | (with_reducible assumption) | assumption)
                                              have q250 : x7_4 < (((rd_T54 ((rd_T38 l0 x5_1).f1) x6_2).f2).length : Int) := of_decide_eq_true (by first | (with_reducible assumption) | assumption)
                                              obtain ⟨ad250, A250_0, c250_0, e250, hx250_0, hl250_0, hi250_0⟩ := at_L2 HR249_2.out x7_4 p250 q250
                                              cases e250
                                              have HR250_0 := Aside0.mk hi250_0
                                              have HC250_0 := Aside0.mk hl250_0
                                              clear hi250_0 hl250_0
                                              replace p250 := eq_true p250
                                              replace q250 := eq_true q250
                                              go_wp2
                                              go_roundg k4
                                              case measure => have := HK1.out; have := HK2.out; have := HJ8.out; have := HK4.out; omega
                                              case rel => exact ⟨(wrap64 (x4_4 + ((rd_L2 ((rd_T54 ((rd_T38 l0 x5_1).f1) x6_2).f2) x7_4).length : Int))), (wrap64 (x7_4 + 1)), (by first | rfl | (simp; done) | (simp [*]; done)), (by first | rfl | (simp; done) | (simp [*]; done)), H', ⟨by have := HK1.out; have := HK2.out; have := HJ8.out; have := HK4.out; omega⟩, by repeat (first | exact Drawn0.refl _ | apply Drawn0.step)⟩
                                            · rw [if_neg c17] at H
                                              exact absurd H (by simp)
                                          · rw [if_neg c16] at H
                                            have c16b0 : decide (x7_4 < (((rd_T54 ((rd_T38 l0 x5_1).f1) x6_2).f2).length : Int)) = false := decide_eq_false c16
                                            clear c16
                                            have H' := Aside0.mk H
                                            clear H
                                            have p246 : 0 ≤ (x5_1 : Int) := of_decide_eq_true (by first | (with_reducible assumption) | assumption)
                                            have q246 : x5_1 < (l0.length : Int) := of_decide_eq_true (by first | (with_reducible assumption) | assumption)
                                            obtain ⟨ad246, A246_1, c246_1, e246, hx246_0, hx246_1, hl246_1, hi246_1⟩ := at_T38 HR0.out x5_1 p246 q246
                                            obtain rfl : ad240 = ad246 := (by injection e246)
                                            have HR246_1 := Aside0.mk hi246_1
                                            have HC246_1 := Aside0.mk hl246_1
                                            clear hi246_1 hl246_1
                                            replace p246 := eq_true p246
                                            replace q246 := eq_true q246
                                            have p247 : 0 ≤ (x6_2 : Int) := of_decide_eq_true (by first | (with_reducible assumption) | assumption)
                                            have q247 : x6_2 < (((rd_T38 l0 x5_1).f1).length : Int) := of_decide_eq_true (by first | (with_reducible assumption) | assumption)
                                            obtain ⟨ad247, A247_2, c247_2, e247, hx247_0, hx247_1, hx247_2, hl247_2, hi247_2⟩ := at_T54 HR246_1.out x6_2 p247 q247
                                            cases e247
                                            have HR247_2 := Aside0.mk hi247_2
                                            have HC247_2 := Aside0.mk hl247_2
                                            clear hi247_2 hl247_2
                                            replace p247 := eq_true p247
                                            replace q247 := eq_true q247
                                            go_wp2
                                            go_roundg k4
                                            case measure => have := HK1.out; have := HK2.out; have := HJ8.out; have := HK4.out; omega
                                            case rel => exact ⟨((wrap64 (x3_2 + (((rd_T54 ((rd_T38 l0 x5_1).f1) x6_2).f2).length : Int)))), (x4_4), (wrap64 (x6_2 + 1)), (by first | rfl | (simp; done) | (simp [*]; done)), (by first | rfl | (simp; done) | (simp [*]; done)), (by first | rfl | (simp; done) | (simp [*]; done)), H', ⟨by have := HK1.out; have := HK2.out; have := HJ8.out; have := HK4.out; omega⟩, by repeat (first | exact Drawn0.refl _ | apply Drawn0.step)⟩
                                        · rw [if_neg c15] at H
                                          exact absurd H (by simp)
                                      · rw [if_neg c14] at H
                                        exact absurd H (by simp)
                                    · rw [if_neg c13] at H
                                      exact absurd H (by simp)
                                  · rw [if_neg c12] at H
                                    exact absurd H (by simp)
                      · rw [if_neg c8] at H
                        exact absurd H (by simp)
                    · rw [if_neg c7] at H
                      have c7b0 : decide (x6_2 < (((rd_T38 l0 x5_1).f1).length : Int)) = false := decide_eq_false c7
                      clear c7
                      have H' := Aside0.mk H
                      clear H
                      have p241 : 0 ≤ (x5_1 : Int) := of_decide_eq_true (by first | (with_reducible assumption) | assumption)
                      have q241 : x5_1 < (l0.length : Int) := of_decide_eq_true (by first | (with_reducible assumption) | assumption)
                      obtain ⟨ad241, A241_1, c241_1, e241, hx241_0, hx241_1, hl241_1, hi241_1⟩ := at_T38 HR0.out x5_1 p241 q241
                      obtain rfl : ad240 = ad241 := (by injection e241)
                      have HR241_1 := Aside0.mk hi241_1
                      have HC241_1 := Aside0.mk hl241_1
                      clear hi241_1 hl241_1
                      replace p241 := eq_true p241
                      replace q241 := eq_true q241
                      go_wp2
                      go_roundg k2
                      case measure => have := HK1.out; have := HK2.out; omega
                      case rel => exact ⟨(x3_2), (x4_2), (wrap64 (x5_1 + 1)), (by first | rfl | (simp; done) | (simp [*]; done)), (by first | rfl | (simp; done) | (simp [*]; done)), (by first | rfl | (simp; done) | (simp [*]; done)), H', ⟨by have := HK1.out; have := HK2.out; omega⟩, by repeat (first | exact Drawn0.refl _ | apply Drawn0.step)⟩
                  · rw [if_neg c6] at H
                    exact absurd H (by simp)
                · rw [if_neg c5] at H
                  exact absurd H (by simp)
        · rw [if_neg c3] at H
          exact absurd H (by simp)
      · rw [if_neg c2] at H
        have c2b0 : decide (x5_1 < (l0.length : Int)) = false := decide_eq_false c2
        clear c2
        obtain rfl := Option.some.inj H
        go_wp2
        go_ret
        exact ⟨by first | rfl | (simp; done) | (simp [*]; done), by repeat (first | exact Drawn0.refl _ | apply Drawn0.step)⟩
end Go.Proofs.YtfmpaofbnjlniaaDoor.F
/- Few always answers. -/
namespace Go.Proofs.YtfmpaofbnjlniaaDoor.F
open Go.RowKit Go.Proofs.YtfmpaofbnjlniaaDoorW.PrintWords Go.Proofs.YtfmpaofbnjlniaaDoorW.PrintLast Go.Proofs.YtfmpaofbnjlniaaDoorW.PrintMore
set_option linter.unusedVariables false
theorem few_l2 (n : Int) (l : List S54) (i : Nat) (hi : i < l.length) (h8 : l.length ≤ 12) (x3 : Int) (hM : (rd_T54 l (i : Int)).f2.length ≤ 9223372036854775807) (H : ∀ x4, ∃ k b, paraphrastlaw01_Few.l1 k [⟨n, l⟩] x3 x4 0 ((i : Int) + 1) = some b) :
    ∀ (m j : Nat) (x4 : Int), j + m = (rd_T54 l (i : Int)).f2.length → ∃ k b, paraphrastlaw01_Few.l2 k [⟨n, l⟩] x3 x4 0 (i : Int) (j : Int) = some b
  | 0, j, x4, h => by
    obtain ⟨k, b, hk⟩ := H x4
    refine ⟨k + 1, b, ?_⟩
    unfold paraphrastlaw01_Few.l2
    rw [if_pos (by omega), if_pos (by simp), if_pos (by omega), if_pos (show (i : Int) < ((rd_T38 [⟨n, l⟩] 0).f1.length : Int) from by show (i : Int) < (l.length : Int); omega), if_neg (show ¬ (j : Int) < ((rd_T54 (rd_T38 [⟨n, l⟩] 0).f1 (i : Int)).f2.length : Int) from by show ¬ (j : Int) < ((rd_T54 l (i : Int)).f2.length : Int); omega), w64 (by omega) (by omega)]
    exact hk
  | m + 1, j, x4, h => by
    obtain ⟨k, b, hk⟩ := few_l2 n l i hi h8 x3 hM H m (j + 1) (wrap64 (x4 + ((rd_L2 (rd_T54 l (i : Int)).f2 (j : Int)).length : Int))) (by omega)
    refine ⟨k + 1, b, ?_⟩
    unfold paraphrastlaw01_Few.l2
    rw [if_pos (by omega), if_pos (by simp), if_pos (by omega), if_pos (show (i : Int) < ((rd_T38 [⟨n, l⟩] 0).f1.length : Int) from by show (i : Int) < (l.length : Int); omega), if_pos (show (j : Int) < ((rd_T54 (rd_T38 [⟨n, l⟩] 0).f1 (i : Int)).f2.length : Int) from by show (j : Int) < ((rd_T54 l (i : Int)).f2.length : Int); omega), if_pos (by omega), w64 (x := (j : Int) + 1) (by omega) (by omega)]
    exact hk
theorem few_l1 (n : Int) (l : List S54) (h8 : l.length ≤ 12) (hM : ∀ r ∈ l, r.f2.length ≤ 9223372036854775807) : ∀ (d i : Nat) (x3 x4 : Int), i + d = l.length → ∃ k b, paraphrastlaw01_Few.l1 k [⟨n, l⟩] x3 x4 0 (i : Int) = some b
  | 0, i, x3, x4, h => by
    refine ⟨2, decide (x4 ≤ 20000), ?_⟩
    unfold paraphrastlaw01_Few.l1
    rw [if_pos (by omega), if_pos (by simp), if_neg (show ¬ (i : Int) < ((rd_T38 [⟨n, l⟩] 0).f1.length : Int) from by show ¬ (i : Int) < (l.length : Int); omega), show wrap64 (0 + 1) = 1 from by unfold wrap64; omega]
    unfold paraphrastlaw01_Few.l0
    rw [if_neg (by simp)]
  | d + 1, i, x3, x4, h => by
    have hi : i < l.length := by omega
    have hr := hM _ (List.getElem_mem hi)
    rw [← rdT_nat l i hi] at hr
    generalize hX : wrap64 (x3 + ((rd_T54 l (i : Int)).f2.length : Int)) = X
    have step : ∀ k, paraphrastlaw01_Few.l1 (k + 1) [⟨n, l⟩] x3 x4 0 (i : Int) = if X > 1500 then paraphrastlaw01_Few.j2 k [⟨n, l⟩] X x4 0 (i : Int) true else paraphrastlaw01_Few.j2 k [⟨n, l⟩] X x4 0 (i : Int) (decide (((rd_T54 l (i : Int)).f0.size : Int) > 1000)) := fun k => by
      conv => lhs; unfold paraphrastlaw01_Few.l1
      rw [if_pos (by omega), if_pos (by simp), if_pos (show (i : Int) < ((rd_T38 [⟨n, l⟩] 0).f1.length : Int) from by show (i : Int) < (l.length : Int); omega), if_pos (by omega)]
      show (if wrap64 (x3 + ((rd_T54 l (i : Int)).f2.length : Int)) > 1500 then paraphrastlaw01_Few.j2 k [⟨n, l⟩] (wrap64 (x3 + ((rd_T54 l (i : Int)).f2.length : Int))) x4 0 (i : Int) true else paraphrastlaw01_Few.j2 k [⟨n, l⟩] (wrap64 (x3 + ((rd_T54 l (i : Int)).f2.length : Int))) x4 0 (i : Int) (decide (((rd_T54 l (i : Int)).f0.size : Int) > 1000))) = _
      rw [hX]
    by_cases h1 : X > 1500
    · exact ⟨2, false, by rw [step, if_pos h1]; rfl⟩
    · by_cases h2 : ((rd_T54 l (i : Int)).f0.size : Int) > 1000
      · exact ⟨2, false, by rw [step, if_neg h1, decide_eq_true h2]; rfl⟩
      · obtain ⟨k, b, hk⟩ := few_l2 n l i hi h8 X hr (fun x4' => by have := few_l1 n l h8 hM d (i + 1) X x4' (by omega); rwa [show ((i + 1 : Nat) : Int) = (i : Int) + 1 by omega] at this) (rd_T54 l (i : Int)).f2.length 0 x4 (by omega)
        exact ⟨k + 2, b, by rw [step, if_neg h1, decide_eq_false h2]; exact hk⟩
theorem few_ex (n : Int) (l : List S54) (hM : ∀ r ∈ l, r.f2.length ≤ 9223372036854775807) : ∃ k b, paraphrastlaw01_Few.f k [⟨n, l⟩] = some b := by
  by_cases h : (l.length : Int) > 12
  · exact ⟨1, false, by
      unfold paraphrastlaw01_Few.f paraphrastlaw01_Few.l0
      rw [if_pos (by simp), if_pos (by omega)]
      exact if_pos h⟩
  · obtain ⟨k, b, hk⟩ := few_l1 n l (by omega) hM l.length 0 0 0 (by omega)
    exact ⟨k + 1, b, by
      unfold paraphrastlaw01_Few.f paraphrastlaw01_Few.l0
      rw [if_pos (by simp), if_pos (by omega)]
      exact (if_neg h).trans hk⟩
theorem rels_max {w : World} {A : Option Addr} {n : Nat} {l : List S54} (h : Kd.C k54 w A n l) : ∀ r ∈ l, r.f2.length ≤ 9223372036854775807 := by
  intro r hr
  obtain ⟨i, hi, rfl⟩ := List.getElem_of_mem hr
  have hn : 0 < n := by have := h.1; omega
  obtain ⟨ad, _, hc⟩ := h.2.2 hn
  obtain ⟨c, _, hK, _⟩ := hc i _ (List.getElem?_eq_getElem hi)
  obtain ⟨A2, c2, _, _, g⟩ := k54_open hK
  exact g.2.1
end Go.Proofs.YtfmpaofbnjlniaaDoor.F
/- Same, Text and Parse at structures: what they answer. -/
namespace Go.Proofs.YtfmpaofbnjlniaaDoor.F
open Go.RowKit Go.Proofs.YtfmpaofbnjlniaaDoorW.PrintWords Go.Proofs.YtfmpaofbnjlniaaDoorW.PrintLast Go.Proofs.YtfmpaofbnjlniaaDoorW.PrintMore
set_option linter.unusedVariables false
theorem rdL2_nat (l : List (List Int)) (i : Nat) (h : i < l.length) : rd_L2 l (i : Int) = l[i] := by unfold rd_L2; rw [Int.toNat_natCast, List.getD_eq_getElem?_getD, List.getElem?_eq_getElem h]; rfl
end Go.Proofs.YtfmpaofbnjlniaaDoor.F
/- slices.Clone at []int, by hand. -/
namespace Go.Proofs.YtfmpaofbnjlniaaDoor.F
open Go.RowKit Go.Proofs.YtfmpaofbnjlniaaDoorW.PrintWords Go.Proofs.YtfmpaofbnjlniaaDoorW.PrintLast Go.Proofs.YtfmpaofbnjlniaaDoorW.PrintMore
set_option linter.unusedVariables false
set_option linter.unusedSimpArgs false
def slices_Clone_int_int.f (l : List Int) : Option (List Int) := if l.length ≤ 100000 then some l else none
set_option maxHeartbeats 4000000 in
set_option maxRecDepth 100000 in
theorem slices_Clone_int_int.calls (A0 : Option Addr) (c0 : Nat) (l0 : List Int) (r1 : List Int) (w : World) (hr0 : Kd.C (Kd.int .i64) w A0 l0.length l0) (hc0 : l0.length ≤ c0) (h : slices_Clone_int_int.f l0 = some r1) :
    Calls Tryd.prog 56 #[.slice A0 l0.length c0] w fun e w' => ∃ v0_ : Value, e = .returned v0_ ∧ Kd.R (Kd.int .i64) 3 w' w.heap.size (fun _ => True) v0_ r1 ∧ Below w.heap.size w w' := by
  unfold slices_Clone_int_int.f at h
  by_cases hl : l0.length ≤ 100000
  case neg => rw [if_neg hl] at h; cases h
  rw [if_pos hl] at h
  obtain rfl := Option.some.inj h
  clear h
  have HR0 := Aside0.mk hr0
  have HC0 := Aside0.mk hc0
  clear hr0 hc0
  have hq : ∀ (n c : Nat) (W : World), (binOp .eql 24 (.slice A0 n c) (.slice none 0 0)).run Tryd.prog W = .ok (.bool A0.isNone) W := fun n c W => Lib.run_eql_slice_nil W 24 3 A0 n c 0 0 Tryd.underlying24
  go_enter Tryd.func56, Tryd.ntmps56
  cases A0 with
  | none =>
    have h0 : l0 = [] := by
      cases l0 with
      | nil => rfl
      | cons x xs => obtain ⟨ad, h, _⟩ := HR0.out.2.2 (by simp); cases h
    subst h0
    go_wp2
    go_ret
    exact ⟨_, rfl, Kd.R_nil _ _ _ _ _, Below.refl _ _⟩
  | some ad =>
    have HO := Aside0.mk (show Kd.R (Kd.int .i64) 3 (w.alloc (.cells #[] 3)) w.heap.size (fun _ => True) (.slice (some ⟨w.heap.size, 0, none⟩) 0 0) [] from Kd.R_of_own (h1 := fun _ => rfl) (ok := fun _ => True) (own_lit_of (enc := Value.int .i64) w w.heap.size 3 [] (Nat.le_refl _) (by simp)) (fun _ _ => trivial))
    have HC := Aside0.mk (Kd.C_alloc HR0.out (.cells #[] 3))
    have HB := Aside0.mk (below_alloc (Below.refl w.heap.size w) (.cells #[] 3))
    go_wp2_with (first | ((with_reducible refine gate_builtin (b := .append) (xs := #[.tmp 5, .tmp 6]) rfl ?_); at_builtin; refine Kd.R_append_rows (Kd.int .i64) (w0 := w) w.heap.size rfl (.tmp 5) (.tmp 6) 24 3 (.int .i64 0) 8 rfl Tryd.underlying24 infoInt rfl (by decide) (by omega) (.slice (some ⟨w.heap.size, 0, none⟩) 0 0) [] l0 _ _ _ (fun _ => True) (fun _ => False) rfl rfl ?aO ?aR (fun _ _ h => h) (fun _ h => h.elim) ?aF ?aB ?aS ?aL ?_; (case aO => exact HO.out); (case aR => exact HC.out); (case aF => exact fun _ _ => trivial); (case aB => exact HB.out); (case aS => exact HB.out.size); (case aL => simp; omega); intro v7 w7 ho hb hg hat; have n0_ := Aside0.mk ho; have n1_ := Aside0.mk hb; clear ho hb hg hat HO HC HB))
    go_ret
    exact ⟨_, rfl, n0_.out, n1_.out⟩
end Go.Proofs.YtfmpaofbnjlniaaDoor.F
/- slices.Insert at [][]int, by hand (the walk turned from the kit's worked one at []string). -/
namespace Go.Proofs.YtfmpaofbnjlniaaDoor.F
open Go.RowKit Go.Lib Go.Proofs.YtfmpaofbnjlniaaDoorW.PrintWords Go.Proofs.YtfmpaofbnjlniaaDoorW.PrintLast Go.Proofs.YtfmpaofbnjlniaaDoorW.PrintMore
set_option linter.unusedVariables false
set_option linter.unusedSimpArgs false
theorem wp_copy_runI {P : Program} (w : World) {o : Oper} {a : Act} {K : Act → World → Prop} {Q : Exit → Act → World → Prop} (d s : Operand) (t t' : TypeId)
    (ho : o.op = .call { callee := .builtin .copy, args := #[d, s], argTypes := #[t, t'] }) (v u : Value) (hd : a.eval d = v) (hs : a.eval s = u) {v' : Value} {w' : World}
    (hr : (Builtin.copy_ #[t, t'] o.type #[v, u]).run P w = .ok v' w') (h : K (a.put o.dst v') w') : o.wp P a w K Q := by
  unfold Oper.wp execOp
  simp only [ho, resolve, invoke, builtin, Sem.run_bind, Sem.run_pure, Result.andThen_ok, List.map_toArray, List.map_cons, List.map_nil, hd, hs, hr]
  exact h
theorem wpList_copy_runI {P : Program} (w : World) {ops : Array Oper} {rest : List Oper} {o : Oper} {a : Act} {Q : Exit → Act → World → Prop} (hgd : o.guard = none) (d s : Operand) (t t' : TypeId)
    (ho : o.op = .call { callee := .builtin .copy, args := #[d, s], argTypes := #[t, t'] }) (v u : Value) (hd : a.eval d = v) (hs : a.eval s = u) {v' : Value} {w' : World}
    (hr : (Builtin.copy_ #[t, t'] o.type #[v, u]).run P w = .ok v' w') (h : wpList P ops Q rest (a.put o.dst v') w') : wpList P ops Q (o :: rest) a w :=
  wpList_plain hgd fun _ hK => wp_copy_runI w d s t t' ho v u hd hs hr (hK _ _ h)
theorem step_copy_runI {P : Program} {ops : Array Oper} {o : Oper} {a : Act} {w : World} {K : Act → World → Prop} {Q : Exit → Act → World → Prop} {E : Prop}
    (hg : o.guard = none) (d x : Operand) (dT sT : TypeId) (hop : o.op = Op.call { callee := Callee.builtin Builtin.copy, args := #[d, x], argTypes := #[dT, sT] })
    (v u : Value) (hd : a.eval d = v) (hx : a.eval x = u) {v' : Value} {w' : World} (hr : (Builtin.copy_ #[dT, sT] o.type #[v, u]).run P w = .ok v' w') (hK : K (a.put o.dst v') w') :
    if Region.wanted o (yielded ops a.tmps) = true then Oper.wp P o a w K Q else E := by
  have hw : Region.wanted o (yielded ops a.tmps) = true := by simp [Region.wanted, hg]
  rw [if_pos hw]
  unfold Oper.wp
  simp [execOp, hop, resolve, invoke, builtin, hd, hx, hr, Result.andThen]
  exact hK
theorem isSome_setCells (b : Nat) (vs : List Value) (o : Nat) (w : World) (h : ∀ j, j < vs.length → (w.cell? ⟨b, o + j, none⟩).isSome = true) (k : Nat) (hk : (w.cell? ⟨b, k, none⟩).isSome = true) : ((w.setCells b o vs).cell? ⟨b, k, none⟩).isSome = true := by
  by_cases hin : o ≤ k ∧ k < o + vs.length
  · have := World.cell?_setCells_in b vs o w h (k - o) (by omega)
    rw [show o + (k - o) = k by omega] at this
    rw [this]; rfl
  · rw [World.cell?_setCells_out b vs o w ⟨b, k, none⟩ (fun _ _ => by show k < o ∨ o + vs.length ≤ k; omega)]
    exact hk
set_option maxHeartbeats 4000000 in
set_option maxRecDepth 100000 in
theorem insert_shift (b off n c i vb voff m vc : Nat) (cs vs : List Value) (w : World) (hi : i < n) (hm : 0 < m) (hroom : n + m ≤ c) (hc63 : c ≤ 9223372036854775807) (hvb : vb ≠ b)
    (hcl : cs.length = n) (hvl : vs.length = m)
    (hcs : ∀ j v, cs[j]? = some v → w.cell? ⟨b, off + j, none⟩ = some v) (hsp : ∀ j, j < n + m → (w.cell? ⟨b, off + j, none⟩).isSome = true) (hfz : ∀ j, j < n + m → w.frozen? ⟨b, off + j, none⟩ = false)
    (hvs : ∀ j v, vs[j]? = some v → w.cell? ⟨vb, voff + j, none⟩ = some v) (h1c : ∀ v ∈ cs, v.oneCell' = true) (h1v : ∀ v ∈ vs, v.oneCell' = true)
    (tA tB : TypeId) (kA kB : Nat) (hsa : w.shape? vb = some (tA, kA)) (hsb : w.shape? b = some (tB, kB)) (hkB : kB ≠ 0) (hfa : w.frozen? ⟨vb, voff, none⟩ = false) (hfe : w.frozen? ⟨vb, kA, none⟩ = false) :
    Calls Tryd.prog 55 #[.slice (some ⟨b, off, none⟩) n c, .int .i64 i, .slice (some ⟨vb, voff, none⟩) m vc] w fun e w' =>
      e = .returned (.slice (some ⟨b, off, none⟩) (n + m) c) ∧ w' = (w.drew.setCells b (off + (i + m)) (cs.drop i)).setCells b (off + i) vs := by
  have hz1 : ¬ ((m : Int) = 0) := by omega
  have hz2 : ¬ ((i : Int) = (n : Int)) := by omega
  have hsz : (Tryd.prog.info? 24).map (·.size) = some 1 := by
    obtain ⟨i0, hi0, h0, h1, h2⟩ := info_parts infoInts
    rw [hi0]; simp [h1]
  have hov : ∀ lb cb, (callFunc 70 #[.slice (some ⟨vb, voff, none⟩) m vc, .slice (some ⟨b, off + (i + m), none⟩) lb cb]).run Tryd.prog w = .ok (.value (.bool false)) w := fun lb cb => by
    rw [run_callFunc_extern Tryd.func70 (by kernel_rfl) (by kernel_rfl) (by kernel_rfl) (e := Extern.SlicesOverlaps.overlaps #[52, 52] #[4]) (by kernel_rfl),
      Lib.run_overlaps_apart w 52 4 24 Tryd.underlying52 1 (fun w => by kernel_rfl) ⟨vb, voff, none⟩ ⟨b, off + (i + m), none⟩ m vc lb cb hvb tA tB kA kB hsa hsb hkB hfa hfe]
    rfl
  have hdl : (cs.drop i).length = n - i := by rw [List.length_drop, hcl]
  have hw1 : IntKind.i64.wrap ((i : Int) + (m : Int)) = (i : Int) + (m : Int) := by rw [IntKind.wrap_i64]; omega
  have hb1 : (0 : Int) ≤ (i : Int) + (m : Int) := by omega
  have hin : i ≤ n := by omega
  have htn : ((i : Int) + (m : Int)).toNat = i + m := by omega
  have hb2 : ¬ (c = i + m) := by omega
  have hb3 : (i : Int) ≤ (n : Int) + (m : Int) := by omega
  have hb4 : ¬ (c = i) := by omega
  have hcp1 : ∀ ty dc sc, (Builtin.copy_ #[52, 52] ty #[.slice (some ⟨b, off + (i + m), none⟩) (n + m - (i + m)) dc, .slice (some ⟨b, off + i, none⟩) (n + m - i) sc]).run Tryd.prog w.drew = .ok (goInt (cs.drop i).length) (w.drew.setCells b (off + (i + m)) (cs.drop i)) := fun ty dc sc =>
    run_copy_cells w.drew _ _ ty 24 b (off + (i + m)) (n + m - (i + m)) dc ⟨b, off + i, none⟩ (n + m - i) sc (cs.drop i) Tryd.underlying52 hsz (by rw [hdl]; simp only [Nat.min_def]; split <;> omega)
      (fun j v hj => by rw [Addr.add_lit, Nat.add_assoc]; exact hcs (i + j) v (by rwa [List.getElem?_drop] at hj))
      (fun j hj => by rw [Nat.add_assoc]; exact hsp _ (by omega)) (fun j hj => by rw [Nat.add_assoc]; exact hfz _ (by omega)) (fun v hv => h1c v (List.mem_of_mem_drop hv))
  obtain ⟨W1, hW1⟩ : ∃ W1, W1 = w.drew.setCells b (off + (i + m)) (cs.drop i) := ⟨_, rfl⟩
  have hsp1 : ∀ k, k < n + m → (W1.cell? ⟨b, off + k, none⟩).isSome = true := fun k hk => by
    rw [hW1]
    exact isSome_setCells b _ _ _ (fun j hj => by rw [Nat.add_assoc]; exact hsp _ (by omega)) _ (hsp k hk)
  have hcp2 : ∀ (W : World), (∀ x, W.cell? x = W1.cell? x) → (∀ x, W.frozen? x = W1.frozen? x) → ∀ ty dc, (Builtin.copy_ #[52, 52] ty #[.slice (some ⟨b, off + i, none⟩) (n + m - i) dc, .slice (some ⟨vb, voff, none⟩) m vc]).run Tryd.prog W = .ok (goInt vs.length) (W.setCells b (off + i) vs) := fun W hWc hWf ty dc =>
    run_copy_cells W _ _ ty 24 b (off + i) (n + m - i) dc ⟨vb, voff, none⟩ m vc vs Tryd.underlying52 hsz (by rw [hvl]; simp only [Nat.min_def]; split <;> omega)
      (fun j v hj => by
        rw [Addr.add_lit, hWc, hW1, World.cell?_setCells_out b _ _ _ _ (fun h _ => absurd h hvb)]
        exact hvs j v hj)
      (fun j hj => by rw [hWc, Nat.add_assoc]; exact hsp1 _ (by omega)) (fun j hj => by rw [hWf, hW1, World.frozen?_setCells, Nat.add_assoc]; exact hfz _ (by omega)) h1v
  rw [← hW1] at hcp1
  go_enter Tryd.func55, Tryd.ntmps55
  go_wp2_with (simp only [hov])
  go_region_law (refine step_copy_runI rfl _ _ 52 52 rfl _ _ (by simp [Act.eval, Act.put]) (by simp [Act.eval, Act.put]) (hcp1 _ _ _) ?_)
  go_wp2_with (at_builtin; refine wpList_copy_runI _ rfl _ _ 52 52 rfl _ _ rfl rfl (hcp2 _ (fun _ => rfl) (fun _ => rfl) _ _) ?_)
  go_ret
  first | exact ⟨rfl, rfl⟩ | exact ⟨rfl, by rw [hW1]⟩
set_option maxHeartbeats 4000000 in
set_option maxRecDepth 100000 in
theorem insert_grow (b off n c i vb voff m vc : Nat) (cs vs : List Value) (w : World) (hi : i < n) (hm : 0 < m) (hnc : n ≤ c) (hroom : c < n + m) (hbig : (n + m) * 24 ≤ 140737488355328)
    (hcl : cs.length = n) (hvl : vs.length = m)
    (hcs : ∀ j v, cs[j]? = some v → w.cell? ⟨b, off + j, none⟩ = some v)
    (hvs : ∀ j v, vs[j]? = some v → w.cell? ⟨vb, voff + j, none⟩ = some v) (h1c : ∀ v ∈ cs, v.oneCell' = true) (h1v : ∀ v ∈ vs, v.oneCell' = true) :
    Calls Tryd.prog 55 #[.slice (some ⟨b, off, none⟩) n c, .int .i64 i, .slice (some ⟨vb, voff, none⟩) m vc] w fun e w' =>
      e = .returned (.slice (some ⟨w.heap.size, 0, none⟩) (n + m) (grownCap w (n + m) c 24)) ∧
      w' = (((w.alloc (.cells ((cs.take i).toArray ++ Builtin.zeroCells (Value.slice none 0 0).cells (n + m - i) ++ Builtin.zeroCells (Value.slice none 0 0).cells (grownCap w (n + m) c 24 - (n + m))) 24)).drew.setCells w.heap.size i vs).drew).setCells w.heap.size (i + m) (cs.drop i) := by
  obtain ⟨i0, hi0, hz0, hzs, hzb⟩ := info_parts infoInts
  have hz1 : ¬ ((m : Int) = 0) := by omega
  have hz2 : ¬ ((i : Int) = (n : Int)) := by omega
  have hz3 : (c : Int) < (n : Int) + (m : Int) := by omega
  have hsz : (Tryd.prog.info? 24).map (·.size) = some 1 := by rw [hi0]; simp [hzs]
  have hbw : b < w.heap.size := block_lt_of_cell (hcs 0 _ (List.getElem?_eq_getElem (by omega)))
  have hvw : vb < w.heap.size := block_lt_of_cell (hvs 0 _ (List.getElem?_eq_getElem (by omega)))
  have hkk : (n : Int) + (m : Int) - (i : Int) = ((n + m - i : Nat) : Int) := by omega
  have hik : i + (n + m - i) = n + m := by omega
  have hold : (Builtin.firstCells i0.size i (.slice (some ⟨b, off, none⟩) i c)).run Tryd.prog w.drew = .ok (cs.take i).toArray w.drew := by
    rw [hzs]
    exact run_firstCells_some w.drew 1 i ⟨b, off, none⟩ i c (cs.take i) (by rw [List.length_take]; omega) (fun j v hj => by
      rw [Addr.add_lit]
      rw [List.getElem?_take] at hj
      split at hj
      · exact hcs j v hj
      · cases hj)
  have hrz : ∀ ty, (Builtin.append_ #[52, 3] ty #[.slice (some ⟨b, off, none⟩) i c, .int .i64 ((n : Int) + (m : Int) - (i : Int))]).run Tryd.prog w =
      .ok (.slice (some ⟨w.heap.size, 0, none⟩) (n + m) (grownCap w (n + m) c 24)) (w.drew.alloc (.cells ((cs.take i).toArray ++ Builtin.zeroCells (Value.slice none 0 0).cells (n + m - i) ++ Builtin.zeroCells (Value.slice none 0 0).cells (grownCap w (n + m) c 24 - (n + m))) 24)) := fun ty => by
    have h := Lib.run_append_grow_zeros w 52 3 ty 24 i0 _ .i64 .i64 Tryd.underlying52 Tryd.underlying3 hi0 hz0 (some ⟨b, off, none⟩) i c (cs.take i) hold (n + m - i) (by omega) (by omega) (by omega) (by omega) (by rw [hzb]; omega) (by rw [hzb, hik]; exact growslice_fits hroom hbig)
    rw [hik] at h
    rw [hkk]
    exact h
  obtain ⟨G, hG⟩ : ∃ G, G = grownCap w (n + m) c 24 := ⟨_, rfl⟩
  obtain ⟨ROW, hROW⟩ : ∃ ROW : Array Value, ROW = (cs.take i).toArray ++ Builtin.zeroCells (Value.slice none 0 0).cells (n + m - i) ++ Builtin.zeroCells (Value.slice none 0 0).cells (G - (n + m)) := ⟨_, rfl⟩
  rw [← hG] at hrz ⊢
  rw [← hROW] at hrz ⊢
  have hRl : n + m ≤ ROW.size := by
    rw [hROW]
    simp [Builtin.zeroCells, Value.cells]
    omega
  obtain ⟨W1, hW1⟩ : ∃ W1, W1 = w.drew.alloc (.cells ROW 24) := ⟨_, rfl⟩
  rw [← hW1] at hrz
  have hN : ∀ j, j < n + m → (W1.cell? ⟨w.heap.size, j, none⟩).isSome = true := fun j hj => by
    rw [hW1, World.cell?_alloc_at (w := w.drew) ROW _ w.heap.size j rfl, Array.getElem?_eq_getElem (by omega)]; rfl
  have hNf : ∀ j, W1.frozen? ⟨w.heap.size, j, none⟩ = false := fun j => by rw [hW1]; exact World.frozen?_alloc_at (w := w.drew) ROW _ w.heap.size j rfl
  have hOb : ∀ j v, w.cell? ⟨b, j, none⟩ = some v → W1.cell? ⟨b, j, none⟩ = some v := fun j v h => by rw [hW1, World.cell?_alloc_past (w := w.drew) _ b j hbw]; exact h
  have hOv : ∀ j v, w.cell? ⟨vb, j, none⟩ = some v → W1.cell? ⟨vb, j, none⟩ = some v := fun j v h => by rw [hW1, World.cell?_alloc_past (w := w.drew) _ vb j hvw]; exact h
  have hcpA : ∀ (W : World), (∀ x, W.cell? x = W1.cell? x) → (∀ x, W.frozen? x = W1.frozen? x) → ∀ ty dc, (Builtin.copy_ #[52, 52] ty #[.slice (some ⟨w.heap.size, i, none⟩) (n + m - i) dc, .slice (some ⟨vb, voff, none⟩) m vc]).run Tryd.prog W = .ok (goInt vs.length) (W.setCells w.heap.size i vs) := fun W hWc hWf ty dc =>
    run_copy_cells W _ _ ty 24 w.heap.size i (n + m - i) dc ⟨vb, voff, none⟩ m vc vs Tryd.underlying52 hsz (by rw [hvl]; simp only [Nat.min_def]; split <;> omega)
      (fun j v hj => by rw [Addr.add_lit, hWc]; exact hOv _ v (hvs j v hj))
      (fun j hj => by rw [hWc]; exact hN _ (by omega)) (fun j hj => by rw [hWf]; exact hNf _) h1v
  have hGn : n + m ≤ G := by rw [hG]; exact grownCap_ge w _ _ _
  have hG63 : G ≤ 9223372036854775807 := by
    have := grownCap_le_maxLen w (n + m) c 24 (by unfold maxLen; omega)
    rw [← hG] at this
    unfold maxLen at this
    omega
  have hGi : ¬ (G = i) := by omega
  have hGim : ¬ (G = i + m) := by omega
  have hci : ¬ (c = i) := by omega
  have hbN : b ≠ w.heap.size := by omega
  have hdl : (cs.drop i).length = n - i := by rw [List.length_drop, hcl]
  have hcpB : ∀ (W : World), (∀ x, W.cell? x = (W1.setCells w.heap.size i vs).cell? x) → (∀ x, W.frozen? x = (W1.setCells w.heap.size i vs).frozen? x) → ∀ ty dc sc, (Builtin.copy_ #[52, 52] ty #[.slice (some ⟨w.heap.size, i + m, none⟩) (n + m - (i + m)) dc, .slice (some ⟨b, off + i, none⟩) (n - i) sc]).run Tryd.prog W = .ok (goInt (cs.drop i).length) (W.setCells w.heap.size (i + m) (cs.drop i)) := fun W hWc hWf ty dc sc =>
    run_copy_cells W _ _ ty 24 w.heap.size (i + m) (n + m - (i + m)) dc ⟨b, off + i, none⟩ (n - i) sc (cs.drop i) Tryd.underlying52 hsz (by rw [hdl]; simp only [Nat.min_def]; split <;> omega)
      (fun j v hj => by
        rw [Addr.add_lit, hWc, World.cell?_setCells_out _ _ _ _ _ (fun h _ => absurd h hbN), Nat.add_assoc]
        exact hOb _ v (hcs (i + j) v (by rwa [List.getElem?_drop] at hj)))
      (fun j hj => by rw [hWc]; exact isSome_setCells _ _ _ _ (fun t ht => hN _ (by omega)) _ (hN _ (by omega)))
      (fun j hj => by rw [hWf, World.frozen?_setCells]; exact hNf _) (fun v hv => h1c v (List.mem_of_mem_drop hv))
  subst hW1
  have hE1 : ∀ x, ((w.alloc (.cells ROW 24)).drew).cell? x = (w.drew.alloc (.cells ROW 24)).cell? x := fun x => rfl
  have hE2 : ∀ x, ((w.alloc (.cells ROW 24)).drew).frozen? x = (w.drew.alloc (.cells ROW 24)).frozen? x := fun x => rfl
  have hF1 : ∀ x, (((w.alloc (.cells ROW 24)).drew.setCells w.heap.size i vs).drew).cell? x = ((w.drew.alloc (.cells ROW 24)).setCells w.heap.size i vs).cell? x := fun x => rfl
  have hF2 : ∀ x, (((w.alloc (.cells ROW 24)).drew.setCells w.heap.size i vs).drew).frozen? x = ((w.drew.alloc (.cells ROW 24)).setCells w.heap.size i vs).frozen? x := fun x => rfl
  have hw1 : IntKind.i64.wrap ((i : Int) + (m : Int)) = (i : Int) + (m : Int) := by rw [IntKind.wrap_i64]; omega
  have hb1 : (0 : Int) ≤ (i : Int) + (m : Int) := by omega
  have hin : i ≤ n := by omega
  have htn : ((i : Int) + (m : Int)).toNat = i + m := by omega
  have hb3 : (i : Int) ≤ (n : Int) := by omega
  clear hkk hik hold hROW hG hRl
  go_enter Tryd.func55, Tryd.ntmps55
  go_wp2_with (first
    | (at_builtin; refine Lib.wpList_append_run _ rfl _ _ _ _ rfl _ _ rfl rfl _ _ (hrz _) ?_)
    | (at_builtin; refine wpList_copy_runI _ rfl _ _ 52 52 rfl _ _ rfl rfl (hcpA _ hE1 hE2 _ _) ?_)
    | (at_builtin; refine wpList_copy_runI _ rfl _ _ 52 52 rfl _ _ rfl rfl (hcpB _ (fun _ => rfl) (fun _ => rfl) _ _ _) ?_))
  go_region_law (refine step_copy_runI rfl _ _ 52 52 rfl (.slice (some ⟨w.heap.size, i + m, none⟩) (n + m - (i + m)) (G - (i + m))) (.slice (some ⟨b, off + i, none⟩) (n - i) (c - i)) (by simp [Act.eval, Act.put]) (by simp [Act.eval, Act.put]) (hcpB _ hF1 hF2 3 (G - (i + m)) (c - i)) ?_)
  go_wp2
  go_ret
  exact ⟨rfl, rfl⟩
/-- How Insert ends: the row with the new cell at its place; nothing but the row's own block has turned. -/
def InsEnds (w : World) (base : Nat) (v : Value) (n i : Nat) (inner : List Value) (xv : Value) (e : Ending) (w' : World) : Prop :=
  ∃ v', e = .returned v' ∧ w'.ownsRow base 24 1 v' (n + 1) (inner.take i ++ [xv] ++ inner.drop i) ∧ w.grownBy w' v.ownBlock ∧ (v'.ownBlock = v.ownBlock ∨ ∃ b, v'.ownBlock = some b ∧ w.heap.size ≤ b)
abbrev OneV := { v : Value // v.oneCell' = true }
def vK : Kd OneV := Kd.scalar Subtype.val (fun x => x.2)
theorem oneVs : ∀ inner : List Value, (∀ u ∈ inner, u.oneCell' = true) → ∃ xs : List OneV, encs Subtype.val xs = inner
  | [], _ => ⟨[], rfl⟩
  | u :: us, h => by
    obtain ⟨xs, e⟩ := oneVs us (fun x hx => h x (List.mem_cons_of_mem _ hx))
    exact ⟨⟨u, h u List.mem_cons_self⟩ :: xs, congrArg (u :: ·) e⟩
set_option maxHeartbeats 4000000 in
set_option maxRecDepth 100000 in
theorem insert_last (A : Option Addr) (n c : Nat) (inner : List Value) (h1i : ∀ u ∈ inner, u.oneCell' = true) (g' : Nat) (xv : Value) (base : Nat) (w : World) (hown : w.ownsRow base 24 1 (.slice A n c) n inner) (hn : n ≤ 100000) (hbase : base ≤ w.heap.size)
    (hx : w.heap[g']? = some (.cells #[xv] 24 (0, 0))) (h1 : xv.oneCell' = true) :
    Calls Tryd.prog 55 #[.slice A n c, .int .i64 n, .slice (some ⟨g', 0, none⟩) 1 1] w (InsEnds w base (.slice A n c) n n inner xv) := by
  obtain ⟨xs, rfl⟩ := oneVs inner h1i
  have hlen : xs.length = n := by have := hown.1; rw [encs_length] at this; omega
  subst hlen
  obtain ⟨i0, hi0, _, hsz0, _⟩ := info_parts infoInts
  have hcut := cut_from (P := Tryd.prog) 52 24 .i64 Tryd.underlying52 hi0 1 hsz0 A xs.length c xs.length (by omega) (by omega)
  have hcx : w.cell? ⟨g', 0, none⟩ = some xv := by simp [World.cell?, hx]
  have HO := Aside0.mk (show vK.R 24 w base (fun _ => True) (.slice A xs.length c) xs from Kd.R_of_own (h1 := fun x => x.2) (ok := fun _ => True) hown (fun _ _ => trivial))
  have HX := Aside0.mk (show ReadsRow (fun (x : OneV) (cs : List Value) => cs = [x.1]) 1 w (some ⟨g', 0, none⟩) 1 [⟨xv, h1⟩] from ⟨rfl, by omega, fun _ => ⟨_, rfl, fun j p hj => by
    cases j with
    | zero =>
      simp at hj; subst hj
      exact ⟨[xv], rfl, rfl, fun i u hu => by
        cases i with
        | zero => simp at hu; subst hu; simpa [Addr.add] using hcx
        | succ i => simp at hu⟩
    | succ j => simp at hj⟩⟩)
  have HB := Aside0.mk (show Below base w w from Below.refl _ _)
  clear hown hx h1i
  go_enter Tryd.func55, Tryd.ntmps55
  go_wp2_with (first | ((with_reducible refine gate_builtin (b := .append) (xs := #[.tmp 23, .tmp 24]) rfl ?_); at_builtin; refine Kd.R_append_rows vK (w0 := w) base rfl (.tmp 23) (.tmp 24) 52 24 (.slice none 0 0) 24 rfl Tryd.underlying52 infoInts rfl (by decide) (by omega) (.slice A xs.length c) xs [⟨xv, h1⟩] (some ⟨g', 0, none⟩) 1 1 (fun _ => True) (fun _ => False) rfl rfl HO.out HX.out (fun _ _ h => h) (fun _ h => h.elim) (fun _ _ => trivial) HB.out hbase (by omega) ?_; intro v7 w7 ho hb hg hat; have n0_ := Aside0.mk ho; have n1_ := Aside0.mk hg; have n2_ := Aside0.mk hat; clear ho hb hg hat))
  all_goals
    go_ret
    refine ⟨_, rfl, ?_, by have h := n1_.out; cases A <;> exact h, by have h := n2_.out; cases A <;> exact h⟩
    have h := Kd.own_of_R n0_.out
    rw [List.length_append, encs_append] at h
    rw [List.take_of_length_le (by rw [encs_length]; exact Nat.le_refl _), List.drop_eq_nil_of_le (by rw [encs_length]; exact Nat.le_refl _), List.append_nil]
    exact h
theorem insert_row (A : Option Addr) (n c i : Nat) (inner : List Value) (h1i : ∀ u ∈ inner, u.oneCell' = true) (g' : Nat) (xv : Value) (base : Nat) (w : World) (hown : w.ownsRow base 24 1 (.slice A n c) n inner) (hi : i ≤ n) (hn : n ≤ 100000) (hbase : base ≤ w.heap.size)
    (hx : w.heap[g']? = some (.cells #[xv] 24 (0, 0))) (h1 : xv.oneCell' = true) (hne : some g' ≠ (Value.slice A n c).ownBlock) :
    Calls Tryd.prog 55 #[.slice A n c, .int .i64 i, .slice (some ⟨g', 0, none⟩) 1 1] w (InsEnds w base (.slice A n c) n i inner xv) := by
  by_cases hin : i = n
  · subst hin
    exact insert_last A i c inner h1i g' xv base w hown hn hbase hx h1
  have hil : inner.length = n := by have := hown.1; omega
  rcases hown.2 with ⟨hv, h0⟩ | ⟨g, cap, cur, hv, hbg, hg, hnc, hcm, hcs, htake⟩
  · omega
  · obtain ⟨rfl, rfl⟩ : A = some ⟨g, 0, none⟩ ∧ c = cap := by injection hv with h2 h3 h4; exact ⟨h2, h4⟩
    rw [Nat.mul_one] at htake hcs
    have hclen : cur.toList.length = c := by rw [Array.length_toList]; exact hcs
    have hcell : ∀ j v, inner[j]? = some v → w.cell? ⟨g, 0 + j, none⟩ = some v := by
      intro j v hj
      rw [← htake, List.getElem?_take] at hj
      split at hj
      · rw [Array.getElem?_toList] at hj; simp [World.cell?, hg, hj]
      · cases hj
    have hvcell : ∀ j v, [xv][j]? = some v → w.cell? ⟨g', 0 + j, none⟩ = some v := by
      intro j v hj
      cases j with
      | zero => simp at hj; subst hj; simp [World.cell?, hx]
      | succ j => simp at hj
    have h1v : ∀ v ∈ [xv], v.oneCell' = true := fun v hv => by rw [List.mem_singleton.1 hv]; exact h1
    have hgg : g' ≠ g := fun e => hne (by rw [e]; rfl)
    have hdl : (inner.drop i).length = n - i := by rw [List.length_drop, hil]
    have htl : (inner.take i).length = i := by rw [List.length_take, hil]; omega
    have hlen3 : (inner.take i ++ [xv] ++ inner.drop i).length = (n + 1) * 1 := by simp only [List.length_append, List.length_singleton, htl, hdl]; omega
    by_cases hroom : n + 1 ≤ c
    · refine (insert_shift g 0 n c i g' 0 1 1 inner [xv] w (by omega) (by omega) hroom (by unfold maxLen at hcm; omega) hgg hil rfl hcell
        (fun j hj => by simp [World.cell?, hg]; omega) (fun j hj => by simp [World.frozen?, hg]) hvcell h1i h1v 24 24 1 cur.size (by simp [World.shape?, hx]) (by simp [World.shape?, hg]) (by omega) (by simp [World.frozen?, hx]) (by simp [World.frozen?, hx])).mono ?_
      rintro e w' ⟨rfl, rfl⟩
      rw [Nat.zero_add, Nat.zero_add]
      obtain ⟨c1, hc1, hz1, hl1⟩ := setCells_row (inner.drop i) (i + 1) w.drew cur hg (by omega)
      obtain ⟨c2, hc2, hz2, hl2⟩ := setCells_row [xv] i (w.drew.setCells g (i + 1) (inner.drop i)) c1 hc1 (by simp; omega)
      obtain ⟨s1, s2, s3, s4⟩ := setCells_same g (inner.drop i) (i + 1) w.drew
      obtain ⟨t1, t2, t3, t4⟩ := setCells_same g [xv] i (w.drew.setCells g (i + 1) (inner.drop i))
      refine ⟨_, rfl, ⟨hlen3, .inr ⟨g, c, c2, rfl, hbg, hc2, hroom, hcm, by omega, ?_⟩⟩, ⟨t1.trans s1, t2.trans s2, t3.trans s3, by rw [t4, s4]; exact Nat.le_refl _, fun k hk hkr => ?_⟩, Or.inl rfl⟩
      · have e1 : c1.toList.take i = inner.take i := by
          rw [hl1, List.append_assoc, List.take_append_of_le_length (by rw [List.length_take]; omega), List.take_take, Nat.min_eq_left (by omega), ← htake, List.take_take, Nat.min_eq_left (by omega)]
        have e2 : c1.toList.drop (i + 1) = inner.drop i ++ cur.toList.drop (i + 1 + (inner.drop i).length) := by
          rw [hl1, List.append_assoc, List.drop_left' (by rw [List.length_take]; omega)]
        rw [hl2, List.length_singleton, e1, e2, ← List.append_assoc, ← hlen3]
        exact List.take_left
      · have hkg : k ≠ g := fun e => hkr (by rw [e]; rfl)
        exact (setCells_far [xv] i k hkg).trans (setCells_far (inner.drop i) (i + 1) k hkg)
    · refine (insert_grow g 0 n c i g' 0 1 1 inner [xv] w (by omega) (by omega) hnc (by omega) (by omega) hil rfl hcell hvcell h1i h1v).mono ?_
      rintro e w' ⟨rfl, rfl⟩
      generalize hG : grownCap w (n + 1) c 24 = G
      have hGn : n + 1 ≤ G := by rw [← hG]; exact grownCap_ge w _ _ _
      have hGm : G ≤ maxLen := by rw [← hG]; exact grownCap_le_maxLen w _ _ _ (by unfold maxLen; omega)
      generalize hR : (inner.take i).toArray ++ Builtin.zeroCells (Value.slice none 0 0).cells (n + 1 - i) ++ Builtin.zeroCells (Value.slice none 0 0).cells (G - (n + 1)) = ROW
      have hRs : ROW.size = G := by rw [← hR]; simp [Builtin.zeroCells, Value.cells, htl]; omega
      have hRl : ROW.toList.take i = inner.take i := by rw [← hR]; simp [List.take_append_of_le_length, htl]
      have hN : (w.alloc (.cells ROW 24)).drew.heap[w.heap.size]? = some (.cells ROW 24 (0, 0)) := heap_alloc_new w _
      obtain ⟨c1, hc1, hz1, hl1⟩ := setCells_row [xv] i (w.alloc (.cells ROW 24)).drew ROW hN (by simp; omega)
      obtain ⟨c2, hc2, hz2, hl2⟩ := setCells_row (inner.drop i) (i + 1) ((w.alloc (.cells ROW 24)).drew.setCells w.heap.size i [xv]).drew c1 hc1 (by omega)
      obtain ⟨s1, s2, s3, s4⟩ := setCells_same w.heap.size [xv] i (w.alloc (.cells ROW 24)).drew
      obtain ⟨t1, t2, t3, t4⟩ := setCells_same w.heap.size (inner.drop i) (i + 1) ((w.alloc (.cells ROW 24)).drew.setCells w.heap.size i [xv]).drew
      refine ⟨_, rfl, ⟨hlen3, .inr ⟨w.heap.size, G, c2, rfl, hbase, hc2, hGn, hGm, by omega, ?_⟩⟩, ⟨t1.trans s1, t2.trans s2, t3.trans s3, by rw [t4]; show _ ≤ ((w.alloc (.cells ROW 24)).drew.setCells w.heap.size i [xv]).heap.size; rw [s4]; simp, fun k hk hkr => ?_⟩, Or.inr ⟨_, rfl, Nat.le_refl _⟩⟩
      · have e1 : c1.toList.take (i + 1) = inner.take i ++ [xv] := by
          rw [hl1, hRl]
          exact List.take_left' (by simp [htl])
        rw [hl2, e1, ← hlen3]
        exact List.take_left
      · have hkg : k ≠ w.heap.size := by omega
        exact (setCells_far (inner.drop i) (i + 1) k hkg).trans ((setCells_far (w := (w.alloc (.cells ROW 24)).drew) [xv] i k hkg).trans (heap_alloc_old w _ hk))
end Go.Proofs.YtfmpaofbnjlniaaDoor.F
/- slices.Delete at [][]int, one element, by hand (the walk turned from the kit's worked one). -/
namespace Go.Proofs.YtfmpaofbnjlniaaDoor.F
open Go.RowKit Go.Lib Go.Proofs.YtfmpaofbnjlniaaDoorW.PrintWords Go.Proofs.YtfmpaofbnjlniaaDoorW.PrintLast Go.Proofs.YtfmpaofbnjlniaaDoorW.PrintMore
set_option linter.unusedVariables false
set_option linter.unusedSimpArgs false
set_option maxHeartbeats 4000000 in
set_option maxRecDepth 100000 in
theorem delete_room (b n c i : Nat) (cs : List Value) (w : World) (hi : i < n) (hnc : n ≤ c) (hc63 : c ≤ 9223372036854775807) (hcl : cs.length = n)
    (hcs : ∀ j v, cs[j]? = some v → w.cell? ⟨b, 0 + j, none⟩ = some v) (hsp : ∀ j, j < c → (w.cell? ⟨b, j, none⟩).isSome = true) (hfz : ∀ j, w.frozen? ⟨b, j, none⟩ = false) (h1c : ∀ v ∈ cs, v.oneCell' = true) :
    Calls Tryd.prog 57 #[.slice (some ⟨b, 0, none⟩) n c, .int .i64 i, .int .i64 ((i : Int) + 1)] w fun e w' =>
      e = .returned (.slice (some ⟨b, 0, none⟩) (i + (n - (i + 1))) c) ∧ w' = (w.drew.setCells b (0 + i * 1) (cs.drop (i + 1))).setCells b ((i + (n - (i + 1)))) (List.replicate (n - (i + (n - (i + 1)))) (.slice none 0 0)) := by
  obtain ⟨i0, hi0, hz0, hz1, hzb⟩ := info_parts infoInts
  obtain ⟨news, hnews⟩ : ∃ news, news = cs.drop (i + 1) := ⟨_, rfl⟩
  have hlen : news.length = n - (i + 1) := by rw [hnews, List.length_drop, hcl]
  obtain ⟨A, hA, hsrc⟩ : ∃ A : Addr, (if c = i + 1 then some (⟨b, 0, none⟩ : Addr) else some ⟨b, i + 1, none⟩) = some A ∧ Hid (∀ t u, news[t]? = some u → w.drew.cell? (A.add t) = some u) := by
    by_cases h : c = i + 1
    · refine ⟨⟨b, 0, none⟩, by simp [h], fun t u hu => ?_⟩
      have h0 : news.length = 0 := by rw [hlen]; omega
      rw [List.length_eq_zero_iff.1 h0] at hu
      simp at hu
    · refine ⟨⟨b, i + 1, none⟩, by simp [h], fun t u hu => ?_⟩
      rw [hnews, List.getElem?_drop] at hu
      rw [Addr.add_lit]
      have := hcs (i + 1 + t) u hu
      rwa [Nat.zero_add] at this
  have s1 : Hid (news.length = (n - (i + 1)) * 1) := by rw [Nat.mul_one]; exact hlen
  have s2 : Hid (∀ u ∈ news, u.oneCell' = true) := fun u hu => h1c u (by rw [hnews] at hu; exact List.mem_of_mem_drop hu)
  have s3 : Hid (∀ t, t < news.length → (w.drew.cell? ⟨b, 0 + i * 1 + t, none⟩).isSome = true ∧ w.drew.frozen? ⟨b, 0 + i * 1 + t, none⟩ = false) := by
    intro t ht
    rw [hlen] at ht
    exact ⟨hsp _ (by omega), hfz _⟩
  obtain ⟨W1, hW1⟩ : ∃ W1, W1 = w.drew.setCells b (0 + i * 1) news := ⟨_, rfl⟩
  have hc1 : ∀ j, j < c → (W1.cell? ⟨b, j, none⟩).isSome = true := fun j hj => by rw [hW1]; exact isSome_setCells b news _ w.drew (fun t ht => (s3.out t ht).1) j (hsp j hj)
  have hf1 : ∀ j, W1.frozen? ⟨b, j, none⟩ = false := fun j => by rw [hW1, World.frozen?_setCells]; exact hfz j
  have hcl : ∀ ty, (Builtin.clear_ #[52] ty #[.slice (some ⟨b, (i + (n - (i + 1))), none⟩) (n - (i + (n - (i + 1)))) (c - (i + (n - (i + 1))))]).run Tryd.prog W1 = .ok (.tuple #[]) (W1.setCells b ((i + (n - (i + 1)))) (List.replicate (n - (i + (n - (i + 1)))) (.slice none 0 0))) :=
    fun ty => Lib.run_clear_slice W1 _ _ ty _ Tryd.underlying52 (fun w => by kernel_rfl) rfl rfl b ((i + (n - (i + 1)))) _ _ (by omega) (fun t ht => hc1 _ (by omega)) (fun t ht => hf1 _)
  have hW : Hid (W1 = w.drew.setCells b (0 + i * 1) news) := hW1
  have hic : i ≤ c := by omega
  have hjc : i + 1 ≤ c := by omega
  have hw1 : IntKind.i64.wrap ((i : Int) + 1) = (i : Int) + 1 := by rw [IntKind.wrap_i64]; omega
  have hp0 : (0 : Int) ≤ (i : Int) + 1 := by omega
  have hp1 : (i : Int) + 1 ≤ (n : Int) := by omega
  have hp2 : ((i : Int) + 1).toNat = i + 1 := by omega
  rw [← hnews, ← hW1]
  clear hW1 hcs hnews hlen hc1 hf1 hsp hfz
  go_enter Tryd.func57, Tryd.ntmps57
  go_wp2_with fail
  go_region_law (refine step_append_room rfl (.tmp 22) (.tmp 25) 52 rfl 24 i0 1 Tryd.underlying52 hi0 hz1 b 0 i c (by simp [Act.eval, Act.put]) A (n - (i + 1)) (c - (i + 1)) news (by simp [Act.eval, Act.put]) s1.out hsrc.out s2.out (by omega) s3.out ?_; rw [← hW.out])
  go_wp2
  go_ret
  exact ⟨rfl, rfl⟩
/-- How Delete ends: the row without its cell i; nothing but the row's own block has turned. -/
def DelEnds (w : World) (base : Nat) (v : Value) (n i : Nat) (inner : List Value) (e : Ending) (w' : World) : Prop :=
  ∃ v', e = .returned v' ∧ w'.ownsRow base 24 1 v' (n - 1) (inner.take i ++ inner.drop (i + 1)) ∧ w.grownBy w' v.ownBlock ∧ v'.ownBlock = v.ownBlock
theorem delete_row (A : Option Addr) (n c i : Nat) (inner : List Value) (h1i : ∀ u ∈ inner, u.oneCell' = true) (base : Nat) (w : World) (hown : w.ownsRow base 24 1 (.slice A n c) n inner) (hi : i < n) :
    Calls Tryd.prog 57 #[.slice A n c, .int .i64 i, .int .i64 ((i : Int) + 1)] w (DelEnds w base (.slice A n c) n i inner) := by
  have hil : inner.length = n := by have := hown.1; omega
  rcases hown.2 with ⟨hv, h0⟩ | ⟨g, cap, cur, hv, hbg, hg, hnc, hcm, hcs, htake⟩
  · omega
  · obtain ⟨rfl, rfl⟩ : A = some ⟨g, 0, none⟩ ∧ c = cap := by injection hv with h2 h3 h4; exact ⟨h2, h4⟩
    rw [Nat.mul_one] at htake hcs
    have hclen : cur.toList.length = c := by rw [Array.length_toList]; exact hcs
    have hcell : ∀ j v, inner[j]? = some v → w.cell? ⟨g, 0 + j, none⟩ = some v := by
      intro j v hj
      rw [← htake, List.getElem?_take] at hj
      split at hj
      · rw [Array.getElem?_toList] at hj; simp [World.cell?, hg, hj]
      · cases hj
    have hm : i + (n - (i + 1)) = n - 1 := by omega
    have h1n : n - (n - 1) = 1 := by omega
    have hdl : (inner.drop (i + 1)).length = n - (i + 1) := by rw [List.length_drop, hil]
    have htl : (inner.take i).length = i := by rw [List.length_take, hil]; omega
    have hlen3 : (inner.take i ++ inner.drop (i + 1)).length = (n - 1) * 1 := by simp only [List.length_append, htl, hdl]; omega
    refine (delete_room g n c i inner w hi hnc (by unfold maxLen at hcm; omega) hil hcell (fun j hj => by simp [World.cell?, hg]; omega) (fun j => by simp [World.frozen?, hg]) h1i).mono ?_
    rintro e w' ⟨rfl, rfl⟩
    rw [Nat.zero_add, Nat.mul_one, hm, h1n]
    obtain ⟨c1, hc1, hz1, hl1⟩ := setCells_row (inner.drop (i + 1)) i w.drew cur hg (by omega)
    obtain ⟨c2, hc2, hz2, hl2⟩ := setCells_row [.slice none 0 0] (n - 1) (w.drew.setCells g i (inner.drop (i + 1))) c1 hc1 (by simp; omega)
    obtain ⟨s1, s2, s3, s4⟩ := setCells_same g (inner.drop (i + 1)) i w.drew
    obtain ⟨t1, t2, t3, t4⟩ := setCells_same g [.slice none 0 0] (n - 1) (w.drew.setCells g i (inner.drop (i + 1)))
    refine ⟨_, rfl, ⟨hlen3, .inr ⟨g, c, c2, rfl, hbg, hc2, by omega, hcm, by omega, ?_⟩⟩, ⟨t1.trans s1, t2.trans s2, t3.trans s3, by rw [show List.replicate 1 (Value.slice none 0 0) = [.slice none 0 0] from rfl, t4, s4]; exact Nat.le_refl _, fun k hk hkr => ?_⟩, rfl⟩
    · have e1 : c1.toList.take (n - 1) = inner.take i ++ inner.drop (i + 1) := by
        rw [hl1]
        have e0 : cur.toList.take i = inner.take i := by rw [← htake, List.take_take, Nat.min_eq_left (by omega)]
        rw [e0]
        exact List.take_left' (by simp only [List.length_append, htl, hdl]; omega)
      rw [hl2, List.append_assoc, e1, ← hlen3]
      exact List.take_left
    · have hkg : k ≠ g := fun e => hkr (by rw [e]; rfl)
      exact (setCells_far [.slice none 0 0] (n - 1) k hkg).trans (setCells_far (inner.drop (i + 1)) i k hkg)
end Go.Proofs.YtfmpaofbnjlniaaDoor.F
/- shape.Copy, by hand: the copy's relations lie apart from each other. -/
namespace Go.Proofs.YtfmpaofbnjlniaaDoor.F
open Go.RowKit Go.Proofs.YtfmpaofbnjlniaaDoorW.PrintWords Go.Proofs.YtfmpaofbnjlniaaDoorW.PrintLast Go.Proofs.YtfmpaofbnjlniaaDoorW.PrintMore
set_option linter.unusedVariables false
set_option linter.unusedSimpArgs false
def copyOk (l : List S54) : Prop := l.length ≤ 100000 ∧ ∀ r ∈ l, r.f2.length ≤ 100000 ∧ ∀ t ∈ r.f2, t.length ≤ 100000
theorem infoRel' : (Tryd.prog.info? 54).map (fun i => (i.zero, i.size, i.bytes)) = some (some (.agg #[.string ⟨#[]⟩, .int .i64 0, .slice none 0 0]), 3, 48) := by kernel_rfl
set_option maxHeartbeats 4000000 in
set_option maxRecDepth 100000 in
theorem copy_calls (n : Int) (A : Option Addr) (c : Nat) (l : List S54) (w : World) (hC : Kd.C k54 w A l.length l) (hlc : l.length ≤ c) (hok : copyOk l) :
    Calls Tryd.prog 51 #[.agg #[.int .i64 n, .slice A l.length c]] w fun e w' => ∃ v, e = .returned (.agg #[.int .i64 n, v]) ∧ Kd.S k54 54 w' w.heap.size (fun _ => True) v l ∧ Below w.heap.size w w' := by
  have hu38 := Tryd.underlying38
  have hu54 := Tryd.underlying54
  have HC := Aside0.mk hC
  have HL := Aside0.mk hlc
  have HOK := Aside0.mk hok
  have hl0 := hok.1
  clear hC hlc hok
  go_enter Tryd.func51, Tryd.ntmps51
  go_wp2
  have HB3 := Aside0.mk (below_alloc (below_alloc (below_alloc (Below.refl w.heap.size w) (.cells #[.int .i64 n, .slice A l.length c] 38)) (.cells #[.int .i64 0, .slice none 0 0] 38)) (.cells #[.int .i64 n, .slice none 0 0] 38))
  have H2 := Aside0.mk (show (((w.alloc (.cells #[.int .i64 n, .slice A l.length c] 38)).alloc (.cells #[.int .i64 0, .slice none 0 0] 38)).alloc (.cells #[.int .i64 n, .slice none 0 0] 38)).heap[w.heap.size + 1]? = some (.cells #[.int .i64 0, .slice none 0 0] 38 (0, 0)) from (heap_alloc_old _ _ (by simp)).trans (by have := heap_alloc_new (w.alloc (.cells #[.int .i64 n, .slice A l.length c] 38)) (.cells #[.int .i64 0, .slice none 0 0] 38); simpa using this))
  have H3 := Aside0.mk (show (((w.alloc (.cells #[.int .i64 n, .slice A l.length c] 38)).alloc (.cells #[.int .i64 0, .slice none 0 0] 38)).alloc (.cells #[.int .i64 n, .slice none 0 0] 38)).heap[w.heap.size + 1 + 1]? = some (.cells #[.int .i64 n, .slice none 0 0] 38 (0, 0)) from by have := heap_alloc_new ((w.alloc (.cells #[.int .i64 n, .slice A l.length c] 38)).alloc (.cells #[.int .i64 0, .slice none 0 0] 38)) (.cells #[.int .i64 n, .slice none 0 0] 38); simpa using this)
  generalize hW3 : ((w.alloc (.cells #[.int .i64 n, .slice A l.length c] 38)).alloc (.cells #[.int .i64 0, .slice none 0 0] 38)).alloc (.cells #[.int .i64 n, .slice none 0 0] 38) = W3 at *
  clear hW3
  generalize hg2 : w.heap.size + 1 = g2 at *
  generalize hg3 : g2 + 1 = g3 at *
  have hg2w : w.heap.size ≤ g2 := by omega
  have hg3w : w.heap.size ≤ g3 := by omega
  go_loopw [15] (fun v15 wr => ∃ (j : Nat) (v : Value), v15 = .int .i64 j ∧ j ≤ l.length ∧ Aside0 (wr.heap[g2]? = some (.cells #[.int .i64 0, .slice none 0 0] 38 (0, 0))) ∧ Aside0 (wr.heap[g3]? = some (.cells #[.int .i64 n, v] 38 (0, 0))) ∧ Aside0 (Kd.S k54 54 wr w.heap.size (fun _ => True) v (l.take j)) ∧ Aside0 (Below w.heap.size w wr)) (fun v15 _ => l.length - (intOf v15).toNat)
  case atStart => exact ⟨0, .slice none 0 0, rfl, Nat.zero_le _, H2, H3, ⟨Kd.S_nil _ _ _ _ _⟩, HB3⟩
  case round =>
    clear H2 H3 HB3
    obtain ⟨j, v, rfl, hj, H2, H3, HV, HB⟩ := hrel
    generalize wr = wq at *
    by_cases hlt : j < l.length
    · obtain ⟨ad, A2, c2, hA, hx0, hx1, hx2, hl2, hi2⟩ := at_T54 HC.out (j : Int) (by omega) (by omega)
      subst hA
      simp only [Int.toNat_natCast] at hx0 hx1 hx2
      have hrj : rd_T54 l (j : Int) = l[j] := by unfold rd_T54; rw [Int.toNat_natCast, List.getD_eq_getElem?_getD, List.getElem?_eq_getElem hlt]; rfl
      rw [hrj] at hx0 hx1 hx2 hl2 hi2
      have HRJ := Aside0.mk (show l[j]? = some l[j] from List.getElem?_eq_getElem hlt)
      have hrok := HOK.out.2 l[j] (List.getElem_mem hlt)
      generalize l[j] = r at *
      replace hx0 := (HB.out.cell (World.block_lt_of_cell? w _ hx0)).trans hx0
      replace hx1 := (HB.out.cell (World.block_lt_of_cell? w _ hx1)).trans hx1
      replace hx2 := (HB.out.cell (World.block_lt_of_cell? w _ hx2)).trans hx2
      have HT := Aside0.mk hi2
      have HL2 := Aside0.mk hl2
      have hr2 := hrok.1
      have HRT := Aside0.mk hrok.2
      clear hi2 hl2 hrj hrok
      have hlt2' : g2 < wq.heap.size := (Array.getElem?_eq_some_iff.1 H2.out).1
      have hlt3 : g3 < wq.heap.size := (Array.getElem?_eq_some_iff.1 H3.out).1
      go_wp2
      have HBa := Aside0.mk (below_alloc (below_alloc (Below.refl wq.heap.size wq) (.cells #[.string r.f0, .int .i64 r.f1, .slice A2 r.f2.length c2] 54)) (.cells #[.string r.f0, .int .i64 r.f1, .slice none 0 0] 54))
      have H6 := Aside0.mk (show ((wq.alloc (.cells #[.string r.f0, .int .i64 r.f1, .slice A2 r.f2.length c2] 54)).alloc (.cells #[.string r.f0, .int .i64 r.f1, .slice none 0 0] 54)).heap[wq.heap.size + 1]? = some (.cells #[.string r.f0, .int .i64 r.f1, .slice none 0 0] 54 (0, 0)) from by have := heap_alloc_new (wq.alloc (.cells #[.string r.f0, .int .i64 r.f1, .slice A2 r.f2.length c2] 54)) (.cells #[.string r.f0, .int .i64 r.f1, .slice none 0 0] 54); simpa using this)
      generalize hW5 : (wq.alloc (.cells #[.string r.f0, .int .i64 r.f1, .slice A2 r.f2.length c2] 54)).alloc (.cells #[.string r.f0, .int .i64 r.f1, .slice none 0 0] 54) = W5 at *
      clear hW5
      generalize hg6 : wq.heap.size + 1 = g6 at *
      have hg6w : wq.heap.size ≤ g6 := by omega
      clear hx0 hx1 hx2
      go_loopw [27] (fun v27 wl => ∃ (i : Nat) (vt : Value), v27 = .int .i64 i ∧ i ≤ r.f2.length ∧ Aside0 (wl.heap[g6]? = some (.cells #[.string r.f0, .int .i64 r.f1, vt] 54 (0, 0))) ∧ Aside0 (Kd.R (Kd.slice 3 (Kd.int .i64)) 24 wl wq.heap.size (fun _ => True) vt (r.f2.take i)) ∧ Aside0 (Below wq.heap.size wq wl)) (fun v27 _ => r.f2.length - (intOf v27).toNat)
      case atStart => exact ⟨0, .slice none 0 0, rfl, Nat.zero_le _, H6, ⟨Kd.R_nil _ _ _ _ _⟩, HBa⟩
      case round =>
        clear H6 HBa
        obtain ⟨i, vt, rfl, hi, H6, HR, HBl⟩ := hrel
        by_cases hlt2 : i < r.f2.length
        · obtain ⟨ad3, A4, c4, hA3, hy0, hl4, hi4⟩ := at_L2 HT.out (i : Int) (by omega) (by omega)
          subst hA3
          simp only [Int.toNat_natCast] at hy0
          have hrt : rd_L2 r.f2 (i : Int) = r.f2[i] := by unfold rd_L2; rw [Int.toNat_natCast, List.getD_eq_getElem?_getD, List.getElem?_eq_getElem hlt2]; rfl
          rw [hrt] at hy0 hl4 hi4
          have HTI := Aside0.mk (show r.f2[i]? = some r.f2[i] from List.getElem?_eq_getElem hlt2)
          have htl := HRT.out r.f2[i] (List.getElem_mem hlt2)
          generalize r.f2[i] = t at *
          have hb2 := below_step HB.out HBl.out
          replace hy0 := (hb2.cell (World.block_lt_of_cell? w _ hy0)).trans hy0
          have HC4 := Aside0.mk (Kd.C_below hi4 (hb2.mono (Nat.le_refl _)))
          have HL4 := Aside0.mk hl4
          clear hi4 hl4 hrt hb2
          have hc6 : wr.cell? ⟨g6, 2, none⟩ = some vt := (blk_cell H6.out 2).trans rfl
          have hf6 := blk_frozen H6.out 2
          go_upto_region 9 with (fail)
          have HBd := Aside0.mk (below_drew HBl.out)
          have H6d := Aside0.mk (show wr.drew.heap[g6]? = some (.cells #[.string r.f0, .int .i64 r.f1, vt] 54 (0, 0)) from H6.out)
          have HRd := Aside0.mk (Kd.R_drew HR.out)
          have HCd := Aside0.mk (Kd.C_drew HC4.out)
          have hg6d : g6 < wr.drew.heap.size := (Array.getElem?_eq_some_iff.1 H6d.out).1
          have hcd : wr.drew.cell? ⟨g6, 2, none⟩ = some vt := hc6
          refine wp_region_noPanic ?_
          refine start_ (n := 8) (S := fun w' => w'.cell? ⟨g6, 2, none⟩ = some vt) (ds := [7]) #[false, false, false, false, false, false, false, false] (by kernel_rfl) rfl rfl hcd (fun hHeld => ?_)
          generalize wr.drew = wd at *
          refine pure_ (i := 0) (N := some 31) (v := ?_) (a' := ?_) #[true, false, false, false, false, false, false, false] rfl rfl (by kernel_rfl) (fun _ _ _ h => h) (Or.inl ⟨by rfl, ?_⟩) ?_ ?_
          rotate_left
          · intro w'
            go_simp
            with_reducible rfl
          rotate_left
          · simp only [Act.put, List.setIfInBounds_toArray, List.set_cons_zero, List.set_cons_succ, i64_w, i32_w]
            rfl
          refine pure_ (i := 2) (N := some 33) (v := ?_) (a' := ?_) #[true, false, true, false, false, false, false, false] rfl rfl (by kernel_rfl) (fun _ _ _ h => h) (Or.inl ⟨by rfl, ?_⟩) ?_ ?_
          rotate_left
          · intro w'
            go_simp
            with_reducible rfl
          rotate_left
          · simp only [Act.put, List.setIfInBounds_toArray, List.set_cons_zero, List.set_cons_succ, i64_w, i32_w]
            rfl
          refine take_ (i := 1) (N := some 32) (v := ?_) (a' := ?_) #[true, true, true, false, false, false, false, false] rfl rfl (by kernel_rfl) (fun _ _ _ h => h) (Or.inl ⟨by rfl, ?_⟩) hHeld ?_ ?_
          rotate_left
          · intro w' s0
            go_simp
            with_reducible rfl
          rotate_left
          · simp only [Act.put, List.setIfInBounds_toArray, List.set_cons_zero, List.set_cons_succ, i64_w, i32_w]
            rfl
          refine one_ (i := 3) (N := some 34) #[true, true, true, true, false, false, false, false] rfl rfl (by kernel_rfl) (by decide) (fun K hK => ?_)
          refine callE_ 56 #[.slice A4 t.length c4] (by rfl) rfl (by go_simp) ?_
          refine (slices_Clone_int_int.calls A4 c4 t t _ HCd.out HL4.out (if_pos htl)).mono ?_
          rintro e w6 ⟨va, rfl, hRa, hb6⟩
          obtain ⟨Aa, ca, ea⟩ := Kd.R_slice hRa
          subst ea
          left
          refine ⟨_, rfl, ?_⟩
          have HB6 := Aside0.mk (below_step HBd.out hb6)
          have H66 := Aside0.mk ((hb6.block g6 hg6d).trans H6d.out)
          have HR6 := Aside0.mk (Kd.R_below HRd.out hb6)
          have HRa := Aside0.mk (Kd.R_lower (Kd.R_newR hRa HRd.out) HBd.out.size)
          refine hK.out _ _ (pw_cell_below hb6 hcd) (fun hHeld2 => ?_)
          clear hK K hb6 hRa HRd HR H6 H6d HBd HBl
          refine norm_ (a' := ?_) ?_ ?_
          rotate_left
          · show Act.put _ (some 34) _ = _
            simp only [Act.put, List.setIfInBounds_toArray, List.set_cons_zero, List.set_cons_succ, i64_w, i32_w]
            rfl
          refine one_ (i := 4) (N := some 35) #[true, true, true, true, true, false, false, false] rfl rfl (by kernel_rfl) (by decide) (fun K hK => ?_)
          refine value_ (w1 := ?_) (v := ?_) (by rfl) rfl ?_ ?_
          rotate_left 2
          · go_simp
            constructor
            · rfl
            · rfl
          refine hK.out _ _ ((blk_cell (blk_alloc H66.out _) 2).trans rfl) (fun hHeld => ?_)
          clear hK K
          refine norm_ (a' := ?_) ?_ ?_
          rotate_left
          · show Act.put _ (some 35) _ = _
            simp only [Act.put, List.setIfInBounds_toArray, List.set_cons_zero, List.set_cons_succ, i64_w, i32_w]
            rfl
          refine one_ (i := 5) (N := some 36) #[true, true, true, true, true, true, false, false] rfl rfl (by kernel_rfl) (by decide) (fun K hK => ?_)
          refine Kd.R_append_step (Kd.slice 3 (Kd.int .i64)) (w0 := wq) wq.heap.size (by rfl) (.tmp 32) (.tmp 35) 52 24 (.slice none 0 0) 24 rfl Tryd.underlying52 infoInts rfl (by decide) (by omega) vt (r.f2.take i) t [.slice Aa t.length ca] (fun _ => True) (fun k_ => True ∧ some k_ ≠ vt.ownBlock) rfl rfl ?aP (fun _ hk => hk) ?aF ?aO ?aB ?aS ?aL ?_
          (case aP => exact Kd.M_row HRa.out)
          (case aB => exact HB6.out)
          (case aF => exact (fun _ _ => trivial))
          (case aO => exact HR6.out)
          (case aS => exact HB6.out.size)
          (case aL => rw [List.length_take]; omega)
          intro v7 w7 ho hb hg hat
          have n0_ := Aside0.mk hb
          have n1_ := Aside0.mk ho
          have n2_ := Aside0.mk (blk_grown H66.out hg (Kd.R_ne HR6.out H66.out (by decide)))
          clear ho hb hg hat HB6 HR6 HRa
          obtain ⟨A7, c7, e7⟩ := Kd.R_slice n1_.out
          subst e7
          rw [show (r.f2.take i ++ [t]).length = i + 1 from by rw [List.length_append, List.length_singleton, List.length_take]; omega] at n1_ ⊢
          refine hK.out _ _ ((blk_cell n2_.out 2).trans rfl) (fun hHeld => ?_)
          clear hK K
          refine norm_ (a' := ?_) ?_ ?_
          rotate_left
          · show Act.put _ (some 36) _ = _
            simp only [Act.put, List.setIfInBounds_toArray, List.set_cons_zero, List.set_cons_succ, i64_w, i32_w]
            rfl
          refine pure_ (i := 6) (N := some 37) (v := ?_) (a' := ?_) #[true, true, true, true, true, true, true, false] rfl rfl (by kernel_rfl) (fun _ _ _ h => h) (Or.inl ⟨by rfl, ?_⟩) ?_ ?_
          rotate_left
          · intro w'
            go_simp
            with_reducible rfl
          rotate_left
          · simp only [Act.put, List.setIfInBounds_toArray, List.set_cons_zero, List.set_cons_succ, i64_w, i32_w]
            rfl
          refine last_ (i := 7) (N := none) #[true, true, true, true, true, true, true, true] rfl rfl (by kernel_rfl) (by decide) (fun K hK => ?_)
          have hs7 : w7.cell? ⟨g6, 2, none⟩ = some vt := (blk_cell n2_.out 2).trans rfl
          have hf7 := blk_frozen n2_.out 2
          refine skip_ (w1 := ?_) (by rfl) rfl ?_ ?_
          rotate_left
          · go_simp
            rfl
          refine hK.out _ _ ?_
          clear hK K
          refine done_ (by kernel_rfl) ?_
          refine NoPanic.normal ?_
          have n3_ := Aside0.mk (Kd.R_set n1_.out n2_.out (by decide) 2 (.slice A7 (i + 1) c7))
          have n4_ := Aside0.mk (blk_put (cs' := #[.string r.f0, .int .i64 r.f1, .slice A7 (i + 1) c7]) n2_.out 2 (.slice A7 (i + 1) c7) rfl)
          have n5_ := Aside0.mk (below_set (j := 2) (v := .slice A7 (i + 1) c7) n0_.out hg6w)
          rw [← take_snoc' HTI.out] at n3_
          try go_wp2
          go_roundw
          · exact ⟨i + 1, _, (by simp), hlt2, n4_, n3_, n5_⟩
          · simp [intOf]; omega
        · obtain rfl : i = r.f2.length := by omega
          rw [List.take_length] at HR
          have H3l := Aside0.mk ((HBl.out.block g3 hlt3).trans H3.out)
          have H2l := Aside0.mk ((HBl.out.block g2 hlt2').trans H2.out)
          obtain ⟨At, ct, hvt⟩ := Kd.R_slice HR.out
          subst hvt
          have hc3 : wr.cell? ⟨g3, 1, none⟩ = some v := (blk_cell H3l.out 1).trans rfl
          have hc6_0 : wr.cell? ⟨g6, 0, none⟩ = some (.string r.f0) := (blk_cell H6.out 0).trans rfl
          have hc6_1 : wr.cell? ⟨g6, 1, none⟩ = some (.int .i64 r.f1) := (blk_cell H6.out 1).trans rfl
          have hc6_2 : wr.cell? ⟨g6, 2, none⟩ = some (.slice At r.f2.length ct) := (blk_cell H6.out 2).trans rfl
          have HRb := Aside0.mk (Kd.R_lower (Kd.R_mono (Kd.R_bound HR.out) (fun k_ hk => (hk.2.1 : wq.heap.size ≤ k_))) HB.out.size)
          have HVl := Aside0.mk (Kd.S_mono (ok' := fun k_ => True ∧ ¬ wq.heap.size ≤ k_) (Kd.S_below (Kd.S_bound HV.out) HBl.out) (fun k_ hk => ⟨trivial, by have := hk.2.2.1; omega⟩))
          have HVN := Aside0.mk (Kd.S_lt HV.out)
          have HBw := Aside0.mk (below_step HB.out HBl.out)
          have hjl : (l.take j).length ≤ 100000 := by rw [List.length_take]; omega
          go_wp2_with (first | ((with_reducible refine gate_builtin (b := .append) (xs := #[.tmp 40, .tmp 42]) rfl ?_); at_builtin; refine Kd.S_append k54 (w0 := w) w.heap.size rfl (.tmp 40) (.tmp 42) 36 54 (.agg #[.string ⟨#[]⟩, .int .i64 0, .slice none 0 0]) 48 rfl Tryd.underlying36 infoRel' rfl (by decide) (by omega) v (l.take j) r [.string r.f0, .int .i64 r.f1, .slice At r.f2.length ct] (fun _ => True) (fun k_ => wq.heap.size ≤ k_) rfl rfl ?aP ?aK ?aF ?aO ?aB ?aS ?aL ?_; (case aP => exact k54_mkM _ _ _ r HRb.out); (case aK => exact fun k_ hk => ⟨trivial, fun e => by have := HVN.out k_ e.symm; omega⟩); (case aF => exact fun _ _ => trivial); (case aO => exact HVl.out); (case aB => exact HBw.out); (case aS => exact HBw.out.size); (case aL => omega); intro v7 w7 ho hb hg hat; have n0_ := Aside0.mk hb; have n1_ := Aside0.mk ho; have n2_ := Aside0.mk (blk_grown H3l.out hg (Kd.S_ne HVl.out H3l.out (by decide))); have n3_ := Aside0.mk (blk_grown H2l.out hg (Kd.S_ne HVl.out H2l.out (by decide))); clear ho hb hg hat; obtain ⟨A7, c7, e7⟩ := Kd.S_slice n1_.out; subst e7; have hc9 : w7.cell? ⟨g3, 1, none⟩ = some v := (blk_cell n2_.out 1).trans rfl; have hf9 := blk_frozen n2_.out 1))
          rw [show (l.take j ++ [r]).length = j + 1 from by rw [List.length_append, List.length_singleton, List.length_take]; omega] at n1_
          have n4_ := Aside0.mk (Kd.S_set n1_.out n2_.out (by decide) 1 (.slice A7 (j + 1) c7))
          have n5_ := Aside0.mk (blk_put (cs' := #[.int .i64 n, .slice A7 (j + 1) c7]) n2_.out 1 (.slice A7 (j + 1) c7) rfl)
          have n6_ := Aside0.mk ((Below.heap_setCell w7 ⟨g3, 1, none⟩ (.slice A7 (j + 1) c7) g2 (by show g2 ≠ g3; omega)).trans n3_.out)
          have n7_ := Aside0.mk (below_set (j := 1) (v := .slice A7 (j + 1) c7) n0_.out hg3w)
          rw [← take_snoc' HRJ.out] at n4_
          go_roundw
          · exact ⟨j + 1, _, (by simp), hlt, n6_, n5_, n4_, n7_⟩
          · simp [intOf]; omega
    · obtain rfl : j = l.length := by omega
      rw [List.take_length] at HV
      obtain ⟨Av, cv, hv⟩ := Kd.S_slice HV.out
      subst hv
      have hcz3_0 : wq.cell? ⟨g3, 0, none⟩ = some (.int .i64 n) := (blk_cell H3.out 0).trans rfl
      have hcz3_1 : wq.cell? ⟨g3, 1, none⟩ = some (.slice Av l.length cv) := (blk_cell H3.out 1).trans rfl
      have hcz2_0 : wq.cell? ⟨g2, 0, none⟩ = some (.int .i64 0) := (blk_cell H2.out 0).trans rfl
      have hcz2_1 : wq.cell? ⟨g2, 1, none⟩ = some (.slice none 0 0) := (blk_cell H2.out 1).trans rfl
      have hfz2_0 := blk_frozen H2.out 0
      have hfz2_1 := blk_frozen H2.out 1
      go_wp2
      have HX := blk_put (cs' := #[.int .i64 n, .slice Av l.length cv]) (blk_put (cs' := #[.int .i64 n, .slice none 0 0]) H2.out 0 (.int .i64 n) rfl) 1 (.slice Av l.length cv) rfl
      have HV1 := Kd.S_set HV.out H2.out (by decide) 0 (.int .i64 n)
      have HV2 := Kd.S_set HV1 (blk_put (cs' := #[.int .i64 n, .slice none 0 0]) H2.out 0 (.int .i64 n) rfl) (by decide) 1 (.slice Av l.length cv)
      have HBX := below_set (j := 1) (v := .slice Av l.length cv) (below_set (j := 0) (v := .int .i64 n) HB.out hg2w) hg2w
      refine bodyPost_ret (results_cell_row rfl _ _ g2 38 #[.int .i64 n, .slice Av l.length cv] (0, 0) _ rfl HX Tryd.underlying38 rfl (by kernel_rfl)) rfl ?_
      exact ⟨_, rfl, HV2, HBX⟩
end Go.Proofs.YtfmpaofbnjlniaaDoor.F
/- slices.Insert and slices.Delete at rows of tuples: the walks' ends in the printed form. -/
namespace Go.Proofs.YtfmpaofbnjlniaaDoor.F
open Go.RowKit Go.Proofs.YtfmpaofbnjlniaaDoorW.PrintWords Go.Proofs.YtfmpaofbnjlniaaDoorW.PrintLast Go.Proofs.YtfmpaofbnjlniaaDoorW.PrintMore
set_option linter.unusedVariables false
set_option linter.unusedSimpArgs false
def insAt (ts : List (List Int)) (i : Nat) (t : List Int) : List (List Int) := ts.take i ++ [t] ++ ts.drop i
def delAt (ts : List (List Int)) (i : Nat) : List (List Int) := ts.take i ++ ts.drop (i + 1)
abbrev tK : Kd (List Int) := Kd.slice 3 (Kd.int .i64)
theorem tK_one {w : World} {base : Nat} {ok : Nat → Prop} {ts : List (List Int)} {inner : List Value} (hr : Reps (tK.M w base ok) 1 ts inner) : ∀ u ∈ inner, u.oneCell' = true := by
  intro u hu
  obtain ⟨j, hj, rfl⟩ := List.getElem_of_mem hu
  have hl := hr.1
  have hjt : j < ts.length := by omega
  have h := hr.2 j _ (List.getElem?_eq_getElem hjt)
  refine tK.K_one (tK.K_of_M h) _ ?_
  rw [Nat.mul_one, List.drop_eq_getElem_cons hj]
  exact List.mem_cons_self
theorem rowed {w w1 : World} {base : Nat} {ok : Nat → Prop} {v v1 : Value} {ts' : List (List Int)} {inner' : List Value} (h0 : ∀ k, v.ownBlock = some k → ok k) (hfresh : ∀ k, w.heap.size ≤ k → ok k)
    (hr : Reps (tK.M w base (fun k => ok k ∧ some k ≠ v.ownBlock)) 1 ts' inner') (hown : w1.ownsRow base 24 1 v1 ts'.length inner') (hg : w.grownBy w1 v.ownBlock) (hat : v1.ownBlock = v.ownBlock ∨ ∃ b, v1.ownBlock = some b ∧ w.heap.size ≤ b) : tK.R 24 w1 base ok v1 ts' := by
  have hne : ∀ k, some k ≠ v.ownBlock → k < w.heap.size → some k ≠ v1.ownBlock := by
    intro k hk hlt
    rcases hat with hat | ⟨b, hb, hle⟩
    · rw [hat]; exact hk
    · rw [hb]
      intro he
      injection he with he
      omega
  refine ⟨fun k hk => ?_, inner', hown, hr.imp_ (fun q c hq => ?_)⟩
  · rcases hat with hat | ⟨b, hb, hle⟩
    · exact h0 k (hat ▸ hk)
    · rw [hb] at hk
      injection hk with hk
      exact hfresh k (by omega)
  · have h1 := tK.M_move (w1 := w1) (fun k hk => hg.block k hk.2.2.1 hk.1.2) (tK.M_bound hq)
    exact tK.M_mono (fun k hk => ⟨hk.1.1, hne k hk.1.2 hk.2.2.1⟩) h1
theorem insert_calls (A : Option Addr) (c : Nat) (ts : List (List Int)) (i : Nat) (x : List Int) (gB : Nat) (vx : Value) (base : Nat) (ok okx : Nat → Prop) (w : World) (HO : tK.R 24 w base ok (.slice A ts.length c) ts) (hi : i ≤ ts.length) (hn : ts.length ≤ 100000) (hbase : base ≤ w.heap.size)
    (hx : w.heap[gB]? = some (.cells #[vx] 24 (0, 0))) (hvx : Kd.R (Kd.int .i64) 3 w base okx vx x) (hokx : ∀ k, okx k → ok k ∧ some k ≠ (Value.slice A ts.length c).ownBlock) (hfresh : ∀ k, w.heap.size ≤ k → ok k) (hne : some gB ≠ (Value.slice A ts.length c).ownBlock) :
    Calls Tryd.prog 55 #[.slice A ts.length c, .int .i64 i, .slice (some ⟨gB, 0, none⟩) 1 1] w fun e w' => ∃ v', e = .returned v' ∧ tK.R 24 w' base ok v' (insAt ts i x) ∧ w.grownBy w' (Value.slice A ts.length c).ownBlock ∧ (v'.ownBlock = (Value.slice A ts.length c).ownBlock ∨ ∃ b, v'.ownBlock = some b ∧ w.heap.size ≤ b) := by
  obtain ⟨h0, inner, hown, hr⟩ := HO
  have hvo : vx.oneCell' = true := tK.K_one (tK.K_of_M (Kd.M_row hvx)) vx (List.mem_singleton.2 rfl)
  refine (insert_row A ts.length c i inner (tK_one hr) gB vx base w hown hi hn hbase hx hvo hne).mono ?_
  rintro e w' ⟨v', rfl, hown', hg, hat⟩
  refine ⟨v', rfl, ?_, hg, hat⟩
  have r1 : Reps (tK.M w base (fun k => ok k ∧ some k ≠ (Value.slice A ts.length c).ownBlock)) 1 [x] [vx] := Reps.one (Kd.M_row (Kd.R_mono hvx hokx)) (Reps.none _ _)
  have hr' := Kd.reps_append (Kd.reps_append (Kd.reps_take hr hi) r1) (Kd.reps_drop (m := i) hr)
  rw [show i * tK.sz = i from Nat.mul_one i] at hr'
  refine rowed h0 hfresh hr' ?_ hg hat
  have hl : (insAt ts i x).length = ts.length + 1 := by simp [insAt]; omega
  rw [hl]
  exact hown'
theorem delete_calls (A : Option Addr) (c : Nat) (ts : List (List Int)) (i : Nat) (base : Nat) (ok : Nat → Prop) (w : World) (HO : tK.R 24 w base ok (.slice A ts.length c) ts) (hi : i < ts.length) (hfresh : ∀ k, w.heap.size ≤ k → ok k) :
    Calls Tryd.prog 57 #[.slice A ts.length c, .int .i64 i, .int .i64 ((i : Int) + 1)] w fun e w' => ∃ v', e = .returned v' ∧ tK.R 24 w' base ok v' (delAt ts i) ∧ w.grownBy w' (Value.slice A ts.length c).ownBlock ∧ (v'.ownBlock = (Value.slice A ts.length c).ownBlock ∨ ∃ b, v'.ownBlock = some b ∧ w.heap.size ≤ b) := by
  obtain ⟨h0, inner, hown, hr⟩ := HO
  refine (delete_row A ts.length c i inner (tK_one hr) base w hown hi).mono ?_
  rintro e w' ⟨v', rfl, hown', hg, hat⟩
  refine ⟨v', rfl, ?_, hg, Or.inl hat⟩
  have hr' := Kd.reps_append (Kd.reps_take hr (Nat.le_of_lt hi)) (Kd.reps_drop (m := i + 1) hr)
  rw [show i * tK.sz = i from Nat.mul_one i, show (i + 1) * tK.sz = i + 1 from Nat.mul_one _] at hr'
  refine rowed h0 hfresh hr' ?_ hg (Or.inl hat)
  have hl : (delAt ts i).length = ts.length - 1 := by simp [delAt]; omega
  rw [hl]
  exact hown'
end Go.Proofs.YtfmpaofbnjlniaaDoor.F
/- shape.Put, by hand. -/
namespace Go.Proofs.YtfmpaofbnjlniaaDoor.F
open Go.RowKit Go.Proofs.YtfmpaofbnjlniaaDoorW.PrintWords Go.Proofs.YtfmpaofbnjlniaaDoorW.PrintLast Go.Proofs.YtfmpaofbnjlniaaDoorW.PrintMore
set_option linter.unusedVariables false
set_option linter.unusedSimpArgs false
instance (l : List S54) : Decidable (copyOk l) := by unfold copyOk; infer_instance
def putRel (r : S54) (ts : List (List Int)) : S54 := ⟨r.f0, r.f1, ts⟩
/-- What Put answers once the place has been found. -/
def putEnd (n : Int) (l : List S54) (x q : Int) (t : List Int) (b there : Bool) : Option (Int × List S54 × Int) :=
  if 0 ≤ x ∧ x < (l.length : Int) then
    if (b && !there) = true then (if 0 ≤ q ∧ q ≤ ((rd_T54 l x).f2.length : Int) then some (n, l.set x.toNat (putRel (rd_T54 l x) (insAt (rd_T54 l x).f2 q.toNat t)), 0) else none)
    else if (!b && there) = true then (if 0 ≤ q ∧ q < ((rd_T54 l x).f2.length : Int) then some (n, l.set x.toNat (putRel (rd_T54 l x) (delAt (rd_T54 l x).f2 q.toNat)), 0) else none)
    else some (n, l, 0)
  else none
def shape_Put.f (k : Nat) (n : Int) (l : List S54) (nm : ByteArray) (t : List Int) (b : Bool) : Option (Int × List S54 × Int) :=
  (shape_Has.f k n l nm t).bind fun p => if p.2 = 0 then (shape_elements.f n t).bind fun e => if e = true then (if copyOk l ∧ t.length ≤ 100000 then (shape_Find.f n l nm (t.length : Int)).bind fun x => (slices_BinarySearchFunc_int_int_int.f k (rd_T54 l x).f2 t).bind fun q => putEnd n l x q.1 t b p.1 else none) else some (0, [], 2) else some (0, [], p.2)
theorem results_put (tmps : Array Value) (W : World) (g8 : Nat) (a b : Int) (v : Value) (hp8 : tmps.getD 8 undef = .pointer (some ⟨g8, 0, none⟩)) (hp9 : tmps.getD 9 undef = .int .i64 b)
    (h8 : W.heap[g8]? = some (.cells #[.int .i64 a, v] 38 (0, 0))) :
    (results Tryd.f29 tmps).run Tryd.prog W = .ok (.tuple #[.agg #[.int .i64 a, v], .int .i64 b]) W := by
  have hp8' : tmps[8]?.getD undef = .pointer (some ⟨g8, 0, none⟩) := by simpa using hp8
  have hp9' : tmps[9]?.getD undef = .int .i64 b := by simpa using hp9
  have hr := run_loadVar_row (P := Tryd.prog) W g8 38 38 #[.int .i64 a, v] (0, 0) _ h8 Tryd.underlying38 rfl (by kernel_rfl)
  simp [results, Tryd.results29, hp8', hp9', asAddr, hr]
def PutEnds (w : World) (r : Int × List S54 × Int) (e : Ending) (w' : World) : Prop := ∃ v : Value, e = .returned (.tuple #[.agg #[.int .i64 r.1, v], .int .i64 r.2.2]) ∧ Kd.R k54 54 w' w.heap.size (fun _ => True) v r.2.1 ∧ Below w.heap.size w w'
set_option maxHeartbeats 4000000 in
set_option maxRecDepth 100000 in
theorem put_calls (k : Nat) (n : Int) (A : Option Addr) (c : Nat) (l : List S54) (nm : ByteArray) (A2 : Option Addr) (c2 : Nat) (t : List Int) (b : Bool) (r : Int × List S54 × Int) (w : World)
    (hC : Kd.C k54 w A l.length l) (hlc : l.length ≤ c) (hC2 : Kd.C (Kd.int .i64) w A2 t.length t) (hlc2 : t.length ≤ c2) (h : shape_Put.f k n l nm t b = some r) :
    Calls Tryd.prog 29 #[.agg #[.int .i64 n, .slice A l.length c], .string nm, .slice A2 t.length c2, .bool b] w (PutEnds w r) := by
  have hu38 := Tryd.underlying38
  have hu54 := Tryd.underlying54
  unfold shape_Put.f at h
  obtain ⟨⟨there, e1⟩, hh, h⟩ := Option.bind_eq_some_iff.1 h
  simp only at h
  have hB1 := below_alloc (below_alloc (Below.refl w.heap.size w) (.cells #[.int .i64 n, .slice A l.length c] 38)) (.cells #[.int .i64 0, .slice none 0 0] 38)
  have HC1 := Aside0.mk (Kd.C_below hC hB1)
  have HT1 := Aside0.mk (Kd.C_below hC2 hB1)
  have HB1 := Aside0.mk hB1
  have HLC := Aside0.mk hlc
  have HLC2 := Aside0.mk hlc2
  have HH := Aside0.mk hh
  have H := Aside0.mk h
  have K4 := Aside0.mk (show ((w.alloc (.cells #[.int .i64 n, .slice A l.length c] 38)).alloc (.cells #[.int .i64 0, .slice none 0 0] 38)).heap[w.heap.size]? = some (.cells #[.int .i64 n, .slice A l.length c] 38 (0, 0)) from (heap_alloc_old _ _ (by simp)).trans (heap_alloc_new w _))
  have K8 := Aside0.mk (show ((w.alloc (.cells #[.int .i64 n, .slice A l.length c] 38)).alloc (.cells #[.int .i64 0, .slice none 0 0] 38)).heap[w.heap.size + 1]? = some (.cells #[.int .i64 0, .slice none 0 0] 38 (0, 0)) from by have := heap_alloc_new (w.alloc (.cells #[.int .i64 n, .slice A l.length c] 38)) (.cells #[.int .i64 0, .slice none 0 0] 38); simpa using this)
  clear hB1 hC hlc hC2 hlc2 hh h
  go_enter Tryd.func29, Tryd.ntmps29
  go_wp2_with (fail)
  refine (shape_Has.calls k n A c l nm A2 c2 t there e1 _ HC1.out HLC.out HT1.out HLC2.out HH.out).mono ?_
  rintro e w1 ⟨rfl, hb1⟩
  generalize hg8 : w.heap.size + 1 = g8 at *
  have hg8w : w.heap.size ≤ g8 := by omega
  have K4' := Aside0.mk ((hb1.block w.heap.size (Array.getElem?_eq_some_iff.1 K4.out).1).trans K4.out)
  have K8' := Aside0.mk ((hb1.block g8 (Array.getElem?_eq_some_iff.1 K8.out).1).trans K8.out)
  have HB2 := Aside0.mk (below_step HB1.out hb1)
  have HC2 := Aside0.mk (Kd.C_below HC1.out hb1)
  have HT2 := Aside0.mk (Kd.C_below HT1.out hb1)
  clear hb1 K4 K8 HB1 HC1 HT1
  have c8_0 : w1.cell? ⟨g8, 0, none⟩ = some (.int .i64 0) := (blk_cell K8'.out 0).trans rfl
  have c8_1 : w1.cell? ⟨g8, 1, none⟩ = some (.slice none 0 0) := (blk_cell K8'.out 1).trans rfl
  have f8_0 := blk_frozen K8'.out 0
  have f8_1 := blk_frozen K8'.out 1
  have c4_0 : w1.cell? ⟨w.heap.size, 0, none⟩ = some (.int .i64 n) := (blk_cell K4'.out 0).trans rfl
  have c4_1 : w1.cell? ⟨w.heap.size, 1, none⟩ = some (.slice A l.length c) := (blk_cell K4'.out 1).trans rfl
  by_cases he : e1 = 0
  · subst he
    have h2 := H.out
    rw [if_pos rfl] at h2
    obtain ⟨el, hel, h3⟩ := Option.bind_eq_some_iff.1 h2
    clear H h2
    have HEL := Aside0.mk hel
    have H := Aside0.mk h3
    clear hel h3
    go_wp2_with (fail)
    refine (shape_elements.calls n A2 c2 t el _ HT2.out HLC2.out HEL.out).mono ?_
    rintro e w2 ⟨rfl, hb2⟩
    have K4 := Aside0.mk ((hb2.block w.heap.size (Array.getElem?_eq_some_iff.1 K4'.out).1).trans K4'.out)
    have K8 := Aside0.mk ((hb2.block g8 (Array.getElem?_eq_some_iff.1 K8'.out).1).trans K8'.out)
    have HB3 := Aside0.mk (below_step HB2.out hb2)
    have HC3 := Aside0.mk (Kd.C_below HC2.out hb2)
    have HT3 := Aside0.mk (Kd.C_below HT2.out hb2)
    clear hb2 K4' K8' HB2 HC2 HT2 c8_0 c8_1 f8_0 f8_1 c4_0 c4_1
    have c8_0 : w2.cell? ⟨g8, 0, none⟩ = some (.int .i64 0) := (blk_cell K8.out 0).trans rfl
    have c8_1 : w2.cell? ⟨g8, 1, none⟩ = some (.slice none 0 0) := (blk_cell K8.out 1).trans rfl
    have f8_0 := blk_frozen K8.out 0
    have f8_1 := blk_frozen K8.out 1
    have c4_0 : w2.cell? ⟨w.heap.size, 0, none⟩ = some (.int .i64 n) := (blk_cell K4.out 0).trans rfl
    have c4_1 : w2.cell? ⟨w.heap.size, 1, none⟩ = some (.slice A l.length c) := (blk_cell K4.out 1).trans rfl
    cases el with
    | false =>
      have h2 := H.out
      rw [if_neg (by simp)] at h2
      obtain rfl := Option.some.inj h2
      clear h2 H
      go_wp2
      have HX := blk_put (cs' := #[.int .i64 0, .slice none 0 0]) (blk_put (cs' := #[.int .i64 0, .slice none 0 0]) K8.out 0 (.int .i64 0) rfl) 1 (.slice none 0 0) rfl
      have HBX := below_set (j := 1) (v := .slice none 0 0) (below_set (j := 0) (v := .int .i64 0) HB3.out hg8w) hg8w
      refine bodyPost_ret (results_put _ _ g8 0 2 _ rfl rfl HX) rfl ?_
      exact ⟨_, rfl, Kd.R_nil _ _ _ _ _, HBX⟩
    | true =>
      have h2 := H.out
      rw [if_pos rfl] at h2
      by_cases hcp : copyOk l ∧ t.length ≤ 100000
      case neg => rw [if_neg hcp] at h2; cases h2
      rw [if_pos hcp] at h2
      obtain ⟨x, hx, h3⟩ := Option.bind_eq_some_iff.1 h2
      obtain ⟨⟨q, q2⟩, hq, h4⟩ := Option.bind_eq_some_iff.1 h3
      have HCP := Aside0.mk hcp.1
      have HTL := Aside0.mk hcp.2
      have HX := Aside0.mk hx
      have HQ := Aside0.mk hq
      clear H h2 h3 hx hq hcp
      have H := Aside0.mk h4
      clear h4
      go_wp2_with (fail)
      refine (copy_calls n A c l _ HC3.out HLC.out HCP.out).mono ?_
      rintro e w3 ⟨v3, rfl, hS, hb3⟩
      have K4' := Aside0.mk ((hb3.block w.heap.size (Array.getElem?_eq_some_iff.1 K4.out).1).trans K4.out)
      have K8' := Aside0.mk ((hb3.block g8 (Array.getElem?_eq_some_iff.1 K8.out).1).trans K8.out)
      have HB4 := Aside0.mk (below_step HB3.out hb3)
      have HC4 := Aside0.mk (Kd.C_below HC3.out hb3)
      have HT4 := Aside0.mk (Kd.C_below HT3.out hb3)
      have HS4 := Aside0.mk (Kd.S_lower hS HB3.out.size)
      obtain ⟨A3, c3, hv3⟩ := Kd.S_slice hS
      subst hv3
      clear hb3 hS K4 K8 HB3 HC3 HT3 c8_0 c8_1 f8_0 f8_1 c4_0 c4_1
      go_wp2
      have hxb : 0 ≤ x ∧ x < (l.length : Int) := by
        have h2 := H.out
        unfold putEnd at h2
        by_cases hb : 0 ≤ x ∧ x < (l.length : Int)
        · exact hb
        · rw [if_neg hb] at h2; cases h2
      obtain ⟨g, cap, eA, hbg, hglt, cells3, hcell3⟩ := Kd.S_form HS4.out (by omega)
      obtain ⟨rfl, rfl⟩ : A3 = some ⟨g, 0, none⟩ ∧ c3 = cap := by injection eA with h2 h3 h4; exact ⟨h2, h4⟩
      have K12 := Aside0.mk (heap_alloc_new w3 (.cells #[.int .i64 n, .slice (some ⟨g, 0, none⟩) l.length c3] 38))
      have hba := below_alloc (Below.refl w3.heap.size w3) (.cells #[.int .i64 n, .slice (some ⟨g, 0, none⟩) l.length c3] 38)
      have K4 := Aside0.mk ((hba.block w.heap.size (Array.getElem?_eq_some_iff.1 K4'.out).1).trans K4'.out)
      have K8 := Aside0.mk ((hba.block g8 (Array.getElem?_eq_some_iff.1 K8'.out).1).trans K8'.out)
      have HC5 := Aside0.mk (Kd.C_below HC4.out hba)
      have HT5 := Aside0.mk (Kd.C_below HT4.out hba)
      have HS5 := Aside0.mk (Kd.S_below HS4.out hba)
      have HB5 := Aside0.mk (below_step HB4.out hba)
      have hg12 := HB4.out.size
      generalize w3.alloc (.cells #[.int .i64 n, .slice (some ⟨g, 0, none⟩) l.length c3] 38) = w4 at *
      generalize w3.heap.size = g12 at *
      clear hba K4' K8' HC4 HT4 HS4 HB4 eA hglt hcell3
      have c12 : w4.cell? ⟨g12, 1, none⟩ = some (.slice (some ⟨g, 0, none⟩) l.length c3) := (blk_cell K12.out 1).trans rfl
      have c4_0 : w4.cell? ⟨w.heap.size, 0, none⟩ = some (.int .i64 n) := (blk_cell K4.out 0).trans rfl
      have c4_1 : w4.cell? ⟨w.heap.size, 1, none⟩ = some (.slice A l.length c) := (blk_cell K4.out 1).trans rfl
      refine wp_region_noPanic ?_
      refine start_ (n := 9) (S := fun w' => w'.cell? ⟨g12, 1, none⟩ = some (.slice (some ⟨g, 0, none⟩) l.length c3) ∧ w'.cell? ⟨w.heap.size, 0, none⟩ = some (.int .i64 n) ∧ w'.cell? ⟨w.heap.size, 1, none⟩ = some (.slice A l.length c)) (ds := []) #[false, false, false, false, false, false, false, false, false] (by kernel_rfl) rfl rfl ⟨c12, c4_0, c4_1⟩ (fun hHeld => ?_)
      have HC6 := Aside0.mk (Kd.C_drew HC5.out)
      have HT6 := Aside0.mk (Kd.C_drew HT5.out)
      have HS6 := Aside0.mk (Kd.S_drew HS5.out)
      have HB6 := Aside0.mk (below_drew HB5.out)
      have K12' := Aside0.mk (show w4.drew.heap[g12]? = _ from K12.out)
      have K4' := Aside0.mk (show w4.drew.heap[w.heap.size]? = _ from K4.out)
      have K8' := Aside0.mk (show w4.drew.heap[g8]? = _ from K8.out)
      clear HC5 HT5 HS5 HB5 K12 K4 K8 c12 c4_0 c4_1
      generalize w4.drew = wd at *
      refine pure_ (i := 0) (N := some 37) (v := ?_) (a' := ?_) #[true, false, false, false, false, false, false, false, false] rfl rfl (by kernel_rfl) (fun _ _ _ h => h) (Or.inl ⟨by rfl, ?_⟩) ?_ ?_
      rotate_left
      · intro w'
        go_simp
        with_reducible rfl
      rotate_left
      · simp only [Act.put, List.setIfInBounds_toArray, List.set_cons_zero, List.set_cons_succ, i64_w, i32_w]
        rfl
      refine pure_ (i := 3) (N := some 40) (v := ?_) (a' := ?_) #[true, false, false, true, false, false, false, false, false] rfl rfl (by kernel_rfl) (fun _ _ _ h => h) (Or.inl ⟨by rfl, ?_⟩) ?_ ?_
      rotate_left
      · intro w'
        go_simp
        with_reducible rfl
      rotate_left
      · simp only [Act.put, List.setIfInBounds_toArray, List.set_cons_zero, List.set_cons_succ, i64_w, i32_w]
        rfl
      refine pure_ (i := 4) (N := some 41) (v := ?_) (a' := ?_) #[true, false, false, true, true, false, false, false, false] rfl rfl (by kernel_rfl) (fun _ _ _ h => h) (Or.inl ⟨by rfl, ?_⟩) ?_ ?_
      rotate_left
      · intro w'
        go_simp
        with_reducible rfl
      rotate_left
      · simp only [Act.put, List.setIfInBounds_toArray, List.set_cons_zero, List.set_cons_succ, i64_w, i32_w]
        rfl
      refine pure_ (i := 5) (N := some 42) (v := ?_) (a' := ?_) #[true, false, false, true, true, true, false, false, false] rfl rfl (by kernel_rfl) (fun _ _ _ h => h) (Or.inl ⟨by rfl, ?_⟩) ?_ ?_
      rotate_left
      · intro w'
        go_simp
        with_reducible rfl
      rotate_left
      · simp only [Act.put, List.setIfInBounds_toArray, List.set_cons_zero, List.set_cons_succ, i64_w, i32_w]
        rfl
      refine take_ (i := 1) (N := some 38) (v := ?_) (a' := ?_) #[true, true, false, true, true, true, false, false, false] rfl rfl (by kernel_rfl) (fun _ _ _ h => h) (Or.inl ⟨by rfl, ?_⟩) hHeld ?_ ?_
      rotate_left
      · rintro w' ⟨s1, s2, s3⟩
        go_simp
        with_reducible rfl
      rotate_left
      · simp only [Act.put, List.setIfInBounds_toArray, List.set_cons_zero, List.set_cons_succ, i64_w, i32_w]
        rfl
      refine take_ (i := 2) (N := some 39) (v := ?_) (a' := ?_) #[true, true, true, true, true, true, false, false, false] rfl rfl (by kernel_rfl) (fun _ _ _ h => h) (Or.inl ⟨by rfl, ?_⟩) hHeld ?_ ?_
      rotate_left
      · rintro w' ⟨s1, s2, s3⟩
        go_simp
        with_reducible rfl
      rotate_left
      · simp only [Act.put, List.setIfInBounds_toArray, List.set_cons_zero, List.set_cons_succ, i64_w, i32_w]
        rfl
      refine one_ (i := 6) (N := some 43) #[true, true, true, true, true, true, true, false, false] rfl rfl (by kernel_rfl) (by decide) (fun K hK => ?_)
      refine callE_ 52 #[.agg #[.int .i64 n, .slice A l.length c], .string nm, .int .i64 t.length] (by rfl) rfl (by go_simp) ?_
      refine (shape_Find.calls n A c l nm (t.length : Int) x _ HC6.out HLC.out HX.out).mono ?_
      rintro e w5 ⟨rfl, hb5⟩
      left
      refine ⟨_, rfl, ?_⟩
      have HB7 := Aside0.mk (below_step HB6.out hb5)
      have HC7 := Aside0.mk (Kd.C_below HC6.out hb5)
      have HT7 := Aside0.mk (Kd.C_below HT6.out hb5)
      have HS7 := Aside0.mk (Kd.S_below HS6.out hb5)
      have K12 := Aside0.mk ((hb5.block g12 (Array.getElem?_eq_some_iff.1 K12'.out).1).trans K12'.out)
      have K4 := Aside0.mk ((hb5.block w.heap.size (Array.getElem?_eq_some_iff.1 K4'.out).1).trans K4'.out)
      have K8 := Aside0.mk ((hb5.block g8 (Array.getElem?_eq_some_iff.1 K8'.out).1).trans K8'.out)
      refine hK.out _ _ ⟨(blk_cell K12.out 1).trans rfl, (blk_cell K4.out 0).trans rfl, (blk_cell K4.out 1).trans rfl⟩ (fun hHeld2 => ?_)
      clear hK K hb5 HB6 HC6 HT6 HS6 K12' K4' K8' HX
      refine norm_ (a' := ?_) ?_ ?_
      rotate_left
      · show Act.put _ (some 43) _ = _
        simp only [Act.put, List.setIfInBounds_toArray, List.set_cons_zero, List.set_cons_succ, i64_w, i32_w]
        rfl
      have hx0 := eq_true hxb.1
      have hx1 := eq_true hxb.2
      refine pure_ (i := 7) (N := some 44) (v := ?_) (a' := ?_) #[true, true, true, true, true, true, true, true, false] rfl rfl (by kernel_rfl) (fun _ _ _ h => h) (Or.inl ⟨by rfl, ?_⟩) ?_ ?_
      rotate_left
      · intro w'
        go_simp
        with_reducible rfl
      rotate_left
      · simp only [Act.put, List.setIfInBounds_toArray, List.set_cons_zero, List.set_cons_succ, i64_w, i32_w]
        rfl
      refine pure_ (i := 8) (N := some 13) (v := ?_) (a' := ?_) #[true, true, true, true, true, true, true, true, true] rfl rfl (by kernel_rfl) (fun _ _ _ h => h) (Or.inl ⟨by rfl, ?_⟩) ?_ ?_
      rotate_left
      · intro w'
        go_simp
        with_reducible rfl
      rotate_left
      · simp only [Act.put, List.setIfInBounds_toArray, List.set_cons_zero, List.set_cons_succ, i64_w, i32_w]
        rfl
      refine done_ (by kernel_rfl) ?_
      refine NoPanic.normal ?_
      -- behind region 7
      obtain ⟨oki, cc, hcl, hM, hcells, hoki, hH⟩ := Kd.S_lend HS7.out z54 x hxb.1 hxb.2
      have h2 := H.out
      unfold putEnd at h2
      rw [if_pos hxb] at h2
      have hQ := HQ.out
      have hM2 : k54.M w5 w.heap.size oki (rd_T54 l x) cc := hM
      have hcrl : (rd_T54 l x).f2.length ≤ 100000 := by
        have hr0 : rd_T54 l x ∈ l := by
          unfold rd_T54
          rw [List.getD_eq_getElem?_getD, List.getElem?_eq_getElem (by omega)]
          exact List.getElem_mem _
        exact (HCP.out.2 _ hr0).1
      generalize rd_T54 l x = r0 at h2 hQ hM2 hcrl
      clear hM HQ H
      obtain ⟨v2, rfl, hR2⟩ := k54_openM hM2
      obtain ⟨A5, c5, hv2⟩ := Kd.R_slice hR2
      subst hv2
      have hy2 : w5.cell? ⟨g, x.toNat * 3 + 2, none⟩ = some (.slice A5 r0.f2.length c5) := hcells 2 _ rfl
      obtain ⟨g', cap', eA', hbg', hglt', cells5, HG5⟩ := Kd.S_form HS7.out (by omega)
      obtain rfl : g = g' := by injection eA' with h3; injection h3 with h3; injection h3 with h3
      have HQ := Aside0.mk hQ
      have H := Aside0.mk h2
      have HH := Aside0.mk hH
      have HR2 := Aside0.mk hR2
      have HG := Aside0.mk HG5
      have HK := Aside0.mk hoki
      clear hQ h2 hH hR2 HG5 hM2 hcells eA' hcl hoki HC7
      go_wp2_with (fail)
      refine (slices_BinarySearchFunc_int_int_int.calls k A5 c5 r0.f2 A2 c2 t q q2 _ (Kd.R_reads' HR2.out).2.2 (Kd.R_reads' HR2.out).2.1 HT7.out HLC2.out HQ.out).mono ?_
      rintro e w6 ⟨rfl, hd⟩
      have hb := hd.below
      have hlt5 : g < w5.heap.size := hglt'
      have HB8 := Aside0.mk (below_step HB7.out hb)
      have HT8 := Aside0.mk (Kd.C_below HT7.out hb)
      have HS8 := Aside0.mk (Kd.S_below HS7.out hb)
      have HH8 := Aside0.mk (Kd.H_below HH.out hb)
      have HR8 := Aside0.mk (Kd.R_below HR2.out hb)
      have HG8 := Aside0.mk ((hb.block g hlt5).trans HG.out)
      have K12' := Aside0.mk ((hb.block g12 (Array.getElem?_eq_some_iff.1 K12.out).1).trans K12.out)
      have K8' := Aside0.mk ((hb.block g8 (Array.getElem?_eq_some_iff.1 K8.out).1).trans K8.out)
      have hy := pw_cell_below hb hy2
      have hg6 : g < w6.heap.size := (Array.getElem?_eq_some_iff.1 HG8.out).1
      clear hd hb HB7 HT7 HS7 HH HR2 HG K12 K8 K4 hy2 HQ hglt' hlt5
      have hcr0 : r0.f2.length ≤ 100000 := hcrl
      cases b with
      | true =>
        cases there with
        | true =>
          have h2 := H.out
          rw [if_neg (by simp), if_neg (by simp)] at h2
          obtain rfl := Option.some.inj h2
          clear h2 H HH8 HR8
          have Z12 := K12'
          have Z8 := K8'
          have ZB := HB8
          have ZR := Aside0.mk (Kd.S_R HS8.out)
          clear K12' K8' HB8 HS8
          have c12_0 : w6.cell? ⟨g12, 0, none⟩ = some (.int .i64 n) := (blk_cell Z12.out 0).trans rfl
          have c12_1 : w6.cell? ⟨g12, 1, none⟩ = some (.slice (some ⟨g, 0, none⟩) l.length c3) := (blk_cell Z12.out 1).trans rfl
          have c8_0 : w6.cell? ⟨g8, 0, none⟩ = some (.int .i64 0) := (blk_cell Z8.out 0).trans rfl
          have c8_1 : w6.cell? ⟨g8, 1, none⟩ = some (.slice none 0 0) := (blk_cell Z8.out 1).trans rfl
          have f8_0 := blk_frozen Z8.out 0
          have f8_1 := blk_frozen Z8.out 1
          go_wp2
          have HX := blk_put (cs' := #[.int .i64 n, .slice (some ⟨g, 0, none⟩) l.length c3]) (blk_put (cs' := #[.int .i64 n, .slice none 0 0]) Z8.out 0 (.int .i64 n) rfl) 1 (.slice (some ⟨g, 0, none⟩) l.length c3) rfl
          have HV1 := Kd.R_set ZR.out Z8.out (by decide) 0 (.int .i64 n)
          have HV2 := Kd.R_set HV1 (blk_put (cs' := #[.int .i64 n, .slice none 0 0]) Z8.out 0 (.int .i64 n) rfl) (by decide) 1 (.slice (some ⟨g, 0, none⟩) l.length c3)
          have HBX := below_set (j := 1) (v := .slice (some ⟨g, 0, none⟩) l.length c3) (below_set (j := 0) (v := .int .i64 n) ZB.out hg8w) hg8w
          refine bodyPost_ret (results_put _ _ g8 n 0 _ rfl rfl HX) rfl ?_
          exact ⟨_, rfl, HV2, HBX⟩
        | false =>
          have h2 := H.out
          rw [if_pos (by simp)] at h2
          by_cases hqb : 0 ≤ q ∧ q ≤ (r0.f2.length : Int)
          case neg => rw [if_neg hqb] at h2; cases h2
          rw [if_pos hqb] at h2
          obtain rfl := Option.some.inj h2
          clear h2 H
          have hlr : r0.f2.length ≤ 100000 := hcr0
          have fy := blk_frozen HG8.out (x.toNat * 3 + 2)
          go_upto_region 10 with (fail)
          refine wp_region_noPanic ?_
          refine start_ (n := 13) (S := fun w' => w'.cell? ⟨g, x.toNat * 3 + 2, none⟩ = some (.slice A5 r0.f2.length c5)) (ds := [12]) #[false, false, false, false, false, false, false, false, false, false, false, false, false] (by kernel_rfl) rfl rfl hy (fun hHeld => ?_)
          have HB9 := Aside0.mk (below_drew HB8.out)
          have HT9 := Aside0.mk (Kd.C_drew HT8.out)
          have HH9 := Aside0.mk (Kd.H_drew HH8.out)
          have HR9 := Aside0.mk (Kd.R_drew HR8.out)
          have HG9 := Aside0.mk (show w6.drew.heap[g]? = _ from HG8.out)
          have K12 := Aside0.mk (show w6.drew.heap[g12]? = _ from K12'.out)
          have K8 := Aside0.mk (show w6.drew.heap[g8]? = _ from K8'.out)
          have hy9 : w6.drew.cell? ⟨g, x.toNat * 3 + 2, none⟩ = some (.slice A5 r0.f2.length c5) := hy
          have hg9 : g < w6.drew.heap.size := hg6
          clear HB8 HT8 HH8 HR8 HG8 K12' K8' HS8 hy hg6 fy
          generalize w6.drew = wd at *
          refine pure_ (i := 0) (N := some 60) (v := ?_) (a' := ?_) #[true, false, false, false, false, false, false, false, false, false, false, false, false] rfl rfl (by kernel_rfl) (fun _ _ _ h => h) (Or.inl ⟨by rfl, ?_⟩) ?_ ?_
          rotate_left
          · intro w'
            go_simp
            with_reducible rfl
          rotate_left
          · simp only [Act.put, List.setIfInBounds_toArray, List.set_cons_zero, List.set_cons_succ, i64_w, i32_w]
            rfl
          refine pure_ (i := 1) (N := some 61) (v := ?_) (a' := ?_) #[true, true, false, false, false, false, false, false, false, false, false, false, false] rfl rfl (by kernel_rfl) (fun _ _ _ h => h) (Or.inl ⟨by rfl, ?_⟩) ?_ ?_
          rotate_left
          · intro w'
            go_simp
            with_reducible rfl
          rotate_left
          · simp only [Act.put, List.setIfInBounds_toArray, List.set_cons_zero, List.set_cons_succ, i64_w, i32_w]
            rfl
          refine pure_ (i := 2) (N := some 62) (v := ?_) (a' := ?_) #[true, true, true, false, false, false, false, false, false, false, false, false, false] rfl rfl (by kernel_rfl) (fun _ _ _ h => h) (Or.inl ⟨by rfl, ?_⟩) ?_ ?_
          rotate_left
          · intro w'
            go_simp
            with_reducible rfl
          rotate_left
          · simp only [Act.put, List.setIfInBounds_toArray, List.set_cons_zero, List.set_cons_succ, i64_w, i32_w]
            rfl
          refine pure_ (i := 3) (N := some 63) (v := ?_) (a' := ?_) #[true, true, true, true, false, false, false, false, false, false, false, false, false] rfl rfl (by kernel_rfl) (fun _ _ _ h => h) (Or.inl ⟨by rfl, ?_⟩) ?_ ?_
          rotate_left
          · intro w'
            go_simp
            with_reducible rfl
          rotate_left
          · simp only [Act.put, List.setIfInBounds_toArray, List.set_cons_zero, List.set_cons_succ, i64_w, i32_w]
            rfl
          refine pure_ (i := 5) (N := some 65) (v := ?_) (a' := ?_) #[true, true, true, true, false, true, false, false, false, false, false, false, false] rfl rfl (by kernel_rfl) (fun _ _ _ h => h) (Or.inl ⟨by rfl, ?_⟩) ?_ ?_
          rotate_left
          · intro w'
            go_simp
            with_reducible rfl
          rotate_left
          · simp only [Act.put, List.setIfInBounds_toArray, List.set_cons_zero, List.set_cons_succ, i64_w, i32_w]
            rfl
          refine pure_ (i := 6) (N := some 66) (v := ?_) (a' := ?_) #[true, true, true, true, false, true, true, false, false, false, false, false, false] rfl rfl (by kernel_rfl) (fun _ _ _ h => h) (Or.inl ⟨by rfl, ?_⟩) ?_ ?_
          rotate_left
          · intro w'
            go_simp
            with_reducible rfl
          rotate_left
          · simp only [Act.put, List.setIfInBounds_toArray, List.set_cons_zero, List.set_cons_succ, i64_w, i32_w]
            rfl
          refine take_ (i := 4) (N := some 64) (v := ?_) (a' := ?_) #[true, true, true, true, true, true, true, false, false, false, false, false, false] rfl rfl (by kernel_rfl) (fun _ _ _ h => h) (Or.inl ⟨by rfl, ?_⟩) hHeld ?_ ?_
          rotate_left
          · intro w' s0
            go_simp
            with_reducible rfl
          rotate_left
          · simp only [Act.put, List.setIfInBounds_toArray, List.set_cons_zero, List.set_cons_succ, i64_w, i32_w]
            rfl
          refine one_ (i := 7) (N := some 67) #[true, true, true, true, true, true, true, true, false, false, false, false, false] rfl rfl (by kernel_rfl) (by decide) (fun K hK => ?_)
          refine callE_ 56 #[.slice A2 t.length c2] (by rfl) rfl (by go_simp) ?_
          refine (slices_Clone_int_int.calls A2 c2 t t _ HT9.out HLC2.out (if_pos HTL.out)).mono ?_
          rintro e w7 ⟨va, rfl, hRa, hb7⟩
          obtain ⟨Aa, ca, ea⟩ := Kd.R_slice hRa
          subst ea
          left
          refine ⟨_, rfl, ?_⟩
          have HHW := Aside0.mk (Kd.H_below (Kd.H_widen HH9.out) hb7)
          have HB10 := Aside0.mk (below_step HB9.out hb7)
          have HR10 := Aside0.mk (Kd.R_below HR9.out hb7)
          have HRL := Aside0.mk (Kd.R_lt HR9.out)
          have HG10 := Aside0.mk ((hb7.block g hg9).trans HG9.out)
          have K12' := Aside0.mk ((hb7.block g12 (Array.getElem?_eq_some_iff.1 K12.out).1).trans K12.out)
          have K8' := Aside0.mk ((hb7.block g8 (Array.getElem?_eq_some_iff.1 K8.out).1).trans K8.out)
          have HVA := Aside0.mk (Kd.R_lower (Kd.R_mono (ok' := fun k_ => wd.heap.size ≤ k_) (Kd.R_bound hRa) (fun k_ hk => hk.2.1)) HB9.out.size)
          have hsz7 := hb7.size
          have hy10 := pw_cell_below hb7 hy9
          refine hK.out _ _ hy10 (fun hHeld2 => ?_)
          clear hK K hb7 hRa HB9 HT9 HH9 HR9 HG9 K12 K8
          refine norm_ (a' := ?_) ?_ ?_
          rotate_left
          · show Act.put _ (some 67) _ = _
            simp only [Act.put, List.setIfInBounds_toArray, List.set_cons_zero, List.set_cons_succ, i64_w, i32_w]
            rfl
          refine one_ (i := 8) (N := some 68) #[true, true, true, true, true, true, true, true, true, false, false, false, false] rfl rfl (by kernel_rfl) (by decide) (fun K hK => ?_)
          refine value_ (w1 := ?_) (v := ?_) (by rfl) rfl ?_ ?_
          rotate_left 2
          · go_simp
            constructor
            · rfl
            · rfl
          have HX14 := Aside0.mk (heap_alloc_new w7 (.cells #[.slice Aa t.length ca] 24))
          have hba := below_alloc (Below.refl w7.heap.size w7) (.cells #[.slice Aa t.length ca] 24)
          have HHW' := Aside0.mk (Kd.H_below HHW.out hba)
          have HB11 := Aside0.mk (below_step HB10.out hba)
          have HR11 := Aside0.mk (Kd.R_below HR10.out hba)
          have HG11 := Aside0.mk ((hba.block g (Array.getElem?_eq_some_iff.1 HG10.out).1).trans HG10.out)
          have K12 := Aside0.mk ((hba.block g12 (Array.getElem?_eq_some_iff.1 K12'.out).1).trans K12'.out)
          have K8 := Aside0.mk ((hba.block g8 (Array.getElem?_eq_some_iff.1 K8'.out).1).trans K8'.out)
          have HVA' := Aside0.mk (Kd.R_below HVA.out hba)
          have hsz8 := hba.size
          have hy11 := pw_cell_below hba hy10
          refine hK.out _ _ hy11 (fun hHeld3 => ?_)
          clear hK K hba HHW HB10 HR10 HG10 K12' K8' HVA
          refine norm_ (a' := ?_) ?_ ?_
          rotate_left
          · show Act.put _ (some 68) _ = _
            simp only [Act.put, List.setIfInBounds_toArray, List.set_cons_zero, List.set_cons_succ, i64_w, i32_w]
            rfl
          generalize hw8 : w7.alloc (.cells #[.slice Aa t.length ca] 24) = w8 at *
          clear hw8
          generalize hg14 : w7.heap.size = g14 at *
          refine one_ (i := 9) (N := some 69) #[true, true, true, true, true, true, true, true, true, true, false, false, false] rfl rfl (by kernel_rfl) (by decide) (fun K hK => ?_)
          refine callE_ 55 #[.slice A5 r0.f2.length c5, .int .i64 (q.toNat : Int), .slice (some ⟨g14, 0, none⟩) 1 1] (by rfl) rfl (by rw [Int.toNat_of_nonneg hqb.1]; go_simp) ?_
          have HRO := Aside0.mk (Kd.R_mono (ok' := fun k_ => oki k_ ∨ True ∧ wd.heap.size ≤ k_) HR11.out (fun k_ hk => Or.inl hk))
          refine (insert_calls A5 c5 r0.f2 q.toNat t g14 (.slice Aa t.length ca) w.heap.size (fun k_ => oki k_ ∨ True ∧ wd.heap.size ≤ k_) (fun k_ => wd.heap.size ≤ k_) w8 HRO.out (by omega) hlr HB11.out.size HX14.out HVA'.out (fun k_ hk => ⟨Or.inr ⟨trivial, hk⟩, fun e => by have := HRL.out k_ e.symm; omega⟩) (fun k_ hk => Or.inr ⟨trivial, by omega⟩) (fun e => by have := HRL.out g14 e.symm; omega)).mono ?_
          rintro e w9 ⟨v', rfl, hRn, hgr, hat⟩
          left
          refine ⟨_, rfl, ?_⟩
          have hgne : some g ≠ (Value.slice A5 r0.f2.length c5).ownBlock := fun e => (HK.out g (HR11.out.1 g e.symm)).2 rfl
          have HHG := Aside0.mk (Kd.H_grown HHW'.out hgr (fun k_ hk => HRO.out.1 k_ hk))
          have HB12 := Aside0.mk (pw_below_grown HB11.out _ HB11.out.size hgr (fun k_ hk => Kd.R_base HR11.out k_ hk))
          have HG12 := Aside0.mk (blk_grown HG11.out hgr hgne)
          have K12' := Aside0.mk (blk_grown K12.out hgr (Kd.R_ne HR11.out K12.out (by decide)))
          have K8' := Aside0.mk (blk_grown K8.out hgr (Kd.R_ne HR11.out K8.out (by decide)))
          have HRn := Aside0.mk hRn
          have hy12 := hgr.cell hy11 hgne
          refine hK.out _ _ hy12 (fun hHeld4 => ?_)
          clear hK K hgr hat hRn HHW' HB11 HR11 HG11 K12 K8 HVA' HX14 HRO hgne
          refine norm_ (a' := ?_) ?_ ?_
          rotate_left
          · show Act.put _ (some 69) _ = _
            simp only [Act.put, List.setIfInBounds_toArray, List.set_cons_zero, List.set_cons_succ, i64_w, i32_w]
            rfl
          refine pure_ (i := 10) (N := some 70) (v := ?_) (a' := ?_) #[true, true, true, true, true, true, true, true, true, true, true, false, false] rfl rfl (by kernel_rfl) (fun _ _ _ h => h) (Or.inl ⟨by rfl, ?_⟩) ?_ ?_
          rotate_left
          · intro w'
            go_simp
            with_reducible rfl
          rotate_left
          · simp only [Act.put, List.setIfInBounds_toArray, List.set_cons_zero, List.set_cons_succ, i64_w, i32_w]
            rfl
          refine pure_ (i := 11) (N := some 71) (v := ?_) (a' := ?_) #[true, true, true, true, true, true, true, true, true, true, true, true, false] rfl rfl (by kernel_rfl) (fun _ _ _ h => h) (Or.inl ⟨by rfl, ?_⟩) ?_ ?_
          rotate_left
          · intro w'
            go_simp
            with_reducible rfl
          rotate_left
          · simp only [Act.put, List.setIfInBounds_toArray, List.set_cons_zero, List.set_cons_succ, i64_w, i32_w]
            rfl
          refine last_ (i := 12) (N := none) #[true, true, true, true, true, true, true, true, true, true, true, true, true] rfl rfl (by kernel_rfl) (by decide) (fun K hK => ?_)
          have fy := blk_frozen HG12.out (x.toNat * 3 + 2)
          obtain ⟨An, cn, en⟩ := Kd.R_slice HRn.out
          subst en
          refine skip_ (w1 := ?_) (by rfl) rfl ?_ ?_
          rotate_left
          · go_simp
            rfl
          refine hK.out _ _ ?_
          clear hK K
          refine done_ (by kernel_rfl) ?_
          refine NoPanic.normal ?_
          have hko : ∀ k_, (oki k_ ∨ True ∧ wd.heap.size ≤ k_) → k_ ≠ g := fun k_ hk e => by
            rcases hk with hk | hk
            · exact (HK.out k_ hk).2 e
            · omega
          have hseg := Kd.H_seg HHG.out hxb.1 hxb.2 (seg := [.slice An (insAt r0.f2 q.toNat t).length cn]) (j := 2) (Nat.le_refl 3) (fun u hu => by rw [List.mem_singleton.1 hu]; rfl)
          have hback := Kd.H_back hseg.1 (x' := putRel r0 (insAt r0.f2 q.toNat t)) (okp := fun k_ => oki k_ ∨ True ∧ wd.heap.size ≤ k_) (k54_mkM _ _ _ (putRel r0 (insAt r0.f2 q.toNat t)) (Kd.R_far (p := ⟨g, x.toNat * 3 + 2, none⟩) HRn.out hko _)) (fun k_ hk => hk)
          have ZR := Aside0.mk (Kd.S_R hback)
          have ZB := Aside0.mk (below_set (g := g) (j := x.toNat * 3 + 2) (v := .slice An (insAt r0.f2 q.toNat t).length cn) HB12.out hbg)
          have Z12 := Aside0.mk ((Below.heap_setCell w9 ⟨g, x.toNat * 3 + 2, none⟩ (.slice An (insAt r0.f2 q.toNat t).length cn) g12 (fun e => by have e2 : g12 = g := e; rw [e2] at K12'; have := HG12.out.symm.trans K12'.out; injection this with h; injection h with h1 h2; cases h2)).trans K12'.out)
          have Z8 := Aside0.mk ((Below.heap_setCell w9 ⟨g, x.toNat * 3 + 2, none⟩ (.slice An (insAt r0.f2 q.toNat t).length cn) g8 (fun e => by have e2 : g8 = g := e; rw [e2] at K8'; have := HG12.out.symm.trans K8'.out; injection this with h; injection h with h1 h2; cases h2)).trans K8'.out)
          clear hseg hback HHG HRn HB12 HG12 K12' K8' fy hy12
          have ZR := Aside0.mk (show Kd.R k54 54 (w9.setCell ⟨g, x.toNat * 3 + 2, none⟩ (.slice An (insAt r0.f2 q.toNat t).length cn)) w.heap.size (fun _ => True) (.slice (some ⟨g, 0, none⟩) l.length c3) (l.set x.toNat (putRel r0 (insAt r0.f2 q.toNat t))) from ZR.out)
          generalize w9.setCell ⟨g, x.toNat * 3 + 2, none⟩ (.slice An (insAt r0.f2 q.toNat t).length cn) = wz at *
          have c12_0 : wz.cell? ⟨g12, 0, none⟩ = some (.int .i64 n) := (blk_cell Z12.out 0).trans rfl
          have c12_1 : wz.cell? ⟨g12, 1, none⟩ = some (.slice (some ⟨g, 0, none⟩) l.length c3) := (blk_cell Z12.out 1).trans rfl
          have c8_0 : wz.cell? ⟨g8, 0, none⟩ = some (.int .i64 0) := (blk_cell Z8.out 0).trans rfl
          have c8_1 : wz.cell? ⟨g8, 1, none⟩ = some (.slice none 0 0) := (blk_cell Z8.out 1).trans rfl
          have f8_0 := blk_frozen Z8.out 0
          have f8_1 := blk_frozen Z8.out 1
          go_wp2
          have HX := blk_put (cs' := #[.int .i64 n, .slice (some ⟨g, 0, none⟩) l.length c3]) (blk_put (cs' := #[.int .i64 n, .slice none 0 0]) Z8.out 0 (.int .i64 n) rfl) 1 (.slice (some ⟨g, 0, none⟩) l.length c3) rfl
          have HV1 := Kd.R_set ZR.out Z8.out (by decide) 0 (.int .i64 n)
          have HV2 := Kd.R_set HV1 (blk_put (cs' := #[.int .i64 n, .slice none 0 0]) Z8.out 0 (.int .i64 n) rfl) (by decide) 1 (.slice (some ⟨g, 0, none⟩) l.length c3)
          have HBX := below_set (j := 1) (v := .slice (some ⟨g, 0, none⟩) l.length c3) (below_set (j := 0) (v := .int .i64 n) ZB.out hg8w) hg8w
          refine bodyPost_ret (results_put _ _ g8 n 0 _ rfl rfl HX) rfl ?_
          exact ⟨_, rfl, HV2, HBX⟩
      | false =>
        cases there with
        | false =>
          have h2 := H.out
          rw [if_neg (by simp), if_neg (by simp)] at h2
          obtain rfl := Option.some.inj h2
          clear h2 H HH8 HR8
          have Z12 := K12'
          have Z8 := K8'
          have ZB := HB8
          have ZR := Aside0.mk (Kd.S_R HS8.out)
          clear K12' K8' HB8 HS8
          have c12_0 : w6.cell? ⟨g12, 0, none⟩ = some (.int .i64 n) := (blk_cell Z12.out 0).trans rfl
          have c12_1 : w6.cell? ⟨g12, 1, none⟩ = some (.slice (some ⟨g, 0, none⟩) l.length c3) := (blk_cell Z12.out 1).trans rfl
          have c8_0 : w6.cell? ⟨g8, 0, none⟩ = some (.int .i64 0) := (blk_cell Z8.out 0).trans rfl
          have c8_1 : w6.cell? ⟨g8, 1, none⟩ = some (.slice none 0 0) := (blk_cell Z8.out 1).trans rfl
          have f8_0 := blk_frozen Z8.out 0
          have f8_1 := blk_frozen Z8.out 1
          go_wp2
          have HX := blk_put (cs' := #[.int .i64 n, .slice (some ⟨g, 0, none⟩) l.length c3]) (blk_put (cs' := #[.int .i64 n, .slice none 0 0]) Z8.out 0 (.int .i64 n) rfl) 1 (.slice (some ⟨g, 0, none⟩) l.length c3) rfl
          have HV1 := Kd.R_set ZR.out Z8.out (by decide) 0 (.int .i64 n)
          have HV2 := Kd.R_set HV1 (blk_put (cs' := #[.int .i64 n, .slice none 0 0]) Z8.out 0 (.int .i64 n) rfl) (by decide) 1 (.slice (some ⟨g, 0, none⟩) l.length c3)
          have HBX := below_set (j := 1) (v := .slice (some ⟨g, 0, none⟩) l.length c3) (below_set (j := 0) (v := .int .i64 n) ZB.out hg8w) hg8w
          refine bodyPost_ret (results_put _ _ g8 n 0 _ rfl rfl HX) rfl ?_
          exact ⟨_, rfl, HV2, HBX⟩
        | true =>
          have h2 := H.out
          rw [if_neg (by simp), if_pos (by simp)] at h2
          by_cases hqb : 0 ≤ q ∧ q < (r0.f2.length : Int)
          case neg => rw [if_neg hqb] at h2; cases h2
          rw [if_pos hqb] at h2
          obtain rfl := Option.some.inj h2
          clear h2 H HS8 HT8
          have hlr : r0.f2.length ≤ 100000 := hcr0
          have hqw : IntKind.i64.wrap (q + 1) = q + 1 := by rw [IntKind.wrap_i64]; omega
          have hqn : ((q.toNat : Nat) : Int) = q := Int.toNat_of_nonneg hqb.1
          have fy := blk_frozen HG8.out (x.toNat * 3 + 2)
          go_wp2_with (fail)
          have HRO := Aside0.mk (Kd.R_mono (ok' := fun k_ => oki k_ ∨ True ∧ w6.heap.size ≤ k_) HR8.out (fun k_ hk => Or.inl hk))
          have hdel := delete_calls A5 c5 r0.f2 q.toNat w.heap.size (fun k_ => oki k_ ∨ True ∧ w6.heap.size ≤ k_) w6 HRO.out (by omega) (fun k_ hk => Or.inr ⟨trivial, hk⟩)
          rw [hqn] at hdel
          refine hdel.mono ?_
          rintro e w9 ⟨v', rfl, hRn, hgr, hat⟩
          have hgne : some g ≠ (Value.slice A5 r0.f2.length c5).ownBlock := fun e => (HK.out g (HR8.out.1 g e.symm)).2 rfl
          have HHG := Aside0.mk (Kd.H_grown (Kd.H_widen HH8.out) hgr (fun k_ hk => HRO.out.1 k_ hk))
          have HB12 := Aside0.mk (pw_below_grown HB8.out _ HB8.out.size hgr (fun k_ hk => Kd.R_base HR8.out k_ hk))
          have HG12 := Aside0.mk (blk_grown HG8.out hgr hgne)
          have Y12 := Aside0.mk (blk_grown K12'.out hgr (Kd.R_ne HR8.out K12'.out (by decide)))
          have Y8 := Aside0.mk (blk_grown K8'.out hgr (Kd.R_ne HR8.out K8'.out (by decide)))
          have HRn := Aside0.mk hRn
          have hy12 := hgr.cell hy hgne
          have fy := blk_frozen HG12.out (x.toNat * 3 + 2)
          clear hdel hgr hat hRn HH8 HB8 HR8 HG8 K12' K8' HRO hgne hy
          obtain ⟨An, cn, en⟩ := Kd.R_slice HRn.out
          subst en
          have hko : ∀ k_, (oki k_ ∨ True ∧ w6.heap.size ≤ k_) → k_ ≠ g := fun k_ hk e => by
            rcases hk with hk | hk
            · exact (HK.out k_ hk).2 e
            · omega
          have hseg := Kd.H_seg HHG.out hxb.1 hxb.2 (seg := [.slice An (delAt r0.f2 q.toNat).length cn]) (j := 2) (Nat.le_refl 3) (fun u hu => by rw [List.mem_singleton.1 hu]; rfl)
          have hback := Kd.H_back hseg.1 (x' := putRel r0 (delAt r0.f2 q.toNat)) (okp := fun k_ => oki k_ ∨ True ∧ w6.heap.size ≤ k_) (k54_mkM _ _ _ (putRel r0 (delAt r0.f2 q.toNat)) (Kd.R_far (p := ⟨g, x.toNat * 3 + 2, none⟩) HRn.out hko _)) (fun k_ hk => hk)
          have ZB := Aside0.mk (below_set (g := g) (j := x.toNat * 3 + 2) (v := .slice An (delAt r0.f2 q.toNat).length cn) HB12.out hbg)
          have Z12 := Aside0.mk ((Below.heap_setCell w9 ⟨g, x.toNat * 3 + 2, none⟩ (.slice An (delAt r0.f2 q.toNat).length cn) g12 (fun e => by have e2 : g12 = g := e; rw [e2] at Y12; have := HG12.out.symm.trans Y12.out; injection this with h; injection h with h1 h2; cases h2)).trans Y12.out)
          have Z8 := Aside0.mk ((Below.heap_setCell w9 ⟨g, x.toNat * 3 + 2, none⟩ (.slice An (delAt r0.f2 q.toNat).length cn) g8 (fun e => by have e2 : g8 = g := e; rw [e2] at Y8; have := HG12.out.symm.trans Y8.out; injection this with h; injection h with h1 h2; cases h2)).trans Y8.out)
          have ZR := Aside0.mk (show Kd.R k54 54 (w9.setCell ⟨g, x.toNat * 3 + 2, none⟩ (.slice An (delAt r0.f2 q.toNat).length cn)) w.heap.size (fun _ => True) (.slice (some ⟨g, 0, none⟩) l.length c3) (l.set x.toNat (putRel r0 (delAt r0.f2 q.toNat))) from Kd.S_R hback)
          clear hseg hback HHG HRn HB12 Y12 Y8
          go_upto_region 13 with (fail)
          generalize w9.setCell ⟨g, x.toNat * 3 + 2, none⟩ (.slice An (delAt r0.f2 q.toNat).length cn) = wz at *
          have c12_0 : wz.cell? ⟨g12, 0, none⟩ = some (.int .i64 n) := (blk_cell Z12.out 0).trans rfl
          have c12_1 : wz.cell? ⟨g12, 1, none⟩ = some (.slice (some ⟨g, 0, none⟩) l.length c3) := (blk_cell Z12.out 1).trans rfl
          have c8_0 : wz.cell? ⟨g8, 0, none⟩ = some (.int .i64 0) := (blk_cell Z8.out 0).trans rfl
          have c8_1 : wz.cell? ⟨g8, 1, none⟩ = some (.slice none 0 0) := (blk_cell Z8.out 1).trans rfl
          have f8_0 := blk_frozen Z8.out 0
          have f8_1 := blk_frozen Z8.out 1
          go_wp2
          have HX := blk_put (cs' := #[.int .i64 n, .slice (some ⟨g, 0, none⟩) l.length c3]) (blk_put (cs' := #[.int .i64 n, .slice none 0 0]) Z8.out 0 (.int .i64 n) rfl) 1 (.slice (some ⟨g, 0, none⟩) l.length c3) rfl
          have HV1 := Kd.R_set ZR.out Z8.out (by decide) 0 (.int .i64 n)
          have HV2 := Kd.R_set HV1 (blk_put (cs' := #[.int .i64 n, .slice none 0 0]) Z8.out 0 (.int .i64 n) rfl) (by decide) 1 (.slice (some ⟨g, 0, none⟩) l.length c3)
          have HBX := below_set (j := 1) (v := .slice (some ⟨g, 0, none⟩) l.length c3) (below_set (j := 0) (v := .int .i64 n) ZB.out hg8w) hg8w
          refine bodyPost_ret (results_put _ _ g8 n 0 _ rfl rfl HX) rfl ?_
          exact ⟨_, rfl, HV2, HBX⟩
  · have h2 := H.out
    rw [if_neg he] at h2
    obtain rfl := Option.some.inj h2
    clear h2
    have e0 : (e1 == 0) = false := beq_eq_false_iff_ne.mpr he
    have e0' : (e1 != 0) = true := bne_iff_ne.mpr he
    clear H
    go_wp2
    have HX := blk_put (cs' := #[.int .i64 0, .slice none 0 0]) (blk_put (cs' := #[.int .i64 0, .slice none 0 0]) K8'.out 0 (.int .i64 0) rfl) 1 (.slice none 0 0) rfl
    have HBX := below_set (j := 1) (v := .slice none 0 0) (below_set (j := 0) (v := .int .i64 0) HB2.out hg8w) hg8w
    refine bodyPost_ret (results_put _ _ g8 0 e1 _ rfl rfl HX) rfl ?_
    exact ⟨_, rfl, Kd.R_nil _ _ _ _ _, HBX⟩
theorem shape_Put.calls (k : Nat) (a0_0 : Int) (A0_1 : Option Addr) (c0_1 : Nat) (l0_1 : List S54) (a1 : ByteArray) (A2 : Option Addr) (c2 : Nat) (l2 : List Int) (a3 : Bool) (r1 : Int) (r2 : List S54) (r3 : Int) (w : World) (hr0_1 : Kd.C k54 w A0_1 l0_1.length l0_1) (hc0_1 : l0_1.length ≤ c0_1) (hr2 : Kd.C (Kd.int .i64) w A2 l2.length l2) (hc2 : l2.length ≤ c2) (h : shape_Put.f k a0_0 l0_1 a1 l2 a3 = some (r1, r2, r3)) :
    Calls Tryd.prog 29 #[.agg #[.int .i64 a0_0, .slice A0_1 l0_1.length c0_1], .string a1, .slice A2 l2.length c2, .bool a3] w fun e w' => ∃ v1_ : Value, e = .returned (.tuple #[.agg #[.int .i64 r1, v1_], .int .i64 r3]) ∧ Kd.R k54 54 w' w.heap.size (fun _ => True) v1_ r2 ∧ Below w.heap.size w w' :=
  put_calls k a0_0 A0_1 c0_1 l0_1 a1 A2 c2 l2 a3 (r1, r2, r3) w hr0_1 hc0_1 hr2 hc2 h
end Go.Proofs.YtfmpaofbnjlniaaDoor.F
/- What Has and Put answer at valid structures; plain lemmas. -/
namespace Go.Proofs.YtfmpaofbnjlniaaDoor.F
open Go.RowKit Go.Proofs.YtfmpaofbnjlniaaDoorW.PrintWords Go.Proofs.YtfmpaofbnjlniaaDoorW.PrintLast Go.Proofs.YtfmpaofbnjlniaaDoorW.PrintMore
set_option linter.unusedVariables false
/-! ### the lexicographic order -/
theorem lex_irr : ∀ x : List Int, lexL x x = false
  | [] => rfl
  | a :: x => by unfold lexL; rw [if_pos rfl]; exact lex_irr x
theorem lex_trans : ∀ x y z : List Int, x.length = y.length → y.length = z.length → lexL x y = true → lexL y z = true → lexL x z = true
  | [], y, z, h1, h2, h, _ => by unfold lexL at h; cases h
  | a :: x, [], z, h1, h2, h, _ => by simp at h1
  | a :: x, b :: y, [], h1, h2, h, _ => by simp at h2
  | a :: x, b :: y, c :: z, h1, h2, h, h' => by
    unfold lexL at h h' ⊢
    simp only [List.length_cons] at h1 h2
    by_cases e1 : a = b
    · by_cases e2 : b = c
      · rw [if_pos e1] at h
        rw [if_pos e2] at h'
        rw [if_pos (e1.trans e2)]
        exact lex_trans x y z (by omega) (by omega) h h'
      · rw [if_neg e2, decide_eq_true_eq] at h'
        rw [if_neg (by omega), decide_eq_true_eq]; omega
    · rw [if_neg e1, decide_eq_true_eq] at h
      by_cases e2 : b = c
      · rw [if_neg (by omega), decide_eq_true_eq]; omega
      · rw [if_neg e2, decide_eq_true_eq] at h'
        rw [if_neg (by omega), decide_eq_true_eq]; omega
theorem lex_tri : ∀ x y : List Int, x.length = y.length → lexL x y = false → x ≠ y → lexL y x = true
  | [], [], _, _, h => absurd rfl h
  | [], _ :: _, h, _, _ => by simp at h
  | _ :: _, [], h, _, _ => by simp at h
  | a :: x, b :: y, h1, h, hne => by
    unfold lexL at h ⊢
    by_cases e : a = b
    · rw [if_pos e] at h
      rw [if_pos e.symm]
      exact lex_tri x y (by simpa using h1) h (fun e2 => hne (by rw [e, e2]))
    · rw [if_neg e, decide_eq_false_iff_not] at h
      rw [if_neg (fun e2 => e e2.symm), decide_eq_true_eq]; omega
theorem cmp_loop (x y : List Int) (hl : x.length = y.length) (hx : x.length ≤ 100000) : ∀ (j i k : Nat), i + j = x.length → j + 1 ≤ k → ∃ c, slices_Compare_int_int.l0 k x y x (x.length : Int) (i : Int) = some c ∧ (c < 0 ↔ lexL (x.drop i) (y.drop i) = true) ∧ (c = 0 ↔ x.drop i = y.drop i)
  | 0, i, k + 1, h, hk => by
    refine ⟨0, ?_, ?_, ?_⟩
    · unfold slices_Compare_int_int.l0; rw [if_neg (by omega), if_neg (by omega)]
    · rw [List.drop_eq_nil_of_le (by omega)]; simp [lexL]
    · rw [List.drop_eq_nil_of_le (by omega), List.drop_eq_nil_of_le (by omega)]; simp
  | j + 1, i, k + 1, h, hk => by
    have hi : i < x.length := by omega
    have hi2 : i < y.length := by omega
    unfold slices_Compare_int_int.l0
    rw [if_pos (by omega), if_pos (by omega), if_pos (by omega), if_neg (by omega), if_pos (by omega), rd_nat x i hi, rd_nat y i hi2, List.drop_eq_getElem_cons hi, List.drop_eq_getElem_cons hi2, w64 (by omega) (by omega)]
    unfold cmp_Compare_int.f cmp_isNaN_int.f lexL
    simp only [bne_self_eq_false, Option.bind_some, Bool.false_eq_true, if_false]
    rcases Int.lt_trichotomy x[i] y[i] with h1 | h1 | h1
    · exact ⟨-1, by simp [h1], by rw [if_neg (by omega)]; simp [h1], ⟨fun e => by omega, fun e => by have := (List.cons.inj e).1; omega⟩⟩
    · obtain ⟨c, hc, hd, he⟩ := cmp_loop x y hl hx j (i + 1) k (by omega) (by omega)
      rw [show ((i + 1 : Nat) : Int) = (i : Int) + 1 by omega] at hc
      exact ⟨c, by simp [h1, hc], by rw [if_pos h1]; exact hd, by rw [he]; exact ⟨fun e => by rw [h1, e], fun e => (List.cons.inj e).2⟩⟩
    · exact ⟨1, by simp [h1, show ¬ x[i] < y[i] by omega], by rw [if_neg (by omega)]; simp; omega, ⟨fun e => by omega, fun e => by have := (List.cons.inj e).1; omega⟩⟩
theorem cmp_eq (x y : List Int) (hl : x.length = y.length) (hx : x.length ≤ 100000) (k : Nat) (hk : x.length + 1 ≤ k) : ∃ c, slices_Compare_int_int.f k x y = some c ∧ (c < 0 ↔ lexL x y = true) ∧ (c = 0 ↔ x = y) :=
  cmp_loop x y hl hx x.length 0 k (by omega) (by omega)
/-! ### the binary search -/
def Sorted (ts : List (List Int)) : Prop := ts.Pairwise (fun a b => lexL a b = true)
/-- The place of t in ts. -/
def PlaceOf (ts : List (List Int)) (t : List Int) (q : Nat) (b : Bool) : Prop := q ≤ ts.length ∧ (∀ a ∈ ts.take q, lexL a t = true) ∧ (∀ a ∈ ts.drop q, lexL a t = false) ∧ (b = true ↔ ∃ h : q < ts.length, ts[q] = t)
theorem mid_eq (lo hi : Nat) (h : lo ≤ hi) (h2 : hi ≤ 100000) : wrap64 ((IntKind.u64.wrap (wrap64 ((lo : Int) + (hi : Int)))) / 2) = (((lo + hi) / 2 : Nat) : Int) := by
  rw [w64 (x := (lo : Int) + hi) (by omega) (by omega), IntKind.wrap_u64, w64 (by omega) (by omega)]
  omega
theorem search_loop (ts : List (List Int)) (t : List Int) (m : Nat) (hm : m ≤ 1000) (hlt : t.length = m) (hl : ∀ a ∈ ts, a.length = m) (hs : Sorted ts) (hn : ts.length ≤ 100000) : ∀ (d lo hi k : Nat), lo ≤ hi → hi ≤ ts.length → hi - lo ≤ d → d + m + 3 ≤ k →
    (∀ (i : Nat) (h : i < ts.length), i < lo → lexL ts[i] t = true) → (∀ (i : Nat) (h : i < ts.length), hi ≤ i → lexL ts[i] t = false) →
    ∃ (q : Nat) (b : Bool), slices_BinarySearchFunc_int_int_int.l0 k ts t (ts.length : Int) (lo : Int) (hi : Int) = some ((q : Int), b) ∧ PlaceOf ts t q b
  | 0, lo, hi, k + 1, h1, h2, h3, h4, hp, hq => by
    obtain rfl : lo = hi := by omega
    have T1 : ∀ a ∈ ts.take lo, lexL a t = true := fun a ha => by
      obtain ⟨i, hi, rfl⟩ := List.getElem_of_mem ha
      rw [List.length_take] at hi
      rw [List.getElem_take]
      exact hp i (by omega) (by omega)
    have T2 : ∀ a ∈ ts.drop lo, lexL a t = false := fun a ha => by
      obtain ⟨i, hi, rfl⟩ := List.getElem_of_mem ha
      rw [List.length_drop] at hi
      rw [List.getElem_drop]
      exact hq _ (by omega) (by omega)
    unfold slices_BinarySearchFunc_int_int_int.l0
    rw [if_neg (by omega)]
    by_cases hlo : lo < ts.length
    · obtain ⟨c, hc, _, h0⟩ := cmp_eq ts[lo] t (by rw [hl _ (List.getElem_mem hlo), hlt]) (by rw [hl _ (List.getElem_mem hlo)]; omega) k (by rw [hl _ (List.getElem_mem hlo)]; omega)
      rw [if_pos (by omega), if_pos (by omega), if_pos (by omega), rdL2_nat ts lo hlo, hc]
      exact ⟨lo, _, rfl, h2, T1, T2, by rw [beq_iff_eq, h0]; exact ⟨fun e => ⟨hlo, e⟩, fun ⟨_, e⟩ => e⟩⟩
    · rw [if_neg (by omega)]
      exact ⟨lo, false, rfl, h2, T1, T2, by simp; omega⟩
  | d + 1, lo, hi, k + 1, h1, h2, h3, h4, hp, hq => by
    by_cases hlh : lo < hi
    · have hmid := mid_eq lo hi h1 (by omega)
      have hm1 : (lo + hi) / 2 < ts.length := by omega
      unfold slices_BinarySearchFunc_int_int_int.l0
      rw [if_pos (by omega)]
      simp only [hmid]
      rw [if_pos (by omega), if_pos (by omega), rdL2_nat ts _ hm1]
      obtain ⟨c, hc, hlx, _⟩ := cmp_eq ts[(lo + hi) / 2] t (by rw [hl _ (List.getElem_mem hm1), hlt]) (by rw [hl _ (List.getElem_mem hm1)]; omega) k (by rw [hl _ (List.getElem_mem hm1)]; omega)
      rw [hc]
      simp only [Option.bind_some]
      have hpw := List.pairwise_iff_getElem.1 hs
      by_cases hc0 : c < 0
      · rw [if_pos hc0, w64 (by omega) (by omega), show (((lo + hi) / 2 : Nat) : Int) + 1 = (((lo + hi) / 2 + 1 : Nat) : Int) by omega]
        refine search_loop ts t m hm hlt hl hs hn d ((lo + hi) / 2 + 1) hi k (by omega) h2 (by omega) (by omega) (fun i h hi' => ?_) hq
        by_cases e : i = (lo + hi) / 2
        · subst e; exact hlx.1 hc0
        · exact lex_trans _ _ _ (by rw [hl _ (List.getElem_mem h), hl _ (List.getElem_mem hm1)]) (by rw [hl _ (List.getElem_mem hm1), hlt]) (hpw i _ h hm1 (by omega)) (hlx.1 hc0)
      · rw [if_neg hc0]
        refine search_loop ts t m hm hlt hl hs hn d lo ((lo + hi) / 2) k (by omega) (by omega) (by omega) (by omega) hp (fun i h hi' => ?_)
        have hf : lexL ts[(lo + hi) / 2] t = false := by
          cases hb : lexL ts[(lo + hi) / 2] t with
          | false => rfl
          | true => exact absurd (hlx.2 hb) hc0
        by_cases e : i = (lo + hi) / 2
        · subst e; exact hf
        · cases hb : lexL ts[i] t with
          | false => rfl
          | true =>
            have := lex_trans _ _ _ (by rw [hl _ (List.getElem_mem hm1), hl _ (List.getElem_mem h)]) (by rw [hl _ (List.getElem_mem h), hlt]) (hpw _ i hm1 h (by omega)) hb
            rw [hf] at this; cases this
    · exact search_loop ts t m hm hlt hl hs hn d lo hi (k + 1) h1 h2 (by omega) (by omega) hp hq
theorem search_eq (ts : List (List Int)) (t : List Int) (m : Nat) (hm : m ≤ 1000) (hlt : t.length = m) (hl : ∀ a ∈ ts, a.length = m) (hs : Sorted ts) (hn : ts.length ≤ 5000) : ∃ (q : Nat) (b : Bool), PlaceOf ts t q b ∧ ∀ k, 7000 ≤ k → slices_BinarySearchFunc_int_int_int.f k ts t = some ((q : Int), b) := by
  obtain ⟨q, b, h, hp⟩ := search_loop ts t m hm hlt hl hs (by omega) ts.length 0 ts.length 7000 (by omega) (Nat.le_refl _) (by omega) (by omega) (fun i _ h => by omega) (fun i _ h => by omega)
  exact ⟨q, b, hp, fun k hk => at_rounds (slices_BinarySearchFunc_int_int_int.mono _ _) hk h⟩
theorem place_mem {ts : List (List Int)} {t : List Int} {q : Nat} {b : Bool} (h : PlaceOf ts t q b) (hs : Sorted ts) (m : Nat) (hlt : t.length = m) (hl : ∀ a ∈ ts, a.length = m) : b = true ↔ t ∈ ts := by
  obtain ⟨h1, h2, h3, h4⟩ := h
  rw [h4]
  constructor
  · rintro ⟨hq, e⟩
    rw [← e]; exact List.getElem_mem hq
  · intro ht
    rw [← List.take_append_drop q ts, List.mem_append] at ht
    rcases ht with ht | ht
    · have := h2 t ht
      rw [lex_irr] at this; cases this
    · have hq : q < ts.length := by
        have := List.length_pos_of_mem ht
        rw [List.length_drop] at this; omega
      refine ⟨hq, ?_⟩
      rw [List.drop_eq_getElem_cons hq] at ht
      rcases List.mem_cons.1 ht with ht | ht
      · exact ht.symm
      · have hp : Sorted (ts.drop q) := List.Pairwise.sublist (List.drop_sublist q ts) hs
        rw [List.drop_eq_getElem_cons hq] at hp
        have := (List.pairwise_cons.1 hp).1 t ht
        rw [h3 _ (by rw [List.drop_eq_getElem_cons hq]; exact List.mem_cons_self)] at this
        cases this
/-! ### inserting, deleting -/
theorem ins_mem (ts : List (List Int)) (q : Nat) (t a : List Int) : a ∈ insAt ts q t ↔ a = t ∨ a ∈ ts := by
  unfold insAt
  conv => rhs; rw [← List.take_append_drop q ts]
  simp only [List.mem_append, List.mem_singleton]
  constructor
  · rintro ((h | h) | h)
    · exact Or.inr (Or.inl h)
    · exact Or.inl h
    · exact Or.inr (Or.inr h)
  · rintro (h | h | h)
    · exact Or.inl (Or.inr h)
    · exact Or.inl (Or.inl h)
    · exact Or.inr h
theorem ins_sorted {ts : List (List Int)} {t : List Int} {q : Nat} {b : Bool} (h : PlaceOf ts t q b) (hs : Sorted ts) (m : Nat) (hlt : t.length = m) (hl : ∀ a ∈ ts, a.length = m) (hn : t ∉ ts) : Sorted (insAt ts q t) := by
  obtain ⟨h1, h2, h3, h4⟩ := h
  unfold Sorted at hs ⊢
  rw [← List.take_append_drop q ts, List.pairwise_append] at hs
  obtain ⟨s1, s2, s3⟩ := hs
  have hd : ∀ a ∈ ts.drop q, lexL t a = true := fun a ha => lex_tri a t (by rw [hl a (List.mem_of_mem_drop ha), hlt]) (h3 a ha) (fun e => hn (e ▸ List.mem_of_mem_drop ha))
  unfold insAt
  rw [List.pairwise_append, List.pairwise_append]
  refine ⟨⟨s1, List.pairwise_singleton _ _, fun a ha b hb => by rw [List.mem_singleton.1 hb]; exact h2 a ha⟩, s2, fun a ha b hb => ?_⟩
  rcases List.mem_append.1 ha with ha | ha
  · exact s3 a ha b hb
  · rw [List.mem_singleton.1 ha]; exact hd b hb
theorem del_sub (ts : List (List Int)) (q : Nat) : List.Sublist (delAt ts q) ts := by
  have := List.eraseIdx_sublist ts q
  rwa [List.eraseIdx_eq_take_drop_succ] at this
theorem del_mem (ts : List (List Int)) (q : Nat) (hq : q < ts.length) (a : List Int) (ha : a ∈ ts) : a ∈ delAt ts q ∨ a = ts[q] := by
  rw [← List.take_append_drop q ts, List.mem_append, List.drop_eq_getElem_cons hq, List.mem_cons] at ha
  unfold delAt
  rw [List.mem_append]
  rcases ha with h | h | h
  · exact Or.inl (Or.inl h)
  · exact Or.inr h
  · exact Or.inl (Or.inr h)
theorem del_not {ts : List (List Int)} {q : Nat} (hq : q < ts.length) (hs : Sorted ts) : ts[q] ∉ delAt ts q := by
  intro h
  unfold Sorted at hs
  rw [← List.take_append_drop q ts, List.pairwise_append, List.drop_eq_getElem_cons hq, List.pairwise_cons] at hs
  obtain ⟨_, ⟨s2, _⟩, s3⟩ := hs
  unfold delAt at h
  rcases List.mem_append.1 h with h | h
  · have := s3 _ h _ List.mem_cons_self
    rw [lex_irr] at this; cases this
  · have := s2 _ h
    rw [lex_irr] at this; cases this
end Go.Proofs.YtfmpaofbnjlniaaDoor.F
