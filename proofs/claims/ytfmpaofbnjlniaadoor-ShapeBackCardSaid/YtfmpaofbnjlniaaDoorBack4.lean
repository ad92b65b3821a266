/- Part 4 of the proof: ShapeBack: for every structure and every string, Parse inverts Text, and a string that Parse accepts is the text of the structure parsed; no condition. -/
import Derived.Test.YtfmpaofbnjlniaaDoorBack3
import Derived.Lib.SplitLaws
/- Power, Rank, Tuple: the program's and the document's are the same; alive. -/
namespace Go.Proofs.YtfmpaofbnjlniaaDoor.F
open Go.RowKit Go.Proofs.YtfmpaofbnjlniaaDoorW.PrintWords Go.Proofs.YtfmpaofbnjlniaaDoorW.PrintLast Go.Proofs.YtfmpaofbnjlniaaDoorW.PrintMore
set_option linter.unusedVariables false
theorem w64 {x : Int} (h0 : -9223372036854775808 ≤ x) (h1 : x ≤ 9223372036854775807) : wrap64 x = x := by unfold wrap64; omega
theorem pow_both (n m : Int) (hn1 : 1 ≤ n) (hn2 : n ≤ 64) (hm : m ≤ 12) : ∀ (j : Nat) (p i : Int) (k : Nat), 1 ≤ p → p ≤ 4096 → 0 ≤ i → i + j = m → j + 1 ≤ k →
    ∃ q : Int, 1 ≤ q ∧ paraphrastref01_Pow.l0 k n m p i = some q ∧ shape_power.l0 k n 4096 p m i = some (if q > 4096 then -1 else q)
  | 0, p, i, k + 1, h1, h2, h3, h4, h5 => ⟨p, h1, by unfold paraphrastref01_Pow.l0; rw [if_neg (by omega)], by unfold shape_power.l0; rw [if_neg (by omega), if_neg (by omega)]⟩
  | j + 1, p, i, k + 1, h1, h2, h3, h4, h5 => by
    have e1 : p * n ≤ 4096 * 64 := Int.mul_le_mul h2 hn2 (by omega) (by omega)
    have e2 : 1 * 1 ≤ p * n := Int.mul_le_mul h1 hn1 (by omega) (by omega)
    have w1 : wrap64 (p * n) = p * n := w64 (by omega) (by omega)
    have w2 : wrap64 (i + 1) = i + 1 := w64 (by omega) (by omega)
    unfold paraphrastref01_Pow.l0 shape_power.l0
    rw [if_pos (by omega), if_pos (by omega), if_pos (by omega), w1, w2]
    by_cases hb : p * n > 4096
    · rw [if_pos hb]
      obtain ⟨k', rfl⟩ : ∃ k', k = k' + 1 := ⟨k - 1, by omega⟩
      refine ⟨p * n, by omega, ?_, by rw [if_pos hb]⟩
      unfold paraphrastref01_Pow.l0
      split
      · rw [if_neg (by omega)]
      · rfl
    · rw [if_neg hb]
      exact pow_both n m hn1 hn2 hm j (p * n) (i + 1) k (by omega) (by omega) (by omega) (by omega) (by omega)
theorem rd_nat (l : List Int) (i : Nat) (h : i < l.length) : rd l (i : Int) = l[i] := by unfold rd; rw [Int.toNat_natCast, List.getD_eq_getElem?_getD, List.getElem?_eq_getElem h]; rfl
theorem equal_refl (l : List Int) (hl : l.length ≤ 9000000000000000000) : ∀ (j i k : Nat), i + j = l.length → j + 1 ≤ k → paraphrastref01_Equal.l0 k l l (i : Int) = some true
  | 0, i, k + 1, h, hk => by unfold paraphrastref01_Equal.l0; rw [if_neg (by omega)]
  | j + 1, i, k + 1, h, hk => by
    unfold paraphrastref01_Equal.l0
    rw [if_pos (by omega), if_pos (by omega), if_pos (by omega), if_pos rfl, w64 (by omega) (by omega)]
    exact equal_refl l hl j (i + 1) k (by omega) (by omega)
theorem equal_same (l : List Int) (hl : l.length ≤ 1000) (k : Nat) (hk : 1100 ≤ k) : paraphrastref01_Equal.f k l l = some true := by
  unfold paraphrastref01_Equal.f
  rw [if_pos rfl]
  exact equal_refl l (by omega) l.length 0 k (by omega) (by omega)
theorem alive_true : ∃ K, ∀ k, K ≤ k → paraphrastlaw01_alive.f k = some true := by
  have hparse : ∀ k, 100 ≤ k → shape_Parse.f k (⟨#[51, 59, 32, 69, 47, 50, 32, 48, 44, 49, 32, 49, 44, 50, 59, 32, 80, 47, 49, 32, 50, 59, 32, 81, 47, 48, 32, 40, 41]⟩ : ByteArray) = some (3, [⟨⟨#[69]⟩, 2, [[0, 1], [1, 2]]⟩, ⟨⟨#[80]⟩, 1, [[2]]⟩, ⟨⟨#[81]⟩, 0, [[]]⟩], 0) := by
    intro k hk
    have hp : parseB (⟨#[51, 59, 32, 69, 47, 50, 32, 48, 44, 49, 32, 49, 44, 50, 59, 32, 80, 47, 49, 32, 50, 59, 32, 81, 47, 48, 32, 40, 41]⟩ : ByteArray) = some (3, [⟨⟨#[69]⟩, 2, [[0, 1], [1, 2]]⟩, ⟨⟨#[80]⟩, 1, [[2]]⟩, ⟨⟨#[81]⟩, 0, [[]]⟩]) := by kernel_rfl
    have hv : shape_Valid.f k 3 [⟨⟨#[69]⟩, 2, [[0, 1], [1, 2]]⟩, ⟨⟨#[80]⟩, 1, [[2]]⟩, ⟨⟨#[81]⟩, 0, [[]]⟩] = some true := at_rounds (shape_Valid.mono _ _) hk (by kernel_rfl)
    have hw : shape_write.f 3 [⟨⟨#[69]⟩, 2, [[0, 1], [1, 2]]⟩, ⟨⟨#[80]⟩, 1, [[2]]⟩, ⟨⟨#[81]⟩, 0, [[]]⟩] = some (⟨#[51, 59, 32, 69, 47, 50, 32, 48, 44, 49, 32, 49, 44, 50, 59, 32, 80, 47, 49, 32, 50, 59, 32, 81, 47, 48, 32, 40, 41]⟩ : ByteArray) := by
      unfold shape_write.f
      rw [if_pos]
      · kernel_rfl
      · refine ⟨by decide, ?_, ?_⟩
        · simp
        · exact of_decide_eq_true (by kernel_rfl)
    unfold shape_Parse.f
    rw [if_neg (by decide), hp]
    unfold parseEnd
    simp only [hv, Option.bind_some, if_true, hw]
  have hrank : ∀ k, 100 ≤ k → shape_Rank.f k 3 [1, 2] = some (5, 0) := fun k hk => at_rounds (shape_Rank.mono _ _) hk (by kernel_rfl)
  have htup : ∀ k, 100 ≤ k → shape_Tuple.f k 2 3 5 = some ([1, 0, 1], 0) := fun k hk => at_rounds (shape_Tuple.mono _ _ _) hk (by kernel_rfl)
  have hhas : ∀ k, 100 ≤ k → shape_Has.f k 3 [⟨⟨#[69]⟩, 2, [[0, 1], [1, 2]]⟩, ⟨⟨#[80]⟩, 1, [[2]]⟩, ⟨⟨#[81]⟩, 0, [[]]⟩] (⟨#[69]⟩ : ByteArray) [1, 2] = some (true, 0) := fun k hk => at_rounds (shape_Has.mono _ _ _ _) hk (by kernel_rfl)
  have heq : ∀ k, 100 ≤ k → paraphrastref01_Equal.f k [1, 0, 1] [1, 0, 1] = some true := fun k hk => at_rounds (paraphrastref01_Equal.mono _ _) hk (by kernel_rfl)
  refine ⟨100, fun k hk => ?_⟩
  unfold paraphrastlaw01_alive.f
  rw [hparse k hk]
  simp only [Option.bind_some]
  rw [hrank k hk, htup k hk]
  simp only [Option.bind_some]
  rw [hhas k hk]
  simp only [Option.bind_some, if_true]
  rw [heq k hk]
  rfl
end Go.Proofs.YtfmpaofbnjlniaaDoor.F
/- Numbers of tuples: plain lemmas on Rank, Tuple and the lexicographic order. -/
namespace Go.Proofs.YtfmpaofbnjlniaaDoor.F
open Go.RowKit Go.Proofs.YtfmpaofbnjlniaaDoorW.PrintWords Go.Proofs.YtfmpaofbnjlniaaDoorW.PrintLast Go.Proofs.YtfmpaofbnjlniaaDoorW.PrintMore
set_option linter.unusedVariables false
def val (n a : Int) (l : List Int) : Int := l.foldl (fun a x => a * n + x) a
def lexL : List Int → List Int → Bool
  | x :: xs, y :: ys => if x = y then lexL xs ys else decide (x < y)
  | _, _ => false
theorem val_cons (n a x : Int) (l : List Int) : val n a (x :: l) = val n (a * n + x) l := rfl
theorem val_split (n : Int) : ∀ (l : List Int) (a : Int), val n a l = a * n ^ l.length + val n 0 l
  | [], a => by simp [val]
  | x :: l, a => by
    have e1 := val_split n l (a * n + x)
    have e2 := val_split n l (0 * n + x)
    rw [val_cons, val_cons, e1, e2, List.length_cons, Int.pow_succ]
    grind
theorem pow_pos' (n : Int) (hn : 1 ≤ n) : ∀ j : Nat, 1 ≤ n ^ j
  | 0 => by simp
  | j + 1 => by
    have := pow_pos' n hn j
    rw [Int.pow_succ]
    have := Int.mul_le_mul this hn (by omega) (by omega)
    omega
theorem val_cons0 (n x : Int) (l : List Int) : val n 0 (x :: l) = x * n ^ l.length + val n 0 l := by
  rw [val_cons, val_split n l (0 * n + x)]; grind
theorem val_bound (n : Int) (hn : 1 ≤ n) : ∀ (l : List Int), (∀ x ∈ l, 0 ≤ x ∧ x < n) → 0 ≤ val n 0 l ∧ val n 0 l < n ^ l.length
  | [], _ => by simp [val]
  | x :: l, h => by
    obtain ⟨h1, h2⟩ := val_bound n hn l (fun y hy => h y (List.mem_cons_of_mem _ hy))
    obtain ⟨h3, h4⟩ := h x List.mem_cons_self
    have hp := pow_pos' n hn l.length
    rw [val_cons0, List.length_cons, Int.pow_succ]
    generalize n ^ l.length = P at *
    have e1 : 0 ≤ x * P := Int.mul_nonneg h3 (by omega)
    have e2 : (x + 1) * P ≤ n * P := Int.mul_le_mul_of_nonneg_right (by omega) (by omega)
    rw [Int.add_mul, Int.one_mul, Int.mul_comm n P] at e2
    omega
theorem val_order (n : Int) (hn : 1 ≤ n) : ∀ (x y : List Int), x.length = y.length → (∀ t ∈ x, 0 ≤ t ∧ t < n) → (∀ t ∈ y, 0 ≤ t ∧ t < n) →
    decide (val n 0 x < val n 0 y) = lexL x y ∧ (val n 0 x == val n 0 y) = (x == y)
  | [], [], _, _, _ => by simp [val, lexL]
  | [], _ :: _, h, _, _ => by simp at h
  | _ :: _, [], h, _, _ => by simp at h
  | a :: x, b :: y, hl, hx, hy => by
    have hl' : x.length = y.length := by simpa using hl
    have hx' := fun t ht => hx t (List.mem_cons_of_mem _ ht)
    have hy' := fun t ht => hy t (List.mem_cons_of_mem _ ht)
    obtain ⟨i1, i2⟩ := val_order n hn x y hl' hx' hy'
    obtain ⟨b1, b2⟩ := val_bound n hn x hx'
    obtain ⟨b3, b4⟩ := val_bound n hn y hy'
    have hp := pow_pos' n hn x.length
    rw [val_cons0, val_cons0, ← hl']
    rw [← hl'] at b4
    generalize n ^ x.length = P at *
    rcases Int.lt_trichotomy a b with h | h | h
    · have e : (a + 1) * P ≤ b * P := Int.mul_le_mul_of_nonneg_right (by omega) (by omega)
      rw [Int.add_mul, Int.one_mul] at e
      refine ⟨?_, ?_⟩
      · unfold lexL
        rw [if_neg (by omega), decide_eq_true h, decide_eq_true_eq]; omega
      · rw [beq_eq_false_iff_ne.2 (by omega), beq_eq_false_iff_ne.2 (by simp; omega)]
    · subst h
      refine ⟨?_, ?_⟩
      · unfold lexL
        rw [if_pos rfl, ← i1, decide_eq_decide]; omega
      · have : (a :: x == a :: y) = (x == y) := by simp
        rw [this, ← i2]
        by_cases hv : val n 0 x = val n 0 y
        · rw [beq_iff_eq.2 hv, beq_iff_eq.2 (by omega)]
        · rw [beq_eq_false_iff_ne.2 hv, beq_eq_false_iff_ne.2 (by omega)]
    · have e : (b + 1) * P ≤ a * P := Int.mul_le_mul_of_nonneg_right (by omega) (by omega)
      rw [Int.add_mul, Int.one_mul] at e
      refine ⟨?_, ?_⟩
      · unfold lexL
        rw [if_neg (by omega), decide_eq_false (by omega : ¬ a < b), decide_eq_false_iff_not]; omega
      · rw [beq_eq_false_iff_ne.2 (by omega), beq_eq_false_iff_ne.2 (by simp; omega)]
theorem pow_exact (n m : Int) (hn1 : 1 ≤ n) (hn2 : n ≤ 64) (hm : m ≤ 12) : ∀ (j : Nat) (p i : Int) (k : Nat) (q : Int), 1 ≤ p → p ≤ 4096 → 0 ≤ i → i + j = m → paraphrastref01_Pow.l0 k n m p i = some q → q ≤ 4096 → q = p * n ^ j
  | j, p, i, 0, q, h1, h2, h3, h4, h5, h6 => by simp [paraphrastref01_Pow.l0] at h5
  | 0, p, i, k + 1, q, h1, h2, h3, h4, h5, h6 => by
    unfold paraphrastref01_Pow.l0 at h5
    rw [if_neg (by omega)] at h5
    obtain rfl := Option.some.inj h5
    simp
  | j + 1, p, i, k + 1, q, h1, h2, h3, h4, h5, h6 => by
    have e1 : p * n ≤ 4096 * 64 := Int.mul_le_mul h2 hn2 (by omega) (by omega)
    have e2 : 1 * 1 ≤ p * n := Int.mul_le_mul h1 hn1 (by omega) (by omega)
    unfold paraphrastref01_Pow.l0 at h5
    rw [if_pos (by omega), if_pos (by omega), w64 (x := p * n) (by omega) (by omega), w64 (x := i + 1) (by omega) (by omega)] at h5
    by_cases hb : p * n ≤ 4096
    · rw [pow_exact n m hn1 hn2 hm j (p * n) (i + 1) k q (by omega) hb (by omega) (by omega) h5 h6, Int.pow_succ]
      grind
    · exfalso
      cases k with
      | zero => simp [paraphrastref01_Pow.l0] at h5
      | succ k =>
        unfold paraphrastref01_Pow.l0 at h5
        split at h5
        · (try rw [if_neg hb] at h5)
          have := Option.some.inj h5; omega
        · have := Option.some.inj h5; omega
end Go.Proofs.YtfmpaofbnjlniaaDoor.F
/- Names, tuples, relations, structures: what Name, tuples, rel and Valid answer, as plain Bools; the program's and the document's. -/
namespace Go.Proofs.YtfmpaofbnjlniaaDoor.F
open Go.RowKit Go.Proofs.YtfmpaofbnjlniaaDoorW.PrintWords Go.Proofs.YtfmpaofbnjlniaaDoorW.PrintLast Go.Proofs.YtfmpaofbnjlniaaDoorW.PrintMore
set_option linter.unusedVariables false
def letB (c : Int) : Bool := (decide (97 ≤ c) && decide (c ≤ 122)) || (decide (65 ≤ c) && decide (c ≤ 90))
def digB (c : Int) : Bool := decide (48 ≤ c) && decide (c ≤ 57)
theorem letter_eq (c : Int) : shape_letter.f c = some (letB c) := by
  unfold shape_letter.f letB
  simp only [ge_iff_le]
  by_cases h1 : 97 ≤ c <;> by_cases h2 : c ≤ 122 <;> by_cases h3 : 65 ≤ c <;> by_cases h4 : c ≤ 90 <;> simp [h1, h2, h3, h4]
theorem digit_eq (c : Int) : shape_digit.f c = some (digB c) := by
  unfold shape_digit.f digB
  split <;> simp <;> omega
def wordB (s : ByteArray) : Bool := (shape_word.f s).getD false
theorem word_eq (s : ByteArray) : shape_word.f s = some (wordB s) := by
  unfold wordB shape_word.f
  repeat' split
  all_goals rfl
/-- The d bytes from i on are letters or digits. -/
def restB (s : ByteArray) : Nat → Nat → Bool
  | 0, _ => true
  | d + 1, i => (letB (bt s i) || digB (bt s i)) && restB s d (i + 1)
def nameB (s : ByteArray) : Bool := decide (1 ≤ s.size) && decide (s.size ≤ 12) && letB (bt s 0) && !wordB s && restB s (s.size - 1) 1
theorem name_loop (s : ByteArray) (hs : s.size ≤ 12) : ∀ (d i k : Nat), i + d = s.size → d + 1 ≤ k → shape_Name.l0 k s (s.size : Int) (i : Int) = some (restB s d i)
  | 0, i, k + 1, h, hk => by unfold shape_Name.l0; rw [if_neg (by omega)]; rfl
  | d + 1, i, k + 1, h, hk => by
    unfold shape_Name.l0 restB
    have ih := name_loop s hs d (i + 1) k (by omega) (by omega)
    rw [show ((i + 1 : Nat) : Int) = (i : Int) + 1 by omega] at ih
    rw [if_pos (by omega), if_pos (by omega), if_pos (by omega), letter_eq, digit_eq, w64 (by omega) (by omega), ih]
    simp only [Option.bind_some]
    cases letB (bt s i) <;> cases digB (bt s i) <;> rfl
theorem toList_loop (bs : ByteArray) : ∀ (d i : Nat) (r : List UInt8), i + d = bs.size → ByteArray.toList.loop bs i r = r.reverse ++ bs.data.toList.drop i
  | 0, i, r, h => by
    have hl : bs.data.toList.length = bs.size := data_length bs
    unfold ByteArray.toList.loop
    rw [if_neg (by omega), List.drop_eq_nil_of_le (by omega), List.append_nil]
  | d + 1, i, r, h => by
    have hl : bs.data.toList.length = bs.size := data_length bs
    unfold ByteArray.toList.loop
    rw [if_pos (by omega), toList_loop bs d (i + 1) _ (by omega), List.drop_eq_getElem_cons (show i < bs.data.toList.length by omega), List.reverse_cons, List.append_assoc]
    have hi : i < bs.data.size := by rw [Array.length_toList] at hl; omega
    have : bs.get! i = bs.data.toList[i]'(by omega) := by
      show bs.data[i]! = _
      rw [getElem!_pos bs.data i hi]; simp
    rw [this]; rfl
theorem toList_data (s : ByteArray) : s.toList = s.data.toList := by
  unfold ByteArray.toList
  rw [toList_loop s s.size 0 [] (by omega)]; simp
theorem toList_inj {s t : ByteArray} (h : s.toList = t.toList) : s = t := by
  rw [toList_data, toList_data] at h
  cases s; cases t
  simp at h
  simp [h]
theorem toList_nil (s : ByteArray) : s.toList = ([] : List UInt8) ↔ s.size = 0 := by
  rw [toList_data, ← data_length s]
  exact (List.length_eq_zero_iff (l := s.data.toList)).symm
theorem name_eq (s : ByteArray) (k : Nat) (hk : 20 ≤ k) : shape_Name.f k s = some (nameB s) := by
  obtain ⟨k, rfl⟩ : ∃ k', k = k' + 1 := ⟨k - 1, by omega⟩
  unfold shape_Name.f nameB
  by_cases h0 : s.size = 0
  · rw [if_pos ((toList_nil s).2 h0)]; simp [shape_Name.j0, h0]
  · rw [if_neg (fun h => h0 ((toList_nil s).1 h))]
    by_cases h1 : (s.size : Int) > 12
    · rw [if_pos h1]; simp [shape_Name.j0, show ¬ s.size ≤ 12 by omega]
    · rw [if_neg h1, if_pos (by omega), letter_eq]
      simp only [Option.bind_some]
      cases hl : letB (bt s 0) with
      | false => simp [shape_Name.j0]
      | true =>
        rw [if_pos rfl, word_eq]
        simp only [Option.bind_some]
        cases hw : wordB s with
        | true => simp [shape_Name.j0]
        | false =>
          unfold shape_Name.j0
          simp only [Bool.false_eq_true, if_false]
          have := name_loop s (by omega) s.size 0 k (by omega) (by omega)
          rw [show ((0 : Nat) : Int) = 0 from rfl] at this
          rw [this]
          obtain ⟨m, hm⟩ : ∃ m, s.size = m + 1 := ⟨s.size - 1, by omega⟩
          rw [hm, restB, show ((0 : Nat) : Int) = 0 from rfl, hl]
          simp; omega
theorem compare_loop (x y : List Int) (hl : x.length = y.length) (hx : x.length ≤ 100000) : ∀ (j i k : Nat), i + j = x.length → j + 1 ≤ k → ∃ c, slices_Compare_int_int.l0 k x y x (x.length : Int) (i : Int) = some c ∧ decide (c ≥ 0) = !lexL (x.drop i) (y.drop i)
  | 0, i, k + 1, h, hk => by
    refine ⟨0, ?_, ?_⟩
    · unfold slices_Compare_int_int.l0; rw [if_neg (by omega), if_neg (by omega)]
    · rw [List.drop_eq_nil_of_le (by omega)]; rfl
  | j + 1, i, k + 1, h, hk => by
    have hi : i < x.length := by omega
    have hi2 : i < y.length := by omega
    unfold slices_Compare_int_int.l0
    rw [if_pos (by omega), if_pos (by omega), if_pos (by omega), if_neg (by omega), if_pos (by omega), rd_nat x i hi, rd_nat y i hi2, List.drop_eq_getElem_cons hi, List.drop_eq_getElem_cons hi2, w64 (by omega) (by omega)]
    unfold cmp_Compare_int.f cmp_isNaN_int.f lexL
    simp only [bne_self_eq_false, Option.bind_some, Bool.false_eq_true, if_false]
    rcases Int.lt_trichotomy x[i] y[i] with h1 | h1 | h1
    · exact ⟨-1, by simp [h1], by rw [if_neg (by omega), decide_eq_true h1]; rfl⟩
    · obtain ⟨c, hc, hd⟩ := compare_loop x y hl hx j (i + 1) k (by omega) (by omega)
      rw [show ((i + 1 : Nat) : Int) = (i : Int) + 1 by omega] at hc
      exact ⟨c, by simp [h1, hc], by rw [if_pos h1]; exact hd⟩
    · exact ⟨1, by simp [h1, show ¬ x[i] < y[i] by omega], by rw [if_neg (by omega), decide_eq_false (by omega : ¬ x[i] < y[i])]; rfl⟩
def tupV (n a : Int) (t : List Int) : Bool := decide ((t.length : Int) = a) && !t.any (outB n)
/-- The d tuples from i on are of this arity, in range, and each is above the one before it. -/
def tupsV (n a : Int) (l : List (List Int)) : Nat → Nat → Bool
  | 0, _ => true
  | d + 1, i => tupV n a (rd_L2 l i) && (decide (i = 0) || lexL (rd_L2 l ((i : Int) - 1)) (rd_L2 l i)) && tupsV n a l d (i + 1)
theorem elements_eq (n : Int) (t : List Int) : shape_elements.f n t = some (!t.any (outB n)) := rfl
/-- shape.tuples' loop: from i on, the tuple ahead of i having this arity. -/
theorem tuples_loop (n a : Int) (nm : ByteArray) (a1 : Int) (l : List (List Int)) (hl : l.length ≤ 9223372036854775807) (ha : a ≤ 12) : ∀ (d i k : Nat), i + d = l.length → d + 100 ≤ k → (0 < i → ((rd_L2 l ((i : Int) - 1)).length : Int) = a) →
    shape_tuples.l0 k n l (l.length : Int) (i : Int) nm a l = some (tupsV n a l d i)
  | 0, i, k + 1, h, hk, hp => by unfold shape_tuples.l0; rw [if_neg (by omega)]; rfl
  | d + 1, i, k + 1, h, hk, hp => by
    unfold shape_tuples.l0 tupsV tupV
    rw [if_pos (by omega), if_pos (by omega), if_pos (by omega), w64 (x := (i : Int) + 1) (by omega) (by omega), w64 (x := (i : Int) - 1) (by omega) (by omega)]
    by_cases h1 : ((rd_L2 l (i : Int)).length : Int) = a
    · rw [if_pos h1, elements_eq, decide_eq_true h1]
      simp only [Option.bind_some, Bool.true_and]
      have ih := tuples_loop n a nm a1 l hl ha d (i + 1) k (by omega) (by omega) (fun _ => by rw [show (((i + 1 : Nat) : Int) - 1) = (i : Int) by omega]; exact h1)
      rw [show ((i + 1 : Nat) : Int) = (i : Int) + 1 by omega] at ih
      cases hb : (rd_L2 l (i : Int)).any (outB n) with
      | true => simp
      | false =>
        simp only [Bool.not_false, if_true, Bool.true_and]
        by_cases h2 : (i : Int) > 0
        · rw [if_pos h2, if_pos (by omega), if_pos (by omega), decide_eq_false (by omega), Bool.false_or]
          have hp' := hp (by omega)
          obtain ⟨c, hc, hd⟩ := compare_loop (rd_L2 l ((i : Int) - 1)) (rd_L2 l (i : Int)) (by omega) (by omega) (rd_L2 l ((i : Int) - 1)).length 0 k (by omega) (by omega)
          unfold slices_Compare_int_int.f
          rw [show ((0 : Nat) : Int) = 0 from rfl] at hc
          rw [hc]
          simp only [Option.bind_some, List.drop_zero] at hd ⊢
          by_cases h3 : c ≥ 0
          · rw [if_pos h3]
            rw [decide_eq_true h3] at hd
            rw [show lexL (rd_L2 l ((i : Int) - 1)) (rd_L2 l (i : Int)) = false from (Bool.not_eq_true' _).mp hd.symm]
            rfl
          · rw [if_neg h3, ih]
            rw [decide_eq_false h3] at hd
            rw [show lexL (rd_L2 l ((i : Int) - 1)) (rd_L2 l (i : Int)) = true from (Bool.not_eq_false' _).mp hd.symm]
            rfl
        · rw [if_neg h2, ih, decide_eq_true (by omega)]
          rfl
    · rw [if_neg h1, decide_eq_false h1]
      rfl
/-! ### the document's functions -/
/-! ### relations and structures -/
def powOk (n a : Int) : Bool := match paraphrastref01_Pow.f 14 n a with | some q => decide (q ≤ 4096) | none => false
theorem pow_ok (n a : Int) (hn1 : 1 ≤ n) (hn2 : n ≤ 64) (h0 : 0 ≤ a) (h1 : a ≤ 12) (k : Nat) (hk : 14 ≤ k) : ∃ q, paraphrastref01_Pow.f k n a = some q ∧ shape_power.f k n a 4096 = some (if q > 4096 then -1 else q) ∧ 1 ≤ q ∧ powOk n a = decide (q ≤ 4096) := by
  obtain ⟨q, hq, e1, e2⟩ := pow_both n a hn1 hn2 h1 a.toNat 1 0 14 (by omega) (by omega) (by omega) (by omega) (by omega)
  have f1 : paraphrastref01_Pow.f 14 n a = some q := e1
  exact ⟨q, at_rounds (paraphrastref01_Pow.mono _ _) hk f1, at_rounds (shape_power.mono _ _ _) hk e2, hq, by unfold powOk; rw [f1]⟩
def relV (n : Int) (r : S54) : Bool := nameB r.f0 && decide (0 ≤ r.f1) && decide (r.f1 ≤ 12) && powOk n r.f1 && tupsV n r.f1 r.f2 r.f2.length 0
def relsV (n : Int) (l : List S54) : Nat → Nat → Bool
  | 0, _ => true
  | d + 1, i => relV n (rd_T54 l i) && !(l.take i).any (nameIs (rd_T54 l i).f0) && relsV n l d (i + 1)
def validB (n : Int) (l : List S54) : Bool := decide (1 ≤ n) && decide (n ≤ 64) && decide (l.length ≤ 8) && relsV n l l.length 0
theorem rdT_nat (l : List S54) (i : Nat) (h : i < l.length) : rd_T54 l (i : Int) = l[i] := by unfold rd_T54; rw [Int.toNat_natCast, List.getD_eq_getElem?_getD, List.getElem?_eq_getElem h]; rfl
theorem valid_j2 (k : Nat) (n : Int) (l : List S54) (i : Nat) (b : Bool) (f0 : ByteArray) (f1 : Int) (f2 : List (List Int)) (hi : i < l.length) (hl : l.length ≤ 8) :
    shape_Valid.j2 (k + 1) (i : Int) l (l.length : Int) (i : Int) b n l f0 f1 f2 = if b = true then some false else if (l.take i).any (nameIs f0) = true then some false else shape_Valid.l0 k l (l.length : Int) ((i + 1 : Nat) : Int) n l := by
  conv => lhs; unfold shape_Valid.j2
  cases b with
  | true => rfl
  | false =>
    simp only [Bool.false_eq_true, if_false]
    rw [if_pos (by omega), if_pos (by omega), w64 (by omega) (by omega), Int.toNat_natCast, show ((i + 1 : Nat) : Int) = (i : Int) + 1 by omega]
    rfl
theorem valid_loop (n : Int) (hn1 : 1 ≤ n) (hn2 : n ≤ 64) (l : List S54) (hl : l.length ≤ 8) (T : Nat) (hT : T ≤ 9223372036854775807) (hall : ∀ r ∈ l, r.f2.length ≤ T) : ∀ (d i k : Nat), i + d = l.length → d * 2 + T + 200 ≤ k →
    shape_Valid.l0 k l (l.length : Int) (i : Int) n l = some (relsV n l d i)
  | 0, i, k + 1, h, hk => by unfold shape_Valid.l0; rw [if_neg (by omega)]; rfl
  | d + 1, i, k + 1, h, hk => by
    have hi : i < l.length := by omega
    have hr := hall _ (List.getElem_mem hi)
    rw [← rdT_nat l i hi] at hr
    obtain ⟨k, rfl⟩ : ∃ k', k = k' + 1 := ⟨k - 1, by omega⟩
    have ih := valid_loop n hn1 hn2 l hl T hT hall d (i + 1) k (by omega) (by omega)
    unfold shape_Valid.l0 relsV
    rw [if_pos (by omega), if_pos (by omega), if_pos (by omega), name_eq _ _ (by omega)]
    generalize rd_T54 l (i : Int) = r at hr ⊢
    simp only [Option.bind_some, valid_j2 k n l i _ r.f0 r.f1 r.f2 hi hl, ih, if_true]
    unfold relV
    cases hn : nameB r.f0 with
    | false => simp
    | true =>
      by_cases h0 : r.f1 < 0
      · rw [if_pos rfl, if_pos h0, decide_eq_false (by omega)]; simp
      · by_cases h1 : r.f1 > 12
        · rw [if_pos rfl, if_neg h0, if_pos h1, decide_eq_false (by omega : ¬ r.f1 ≤ 12)]; simp
        · obtain ⟨q, _, e2, hq, e3⟩ := pow_ok n r.f1 hn1 hn2 (by omega) (by omega) (k + 1) (by omega)
          rw [if_pos rfl, if_neg h0, if_neg h1, e2, e3, decide_eq_true (by omega : 0 ≤ r.f1), decide_eq_true (by omega : r.f1 ≤ 12)]
          simp only [Option.bind_some]
          by_cases h2 : q > 4096
          · rw [if_pos h2, if_pos (by omega), decide_eq_false (by omega)]; simp
          · rw [if_neg h2, if_neg (by omega), decide_eq_true (by omega : q ≤ 4096)]
            have ht : shape_tuples.f (k + 1) n r.f0 r.f1 r.f2 = some (tupsV n r.f1 r.f2 r.f2.length 0) := tuples_loop n r.f1 r.f0 0 r.f2 (by omega) (by omega) r.f2.length 0 (k + 1) (by omega) (by omega) (by omega)
            rw [ht]
            simp only [Option.bind_some, Bool.true_and]
            cases tupsV n r.f1 r.f2 r.f2.length 0 <;> cases (l.take i).any (nameIs r.f0) <;> rfl
theorem valid_eq (n : Int) (l : List S54) (T : Nat) (hT : T ≤ 9223372036854775807) (hall : ∀ r ∈ l, r.f2.length ≤ T) (k : Nat) (hk : T + 300 ≤ k) : shape_Valid.f k n l = some (validB n l) := by
  obtain ⟨k, rfl⟩ : ∃ k', k = k' + 1 := ⟨k - 1, by omega⟩
  have hj : shape_Valid.j0 (k + 1) true n l = some false := rfl
  unfold shape_Valid.f validB
  by_cases h1 : n < 1
  · rw [if_pos h1, hj, decide_eq_false (by omega)]; rfl
  · rw [if_neg h1]
    by_cases h2 : n > 64
    · rw [if_pos h2, hj, decide_eq_false (by omega : ¬ n ≤ 64)]; simp
    · rw [if_neg h2, decide_eq_true (by omega : 1 ≤ n), decide_eq_true (by omega : n ≤ 64)]
      by_cases h3 : (l.length : Int) > 8
      · rw [decide_eq_true h3, hj, decide_eq_false (by omega)]; rfl
      · rw [decide_eq_false h3, decide_eq_true (by omega : l.length ≤ 8)]
        unfold shape_Valid.j0
        simp only [Bool.false_eq_true, if_false, Bool.true_and]
        exact valid_loop n (by omega) (by omega) l (by omega) T hT hall l.length 0 k (by omega) (by omega)
end Go.Proofs.YtfmpaofbnjlniaaDoor.F
/- Reading back what has been written: splitting a text whose parts do not hold the separator's first byte; the numbers 0 to 99; parseB of textL. -/
namespace Go.Proofs.YtfmpaofbnjlniaaDoor.F
open Go.RowKit Go.Proofs.YtfmpaofbnjlniaaDoorW.PrintWords
set_option linter.unusedVariables false
theorem index_hd (c : UInt8) (rest : List UInt8) : ∀ (A B : List UInt8), c ∉ A → Lib.index (A ++ (c :: rest ++ B)) (c :: rest) = A.length
  | [], B, _ => by
    rw [List.nil_append, List.cons_append]
    unfold Lib.index
    rw [if_pos (by rw [← List.cons_append]; exact List.isPrefixOf_iff_prefix.2 (List.prefix_append _ _))]; rfl
  | a :: A, B, h => by
    have ih := index_hd c rest A B (fun e => h (List.mem_cons_of_mem _ e))
    have ha : c ≠ a := fun e => h (e ▸ List.mem_cons_self)
    rw [List.cons_append]
    unfold Lib.index
    rw [if_neg (by simp [List.isPrefixOf, ha]), ih, if_neg (by simp <;> omega)]
    simp
theorem index_no (c : UInt8) (rest : List UInt8) : ∀ (A : List UInt8), c ∉ A → Lib.index A (c :: rest) = -1
  | [], _ => rfl
  | a :: A, h => by
    have ih := index_no c rest A (fun e => h (List.mem_cons_of_mem _ e))
    have ha : c ≠ a := fun e => h (e ▸ List.mem_cons_self)
    unfold Lib.index
    rw [if_neg (by simp [List.isPrefixOf, ha]), ih, if_pos (by decide)]
theorem split_no (c : UInt8) (rest A : List UInt8) (h : c ∉ A) : Lib.split A (c :: rest) = [A] := by
  unfold Lib.split
  rw [Lib.count_miss (index_no c rest A h)]; rfl
theorem split_hd (c : UInt8) (rest A B : List UInt8) (h : c ∉ A) : Lib.split (A ++ (c :: rest ++ B)) (c :: rest) = A :: Lib.split B (c :: rest) := by
  have hi := index_hd c rest A B h
  have hd : (A ++ (c :: rest ++ B)).drop (A.length + (c :: rest).length) = B := by
    rw [← List.append_assoc, List.drop_left' (by simp)]
  unfold Lib.split
  rw [Lib.count_hit (by simp) hi, hd, Nat.add_comm]
  conv => lhs; unfold Lib.splitK
  rw [hi, if_neg (by simp <;> omega), Int.toNat_natCast, hd, Nat.add_zero, List.take_left' rfl]
def joinR (s : List UInt8) : List (List UInt8) → List UInt8
  | [] => []
  | p :: ps => s ++ (p ++ joinR s ps)
theorem split_joinR (c : UInt8) (rest : List UInt8) : ∀ (ps : List (List UInt8)) (A : List UInt8), c ∉ A → (∀ p ∈ ps, c ∉ p) → Lib.split (A ++ joinR (c :: rest) ps) (c :: rest) = A :: ps
  | [], A, h, _ => by rw [joinR, List.append_nil, split_no c rest A h]
  | p :: ps, A, h, hp => by
    rw [joinR, split_hd c rest A _ h, split_joinR c rest ps p (hp p List.mem_cons_self) (fun q hq => hp q (List.mem_cons_of_mem _ hq))]
def mkB (l : List UInt8) : ByteArray := ⟨l.toArray⟩
theorem mkB_data (s : ByteArray) : mkB s.data.toList = s := by cases s; simp [mkB]
theorem splitL_mk (l : List UInt8) (sep : ByteArray) : splitL (mkB l) sep = (Lib.split l sep.data.toList).map mkB := by
  unfold splitL Lib.split
  have h := congrArg (List.map mkB) (Lib.splitB_data sep 0 (Lib.countB (mkB l) sep) (mkB l))
  rw [List.map_map] at h
  have e : (mkB ∘ fun x : ByteArray => x.data.toList) = id := funext fun x => mkB_data x
  rw [e, List.map_id] at h
  rw [h]
  rfl
theorem splitL_join (l : List UInt8) (c : UInt8) (rest : List UInt8) (sep : ByteArray) (hs : sep.data.toList = c :: rest) (A : List UInt8) (ps : List (List UInt8)) (hl : l = A ++ joinR (c :: rest) ps) (hA : c ∉ A) (hp : ∀ p ∈ ps, c ∉ p) : splitL (mkB l) sep = mkB A :: ps.map mkB := by
  rw [splitL_mk, hs, hl, split_joinR c rest ps A hA hp, List.map_cons]
/-! ### numbers -/
theorem atoi_one : ∀ i : Fin 10, Lib.atoiAll [UInt8.ofNat (48 + i.val)] = .ok (i.val : Int) := by decide +kernel
theorem atoi_two : ∀ i : Fin 100, ¬ i.val < 10 → Lib.atoiAll [UInt8.ofNat (48 + i.val / 10), UInt8.ofNat (48 + i.val % 10)] = .ok (i.val : Int) := by decide +kernel
theorem digs_cases (x : Int) (h0 : 0 ≤ x) (h1 : x < 100) : (∃ i : Fin 10, x = i.val ∧ digs x = [UInt8.ofNat (48 + i.val)]) ∨ (∃ i : Fin 100, ¬ i.val < 10 ∧ x = i.val ∧ digs x = [UInt8.ofNat (48 + i.val / 10), UInt8.ofNat (48 + i.val % 10)]) := by
  unfold digs
  by_cases h : x.toNat < 10
  · exact Or.inl ⟨⟨x.toNat, h⟩, by simp; omega, Lib.decDigits_one h⟩
  · exact Or.inr ⟨⟨x.toNat, by omega⟩, h, by simp; omega, Lib.decDigits_two h (by omega)⟩
theorem numB_digs (x : Int) (h0 : 0 ≤ x) (h1 : x < 100) : numB (mkB (digs x)) = some x := by
  have h : Lib.atoiAll (digs x) = .ok x := by
    rcases digs_cases x h0 h1 with ⟨i, hx, hd⟩ | ⟨i, hi, hx, hd⟩
    · rw [hd, hx]; exact atoi_one i
    · rw [hd, hx]; exact atoi_two i hi
  unfold numB
  rw [show (mkB (digs x)).data.toList = digs x from rfl, h]
theorem ofNat48 (d : Nat) (h : d < 10) : 48 ≤ (UInt8.ofNat (48 + d)).toNat ∧ (UInt8.ofNat (48 + d)).toNat ≤ 57 := by
  rw [UInt8.toNat_ofNat_of_lt' (by show 48 + d < 256; omega)]; omega
theorem digs_mem (x : Int) (h0 : 0 ≤ x) (h1 : x < 100) : ∀ b ∈ digs x, 48 ≤ b.toNat ∧ b.toNat ≤ 57 := by
  intro b hb
  rcases digs_cases x h0 h1 with ⟨i, hx, hd⟩ | ⟨i, hi, hx, hd⟩
  · rw [hd] at hb
    obtain rfl := List.mem_singleton.1 hb
    exact ofNat48 _ i.isLt
  · rw [hd] at hb
    have h2 := i.isLt
    rcases List.mem_cons.1 hb with rfl | hb
    · exact ofNat48 _ (by omega)
    · obtain rfl := List.mem_singleton.1 hb
      exact ofNat48 _ (by omega)
theorem digs_len (x : Int) (h0 : 0 ≤ x) (h1 : x < 100) : 1 ≤ (digs x).length ∧ (digs x).length ≤ 2 := by
  rcases digs_cases x h0 h1 with ⟨i, hx, hd⟩ | ⟨i, hi, hx, hd⟩ <;> rw [hd] <;> simp
theorem digs_not (c : UInt8) (hc : c.toNat < 48 ∨ 57 < c.toNat) (x : Int) (h0 : 0 ≤ x) (h1 : x < 100) : c ∉ digs x := fun h => by have := digs_mem x h0 h1 c h; omega
/-! ### names -/
theorem rest_all (s : ByteArray) : ∀ (d i : Nat), restB s d i = true → ∀ j, i ≤ j → j < i + d → (letB (bt s j) || digB (bt s j)) = true
  | 0, i, h, j, h1, h2 => by omega
  | d + 1, i, h, j, h1, h2 => by
    unfold restB at h
    rw [Bool.and_eq_true] at h
    by_cases e : j = i
    · rw [e]; exact h.1
    · exact rest_all s d (i + 1) h.2 j (by omega) (by omega)
theorem name_mem (s : ByteArray) (h : nameB s = true) : (∀ b ∈ s.data.toList, (48 ≤ b.toNat ∧ b.toNat ≤ 57) ∨ (65 ≤ b.toNat ∧ b.toNat ≤ 122)) ∧ s.data.toList.length ≤ 12 := by
  have hl : s.data.toList.length = s.size := data_length s
  unfold nameB at h
  simp only [Bool.and_eq_true, decide_eq_true_eq] at h
  obtain ⟨⟨⟨⟨h1, h2⟩, h3⟩, h4⟩, h5⟩ := h
  refine ⟨fun b hb => ?_, by omega⟩
  obtain ⟨j, hj, rfl⟩ := List.getElem_of_mem hb
  have hb : (letB (bt s j) || digB (bt s j)) = true := by
    by_cases e : j = 0
    · subst e; rw [show ((0 : Nat) : Int) = 0 from rfl, h3]; rfl
    · exact rest_all s (s.size - 1) 1 h5 j (by omega) (by omega)
  have hbt : bt s j = ((s.data.toList[j]'hj).toNat : Int) := by
    unfold bt
    rw [dif_pos (by simp; omega)]
    simp; rfl
  rw [hbt] at hb
  unfold letB digB at hb
  simp only [Bool.or_eq_true, Bool.and_eq_true, decide_eq_true_eq] at hb
  omega
/-! ### tuples, relations, structures -/
/-- What a tuple of a valid structure is like, as far as its text goes. -/
def tupOk (t : List Int) : Prop := ∀ x ∈ t, 0 ≤ x ∧ x < 100
theorem tupRest_join (l : List Int) : tupRest l = joinR [44] (l.map digs) := by
  induction l with
  | nil => rfl
  | cons x xs ih => rw [tupRest, ih]; rfl
theorem tupsT_join (l : List (List Int)) : tupsT l = joinR [32] (l.map tupT) := by
  induction l with
  | nil => rfl
  | cons x xs ih => rw [tupsT, ih]; rfl
def pieceR (r : S54) : List UInt8 := r.f0.data.toList ++ (47 :: digs r.f1) ++ tupsT r.f2
theorem relsT_join (l : List S54) : relsT l = joinR [59, 32] (l.map pieceR) := by
  induction l with
  | nil => rfl
  | cons x xs ih => rw [relsT, ih]; simp [relT, relHd, pieceR, joinR]
theorem joinR_mem (s : List UInt8) (b : UInt8) : ∀ ps : List (List UInt8), b ∈ joinR s ps → b ∈ s ∨ ∃ p ∈ ps, b ∈ p
  | [], h => by simp [joinR] at h
  | p :: ps, h => by
    rw [joinR, List.mem_append, List.mem_append] at h
    rcases h with h | h | h
    · exact Or.inl h
    · exact Or.inr ⟨p, List.mem_cons_self, h⟩
    · rcases joinR_mem s b ps h with h | ⟨q, hq, hb⟩
      · exact Or.inl h
      · exact Or.inr ⟨q, List.mem_cons_of_mem _ hq, hb⟩
theorem tupT_not (c : UInt8) (hc : c.toNat < 40 ∨ 57 < c.toNat) (t : List Int) (ht : tupOk t) : c ∉ tupT t := by
  intro h
  cases t with
  | nil => simp [tupT, tupPre, tupJ] at h; rcases h with rfl | rfl <;> simp at hc
  | cons x xs =>
    rw [tupT, tupPre, List.nil_append, tupJ, tupRest_join, List.mem_append] at h
    rcases h with h | h
    · exact digs_not c (by omega) x (ht x List.mem_cons_self).1 (ht x List.mem_cons_self).2 h
    · rcases joinR_mem _ c _ h with h | ⟨p, hp, h⟩
      · obtain rfl := List.mem_singleton.1 h; simp at hc
      · obtain ⟨y, hy, rfl⟩ := List.mem_map.1 hp
        have := ht y (List.mem_cons_of_mem _ hy)
        exact digs_not c (by omega) y this.1 this.2 h
theorem numsB_digs : ∀ l : List Int, tupOk l → numsB ((l.map digs).map mkB) = some l
  | [], _ => rfl
  | x :: xs, h => by
    have hx := h x List.mem_cons_self
    rw [List.map_cons, List.map_cons, numsB, numB_digs x hx.1 hx.2, numsB_digs xs (fun y hy => h y (List.mem_cons_of_mem _ hy))]
    rfl
theorem tupB_text (t : List Int) (ht : tupOk t) : tupB (mkB (tupT t)) = some t := by
  unfold tupB
  cases t with
  | nil => rw [if_pos (by unfold isUnit; rw [toList_data]; rfl)]
  | cons x xs =>
    have hx := ht x List.mem_cons_self
    have hj : tupT (x :: xs) = digs x ++ joinR [44] (xs.map digs) := by rw [tupT, tupPre, List.nil_append, tupJ, tupRest_join]
    have hu : isUnit (mkB (tupT (x :: xs))) = false := by
      unfold isUnit
      rw [toList_data, show (mkB (tupT (x :: xs))).data.toList = tupT (x :: xs) from rfl, hj]
      obtain ⟨d, ds, hd⟩ : ∃ d ds, digs x = d :: ds := by
        have := (digs_len x hx.1 hx.2).1
        cases h : digs x with
        | nil => rw [h] at this; simp at this
        | cons d ds => exact ⟨d, ds, rfl⟩
      have := digs_mem x hx.1 hx.2 d (by rw [hd]; exact List.mem_cons_self)
      rw [hd, List.cons_append, List.cons_beq_cons, beq_eq_false_iff_ne.2 (fun e => by subst e; simp at this)]
      rfl
    rw [hu, if_neg (by simp), splitL_join _ 44 [] sepC rfl (digs x) (xs.map digs) hj (digs_not 44 (by decide) x hx.1 hx.2) (fun p hp => by
      obtain ⟨y, hy, rfl⟩ := List.mem_map.1 hp
      have := ht y (List.mem_cons_of_mem _ hy)
      exact digs_not 44 (by decide) y this.1 this.2)]
    have := numsB_digs (x :: xs) ht
    rw [List.map_cons, List.map_cons] at this
    exact this
theorem tupsB_text : ∀ l : List (List Int), (∀ t ∈ l, tupOk t) → tupsB ((l.map tupT).map mkB) = some l
  | [], _ => rfl
  | t :: ts, h => by
    rw [List.map_cons, List.map_cons, tupsB, tupB_text t (h t List.mem_cons_self), tupsB_text ts (fun y hy => h y (List.mem_cons_of_mem _ hy))]
    rfl
def relOk (r : S54) : Prop := nameB r.f0 = true ∧ (0 ≤ r.f1 ∧ r.f1 < 100) ∧ ∀ t ∈ r.f2, tupOk t
theorem head_not (c : UInt8) (hc : c.toNat < 47 ∨ (57 < c.toNat ∧ c.toNat < 65)) (r : S54) (h : relOk r) : c ∉ r.f0.data.toList ++ (47 :: digs r.f1) := by
  intro hb
  rcases List.mem_append.1 hb with hb | hb
  · have := (name_mem r.f0 h.1).1 c hb; omega
  · rcases List.mem_cons.1 hb with rfl | hb
    · simp at hc
    · exact digs_not c (by omega) _ h.2.1.1 h.2.1.2 hb
theorem pieceR_not (r : S54) (h : relOk r) : (59 : UInt8) ∉ pieceR r := by
  intro hb
  rcases List.mem_append.1 hb with hb | hb
  · exact head_not 59 (by decide) r h hb
  · rw [tupsT_join] at hb
    rcases joinR_mem _ _ _ hb with hb | ⟨p, hp, hb⟩
    · simp at hb
    · obtain ⟨t, ht, rfl⟩ := List.mem_map.1 hp
      exact tupT_not 59 (by decide) t (h.2.2 t ht) hb
theorem cut_head (r : S54) (h : relOk r) : cutB (mkB (r.f0.data.toList ++ (47 :: digs r.f1))) = (r.f0, mkB (digs r.f1), true) := by
  have hi : Lib.index (r.f0.data.toList ++ (47 :: digs r.f1)) sepS.data.toList = r.f0.data.toList.length := index_hd 47 [] r.f0.data.toList (digs r.f1) (fun hb => by have := (name_mem r.f0 h.1).1 47 hb; simp at this)
  have e : Lib.cut (r.f0.data.toList ++ (47 :: digs r.f1)) sepS.data.toList = (r.f0.data.toList, digs r.f1, true) := by
    unfold Lib.cut
    rw [hi, if_pos (by omega), Int.toNat_natCast, List.take_left' rfl, List.drop_append, List.drop_eq_nil_of_le (by omega)]
    simp [sepS]
  unfold cutB
  rw [show (mkB (r.f0.data.toList ++ (47 :: digs r.f1))).data.toList = r.f0.data.toList ++ (47 :: digs r.f1) from rfl, e]
  simp only
  rw [show (⟨r.f0.data.toList.toArray⟩ : ByteArray) = r.f0 from mkB_data r.f0]
  rfl
theorem relB_text (r : S54) (h : relOk r) : relB (mkB (pieceR r)) = some r := by
  unfold relB
  rw [splitL_join _ 32 [] sepB rfl (r.f0.data.toList ++ (47 :: digs r.f1)) (r.f2.map tupT) (by rw [pieceR, tupsT_join]) (head_not 32 (by decide) r h) (fun p hp => by
    obtain ⟨t, ht, rfl⟩ := List.mem_map.1 hp
    exact tupT_not 32 (by decide) t (h.2.2 t ht))]
  simp only
  unfold relOf
  rw [cut_head r h, if_pos rfl]
  simp only
  rw [numB_digs _ h.2.1.1 h.2.1.2, tupsB_text _ h.2.2]
  rfl
theorem relsB_text : ∀ l : List S54, (∀ r ∈ l, relOk r) → relsB ((l.map pieceR).map mkB) = some l
  | [], _ => rfl
  | t :: ts, h => by
    rw [List.map_cons, List.map_cons, relsB, relB_text t (h t List.mem_cons_self), relsB_text ts (fun y hy => h y (List.mem_cons_of_mem _ hy))]
    rfl
theorem parse_text (n : Int) (hn0 : 0 ≤ n) (hn1 : n < 100) (l : List S54) (h : ∀ r ∈ l, relOk r) : parseB (mkB (textL n l)) = some (n, l) := by
  unfold parseB
  rw [splitL_join _ 59 [32] sepR rfl (digs n) (l.map pieceR) (by rw [textL, relsT_join]) (digs_not 59 (by decide) n hn0 hn1) (fun p hp => by
    obtain ⟨t, ht, rfl⟩ := List.mem_map.1 hp
    exact pieceR_not t (h t ht))]
  simp only
  rw [numB_digs n hn0 hn1, relsB_text l h]
  rfl
/-! ### how long a text is -/
theorem tupRest_len : ∀ l : List Int, tupOk l → (tupRest l).length ≤ 3 * l.length
  | [], _ => Nat.le_refl _
  | x :: xs, h => by
    have hx := h x List.mem_cons_self
    have := (digs_len x hx.1 hx.2).2
    have := tupRest_len xs (fun y hy => h y (List.mem_cons_of_mem _ hy))
    simp [tupRest]; omega
theorem tupT_len (t : List Int) (h : tupOk t) : (tupT t).length ≤ 2 + 3 * t.length := by
  cases t with
  | nil => simp [tupT, tupPre, tupJ]
  | cons x xs =>
    have hx := h x List.mem_cons_self
    have := (digs_len x hx.1 hx.2).2
    have := tupRest_len xs (fun y hy => h y (List.mem_cons_of_mem _ hy))
    simp [tupT, tupPre, tupJ]; omega
theorem tupsT_lenU : ∀ l : List (List Int), (∀ t ∈ l, tupOk t ∧ t.length ≤ 12) → (tupsT l).length ≤ 39 * l.length
  | [], _ => Nat.le_refl _
  | t :: ts, h => by
    have h1 := h t List.mem_cons_self
    have := tupT_len t h1.1
    have := tupsT_lenU ts (fun y hy => h y (List.mem_cons_of_mem _ hy))
    simp [tupsT]; omega
theorem relsT_lenU : ∀ l : List S54, (∀ r ∈ l, relOk r ∧ (∀ t ∈ r.f2, t.length ≤ 12) ∧ r.f2.length ≤ 4096) → (relsT l).length ≤ 200000 * l.length
  | [], _ => Nat.le_refl _
  | r :: rs, h => by
    obtain ⟨h1, h2, h3⟩ := h r List.mem_cons_self
    have := (name_mem r.f0 h1.1).2
    have := (digs_len r.f1 h1.2.1.1 h1.2.1.2).2
    have := tupsT_lenU r.f2 (fun t ht => ⟨h1.2.2 t ht, h2 t ht⟩)
    have := relsT_lenU rs (fun y hy => h y (List.mem_cons_of_mem _ hy))
    simp only [relsT, relT, relHd, List.length_append, List.length_cons, List.length_nil] at *
    omega
/-! ### what a valid structure is like -/
theorem tupsV_all (n a : Int) (l : List (List Int)) : ∀ (d i : Nat), tupsV n a l d i = true → i + d = l.length → ∀ j (hj : j < l.length), i ≤ j → tupV n a l[j] = true ∧ (0 < j → ∃ h : j - 1 < l.length, lexL l[j - 1] l[j] = true)
  | 0, i, _, h, j, hj, hi => by omega
  | d + 1, i, h, hl, j, hj, hi => by
    unfold tupsV at h
    simp only [Bool.and_eq_true, Bool.or_eq_true, decide_eq_true_eq] at h
    by_cases e : j = i
    · subst e
      have r1 : rd_L2 l (j : Int) = l[j] := by unfold rd_L2; rw [Int.toNat_natCast, List.getD_eq_getElem?_getD, List.getElem?_eq_getElem hj]; rfl
      rw [r1] at h
      refine ⟨h.1.1, fun h0 => ⟨by omega, ?_⟩⟩
      have h2 := h.1.2.resolve_left (by omega)
      have r2 : rd_L2 l ((j : Int) - 1) = l[j - 1]'(by omega) := by unfold rd_L2; rw [show ((j : Int) - 1).toNat = j - 1 by omega, List.getD_eq_getElem?_getD, List.getElem?_eq_getElem (by omega)]; rfl
      rw [r2] at h2
      exact h2
    · exact tupsV_all n a l d (i + 1) h.2 (by omega) j hj (by omega)
theorem tupV_in (n a : Int) (t : List Int) (h : tupV n a t = true) : (t.length : Int) = a ∧ ∀ x ∈ t, 0 ≤ x ∧ x < n := by
  unfold tupV at h
  simp only [Bool.and_eq_true, decide_eq_true_eq, Bool.not_eq_true', List.any_eq_false] at h
  refine ⟨h.1, fun x hx => ?_⟩
  have := h.2 x hx
  simp only [outB, Bool.or_eq_true, decide_eq_true_eq] at this
  omega
theorem rel_facts (n : Int) (hn1 : 1 ≤ n) (hn2 : n ≤ 64) (r : S54) (h : relV n r = true) : relOk r ∧ (0 ≤ r.f1 ∧ r.f1 ≤ 12) ∧ (∀ t ∈ r.f2, (t.length : Int) = r.f1 ∧ ∀ x ∈ t, 0 ≤ x ∧ x < n) ∧ r.f2.length ≤ 4096 := by
  unfold relV at h
  simp only [Bool.and_eq_true, decide_eq_true_eq] at h
  obtain ⟨⟨⟨⟨h1, h2⟩, h3⟩, h4⟩, h5⟩ := h
  have hA := tupsV_all n r.f1 r.f2 r.f2.length 0 h5 (by omega)
  have hT : ∀ t ∈ r.f2, (t.length : Int) = r.f1 ∧ ∀ x ∈ t, 0 ≤ x ∧ x < n := fun t ht => by
    obtain ⟨j, hj, rfl⟩ := List.getElem_of_mem ht
    exact tupV_in n r.f1 _ (hA j hj (by omega)).1
  have hV : ∀ (j : Nat) (hj : j < r.f2.length), (j : Int) ≤ val n 0 r.f2[j] := by
    intro j
    induction j with
    | zero => intro hj; exact (val_bound n hn1 _ (hT _ (List.getElem_mem hj)).2).1
    | succ j ih =>
      intro hj
      have h1 := ih (by omega)
      obtain ⟨_, h2⟩ := (hA (j + 1) hj (by omega)).2 (by omega)
      simp only [Nat.add_sub_cancel] at h2
      have t1 := hT _ (List.getElem_mem (show j < r.f2.length by omega))
      have t2 := hT _ (List.getElem_mem hj)
      have := (val_order n hn1 (r.f2[j]'(by omega)) r.f2[j + 1] (by omega) t1.2 t2.2).1
      rw [h2, decide_eq_true_eq] at this
      omega
  refine ⟨⟨h1, ⟨h2, by omega⟩, fun t ht x hx => ?_⟩, ⟨h2, h3⟩, hT, ?_⟩
  · have := (hT t ht).2 x hx; omega
  · obtain ⟨q, e1, _, hq1, e2⟩ := pow_ok n r.f1 hn1 hn2 h2 h3 14 (Nat.le_refl _)
    rw [e2, decide_eq_true_eq] at h4
    have hq := pow_exact n r.f1 hn1 hn2 h3 r.f1.toNat 1 0 14 q (by omega) (by omega) (by omega) (by omega) e1 h4
    by_cases hz : r.f2.length = 0
    · omega
    · have hj : r.f2.length - 1 < r.f2.length := by omega
      have b1 := hV _ hj
      have t1 := hT _ (List.getElem_mem hj)
      have b2 := (val_bound n hn1 _ t1.2).2
      rw [show (r.f2[r.f2.length - 1]'hj).length = r.f1.toNat by omega] at b2
      rw [Int.one_mul] at hq
      omega
theorem relsV_all (n : Int) (l : List S54) : ∀ (d i : Nat), relsV n l d i = true → i + d = l.length → ∀ j (hj : j < l.length), i ≤ j → relV n l[j] = true
  | 0, i, _, h, j, hj, hi => by omega
  | d + 1, i, h, hl, j, hj, hi => by
    unfold relsV at h
    simp only [Bool.and_eq_true] at h
    by_cases e : j = i
    · subst e
      rw [rdT_nat l j hj] at h
      exact h.1.1
    · exact relsV_all n l d (i + 1) h.2 (by omega) j hj (by omega)
theorem valid_facts (n : Int) (l : List S54) (h : validB n l = true) : 1 ≤ n ∧ n ≤ 64 ∧ l.length ≤ 8 ∧ ∀ r ∈ l, relOk r ∧ (0 ≤ r.f1 ∧ r.f1 ≤ 12) ∧ (∀ t ∈ r.f2, (t.length : Int) = r.f1 ∧ ∀ x ∈ t, 0 ≤ x ∧ x < n) ∧ r.f2.length ≤ 4096 := by
  unfold validB at h
  simp only [Bool.and_eq_true, decide_eq_true_eq] at h
  obtain ⟨⟨⟨h1, h2⟩, h3⟩, h4⟩ := h
  refine ⟨h1, h2, h3, fun r hr => ?_⟩
  obtain ⟨j, hj, rfl⟩ := List.getElem_of_mem hr
  exact rel_facts n h1 h2 _ (relsV_all n l l.length 0 h4 (by omega) j hj (by omega))
theorem okW_valid (n : Int) (l : List S54) (h : validB n l = true) : okW n l := by
  obtain ⟨h1, h2, h3, h4⟩ := valid_facts n l h
  refine ⟨⟨by omega, by omega⟩, fun r hr => ⟨(h4 r hr).1.2.1, fun t ht x hx => (h4 r hr).1.2.2 t ht x hx⟩, ?_⟩
  have b1 := relsT_lenU l (fun r hr => ⟨(h4 r hr).1, fun t ht => by have := ((h4 r hr).2.2.1 t ht).1; have := (h4 r hr).2.1; omega, (h4 r hr).2.2.2⟩)
  have b2 := (digs_len n (by omega) (by omega)).2
  rw [textL, List.length_append]
  omega
theorem write_valid (n : Int) (l : List S54) (h : validB n l = true) : shape_write.f n l = some (mkB (textL n l)) := by
  unfold shape_write.f
  rw [if_pos (okW_valid n l h)]; rfl
theorem parse_valid (n : Int) (l : List S54) (h : validB n l = true) : parseB (mkB (textL n l)) = some (n, l) := by
  obtain ⟨h1, h2, h3, h4⟩ := valid_facts n l h
  exact parse_text n (by omega) (by omega) l (fun r hr => (h4 r hr).1)
end Go.Proofs.YtfmpaofbnjlniaaDoor.F
namespace Go.Proofs.YtfmpaofbnjlniaaDoor.F
open Go.RowKit Go.Proofs.YtfmpaofbnjlniaaDoorW.PrintWords Go.Proofs.YtfmpaofbnjlniaaDoorW.PrintLast Go.Proofs.YtfmpaofbnjlniaaDoorW.PrintMore
attribute [local go_sem] max2_int min2_int max_two min_two max_three min_three max_four min_four
set_option linter.unusedVariables false
set_option linter.unusedSimpArgs false
/-! ### paraphrastlaw01_Few: function 18 -/
mutual
def paraphrastlaw01_Few.l0 : Nat → List (S38) → Int → Int → Int → Option (Bool)
  | 0, _, _, _, _ => none
  | k + 1, x0, x3, x4, x5 => if x5 < (x0.length : Int) then (if 0 ≤ x5 then (if (((rd_T38 x0 x5).f1).length : Int) > 12 then (some false) else (paraphrastlaw01_Few.l1 k x0 x3 x4 x5 0)) else (none)) else (some (decide (x4 ≤ 20000)))
def paraphrastlaw01_Few.l1 : Nat → List (S38) → Int → Int → Int → Int → Option (Bool)
  | 0, _, _, _, _, _ => none
  | k + 1, x0, x3, x4, x5, x6 => if 0 ≤ x5 then (if x5 < (x0.length : Int) then (if x6 < (((rd_T38 x0 x5).f1).length : Int) then (if 0 ≤ x6 then (if (wrap64 (x3 + (((rd_T54 ((rd_T38 x0 x5).f1) x6).f2).length : Int))) > 1500 then (paraphrastlaw01_Few.j2 k x0 (wrap64 (x3 + (((rd_T54 ((rd_T38 x0 x5).f1) x6).f2).length : Int))) x4 x5 x6 true) else (paraphrastlaw01_Few.j2 k x0 (wrap64 (x3 + (((rd_T54 ((rd_T38 x0 x5).f1) x6).f2).length : Int))) x4 x5 x6 (decide ((((rd_T54 ((rd_T38 x0 x5).f1) x6).f0).size : Int) > 1000)))) else (none)) else (paraphrastlaw01_Few.l0 k x0 x3 x4 (wrap64 (x5 + 1)))) else (none)) else (none)
def paraphrastlaw01_Few.j2 : Nat → List (S38) → Int → Int → Int → Int → Bool → Option (Bool)
  | 0, _, _, _, _, _, _ => none
  | k + 1, x0, x3, x4, x5, x6, x57 => if x57 = true then (some false) else (paraphrastlaw01_Few.l2 k x0 x3 x4 x5 x6 0)
def paraphrastlaw01_Few.l2 : Nat → List (S38) → Int → Int → Int → Int → Int → Option (Bool)
  | 0, _, _, _, _, _, _ => none
  | k + 1, x0, x3, x4, x5, x6, x7 => if 0 ≤ x5 then (if x5 < (x0.length : Int) then (if 0 ≤ x6 then (if x6 < (((rd_T38 x0 x5).f1).length : Int) then (if x7 < (((rd_T54 ((rd_T38 x0 x5).f1) x6).f2).length : Int) then (if 0 ≤ x7 then (paraphrastlaw01_Few.l2 k x0 x3 (wrap64 (x4 + ((rd_L2 ((rd_T54 ((rd_T38 x0 x5).f1) x6).f2) x7).length : Int))) x5 x6 (wrap64 (x7 + 1))) else (none)) else (paraphrastlaw01_Few.l1 k x0 x3 x4 x5 (wrap64 (x6 + 1)))) else (none)) else (none)) else (none)) else (none)
end
def paraphrastlaw01_Few.f (k : Nat) (l0 : List (S38)) : Option (Bool) := paraphrastlaw01_Few.l0 k l0 0 0 0
theorem paraphrastlaw01_Few.mono_l : ∀ k, (∀ y0 y1 y2 y3, LeO (paraphrastlaw01_Few.l0 k y0 y1 y2 y3) (paraphrastlaw01_Few.l0 (k + 1) y0 y1 y2 y3)) ∧ (∀ y0 y1 y2 y3 y4, LeO (paraphrastlaw01_Few.l1 k y0 y1 y2 y3 y4) (paraphrastlaw01_Few.l1 (k + 1) y0 y1 y2 y3 y4)) ∧ (∀ y0 y1 y2 y3 y4 y5, LeO (paraphrastlaw01_Few.j2 k y0 y1 y2 y3 y4 y5) (paraphrastlaw01_Few.j2 (k + 1) y0 y1 y2 y3 y4 y5)) ∧ (∀ y0 y1 y2 y3 y4 y5, LeO (paraphrastlaw01_Few.l2 k y0 y1 y2 y3 y4 y5) (paraphrastlaw01_Few.l2 (k + 1) y0 y1 y2 y3 y4 y5))
  | 0 => ⟨fun _ _ _ _ r h => by simp [paraphrastlaw01_Few.l0] at h, fun _ _ _ _ _ r h => by simp [paraphrastlaw01_Few.l1] at h, fun _ _ _ _ _ _ r h => by simp [paraphrastlaw01_Few.j2] at h, fun _ _ _ _ _ _ r h => by simp [paraphrastlaw01_Few.l2] at h⟩
  | k + 1 => by
    obtain ⟨ih0, ih1, ih2, ih3⟩ := paraphrastlaw01_Few.mono_l k
    refine ⟨?_, ?_, ?_, ?_⟩
    · intro y0 y1 y2 y3
      unfold paraphrastlaw01_Few.l0
      repeat' first
      | (with_reducible exact ih0 _ _ _ _)
      | (with_reducible exact ih1 _ _ _ _ _)
      | (with_reducible exact ih2 _ _ _ _ _ _)
      | (with_reducible exact ih3 _ _ _ _ _ _)
      | (with_reducible exact LeO.refl _)
      | (with_reducible exact LeO.none _)
      | (with_reducible refine LeO.ite ?_ ?_)
      | (with_reducible refine LeO.bind ?_ (fun _ => ?_))
      | exact ih0 _ _ _ _
      | exact ih1 _ _ _ _ _
      | exact ih2 _ _ _ _ _ _
      | exact ih3 _ _ _ _ _ _
      | exact LeO.none _
      | refine LeO.ite ?_ ?_
      | refine LeO.bind ?_ (fun _ => ?_)
    · intro y0 y1 y2 y3 y4
      unfold paraphrastlaw01_Few.l1
      repeat' first
      | (with_reducible exact ih0 _ _ _ _)
      | (with_reducible exact ih1 _ _ _ _ _)
      | (with_reducible exact ih2 _ _ _ _ _ _)
      | (with_reducible exact ih3 _ _ _ _ _ _)
      | (with_reducible exact LeO.refl _)
      | (with_reducible exact LeO.none _)
      | (with_reducible refine LeO.ite ?_ ?_)
      | (with_reducible refine LeO.bind ?_ (fun _ => ?_))
      | exact ih0 _ _ _ _
      | exact ih1 _ _ _ _ _
      | exact ih2 _ _ _ _ _ _
      | exact ih3 _ _ _ _ _ _
      | exact LeO.none _
      | refine LeO.ite ?_ ?_
      | refine LeO.bind ?_ (fun _ => ?_)
    · intro y0 y1 y2 y3 y4 y5
      unfold paraphrastlaw01_Few.j2
      repeat' first
      | (with_reducible exact ih0 _ _ _ _)
      | (with_reducible exact ih1 _ _ _ _ _)
      | (with_reducible exact ih2 _ _ _ _ _ _)
      | (with_reducible exact ih3 _ _ _ _ _ _)
      | (with_reducible exact LeO.refl _)
      | (with_reducible exact LeO.none _)
      | (with_reducible refine LeO.ite ?_ ?_)
      | (with_reducible refine LeO.bind ?_ (fun _ => ?_))
      | exact ih0 _ _ _ _
      | exact ih1 _ _ _ _ _
      | exact ih2 _ _ _ _ _ _
      | exact ih3 _ _ _ _ _ _
      | exact LeO.none _
      | refine LeO.ite ?_ ?_
      | refine LeO.bind ?_ (fun _ => ?_)
    · intro y0 y1 y2 y3 y4 y5
      unfold paraphrastlaw01_Few.l2
      repeat' first
      | (with_reducible exact ih0 _ _ _ _)
      | (with_reducible exact ih1 _ _ _ _ _)
      | (with_reducible exact ih2 _ _ _ _ _ _)
      | (with_reducible exact ih3 _ _ _ _ _ _)
      | (with_reducible exact LeO.refl _)
      | (with_reducible exact LeO.none _)
      | (with_reducible refine LeO.ite ?_ ?_)
      | (with_reducible refine LeO.bind ?_ (fun _ => ?_))
      | exact ih0 _ _ _ _
      | exact ih1 _ _ _ _ _
      | exact ih2 _ _ _ _ _ _
      | exact ih3 _ _ _ _ _ _
      | exact LeO.none _
      | refine LeO.ite ?_ ?_
      | refine LeO.bind ?_ (fun _ => ?_)
theorem paraphrastlaw01_Few.mono : ∀ a0 k, LeO (paraphrastlaw01_Few.f k a0) (paraphrastlaw01_Few.f (k + 1) a0) := by
  intro a0 k
  obtain ⟨ih0, ih1, ih2, ih3⟩ := paraphrastlaw01_Few.mono_l k
  unfold paraphrastlaw01_Few.f
  repeat' first
      | (with_reducible exact ih0 _ _ _ _)
      | (with_reducible exact ih1 _ _ _ _ _)
      | (with_reducible exact ih2 _ _ _ _ _ _)
      | (with_reducible exact ih3 _ _ _ _ _ _)
      | (with_reducible exact LeO.refl _)
      | (with_reducible exact LeO.none _)
      | (with_reducible refine LeO.ite ?_ ?_)
      | (with_reducible refine LeO.bind ?_ (fun _ => ?_))
      | exact ih0 _ _ _ _
      | exact ih1 _ _ _ _ _
      | exact ih2 _ _ _ _ _ _
      | exact ih3 _ _ _ _ _ _
      | exact LeO.none _
      | refine LeO.ite ?_ ?_
      | refine LeO.bind ?_ (fun _ => ?_)
set_option maxHeartbeats 8000000 in
set_option maxRecDepth 100000 in
theorem paraphrastlaw01_Few.calls (k : Nat) (A0 : Option Addr) (c0 : Nat) (l0 : List (S38)) (r : Bool) (w : World) (hr0 : Kd.C k38 w A0 l0.length l0) (hc0 : l0.length ≤ c0) (h : paraphrastlaw01_Few.f k l0 = some r) :
    Calls Tryd.prog 18 #[.slice A0 l0.length c0] w fun e w' => e = .returned (.bool r) ∧ Drawn0 w w' := by
  have HR0 := Aside0.mk hr0
  have HC0 := Aside0.mk hc0
  clear hr0 hc0
  have H : (paraphrastlaw01_Few.l0 k l0 0 0 0) = some r := h
  clear h
  have H' := Aside0.mk H
  clear H
  go_enter Tryd.func18, Tryd.ntmps18
  go_wp2
  go_loopg [3, 4, 5] k (fun kq v3 v4 v5 w' => ∃ (x3_1 : Int) (x4_1 : Int) (x5_1 : Int), v3 = .int .i64 x3_1 ∧ v4 = .int .i64 x4_1 ∧ v5 = .int .i64 x5_1 ∧ Aside0 (paraphrastlaw01_Few.l0 kq l0 x3_1 x4_1 x5_1 = some r) ∧ Aside0 (kq ≤ k) ∧ Drawn0 w w')
  case atStart => exact ⟨(0), (0), (0), (by first | rfl | (simp; done) | (simp [*]; done)), (by first | rfl | (simp; done) | (simp [*]; done)), (by first | rfl | (simp; done) | (simp [*]; done)), H', ⟨Nat.le_refl _⟩, by repeat (first | exact Drawn0.refl _ | apply Drawn0.step)⟩
  case round =>
    clear H'
    try clear c1
    obtain ⟨x3_1, x4_1, x5_1, rfl, rfl, rfl, HA, HK1, ⟨m1, rfl⟩⟩ := hrel
    cases gk with
    | zero => exact absurd HA.out (by simp [paraphrastlaw01_Few.l0])
    | succ k1 =>
      have H := HA.out
      clear HA
      simp only [paraphrastlaw01_Few.l0] at H
      by_cases c2 : x5_1 < (l0.length : Int)
      · rw [if_pos c2] at H
        have c2b0 : decide (x5_1 < (l0.length : Int)) = true := decide_eq_true c2
        clear c2
        by_cases c3 : 0 ≤ x5_1
        · rw [if_pos c3] at H
          have c3b0 : decide (0 ≤ x5_1) = true := decide_eq_true c3
          clear c3
          by_cases c4 : (((rd_T38 l0 x5_1).f1).length : Int) > 12
          · rw [if_pos c4] at H
            have c4b0 : decide (12 < (((rd_T38 l0 x5_1).f1).length : Int)) = true := decide_eq_true c4
            have c4b1 : decide (12 < ((rd_T38 l0 x5_1).f1).length) = true := decide_eq_true (by omega)
            clear c4
            obtain rfl := Option.some.inj H
            have p240 : 0 ≤ (x5_1 : Int) := of_decide_eq_true (by first | (with_reducible assumption) | assumption)
            have q240 : x5_1 < (l0.length : Int) := of_decide_eq_true (by first | (with_reducible assumption) | assumption)
            obtain ⟨ad240, A240_1, c240_1, e240, hx240_0, hx240_1, hl240_1, hi240_1⟩ := at_T38 HR0.out x5_1 p240 q240
            cases e240
            have HR240_1 := Aside0.mk hi240_1
            have HC240_1 := Aside0.mk hl240_1
            clear hi240_1 hl240_1
            replace p240 := eq_true p240
            replace q240 := eq_true q240
            go_wp2
            go_ret
            exact ⟨by first | rfl | (simp; done) | (simp [*]; done), by repeat (first | exact Drawn0.refl _ | apply Drawn0.step)⟩
          · rw [if_neg c4] at H
            have c4b0 : decide (12 < (((rd_T38 l0 x5_1).f1).length : Int)) = false := decide_eq_false c4
            have c4b1 : decide (12 < ((rd_T38 l0 x5_1).f1).length) = false := decide_eq_false (by omega)
            clear c4
            have H' := Aside0.mk H
            clear H
            have p240 : 0 ≤ (x5_1 : Int) := of_decide_eq_true (by first | (with_reducible assumption) | assumption)
            have q240 : x5_1 < (l0.length : Int) := of_decide_eq_true (by first | (with_reducible assumption) | assumption)
            obtain ⟨ad240, A240_1, c240_1, e240, hx240_0, hx240_1, hl240_1, hi240_1⟩ := at_T38 HR0.out x5_1 p240 q240
            cases e240
            have HR240_1 := Aside0.mk hi240_1
            have HC240_1 := Aside0.mk hl240_1
            clear hi240_1 hl240_1
            replace p240 := eq_true p240
            replace q240 := eq_true q240
            go_wp2
            go_loopg [3, 4, 6] k1 (fun kq v3 v4 v6 w' => ∃ (x3_2 : Int) (x4_2 : Int) (x6_2 : Int), v3 = .int .i64 x3_2 ∧ v4 = .int .i64 x4_2 ∧ v6 = .int .i64 x6_2 ∧ Aside0 (paraphrastlaw01_Few.l1 kq l0 x3_2 x4_2 x5_1 x6_2 = some r) ∧ Aside0 (kq ≤ k1) ∧ Drawn0 w w')
            case atStart => exact ⟨(x3_1), (x4_1), (0), (by first | rfl | (simp; done) | (simp [*]; done)), (by first | rfl | (simp; done) | (simp [*]; done)), (by first | rfl | (simp; done) | (simp [*]; done)), H', ⟨Nat.le_refl _⟩, by repeat (first | exact Drawn0.refl _ | apply Drawn0.step)⟩
            case round =>
              clear H'
              try clear c1
              try clear c2
              try clear c2b0
              try clear p2
              try clear q2
              try clear hx2
              try clear c3
              try clear c3b0
              try clear c4
              try clear c4b0
              try clear c4b1
              try clear hx240_0
              try clear hx240_1
              try clear p240
              try clear q240
              obtain ⟨x3_2, x4_2, x6_2, rfl, rfl, rfl, HA, HK2, ⟨m2, rfl⟩⟩ := hrel
              cases gk with
              | zero => exact absurd HA.out (by simp [paraphrastlaw01_Few.l1])
              | succ k2 =>
                have H := HA.out
                clear HA
                simp only [paraphrastlaw01_Few.l1] at H
                by_cases c5 : 0 ≤ x5_1
                · rw [if_pos c5] at H
                  have c5b0 : decide (0 ≤ x5_1) = true := decide_eq_true c5
                  clear c5
                  by_cases c6 : x5_1 < (l0.length : Int)
                  · rw [if_pos c6] at H
                    have c6b0 : decide (x5_1 < (l0.length : Int)) = true := decide_eq_true c6
                    clear c6
                    by_cases c7 : x6_2 < (((rd_T38 l0 x5_1).f1).length : Int)
                    · rw [if_pos c7] at H
                      have c7b0 : decide (x6_2 < (((rd_T38 l0 x5_1).f1).length : Int)) = true := decide_eq_true c7
                      clear c7
                      by_cases c8 : 0 ≤ x6_2
                      · rw [if_pos c8] at H
                        have c8b0 : decide (0 ≤ x6_2) = true := decide_eq_true c8
                        clear c8
                        have HC9 := Aside0.mk H
                        clear H
                        have p241 : 0 ≤ (x5_1 : Int) := of_decide_eq_true (by first | (with_reducible assumption) | assumption)
                        have q241 : x5_1 < (l0.length : Int) := of_decide_eq_true (by first | (with_reducible assumption) | assumption)
                        obtain ⟨ad241, A241_1, c241_1, e241, hx241_0, hx241_1, hl241_1, hi241_1⟩ := at_T38 HR0.out x5_1 p241 q241
                        obtain rfl : ad240 = ad241 := (by injection e241)
                        have HR241_1 := Aside0.mk hi241_1
                        have HC241_1 := Aside0.mk hl241_1
                        clear hi241_1 hl241_1
                        replace p241 := eq_true p241
                        replace q241 := eq_true q241
                        have p242 : 0 ≤ (x5_1 : Int) := of_decide_eq_true (by first | (with_reducible assumption) | assumption)
                        have q242 : x5_1 < (l0.length : Int) := of_decide_eq_true (by first | (with_reducible assumption) | assumption)
                        obtain ⟨ad242, A242_1, c242_1, e242, hx242_0, hx242_1, hl242_1, hi242_1⟩ := at_T38 HR0.out x5_1 p242 q242
                        obtain rfl : ad240 = ad242 := (by injection e242)
                        have HR242_1 := Aside0.mk hi242_1
                        have HC242_1 := Aside0.mk hl242_1
                        clear hi242_1 hl242_1
                        replace p242 := eq_true p242
                        replace q242 := eq_true q242
                        have ea_ := Option.some.inj (hx241_1.symm.trans hx242_1)
                        injection ea_ with ea_ en_ ec_
                        subst ea_
                        subst ec_
                        clear en_
                        have p243 : 0 ≤ (x6_2 : Int) := of_decide_eq_true (by first | (with_reducible assumption) | assumption)
                        have q243 : x6_2 < (((rd_T38 l0 x5_1).f1).length : Int) := of_decide_eq_true (by first | (with_reducible assumption) | assumption)
                        obtain ⟨ad243, A243_2, c243_2, e243, hx243_0, hx243_1, hx243_2, hl243_2, hi243_2⟩ := at_T54 HR242_1.out x6_2 p243 q243
                        cases e243
                        have HR243_2 := Aside0.mk hi243_2
                        have HC243_2 := Aside0.mk hl243_2
                        clear hi243_2 hl243_2
                        replace p243 := eq_true p243
                        replace q243 := eq_true q243
                        go_upto_region 11 with (fail)
                        go_cut [57] (fun v57 wc => ∃ (kq : Nat) (x57_8 : Bool), v57 = .bool x57_8 ∧ Aside0 (paraphrastlaw01_Few.j2 kq l0 (wrap64 (x3_2 + (((rd_T54 ((rd_T38 l0 x5_1).f1) x6_2).f2).length : Int))) x4_2 x5_1 x6_2 x57_8 = some r) ∧ Aside0 (kq ≤ k2) ∧ Drawn0 w wc)
                        case first =>
                          have H := HC9.out
                          clear HC9
                          by_cases c10 : (wrap64 (x3_2 + (((rd_T54 ((rd_T38 l0 x5_1).f1) x6_2).f2).length : Int))) > 1500
                          · rw [if_pos c10] at H
                            have c10b0 : decide (1500 < (wrap64 (x3_2 + (((rd_T54 ((rd_T38 l0 x5_1).f1) x6_2).f2).length : Int)))) = true := decide_eq_true c10
                            clear c10
                            (first | rw [c10b0] | (simp only [i64_w, i32_w]; rw [c10b0]) | skip)
                            have H' := Aside0.mk H
                            clear H
                            go_wp2
                            go_meet
                            case rel => exact ⟨_, (true), (by first | rfl | (simp; done) | (simp [*]; done)), H', ⟨by have := HK1.out; have := HK2.out; first | omega | exact Nat.le_refl _⟩, by repeat (first | exact Drawn0.refl _ | apply Drawn0.step)⟩
                          · rw [if_neg c10] at H
                            have c10b0 : decide (1500 < (wrap64 (x3_2 + (((rd_T54 ((rd_T38 l0 x5_1).f1) x6_2).f2).length : Int)))) = false := decide_eq_false c10
                            clear c10
                            (first | rw [c10b0] | (simp only [i64_w, i32_w]; rw [c10b0]) | skip)
                            have H' := Aside0.mk H
                            clear H
                            have p244 : 0 ≤ (x5_1 : Int) := of_decide_eq_true (by first | (with_reducible assumption) | assumption)
                            have q244 : x5_1 < (l0.length : Int) := of_decide_eq_true (by first | (with_reducible assumption) | assumption)
                            obtain ⟨ad244, A244_1, c244_1, e244, hx244_0, hx244_1, hl244_1, hi244_1⟩ := at_T38 HR0.out x5_1 p244 q244
                            obtain rfl : ad240 = ad244 := (by injection e244)
                            have HR244_1 := Aside0.mk hi244_1
                            have HC244_1 := Aside0.mk hl244_1
                            clear hi244_1 hl244_1
                            replace p244 := eq_true p244
                            replace q244 := eq_true q244
                            have p245 : 0 ≤ (x6_2 : Int) := of_decide_eq_true (by first | (with_reducible assumption) | assumption)
                            have q245 : x6_2 < (((rd_T38 l0 x5_1).f1).length : Int) := of_decide_eq_true (by first | (with_reducible assumption) | assumption)
                            obtain ⟨ad245, A245_2, c245_2, e245, hx245_0, hx245_1, hx245_2, hl245_2, hi245_2⟩ := at_T54 HR244_1.out x6_2 p245 q245
                            cases e245
                            have HR245_2 := Aside0.mk hi245_2
                            have HC245_2 := Aside0.mk hl245_2
                            clear hi245_2 hl245_2
                            replace p245 := eq_true p245
                            replace q245 := eq_true q245
                            go_wp2
                            go_meet
                            case rel => exact ⟨_, (decide ((((rd_T54 ((rd_T38 l0 x5_1).f1) x6_2).f0).size : Int) > 1000)), (by first | rfl | (simp; done) | (simp [*]; done)), H', ⟨by have := HK1.out; have := HK2.out; first | omega | exact Nat.le_refl _⟩, by repeat (first | exact Drawn0.refl _ | apply Drawn0.step)⟩
                        case rest =>
                          clear HC9
                          try clear c1
                          try clear c2
                          try clear c2b0
                          try clear p2
                          try clear q2
                          try clear hx2
                          try clear c3
                          try clear c3b0
                          try clear c4
                          try clear c4b0
                          try clear c4b1
                          try clear c5
                          try clear c5b0
                          try clear c6
                          try clear c6b0
                          try clear p6
                          try clear c7
                          try clear c7b0
                          try clear c8
                          try clear c8b0
                          try clear c10
                          try clear c10b0
                          try clear hx240_0
                          try clear hx240_1
                          try clear hx241_0
                          try clear hx241_1
                          try clear hx242_0
                          try clear hx242_1
                          try clear hx243_0
                          try clear hx243_1
                          try clear hx243_2
                          try clear hx244_0
                          try clear hx244_1
                          try clear hx245_0
                          try clear hx245_1
                          try clear hx245_2
                          try clear p2
                          try clear p240
                          try clear p241
                          try clear p242
                          try clear p243
                          try clear p244
                          try clear p245
                          try clear q2
                          try clear q240
                          try clear q241
                          try clear q242
                          try clear q243
                          try clear q244
                          try clear q245
                          obtain ⟨kq, x57_8, rfl, HA, HJ8, ⟨mc8, rfl⟩⟩ := hcut
                          cases kq with
                          | zero => exact absurd HA.out (by simp [paraphrastlaw01_Few.j2])
                          | succ kj8 =>
                            have H := HA.out
                            clear HA
                            simp only [paraphrastlaw01_Few.j2] at H
                            by_cases c11 : x57_8 = true
                            · subst c11
                              have H1 : (some false) = some r := by rw [if_pos rfl] at H; exact H
                              clear H
                              have H := H1
                              clear H1
                              obtain rfl := Option.some.inj H
                              go_wp2
                              go_ret
                              exact ⟨by first | rfl | (simp; done) | (simp [*]; done), by repeat (first | exact Drawn0.refl _ | apply Drawn0.step)⟩
                            · replace c11 := Bool.eq_false_iff.mpr c11
                              subst c11
                              have H1 : (paraphrastlaw01_Few.l2 kj8 l0 (wrap64 (x3_2 + (((rd_T54 ((rd_T38 l0 x5_1).f1) x6_2).f2).length : Int))) x4_2 x5_1 x6_2 0) = some r := by rw [if_neg (show ¬ (false = true) by decide)] at H; exact H
                              clear H
                              have H := H1
                              clear H1
                              have H' := Aside0.mk H
                              clear H
                              go_wp2
                              go_loopg [4, 7] kj8 (fun kq v4 v7 w' => ∃ (x4_4 : Int) (x7_4 : Int), v4 = .int .i64 x4_4 ∧ v7 = .int .i64 x7_4 ∧ Aside0 (paraphrastlaw01_Few.l2 kq l0 (wrap64 (x3_2 + (((rd_T54 ((rd_T38 l0 x5_1).f1) x6_2).f2).length : Int))) x4_4 x5_1 x6_2 x7_4 = some r) ∧ Aside0 (kq ≤ kj8) ∧ Drawn0 w w')
                              case atStart => exact ⟨(x4_2), (0), (by first | rfl | (simp; done) | (simp [*]; done)), (by first | rfl | (simp; done) | (simp [*]; done)), H', ⟨Nat.le_refl _⟩, by repeat (first | exact Drawn0.refl _ | apply Drawn0.step)⟩
                              case round =>
                                clear H'
                                try clear c1
                                try clear c2
                                try clear c2b0
                                try clear p2
                                try clear q2
                                try clear hx2
                                try clear c3
                                try clear c3b0
                                try clear c4
                                try clear c4b0
                                try clear c4b1
                                try clear c5
                                try clear c5b0
                                try clear c6
                                try clear c6b0
                                try clear p6
                                try clear c7
                                try clear c7b0
                                try clear c8
                                try clear c8b0
                                try clear c10
                                try clear c10b0
                                try clear c11
                                try clear hx240_0
                                try clear hx240_1
                                try clear hx241_0
                                try clear hx241_1
                                try clear hx242_0
                                try clear hx242_1
                                try clear hx243_0
                                try clear hx243_1
                                try clear hx243_2
                                try clear hx244_0
                                try clear hx244_1
                                try clear hx245_0
                                try clear hx245_1
                                try clear hx245_2
                                try clear p2
                                try clear p240
                                try clear p241
                                try clear p242
                                try clear p243
                                try clear p244
                                try clear p245
                                try clear p6
                                try clear q2
                                try clear q240
                                try clear q241
                                try clear q242
                                try clear q243
                                try clear q244
                                try clear q245
                                obtain ⟨x4_4, x7_4, rfl, rfl, HA, HK4, ⟨m4, rfl⟩⟩ := hrel
                                cases gk with
                                | zero => exact absurd HA.out (by simp [paraphrastlaw01_Few.l2])
                                | succ k4 =>
                                  have H := HA.out
                                  clear HA
                                  simp only [paraphrastlaw01_Few.l2] at H
                                  by_cases c12 : 0 ≤ x5_1
                                  · rw [if_pos c12] at H
                                    have c12b0 : decide (0 ≤ x5_1) = true := decide_eq_true c12
                                    clear c12
                                    by_cases c13 : x5_1 < (l0.length : Int)
                                    · rw [if_pos c13] at H
                                      have c13b0 : decide (x5_1 < (l0.length : Int)) = true := decide_eq_true c13
                                      clear c13
                                      by_cases c14 : 0 ≤ x6_2
                                      · rw [if_pos c14] at H
                                        have c14b0 : decide (0 ≤ x6_2) = true := decide_eq_true c14
                                        clear c14
                                        by_cases c15 : x6_2 < (((rd_T38 l0 x5_1).f1).length : Int)
                                        · rw [if_pos c15] at H
                                          have c15b0 : decide (x6_2 < (((rd_T38 l0 x5_1).f1).length : Int)) = true := decide_eq_true c15
                                          clear c15
                                          by_cases c16 : x7_4 < (((rd_T54 ((rd_T38 l0 x5_1).f1) x6_2).f2).length : Int)
                                          · rw [if_pos c16] at H
                                            have c16b0 : decide (x7_4 < (((rd_T54 ((rd_T38 l0 x5_1).f1) x6_2).f2).length : Int)) = true := decide_eq_true c16
                                            clear c16
                                            by_cases c17 : 0 ≤ x7_4
                                            · rw [if_pos c17] at H
                                              have c17b0 : decide (0 ≤ x7_4) = true := decide_eq_true c17
                                              clear c17
                                              have H' := Aside0.mk H
                                              clear H
                                              have p246 : 0 ≤ (x5_1 : Int) := of_decide_eq_true (by first | (with_reducible assumption) | assumption)
                                              have q246 : x5_1 < (l0.length : Int) := of_decide_eq_true (by first | (with_reducible assumption) | assumption)
                                              obtain ⟨ad246, A246_1, c246_1, e246, hx246_0, hx246_1, hl246_1, hi246_1⟩ := at_T38 HR0.out x5_1 p246 q246
                                              obtain rfl : ad240 = ad246 := (by injection e246)
                                              have HR246_1 := Aside0.mk hi246_1
                                              have HC246_1 := Aside0.mk hl246_1
                                              clear hi246_1 hl246_1
                                              replace p246 := eq_true p246
                                              replace q246 := eq_true q246
                                              have p247 : 0 ≤ (x6_2 : Int) := of_decide_eq_true (by first | (with_reducible assumption) | assumption)
                                              have q247 : x6_2 < (((rd_T38 l0 x5_1).f1).length : Int) := of_decide_eq_true (by first | (with_reducible assumption) | assumption)
                                              obtain ⟨ad247, A247_2, c247_2, e247, hx247_0, hx247_1, hx247_2, hl247_2, hi247_2⟩ := at_T54 HR246_1.out x6_2 p247 q247
                                              cases e247
                                              have HR247_2 := Aside0.mk hi247_2
                                              have HC247_2 := Aside0.mk hl247_2
                                              clear hi247_2 hl247_2
                                              replace p247 := eq_true p247
                                              replace q247 := eq_true q247
                                              have p248 : 0 ≤ (x5_1 : Int) := of_decide_eq_true (by first | (with_reducible assumption) | assumption)
                                              have q248 : x5_1 < (l0.length : Int) := of_decide_eq_true (by first | (with_reducible assumption) | assumption)
                                              obtain ⟨ad248, A248_1, c248_1, e248, hx248_0, hx248_1, hl248_1, hi248_1⟩ := at_T38 HR0.out x5_1 p248 q248
                                              obtain rfl : ad240 = ad248 := (by injection e248)
                                              have HR248_1 := Aside0.mk hi248_1
                                              have HC248_1 := Aside0.mk hl248_1
                                              clear hi248_1 hl248_1
                                              replace p248 := eq_true p248
                                              replace q248 := eq_true q248
                                              have ea_ := Option.some.inj (hx246_1.symm.trans hx248_1)
                                              injection ea_ with ea_ en_ ec_
                                              subst ea_
                                              subst ec_
                                              clear en_
                                              have p249 : 0 ≤ (x6_2 : Int) := of_decide_eq_true (by first | (with_reducible assumption) | assumption)
                                              have q249 : x6_2 < (((rd_T38 l0 x5_1).f1).length : Int) := of_decide_eq_true (by first | (with_reducible assumption) | assumption)
                                              obtain ⟨ad249, A249_2, c249_2, e249, hx249_0, hx249_1, hx249_2, hl249_2, hi249_2⟩ := at_T54 HR248_1.out x6_2 p249 q249
                                              cases e249
                                              have HR249_2 := Aside0.mk hi249_2
                                              have HC249_2 := Aside0.mk hl249_2
                                              clear hi249_2 hl249_2
                                              replace p249 := eq_true p249
                                              replace q249 := eq_true q249
                                              have ea_ := Option.some.inj (hx247_2.symm.trans hx249_2)
                                              injection ea_ with ea_ en_ ec_
                                              subst ea_
                                              subst ec_
                                              clear en_
                                              have p250 : 0 ≤ (x7_4 : Int) := of_decide_eq_true (by first | (with_reducible assumption) | assumption)
                                              have q250 : x7_4 < (((rd_T54 ((rd_T38 l0 x5_1).f1) x6_2).f2).length : Int) := of_decide_eq_true (by first | (with_reducible assumption) | assumption)
                                              obtain ⟨ad250, A250_0, c250_0, e250, hx250_0, hl250_0, hi250_0⟩ := at_L2 HR249_2.out x7_4 p250 q250
                                              cases e250
                                              have HR250_0 := Aside0.mk hi250_0
                                              have HC250_0 := Aside0.mk hl250_0
                                              clear hi250_0 hl250_0
                                              replace p250 := eq_true p250
                                              replace q250 := eq_true q250
                                              go_wp2
                                              go_roundg k4
                                              case measure => have := HK1.out; have := HK2.out; have := HJ8.out; have := HK4.out; omega
                                              case rel => exact ⟨(wrap64 (x4_4 + ((rd_L2 ((rd_T54 ((rd_T38 l0 x5_1).f1) x6_2).f2) x7_4).length : Int))), (wrap64 (x7_4 + 1)), (by first | rfl | (simp; done) | (simp [*]; done)), (by first | rfl | (simp; done) | (simp [*]; done)), H', ⟨by have := HK1.out; have := HK2.out; have := HJ8.out; have := HK4.out; omega⟩, by repeat (first | exact Drawn0.refl _ | apply Drawn0.step)⟩
                                            · rw [if_neg c17] at H
                                              exact absurd H (by simp)
                                          · rw [if_neg c16] at H
                                            have c16b0 : decide (x7_4 < (((rd_T54 ((rd_T38 l0 x5_1).f1) x6_2).f2).length : Int)) = false := decide_eq_false c16
                                            clear c16
                                            have H' := Aside0.mk H
                                            clear H
                                            have p246 : 0 ≤ (x5_1 : Int) := of_decide_eq_true (by first | (with_reducible assumption) | assumption)
                                            have q246 : x5_1 < (l0.length : Int) := of_decide_eq_true (by first | (with_reducible assumption) | assumption)
                                            obtain ⟨ad246, A246_1, c246_1, e246, hx246_0, hx246_1, hl246_1, hi246_1⟩ := at_T38 HR0.out x5_1 p246 q246
                                            obtain rfl : ad240 = ad246 := (by injection e246)
                                            have HR246_1 := Aside0.mk hi246_1
                                            have HC246_1 := Aside0.mk hl246_1
                                            clear hi246_1 hl246_1
                                            replace p246 := eq_true p246
                                            replace q246 := eq_true q246
                                            have p247 : 0 ≤ (x6_2 : Int) := of_decide_eq_true (by first | (with_reducible assumption) | assumption)
                                            have q247 : x6_2 < (((rd_T38 l0 x5_1).f1).length : Int) := of_decide_eq_true (by first | (with_reducible assumption) | assumption)
                                            obtain ⟨ad247, A247_2, c247_2, e247, hx247_0, hx247_1, hx247_2, hl247_2, hi247_2⟩ := at_T54 HR246_1.out x6_2 p247 q247
                                            cases e247
                                            have HR247_2 := Aside0.mk hi247_2
                                            have HC247_2 := Aside0.mk hl247_2
                                            clear hi247_2 hl247_2
                                            replace p247 := eq_true p247
                                            replace q247 := eq_true q247
                                            go_wp2
                                            go_roundg k4
                                            case measure => have := HK1.out; have := HK2.out; have := HJ8.out; have := HK4.out; omega
                                            case rel => exact ⟨((wrap64 (x3_2 + (((rd_T54 ((rd_T38 l0 x5_1).f1) x6_2).f2).length : Int)))), (x4_4), (wrap64 (x6_2 + 1)), (by first | rfl | (simp; done) | (simp [*]; done)), (by first | rfl | (simp; done) | (simp [*]; done)), (by first | rfl | (simp; done) | (simp [*]; done)), H', ⟨by have := HK1.out; have := HK2.out; have := HJ8.out; have := HK4.out; omega⟩, by repeat (first | exact Drawn0.refl _ | apply Drawn0.step)⟩
                                        · rw [if_neg c15] at H
                                          exact absurd H (by simp)
                                      · rw [if_neg c14] at H
                                        exact absurd H (by simp)
                                    · rw [if_neg c13] at H
                                      exact absurd H (by simp)
                                  · rw [if_neg c12] at H
                                    exact absurd H (by simp)
                      · rw [if_neg c8] at H
                        exact absurd H (by simp)
                    · rw [if_neg c7] at H
                      have c7b0 : decide (x6_2 < (((rd_T38 l0 x5_1).f1).length : Int)) = false := decide_eq_false c7
                      clear c7
                      have H' := Aside0.mk H
                      clear H
                      have p241 : 0 ≤ (x5_1 : Int) := of_decide_eq_true (by first | (with_reducible assumption) | assumption)
                      have q241 : x5_1 < (l0.length : Int) := of_decide_eq_true (by first | (with_reducible assumption) | assumption)
                      obtain ⟨ad241, A241_1, c241_1, e241, hx241_0, hx241_1, hl241_1, hi241_1⟩ := at_T38 HR0.out x5_1 p241 q241
                      obtain rfl : ad240 = ad241 := (by injection e241)
                      have HR241_1 := Aside0.mk hi241_1
                      have HC241_1 := Aside0.mk hl241_1
                      clear hi241_1 hl241_1
                      replace p241 := eq_true p241
                      replace q241 := eq_true q241
                      go_wp2
                      go_roundg k2
                      case measure => have := HK1.out; have := HK2.out; omega
                      case rel => exact ⟨(x3_2), (x4_2), (wrap64 (x5_1 + 1)), (by first | rfl | (simp; done) | (simp [*]; done)), (by first | rfl | (simp; done) | (simp [*]; done)), (by first | rfl | (simp; done) | (simp [*]; done)), H', ⟨by have := HK1.out; have := HK2.out; omega⟩, by repeat (first | exact Drawn0.refl _ | apply Drawn0.step)⟩
                  · rw [if_neg c6] at H
                    exact absurd H (by simp)
                · rw [if_neg c5] at H
                  exact absurd H (by simp)
        · rw [if_neg c3] at H
          exact absurd H (by simp)
      · rw [if_neg c2] at H
        have c2b0 : decide (x5_1 < (l0.length : Int)) = false := decide_eq_false c2
        clear c2
        obtain rfl := Option.some.inj H
        go_wp2
        go_ret
        exact ⟨by first | rfl | (simp; done) | (simp [*]; done), by repeat (first | exact Drawn0.refl _ | apply Drawn0.step)⟩
end Go.Proofs.YtfmpaofbnjlniaaDoor.F
namespace Go.Proofs.YtfmpaofbnjlniaaDoor.F
open Go.RowKit Go.Proofs.YtfmpaofbnjlniaaDoorW.PrintWords Go.Proofs.YtfmpaofbnjlniaaDoorW.PrintLast Go.Proofs.YtfmpaofbnjlniaaDoorW.PrintMore
attribute [local go_sem] max2_int min2_int max_two min_two max_three min_three max_four min_four
set_option linter.unusedVariables false
set_option linter.unusedSimpArgs false
theorem eqA67 (d : Nat) (w : World) (x0 y0 : ByteArray) (x1 y1 : Int) :
    (Op.equalIn (d + 2) 67 (.agg #[.string x0, .int .i64 x1]) (.agg #[.string y0, .int .i64 y1])).run Tryd.prog w = .ok (x0.toList == y0.toList && (x1 == y1)) w := by
  refine eqA_of Tryd.underlying67 (by kernel_rfl) ?_
  refine eqf_cons (by rfl) (by go_simp; rfl) (by go_simp; rfl) (by go_simp) ?_
  exact eqf_last (by rfl) (by go_simp; rfl) (by go_simp; rfl) (by go_simp)
end Go.Proofs.YtfmpaofbnjlniaaDoor.F
/- ShapeValid, the plain law. -/
namespace Go.Proofs.YtfmpaofbnjlniaaDoor.F
open Go.RowKit Go.Proofs.YtfmpaofbnjlniaaDoorW.PrintWords Go.Proofs.YtfmpaofbnjlniaaDoorW.PrintLast Go.Proofs.YtfmpaofbnjlniaaDoorW.PrintMore
set_option linter.unusedVariables false
theorem few_l2 (n : Int) (l : List S54) (i : Nat) (hi : i < l.length) (h8 : l.length ≤ 12) (x3 : Int) (hM : (rd_T54 l (i : Int)).f2.length ≤ 9223372036854775807) (H : ∀ x4, ∃ k b, paraphrastlaw01_Few.l1 k [⟨n, l⟩] x3 x4 0 ((i : Int) + 1) = some b) :
    ∀ (m j : Nat) (x4 : Int), j + m = (rd_T54 l (i : Int)).f2.length → ∃ k b, paraphrastlaw01_Few.l2 k [⟨n, l⟩] x3 x4 0 (i : Int) (j : Int) = some b
  | 0, j, x4, h => by
    obtain ⟨k, b, hk⟩ := H x4
    refine ⟨k + 1, b, ?_⟩
    unfold paraphrastlaw01_Few.l2
    rw [if_pos (by omega), if_pos (by simp), if_pos (by omega), if_pos (show (i : Int) < ((rd_T38 [⟨n, l⟩] 0).f1.length : Int) from by show (i : Int) < (l.length : Int); omega), if_neg (show ¬ (j : Int) < ((rd_T54 (rd_T38 [⟨n, l⟩] 0).f1 (i : Int)).f2.length : Int) from by show ¬ (j : Int) < ((rd_T54 l (i : Int)).f2.length : Int); omega), w64 (by omega) (by omega)]
    exact hk
  | m + 1, j, x4, h => by
    obtain ⟨k, b, hk⟩ := few_l2 n l i hi h8 x3 hM H m (j + 1) (wrap64 (x4 + ((rd_L2 (rd_T54 l (i : Int)).f2 (j : Int)).length : Int))) (by omega)
    refine ⟨k + 1, b, ?_⟩
    unfold paraphrastlaw01_Few.l2
    rw [if_pos (by omega), if_pos (by simp), if_pos (by omega), if_pos (show (i : Int) < ((rd_T38 [⟨n, l⟩] 0).f1.length : Int) from by show (i : Int) < (l.length : Int); omega), if_pos (show (j : Int) < ((rd_T54 (rd_T38 [⟨n, l⟩] 0).f1 (i : Int)).f2.length : Int) from by show (j : Int) < ((rd_T54 l (i : Int)).f2.length : Int); omega), if_pos (by omega), w64 (x := (j : Int) + 1) (by omega) (by omega)]
    exact hk
theorem few_l1 (n : Int) (l : List S54) (h8 : l.length ≤ 12) (hM : ∀ r ∈ l, r.f2.length ≤ 9223372036854775807) : ∀ (d i : Nat) (x3 x4 : Int), i + d = l.length → ∃ k b, paraphrastlaw01_Few.l1 k [⟨n, l⟩] x3 x4 0 (i : Int) = some b
  | 0, i, x3, x4, h => by
    refine ⟨2, decide (x4 ≤ 20000), ?_⟩
    unfold paraphrastlaw01_Few.l1
    rw [if_pos (by omega), if_pos (by simp), if_neg (show ¬ (i : Int) < ((rd_T38 [⟨n, l⟩] 0).f1.length : Int) from by show ¬ (i : Int) < (l.length : Int); omega), show wrap64 (0 + 1) = 1 from by unfold wrap64; omega]
    unfold paraphrastlaw01_Few.l0
    rw [if_neg (by simp)]
  | d + 1, i, x3, x4, h => by
    have hi : i < l.length := by omega
    have hr := hM _ (List.getElem_mem hi)
    rw [← rdT_nat l i hi] at hr
    generalize hX : wrap64 (x3 + ((rd_T54 l (i : Int)).f2.length : Int)) = X
    have step : ∀ k, paraphrastlaw01_Few.l1 (k + 1) [⟨n, l⟩] x3 x4 0 (i : Int) = if X > 1500 then paraphrastlaw01_Few.j2 k [⟨n, l⟩] X x4 0 (i : Int) true else paraphrastlaw01_Few.j2 k [⟨n, l⟩] X x4 0 (i : Int) (decide (((rd_T54 l (i : Int)).f0.size : Int) > 1000)) := fun k => by
      conv => lhs; unfold paraphrastlaw01_Few.l1
      rw [if_pos (by omega), if_pos (by simp), if_pos (show (i : Int) < ((rd_T38 [⟨n, l⟩] 0).f1.length : Int) from by show (i : Int) < (l.length : Int); omega), if_pos (by omega)]
      show (if wrap64 (x3 + ((rd_T54 l (i : Int)).f2.length : Int)) > 1500 then paraphrastlaw01_Few.j2 k [⟨n, l⟩] (wrap64 (x3 + ((rd_T54 l (i : Int)).f2.length : Int))) x4 0 (i : Int) true else paraphrastlaw01_Few.j2 k [⟨n, l⟩] (wrap64 (x3 + ((rd_T54 l (i : Int)).f2.length : Int))) x4 0 (i : Int) (decide (((rd_T54 l (i : Int)).f0.size : Int) > 1000))) = _
      rw [hX]
    by_cases h1 : X > 1500
    · exact ⟨2, false, by rw [step, if_pos h1]; rfl⟩
    · by_cases h2 : ((rd_T54 l (i : Int)).f0.size : Int) > 1000
      · exact ⟨2, false, by rw [step, if_neg h1, decide_eq_true h2]; rfl⟩
      · obtain ⟨k, b, hk⟩ := few_l2 n l i hi h8 X hr (fun x4' => by have := few_l1 n l h8 hM d (i + 1) X x4' (by omega); rwa [show ((i + 1 : Nat) : Int) = (i : Int) + 1 by omega] at this) (rd_T54 l (i : Int)).f2.length 0 x4 (by omega)
        exact ⟨k + 2, b, by rw [step, if_neg h1, decide_eq_false h2]; exact hk⟩
theorem few_ex (n : Int) (l : List S54) (hM : ∀ r ∈ l, r.f2.length ≤ 9223372036854775807) : ∃ k b, paraphrastlaw01_Few.f k [⟨n, l⟩] = some b := by
  by_cases h : (l.length : Int) > 12
  · exact ⟨1, false, by
      unfold paraphrastlaw01_Few.f paraphrastlaw01_Few.l0
      rw [if_pos (by simp), if_pos (by omega)]
      exact if_pos h⟩
  · obtain ⟨k, b, hk⟩ := few_l1 n l (by omega) hM l.length 0 0 0 (by omega)
    exact ⟨k + 1, b, by
      unfold paraphrastlaw01_Few.f paraphrastlaw01_Few.l0
      rw [if_pos (by simp), if_pos (by omega)]
      exact (if_neg h).trans hk⟩
theorem rels_max {w : World} {A : Option Addr} {n : Nat} {l : List S54} (h : Kd.C k54 w A n l) : ∀ r ∈ l, r.f2.length ≤ 9223372036854775807 := by
  intro r hr
  obtain ⟨i, hi, rfl⟩ := List.getElem_of_mem hr
  have hn : 0 < n := by have := h.1; omega
  obtain ⟨ad, _, hc⟩ := h.2.2 hn
  obtain ⟨c, _, hK, _⟩ := hc i _ (List.getElem?_eq_getElem hi)
  obtain ⟨A2, c2, _, _, g⟩ := k54_open hK
  exact g.2.1
end Go.Proofs.YtfmpaofbnjlniaaDoor.F
namespace Go.Proofs.YtfmpaofbnjlniaaDoor.F
open Go.RowKit Go.Proofs.YtfmpaofbnjlniaaDoorW.PrintWords Go.Proofs.YtfmpaofbnjlniaaDoorW.PrintLast Go.Proofs.YtfmpaofbnjlniaaDoorW.PrintMore
attribute [local go_sem] max2_int min2_int max_two min_two max_three min_three max_four min_four
set_option linter.unusedVariables false
set_option linter.unusedSimpArgs false
/-! ### shape_Text: function 26 -/
noncomputable def shape_Text.f (k : Nat) (a0_0 : Int) (l0_1 : List (S54)) : Option (ByteArray × Int) := (shape_Valid.f k a0_0 l0_1).bind fun t304 => (if t304 = true then ((shape_write.f a0_0 l0_1).bind fun t305 => (if (t305.size : Int) > 40000 then (some ((⟨#[]⟩ : ByteArray), 5)) else (some (t305, 0)))) else (some ((⟨#[]⟩ : ByteArray), 1)))
set_option maxHeartbeats 8000000 in
set_option maxRecDepth 100000 in
theorem shape_Text.calls (k : Nat) (a0_0 : Int) (A0_1 : Option Addr) (c0_1 : Nat) (l0_1 : List (S54)) (r1 : ByteArray) (r2 : Int) (w : World) (hr0_1 : Kd.C k54 w A0_1 l0_1.length l0_1) (hc0_1 : l0_1.length ≤ c0_1) (h : shape_Text.f k a0_0 l0_1 = some (r1, r2)) :
    Calls Tryd.prog 26 #[.agg #[.int .i64 a0_0, .slice A0_1 l0_1.length c0_1]] w fun e w' => e = .returned (.tuple #[.string r1, .int .i64 r2]) ∧ Below w.heap.size w w' := by
  have hu38 := Tryd.underlying38
  have HR0_1 := Aside0.mk hr0_1
  have HC0_1 := Aside0.mk hc0_1
  clear hr0_1 hc0_1
  have HB := Aside0.mk (Below.refl w.heap.size w)
  have H : ((shape_Valid.f k a0_0 l0_1).bind fun t304 => (if t304 = true then ((shape_write.f a0_0 l0_1).bind fun t305 => (if (t305.size : Int) > 40000 then (some ((⟨#[]⟩ : ByteArray), 5)) else (some (t305, 0)))) else (some ((⟨#[]⟩ : ByteArray), 1)))) = some (r1, r2) := h
  clear h
  replace H := Option.bind_eq_some_iff.mp H
  obtain ⟨t304, A20, H⟩ := H
  replace H : (if t304 = true then ((shape_write.f a0_0 l0_1).bind fun t305 => (if (t305.size : Int) > 40000 then (some ((⟨#[]⟩ : ByteArray), 5)) else (some (t305, 0)))) else (some ((⟨#[]⟩ : ByteArray), 1))) = some (r1, r2) := H
  have A2 := Aside0.mk A20
  clear A20
  by_cases c3 : t304 = true
  · subst c3
    have H1 : ((shape_write.f a0_0 l0_1).bind fun t305 => (if (t305.size : Int) > 40000 then (some ((⟨#[]⟩ : ByteArray), 5)) else (some (t305, 0)))) = some (r1, r2) := by rw [if_pos rfl] at H; exact H
    clear H
    have H := H1
    clear H1
    replace H := Option.bind_eq_some_iff.mp H
    obtain ⟨t305, A40, H⟩ := H
    replace H : (if (t305.size : Int) > 40000 then (some ((⟨#[]⟩ : ByteArray), 5)) else (some (t305, 0))) = some (r1, r2) := H
    have A4 := Aside0.mk A40
    clear A40
    by_cases c5 : (t305.size : Int) > 40000
    · rw [if_pos c5] at H
      have c5b0 : decide (40000 < (t305.size : Int)) = true := decide_eq_true c5
      have c5b1 : decide (40000 < t305.size) = true := decide_eq_true (by omega)
      clear c5
      simp only [Option.some.injEq, Prod.mk.injEq] at H
      obtain ⟨rfl, rfl⟩ := H
      go_enter Tryd.func26, Tryd.ntmps26
      go_wp2_with (first | ((with_reducible refine gate_dst (N := 1) rfl ?_); refine box_event ?hg (N := 1) ?hd (cs := #[.int .i64 a0_0, .slice A0_1 l0_1.length c0_1]) (t := 38) ?hr ?_; (case hd => rfl); (case hg => rfl); (case hr => first | (go_simp; done) | (go_simp; rfl)); intro gb303 hg w6 hbox hb; have n0_ := Aside0.mk (below_step (by repeat (first | (with_reducible first | exact HB.out | apply below_alloc | apply pw_below_drewN | apply below_drew1) | exact HB.out)) hb); have n1_ := Aside0.mk (hbox); have n2_ := Aside0.mk ((by rw [hg]; exact (below_size (by repeat (first | (with_reducible first | exact HB.out | apply below_alloc | apply pw_below_drewN | apply below_drew1) | exact HB.out))) : w.heap.size ≤ gb303)); have n3_ := Aside0.mk ((by rw [hg]; exact (below_size (by repeat (first | (with_reducible first | exact HB.out | apply below_alloc | apply pw_below_drewN | apply below_drew1) | exact HB.out))) : w.heap.size ≤ gb303)); clear HB; have HB := n0_; have BK303 := n1_; have GW303 := n2_; have GE303 := n3_; clear n0_ n1_ n2_ n3_; clear hb hbox hg; have hcz7_0 : w6.cell? ⟨gb303, 0, none⟩ = some (.int .i64 a0_0) := (blk_cell BK303.out 0).trans rfl; have hcz7_1 : w6.cell? ⟨gb303, 1, none⟩ = some (.slice A0_1 l0_1.length c0_1) := (blk_cell BK303.out 1).trans rfl; have hfz7_0 := blk_frozen BK303.out 0; have hfz7_1 := blk_frozen BK303.out 1) | ((with_reducible refine gate_callee (f := 21) rfl ?_); refine goesL_ (some 6) rfl rfl Tryd.func21 (by kernel_rfl) rfl #[.agg #[.int .i64 a0_0, .slice A0_1 l0_1.length c0_1]] rfl (by (try simp only [List.map_toArray, List.map_cons, List.map_nil]); first | done | rfl | (simp only [List.length_drop, List.length_take]; rfl)) ?_; (with_reducible refine (shape_Valid.calls k a0_0 _ _ l0_1 true _ ?side1 ?side2 A2.out).mono ?_); (case side1 => repeat (first | exact (Kd.C_below HR0_1.out HB.out) | (with_reducible refine Kd.C_alloc ?_ _) | (with_reducible refine Kd.C_drewN ?_ _) | (with_reducible refine Kd.C_drew ?_))); (case side2 => exact HC0_1.out); rintro e w8 ⟨rfl, hb⟩; refine ⟨_, rfl, ?_⟩; have n0_ := Aside0.mk (blk_below (g := gb303) (o := .cells #[.int .i64 a0_0, .slice A0_1 l0_1.length c0_1] 38 (0, 0)) (by (with_reducible repeat (first | refine blk_drewN ?_ _ | refine blk_drew ?_ | refine blk_alloc ?_ _)); exact BK303.out) hb); have n1_ := Aside0.mk (below_step (by repeat (first | (with_reducible first | exact HB.out | apply below_alloc | apply pw_below_drewN | apply below_drew1 | refine below_set ?_ GE303.out) | exact HB.out)) hb); clear BK303; clear HB; have BK303 := n0_; have HB := n1_; clear n0_ n1_; (try clear hb); (try clear hb2); (try clear hk); (try clear hi); have hcz9_0 : w8.cell? ⟨gb303, 0, none⟩ = some (.int .i64 a0_0) := (blk_cell BK303.out 0).trans rfl; have hcz9_1 : w8.cell? ⟨gb303, 1, none⟩ = some (.slice A0_1 l0_1.length c0_1) := (blk_cell BK303.out 1).trans rfl; have hfz9_0 := blk_frozen BK303.out 0; have hfz9_1 := blk_frozen BK303.out 1) | ((with_reducible refine gate_callee (f := 45) rfl ?_); refine goesL_ (some 9) rfl rfl Tryd.func45 (by kernel_rfl) rfl #[.agg #[.int .i64 a0_0, .slice A0_1 l0_1.length c0_1]] rfl (by (try simp only [List.map_toArray, List.map_cons, List.map_nil]); first | done | rfl | (simp only [List.length_drop, List.length_take]; rfl)) ?_; (with_reducible refine (shape_write.calls a0_0 _ _ l0_1 t305 _ ?side1 ?side2 A4.out).mono ?_); (case side1 => repeat (first | exact (Kd.C_below HR0_1.out HB.out) | (with_reducible refine Kd.C_alloc ?_ _) | (with_reducible refine Kd.C_drewN ?_ _) | (with_reducible refine Kd.C_drew ?_))); (case side2 => exact HC0_1.out); rintro e w10 ⟨rfl, hb⟩; refine ⟨_, rfl, ?_⟩; have n0_ := Aside0.mk (blk_below (g := gb303) (o := .cells #[.int .i64 a0_0, .slice A0_1 l0_1.length c0_1] 38 (0, 0)) (by (with_reducible repeat (first | refine blk_drewN ?_ _ | refine blk_drew ?_ | refine blk_alloc ?_ _)); exact BK303.out) hb); have n1_ := Aside0.mk (below_step (by repeat (first | (with_reducible first | exact HB.out | apply below_alloc | apply pw_below_drewN | apply below_drew1 | refine below_set ?_ GE303.out) | exact HB.out)) hb); clear BK303; clear HB; have BK303 := n0_; have HB := n1_; clear n0_ n1_; (try clear hb); (try clear hb2); (try clear hk); (try clear hi)))
      go_ret2
      exact ⟨by first | rfl | (simp [errW_none, errW_some] <;> rfl) | (simp [*, errW_none, errW_some] <;> rfl), by repeat (first | (with_reducible first | exact HB.out | apply below_alloc | apply pw_below_drewN | apply below_drew1 | refine below_set ?_ GE303.out) | exact HB.out)⟩
    · rw [if_neg c5] at H
      have c5b0 : decide (40000 < (t305.size : Int)) = false := decide_eq_false c5
      have c5b1 : decide (40000 < t305.size) = false := decide_eq_false (by omega)
      clear c5
      simp only [Option.some.injEq, Prod.mk.injEq] at H
      obtain ⟨rfl, rfl⟩ := H
      go_enter Tryd.func26, Tryd.ntmps26
      go_wp2_with (first | ((with_reducible refine gate_dst (N := 1) rfl ?_); refine box_event ?hg (N := 1) ?hd (cs := #[.int .i64 a0_0, .slice A0_1 l0_1.length c0_1]) (t := 38) ?hr ?_; (case hd => rfl); (case hg => rfl); (case hr => first | (go_simp; done) | (go_simp; rfl)); intro gb303 hg w11 hbox hb; have n0_ := Aside0.mk (below_step (by repeat (first | (with_reducible first | exact HB.out | apply below_alloc | apply pw_below_drewN | apply below_drew1) | exact HB.out)) hb); have n1_ := Aside0.mk (hbox); have n2_ := Aside0.mk ((by rw [hg]; exact (below_size (by repeat (first | (with_reducible first | exact HB.out | apply below_alloc | apply pw_below_drewN | apply below_drew1) | exact HB.out))) : w.heap.size ≤ gb303)); have n3_ := Aside0.mk ((by rw [hg]; exact (below_size (by repeat (first | (with_reducible first | exact HB.out | apply below_alloc | apply pw_below_drewN | apply below_drew1) | exact HB.out))) : w.heap.size ≤ gb303)); clear HB; have HB := n0_; have BK303 := n1_; have GW303 := n2_; have GE303 := n3_; clear n0_ n1_ n2_ n3_; clear hb hbox hg; have hcz12_0 : w11.cell? ⟨gb303, 0, none⟩ = some (.int .i64 a0_0) := (blk_cell BK303.out 0).trans rfl; have hcz12_1 : w11.cell? ⟨gb303, 1, none⟩ = some (.slice A0_1 l0_1.length c0_1) := (blk_cell BK303.out 1).trans rfl; have hfz12_0 := blk_frozen BK303.out 0; have hfz12_1 := blk_frozen BK303.out 1) | ((with_reducible refine gate_callee (f := 21) rfl ?_); refine goesL_ (some 6) rfl rfl Tryd.func21 (by kernel_rfl) rfl #[.agg #[.int .i64 a0_0, .slice A0_1 l0_1.length c0_1]] rfl (by (try simp only [List.map_toArray, List.map_cons, List.map_nil]); first | done | rfl | (simp only [List.length_drop, List.length_take]; rfl)) ?_; (with_reducible refine (shape_Valid.calls k a0_0 _ _ l0_1 true _ ?side1 ?side2 A2.out).mono ?_); (case side1 => repeat (first | exact (Kd.C_below HR0_1.out HB.out) | (with_reducible refine Kd.C_alloc ?_ _) | (with_reducible refine Kd.C_drewN ?_ _) | (with_reducible refine Kd.C_drew ?_))); (case side2 => exact HC0_1.out); rintro e w13 ⟨rfl, hb⟩; refine ⟨_, rfl, ?_⟩; have n0_ := Aside0.mk (blk_below (g := gb303) (o := .cells #[.int .i64 a0_0, .slice A0_1 l0_1.length c0_1] 38 (0, 0)) (by (with_reducible repeat (first | refine blk_drewN ?_ _ | refine blk_drew ?_ | refine blk_alloc ?_ _)); exact BK303.out) hb); have n1_ := Aside0.mk (below_step (by repeat (first | (with_reducible first | exact HB.out | apply below_alloc | apply pw_below_drewN | apply below_drew1 | refine below_set ?_ GE303.out) | exact HB.out)) hb); clear BK303; clear HB; have BK303 := n0_; have HB := n1_; clear n0_ n1_; (try clear hb); (try clear hb2); (try clear hk); (try clear hi); have hcz14_0 : w13.cell? ⟨gb303, 0, none⟩ = some (.int .i64 a0_0) := (blk_cell BK303.out 0).trans rfl; have hcz14_1 : w13.cell? ⟨gb303, 1, none⟩ = some (.slice A0_1 l0_1.length c0_1) := (blk_cell BK303.out 1).trans rfl; have hfz14_0 := blk_frozen BK303.out 0; have hfz14_1 := blk_frozen BK303.out 1) | ((with_reducible refine gate_callee (f := 45) rfl ?_); refine goesL_ (some 9) rfl rfl Tryd.func45 (by kernel_rfl) rfl #[.agg #[.int .i64 a0_0, .slice A0_1 l0_1.length c0_1]] rfl (by (try simp only [List.map_toArray, List.map_cons, List.map_nil]); first | done | rfl | (simp only [List.length_drop, List.length_take]; rfl)) ?_; (with_reducible refine (shape_write.calls a0_0 _ _ l0_1 t305 _ ?side1 ?side2 A4.out).mono ?_); (case side1 => repeat (first | exact (Kd.C_below HR0_1.out HB.out) | (with_reducible refine Kd.C_alloc ?_ _) | (with_reducible refine Kd.C_drewN ?_ _) | (with_reducible refine Kd.C_drew ?_))); (case side2 => exact HC0_1.out); rintro e w15 ⟨rfl, hb⟩; refine ⟨_, rfl, ?_⟩; have n0_ := Aside0.mk (blk_below (g := gb303) (o := .cells #[.int .i64 a0_0, .slice A0_1 l0_1.length c0_1] 38 (0, 0)) (by (with_reducible repeat (first | refine blk_drewN ?_ _ | refine blk_drew ?_ | refine blk_alloc ?_ _)); exact BK303.out) hb); have n1_ := Aside0.mk (below_step (by repeat (first | (with_reducible first | exact HB.out | apply below_alloc | apply pw_below_drewN | apply below_drew1 | refine below_set ?_ GE303.out) | exact HB.out)) hb); clear BK303; clear HB; have BK303 := n0_; have HB := n1_; clear n0_ n1_; (try clear hb); (try clear hb2); (try clear hk); (try clear hi)))
      go_ret2
      exact ⟨by first | rfl | (simp [errW_none, errW_some] <;> rfl) | (simp [*, errW_none, errW_some] <;> rfl), by repeat (first | (with_reducible first | exact HB.out | apply below_alloc | apply pw_below_drewN | apply below_drew1 | refine below_set ?_ GE303.out) | exact HB.out)⟩
  · replace c3 := Bool.eq_false_iff.mpr c3
    subst c3
    have H1 : (some ((⟨#[]⟩ : ByteArray), 1)) = some (r1, r2) := by rw [if_neg (show ¬ (false = true) by decide)] at H; exact H
    clear H
    have H := H1
    clear H1
    simp only [Option.some.injEq, Prod.mk.injEq] at H
    obtain ⟨rfl, rfl⟩ := H
    go_enter Tryd.func26, Tryd.ntmps26
    go_wp2_with (first | ((with_reducible refine gate_dst (N := 1) rfl ?_); refine box_event ?hg (N := 1) ?hd (cs := #[.int .i64 a0_0, .slice A0_1 l0_1.length c0_1]) (t := 38) ?hr ?_; (case hd => rfl); (case hg => rfl); (case hr => first | (go_simp; done) | (go_simp; rfl)); intro gb303 hg w16 hbox hb; have n0_ := Aside0.mk (below_step (by repeat (first | (with_reducible first | exact HB.out | apply below_alloc | apply pw_below_drewN | apply below_drew1) | exact HB.out)) hb); have n1_ := Aside0.mk (hbox); have n2_ := Aside0.mk ((by rw [hg]; exact (below_size (by repeat (first | (with_reducible first | exact HB.out | apply below_alloc | apply pw_below_drewN | apply below_drew1) | exact HB.out))) : w.heap.size ≤ gb303)); have n3_ := Aside0.mk ((by rw [hg]; exact (below_size (by repeat (first | (with_reducible first | exact HB.out | apply below_alloc | apply pw_below_drewN | apply below_drew1) | exact HB.out))) : w.heap.size ≤ gb303)); clear HB; have HB := n0_; have BK303 := n1_; have GW303 := n2_; have GE303 := n3_; clear n0_ n1_ n2_ n3_; clear hb hbox hg; have hcz17_0 : w16.cell? ⟨gb303, 0, none⟩ = some (.int .i64 a0_0) := (blk_cell BK303.out 0).trans rfl; have hcz17_1 : w16.cell? ⟨gb303, 1, none⟩ = some (.slice A0_1 l0_1.length c0_1) := (blk_cell BK303.out 1).trans rfl; have hfz17_0 := blk_frozen BK303.out 0; have hfz17_1 := blk_frozen BK303.out 1) | ((with_reducible refine gate_callee (f := 21) rfl ?_); refine goesL_ (some 6) rfl rfl Tryd.func21 (by kernel_rfl) rfl #[.agg #[.int .i64 a0_0, .slice A0_1 l0_1.length c0_1]] rfl (by (try simp only [List.map_toArray, List.map_cons, List.map_nil]); first | done | rfl | (simp only [List.length_drop, List.length_take]; rfl)) ?_; (with_reducible refine (shape_Valid.calls k a0_0 _ _ l0_1 false _ ?side1 ?side2 A2.out).mono ?_); (case side1 => repeat (first | exact (Kd.C_below HR0_1.out HB.out) | (with_reducible refine Kd.C_alloc ?_ _) | (with_reducible refine Kd.C_drewN ?_ _) | (with_reducible refine Kd.C_drew ?_))); (case side2 => exact HC0_1.out); rintro e w18 ⟨rfl, hb⟩; refine ⟨_, rfl, ?_⟩; have n0_ := Aside0.mk (blk_below (g := gb303) (o := .cells #[.int .i64 a0_0, .slice A0_1 l0_1.length c0_1] 38 (0, 0)) (by (with_reducible repeat (first | refine blk_drewN ?_ _ | refine blk_drew ?_ | refine blk_alloc ?_ _)); exact BK303.out) hb); have n1_ := Aside0.mk (below_step (by repeat (first | (with_reducible first | exact HB.out | apply below_alloc | apply pw_below_drewN | apply below_drew1 | refine below_set ?_ GE303.out) | exact HB.out)) hb); clear BK303; clear HB; have BK303 := n0_; have HB := n1_; clear n0_ n1_; (try clear hb); (try clear hb2); (try clear hk); (try clear hi)))
    go_ret2
    exact ⟨by first | rfl | (simp [errW_none, errW_some] <;> rfl) | (simp [*, errW_none, errW_some] <;> rfl), by repeat (first | (with_reducible first | exact HB.out | apply below_alloc | apply pw_below_drewN | apply below_drew1 | refine below_set ?_ GE303.out) | exact HB.out)⟩
end Go.Proofs.YtfmpaofbnjlniaaDoor.F
namespace Go.Proofs.YtfmpaofbnjlniaaDoor.F
open Go.RowKit Go.Proofs.YtfmpaofbnjlniaaDoorW.PrintWords Go.Proofs.YtfmpaofbnjlniaaDoorW.PrintLast Go.Proofs.YtfmpaofbnjlniaaDoorW.PrintMore
attribute [local go_sem] max2_int min2_int max_two min_two max_three min_three max_four min_four
set_option linter.unusedVariables false
set_option linter.unusedSimpArgs false
/-! ### paraphrastref01_SameTuples: function 50 -/
def paraphrastref01_SameTuples.l0 : Nat → List (List Int) → List (List Int) → Int → Option (Bool)
  | 0, _, _, _ => none
  | k + 1, x0, x1, x5 => if x5 < (x0.length : Int) then (if 0 ≤ x5 then (if x5 < (x1.length : Int) then ((paraphrastref01_Equal.f k (rd_L2 x0 x5) (rd_L2 x1 x5)).bind fun t308 => (if t308 = true then (paraphrastref01_SameTuples.l0 k x0 x1 (wrap64 (x5 + 1))) else (some false))) else (none)) else (none)) else (some true)
def paraphrastref01_SameTuples.f (k : Nat) (l0 : List (List Int)) (l1 : List (List Int)) : Option (Bool) := if (l0.length : Int) = (l1.length : Int) then (paraphrastref01_SameTuples.l0 k l0 l1 0) else (some false)
set_option maxHeartbeats 8000000 in
set_option maxRecDepth 100000 in
theorem paraphrastref01_SameTuples.calls (k : Nat) (A0 : Option Addr) (c0 : Nat) (l0 : List (List Int)) (A1 : Option Addr) (c1 : Nat) (l1 : List (List Int)) (r : Bool) (w : World) (hr0 : Kd.C (Kd.slice 3 (Kd.int .i64)) w A0 l0.length l0) (hc0 : l0.length ≤ c0) (hr1 : Kd.C (Kd.slice 3 (Kd.int .i64)) w A1 l1.length l1) (hc1 : l1.length ≤ c1) (h : paraphrastref01_SameTuples.f k l0 l1 = some r) :
    Calls Tryd.prog 50 #[.slice A0 l0.length c0, .slice A1 l1.length c1] w fun e w' => e = .returned (.bool r) ∧ Drawn0 w w' := by
  have HR0 := Aside0.mk hr0
  have HC0 := Aside0.mk hc0
  clear hr0 hc0
  have HR1 := Aside0.mk hr1
  have HC1 := Aside0.mk hc1
  clear hr1 hc1
  have H : (if (l0.length : Int) = (l1.length : Int) then (paraphrastref01_SameTuples.l0 k l0 l1 0) else (some false)) = some r := h
  clear h
  by_cases c3 : (l0.length : Int) = (l1.length : Int)
  · rw [if_pos c3] at H
    have c3b0 : ((l0.length : Int) == (l1.length : Int)) = true := beq_iff_eq.mpr c3
    have c3b1 : ((l0.length : Int) != (l1.length : Int)) = false := bne_eq_false_iff_eq.mpr c3
    have c3b2 : (l0.length == l1.length) = true := by first | simpa using c3 | (simp at c3 ⊢; omega)
    clear c3
    have H' := Aside0.mk H
    clear H
    go_enter Tryd.func50, Tryd.ntmps50
    go_wp2
    repeat (go_quiet (fail); try go_wp2)
    go_loopg [5] k (fun kq v5 w' => ∃ (x5_1 : Int), v5 = .int .i64 x5_1 ∧ Aside0 (paraphrastref01_SameTuples.l0 kq l0 l1 x5_1 = some r) ∧ Aside0 (kq ≤ k) ∧ Drawn0 w w')
    case atStart => exact ⟨(0), (by first | rfl | (simp; done) | (simp [*]; done)), H', ⟨Nat.le_refl _⟩, by repeat (first | exact Drawn0.refl _ | apply Drawn0.step)⟩
    case round =>
      clear H'
      try clear c1
      try clear p2
      try clear c3
      try clear c3b0
      try clear c3b1
      try clear c3b2
      obtain ⟨x5_1, rfl, HA, HK1, ⟨m1, rfl⟩⟩ := hrel
      cases gk with
      | zero => exact absurd HA.out (by simp [paraphrastref01_SameTuples.l0])
      | succ k1 =>
        have H := HA.out
        clear HA
        simp only [paraphrastref01_SameTuples.l0] at H
        by_cases c4 : x5_1 < (l0.length : Int)
        · rw [if_pos c4] at H
          have c4b0 : decide (x5_1 < (l0.length : Int)) = true := decide_eq_true c4
          clear c4
          by_cases c5 : 0 ≤ x5_1
          · rw [if_pos c5] at H
            have c5b0 : decide (0 ≤ x5_1) = true := decide_eq_true c5
            clear c5
            by_cases c6 : x5_1 < (l1.length : Int)
            · rw [if_pos c6] at H
              have c6b0 : decide (x5_1 < (l1.length : Int)) = true := decide_eq_true c6
              clear c6
              replace H := Option.bind_eq_some_iff.mp H
              obtain ⟨t308, A70, H⟩ := H
              replace H : (if t308 = true then (paraphrastref01_SameTuples.l0 k1 l0 l1 (wrap64 (x5_1 + 1))) else (some false)) = some r := H
              have A7 := Aside0.mk A70
              clear A70
              by_cases c8 : t308 = true
              · subst c8
                have H1 : (paraphrastref01_SameTuples.l0 k1 l0 l1 (wrap64 (x5_1 + 1))) = some r := by rw [if_pos rfl] at H; exact H
                clear H
                have H := H1
                clear H1
                have H' := Aside0.mk H
                clear H
                have p306 : 0 ≤ (x5_1 : Int) := of_decide_eq_true (by first | (with_reducible assumption) | assumption)
                have q306 : x5_1 < (l0.length : Int) := of_decide_eq_true (by first | (with_reducible assumption) | assumption)
                obtain ⟨ad306, A306_0, c306_0, e306, hx306_0, hl306_0, hi306_0⟩ := at_L2 HR0.out x5_1 p306 q306
                cases e306
                have HR306_0 := Aside0.mk hi306_0
                have HC306_0 := Aside0.mk hl306_0
                clear hi306_0 hl306_0
                replace p306 := eq_true p306
                replace q306 := eq_true q306
                have p307 : 0 ≤ (x5_1 : Int) := of_decide_eq_true (by first | (with_reducible assumption) | assumption)
                have q307 : x5_1 < (l1.length : Int) := of_decide_eq_true (by first | (with_reducible assumption) | assumption)
                obtain ⟨ad307, A307_0, c307_0, e307, hx307_0, hl307_0, hi307_0⟩ := at_L2 HR1.out x5_1 p307 q307
                cases e307
                have HR307_0 := Aside0.mk hi307_0
                have HC307_0 := Aside0.mk hl307_0
                clear hi307_0 hl307_0
                replace p307 := eq_true p307
                replace q307 := eq_true q307
                go_wp2_with (first | (go_at_call 15; (with_reducible refine (paraphrastref01_Equal.calls k1 _ _ (rd_L2 l0 x5_1) _ _ (rd_L2 l1 x5_1) true _ ?side1 ?side2 ?side3 ?side4 A7.out).mono ?_); (case side1 => repeat (first | exact HR306_0.out | (with_reducible refine Kd.C_alloc ?_ _) | (with_reducible refine Kd.C_drewN ?_ _) | (with_reducible refine Kd.C_drew ?_))); (case side2 => exact HC306_0.out); (case side3 => repeat (first | exact HR307_0.out | (with_reducible refine Kd.C_alloc ?_ _) | (with_reducible refine Kd.C_drewN ?_ _) | (with_reducible refine Kd.C_drew ?_))); (case side4 => exact HC307_0.out); rintro e w' ⟨rfl, ⟨nd, rfl⟩⟩; (try first | exact ⟨rfl, _, World.drewN_drewN _ _ _⟩ | exact ⟨rfl, _, Eq.trans (World.drewN_drewN _ _ _) (congrArg (World.drewN _) (Nat.add_assoc _ _ _))⟩)))
                repeat (go_quiet (first | (go_at_call 15; (with_reducible refine (paraphrastref01_Equal.calls k1 _ _ (rd_L2 l0 x5_1) _ _ (rd_L2 l1 x5_1) true _ ?side1 ?side2 ?side3 ?side4 A7.out).mono ?_); (case side1 => repeat (first | exact HR306_0.out | (with_reducible refine Kd.C_alloc ?_ _) | (with_reducible refine Kd.C_drewN ?_ _) | (with_reducible refine Kd.C_drew ?_))); (case side2 => exact HC306_0.out); (case side3 => repeat (first | exact HR307_0.out | (with_reducible refine Kd.C_alloc ?_ _) | (with_reducible refine Kd.C_drewN ?_ _) | (with_reducible refine Kd.C_drew ?_))); (case side4 => exact HC307_0.out); rintro e w' ⟨rfl, ⟨nd, rfl⟩⟩; (try first | exact ⟨rfl, _, World.drewN_drewN _ _ _⟩ | exact ⟨rfl, _, Eq.trans (World.drewN_drewN _ _ _) (congrArg (World.drewN _) (Nat.add_assoc _ _ _))⟩))); try go_wp2_with (first | (go_at_call 15; (with_reducible refine (paraphrastref01_Equal.calls k1 _ _ (rd_L2 l0 x5_1) _ _ (rd_L2 l1 x5_1) true _ ?side1 ?side2 ?side3 ?side4 A7.out).mono ?_); (case side1 => repeat (first | exact HR306_0.out | (with_reducible refine Kd.C_alloc ?_ _) | (with_reducible refine Kd.C_drewN ?_ _) | (with_reducible refine Kd.C_drew ?_))); (case side2 => exact HC306_0.out); (case side3 => repeat (first | exact HR307_0.out | (with_reducible refine Kd.C_alloc ?_ _) | (with_reducible refine Kd.C_drewN ?_ _) | (with_reducible refine Kd.C_drew ?_))); (case side4 => exact HC307_0.out); rintro e w' ⟨rfl, ⟨nd, rfl⟩⟩; (try first | exact ⟨rfl, _, World.drewN_drewN _ _ _⟩ | exact ⟨rfl, _, Eq.trans (World.drewN_drewN _ _ _) (congrArg (World.drewN _) (Nat.add_assoc _ _ _))⟩))))
                go_roundg k1
                case measure => have := HK1.out; omega
                case rel => exact ⟨(wrap64 (x5_1 + 1)), (by first | rfl | (simp; done) | (simp [*]; done)), H', ⟨by have := HK1.out; omega⟩, by repeat (first | exact Drawn0.refl _ | apply Drawn0.step)⟩
              · replace c8 := Bool.eq_false_iff.mpr c8
                subst c8
                have H1 : (some false) = some r := by rw [if_neg (show ¬ (false = true) by decide)] at H; exact H
                clear H
                have H := H1
                clear H1
                obtain rfl := Option.some.inj H
                have p306 : 0 ≤ (x5_1 : Int) := of_decide_eq_true (by first | (with_reducible assumption) | assumption)
                have q306 : x5_1 < (l0.length : Int) := of_decide_eq_true (by first | (with_reducible assumption) | assumption)
                obtain ⟨ad306, A306_0, c306_0, e306, hx306_0, hl306_0, hi306_0⟩ := at_L2 HR0.out x5_1 p306 q306
                cases e306
                have HR306_0 := Aside0.mk hi306_0
                have HC306_0 := Aside0.mk hl306_0
                clear hi306_0 hl306_0
                replace p306 := eq_true p306
                replace q306 := eq_true q306
                have p307 : 0 ≤ (x5_1 : Int) := of_decide_eq_true (by first | (with_reducible assumption) | assumption)
                have q307 : x5_1 < (l1.length : Int) := of_decide_eq_true (by first | (with_reducible assumption) | assumption)
                obtain ⟨ad307, A307_0, c307_0, e307, hx307_0, hl307_0, hi307_0⟩ := at_L2 HR1.out x5_1 p307 q307
                cases e307
                have HR307_0 := Aside0.mk hi307_0
                have HC307_0 := Aside0.mk hl307_0
                clear hi307_0 hl307_0
                replace p307 := eq_true p307
                replace q307 := eq_true q307
                go_wp2_with (first | (go_at_call 15; (with_reducible refine (paraphrastref01_Equal.calls k1 _ _ (rd_L2 l0 x5_1) _ _ (rd_L2 l1 x5_1) false _ ?side1 ?side2 ?side3 ?side4 A7.out).mono ?_); (case side1 => repeat (first | exact HR306_0.out | (with_reducible refine Kd.C_alloc ?_ _) | (with_reducible refine Kd.C_drewN ?_ _) | (with_reducible refine Kd.C_drew ?_))); (case side2 => exact HC306_0.out); (case side3 => repeat (first | exact HR307_0.out | (with_reducible refine Kd.C_alloc ?_ _) | (with_reducible refine Kd.C_drewN ?_ _) | (with_reducible refine Kd.C_drew ?_))); (case side4 => exact HC307_0.out); rintro e w' ⟨rfl, ⟨nd, rfl⟩⟩; (try first | exact ⟨rfl, _, World.drewN_drewN _ _ _⟩ | exact ⟨rfl, _, Eq.trans (World.drewN_drewN _ _ _) (congrArg (World.drewN _) (Nat.add_assoc _ _ _))⟩)))
                repeat (go_quiet (first | (go_at_call 15; (with_reducible refine (paraphrastref01_Equal.calls k1 _ _ (rd_L2 l0 x5_1) _ _ (rd_L2 l1 x5_1) false _ ?side1 ?side2 ?side3 ?side4 A7.out).mono ?_); (case side1 => repeat (first | exact HR306_0.out | (with_reducible refine Kd.C_alloc ?_ _) | (with_reducible refine Kd.C_drewN ?_ _) | (with_reducible refine Kd.C_drew ?_))); (case side2 => exact HC306_0.out); (case side3 => repeat (first | exact HR307_0.out | (with_reducible refine Kd.C_alloc ?_ _) | (with_reducible refine Kd.C_drewN ?_ _) | (with_reducible refine Kd.C_drew ?_))); (case side4 => exact HC307_0.out); rintro e w' ⟨rfl, ⟨nd, rfl⟩⟩; (try first | exact ⟨rfl, _, World.drewN_drewN _ _ _⟩ | exact ⟨rfl, _, Eq.trans (World.drewN_drewN _ _ _) (congrArg (World.drewN _) (Nat.add_assoc _ _ _))⟩))); try go_wp2_with (first | (go_at_call 15; (with_reducible refine (paraphrastref01_Equal.calls k1 _ _ (rd_L2 l0 x5_1) _ _ (rd_L2 l1 x5_1) false _ ?side1 ?side2 ?side3 ?side4 A7.out).mono ?_); (case side1 => repeat (first | exact HR306_0.out | (with_reducible refine Kd.C_alloc ?_ _) | (with_reducible refine Kd.C_drewN ?_ _) | (with_reducible refine Kd.C_drew ?_))); (case side2 => exact HC306_0.out); (case side3 => repeat (first | exact HR307_0.out | (with_reducible refine Kd.C_alloc ?_ _) | (with_reducible refine Kd.C_drewN ?_ _) | (with_reducible refine Kd.C_drew ?_))); (case side4 => exact HC307_0.out); rintro e w' ⟨rfl, ⟨nd, rfl⟩⟩; (try first | exact ⟨rfl, _, World.drewN_drewN _ _ _⟩ | exact ⟨rfl, _, Eq.trans (World.drewN_drewN _ _ _) (congrArg (World.drewN _) (Nat.add_assoc _ _ _))⟩))))
                go_ret
                exact ⟨by first | rfl | (simp; done) | (simp [*]; done), by repeat (first | exact Drawn0.refl _ | apply Drawn0.step)⟩
            · rw [if_neg c6] at H
              exact absurd H (by simp)
          · rw [if_neg c5] at H
            exact absurd H (by simp)
        · rw [if_neg c4] at H
          have c4b0 : decide (x5_1 < (l0.length : Int)) = false := decide_eq_false c4
          clear c4
          obtain rfl := Option.some.inj H
          go_wp2
          repeat (go_quiet (fail); try go_wp2)
          go_ret
          exact ⟨by first | rfl | (simp; done) | (simp [*]; done), by repeat (first | exact Drawn0.refl _ | apply Drawn0.step)⟩
  · rw [if_neg c3] at H
    have c3b0 : ((l0.length : Int) == (l1.length : Int)) = false := beq_eq_false_iff_ne.mpr c3
    have c3b1 : ((l0.length : Int) != (l1.length : Int)) = true := bne_iff_ne.mpr c3
    have c3b2 : (l0.length == l1.length) = false := by first | simpa using c3 | (simp at c3 ⊢; omega)
    obtain rfl := Option.some.inj H
    go_enter Tryd.func50, Tryd.ntmps50
    go_wp2
    repeat (go_quiet (fail); try go_wp2)
    go_ret
    exact ⟨by first | rfl | (simp; done) | (simp [*]; done), by repeat (first | exact Drawn0.refl _ | apply Drawn0.step)⟩
end Go.Proofs.YtfmpaofbnjlniaaDoor.F
