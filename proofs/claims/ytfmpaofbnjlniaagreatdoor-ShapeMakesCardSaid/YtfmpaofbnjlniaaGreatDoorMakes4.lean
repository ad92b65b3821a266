/- Part 4 of the proof: ShapeMakes: Make and Keep answer as the reference says, for all numbers, symbols and structures. -/
import Derived.Test.YtfmpaofbnjlniaaGreatDoorMakes3
import Derived.Lib.SplitLaws
import Derived.Lib.SliceRun
import Derived.Maps.OwnSet
/- Names, tuples, relations, structures: what Name, tuples, rel and Valid answer, as plain Bools; the program's and the document's. -/
namespace Go.Proofs.YtfmpaofbnjlniaaGreatDoor.F
open Go.RowKit Go.Proofs.YtfmpaofbnjlniaaGreatDoorW.PrintWords Go.Proofs.YtfmpaofbnjlniaaGreatDoorW.PrintLast Go.Proofs.YtfmpaofbnjlniaaGreatDoorW.PrintMore
set_option linter.unusedVariables false
def letB (c : Int) : Bool := (decide (97 ≤ c) && decide (c ≤ 122)) || (decide (65 ≤ c) && decide (c ≤ 90))
def digB (c : Int) : Bool := decide (48 ≤ c) && decide (c ≤ 57)
theorem letter_eq (c : Int) : shape_letter.f c = some (letB c) := by
  unfold shape_letter.f letB
  simp only [ge_iff_le]
  by_cases h1 : 97 ≤ c <;> by_cases h2 : c ≤ 122 <;> by_cases h3 : 65 ≤ c <;> by_cases h4 : c ≤ 90 <;> simp [h1, h2, h3, h4]
theorem digit_eq (c : Int) : shape_digit.f c = some (digB c) := by
  unfold shape_digit.f digB
  split <;> simp <;> omega
def wordB (s : ByteArray) : Bool := (shape_word.f s).getD false
theorem word_eq (s : ByteArray) : shape_word.f s = some (wordB s) := by
  unfold wordB shape_word.f
  repeat' split
  all_goals rfl
/-- The d bytes from i on are letters or digits. -/
def restB (s : ByteArray) : Nat → Nat → Bool
  | 0, _ => true
  | d + 1, i => (letB (bt s i) || digB (bt s i)) && restB s d (i + 1)
def nameB (s : ByteArray) : Bool := decide (1 ≤ s.size) && decide (s.size ≤ 12) && letB (bt s 0) && !wordB s && restB s (s.size - 1) 1
theorem name_loop (s : ByteArray) (hs : s.size ≤ 12) : ∀ (d i k : Nat), i + d = s.size → d + 1 ≤ k → shape_Name.l0 k s (s.size : Int) (i : Int) = some (restB s d i)
  | 0, i, k + 1, h, hk => by unfold shape_Name.l0; rw [if_neg (by omega)]; rfl
  | d + 1, i, k + 1, h, hk => by
    unfold shape_Name.l0 restB
    have ih := name_loop s hs d (i + 1) k (by omega) (by omega)
    rw [show ((i + 1 : Nat) : Int) = (i : Int) + 1 by omega] at ih
    rw [if_pos (by omega), if_pos (by omega), if_pos (by omega), letter_eq, digit_eq, w64 (by omega) (by omega), ih]
    simp only [Option.bind_some]
    cases letB (bt s i) <;> cases digB (bt s i) <;> rfl
theorem toList_loop (bs : ByteArray) : ∀ (d i : Nat) (r : List UInt8), i + d = bs.size → ByteArray.toList.loop bs i r = r.reverse ++ bs.data.toList.drop i
  | 0, i, r, h => by
    have hl : bs.data.toList.length = bs.size := data_length bs
    unfold ByteArray.toList.loop
    rw [if_neg (by omega), List.drop_eq_nil_of_le (by omega), List.append_nil]
  | d + 1, i, r, h => by
    have hl : bs.data.toList.length = bs.size := data_length bs
    unfold ByteArray.toList.loop
    rw [if_pos (by omega), toList_loop bs d (i + 1) _ (by omega), List.drop_eq_getElem_cons (show i < bs.data.toList.length by omega), List.reverse_cons, List.append_assoc]
    have hi : i < bs.data.size := by rw [Array.length_toList] at hl; omega
    have : bs.get! i = bs.data.toList[i]'(by omega) := by
      show bs.data[i]! = _
      rw [getElem!_pos bs.data i hi]; simp
    rw [this]; rfl
theorem toList_data (s : ByteArray) : s.toList = s.data.toList := by
  unfold ByteArray.toList
  rw [toList_loop s s.size 0 [] (by omega)]; simp
theorem toList_inj {s t : ByteArray} (h : s.toList = t.toList) : s = t := by
  rw [toList_data, toList_data] at h
  cases s; cases t
  simp at h
  simp [h]
theorem toList_nil (s : ByteArray) : s.toList = ([] : List UInt8) ↔ s.size = 0 := by
  rw [toList_data, ← data_length s]
  exact (List.length_eq_zero_iff (l := s.data.toList)).symm
theorem name_eq (s : ByteArray) (k : Nat) (hk : 20 ≤ k) : shape_Name.f k s = some (nameB s) := by
  obtain ⟨k, rfl⟩ : ∃ k', k = k' + 1 := ⟨k - 1, by omega⟩
  unfold shape_Name.f nameB
  by_cases h0 : s.size = 0
  · rw [if_pos ((toList_nil s).2 h0)]; simp [shape_Name.j0, h0]
  · rw [if_neg (fun h => h0 ((toList_nil s).1 h))]
    by_cases h1 : (s.size : Int) > 12
    · rw [if_pos h1]; simp [shape_Name.j0, show ¬ s.size ≤ 12 by omega]
    · rw [if_neg h1, if_pos (by omega), letter_eq]
      simp only [Option.bind_some]
      cases hl : letB (bt s 0) with
      | false => simp [shape_Name.j0]
      | true =>
        rw [if_pos rfl, word_eq]
        simp only [Option.bind_some]
        cases hw : wordB s with
        | true => simp [shape_Name.j0]
        | false =>
          unfold shape_Name.j0
          simp only [Bool.false_eq_true, if_false]
          have := name_loop s (by omega) s.size 0 k (by omega) (by omega)
          rw [show ((0 : Nat) : Int) = 0 from rfl] at this
          rw [this]
          obtain ⟨m, hm⟩ : ∃ m, s.size = m + 1 := ⟨s.size - 1, by omega⟩
          rw [hm, restB, show ((0 : Nat) : Int) = 0 from rfl, hl]
          simp; omega
theorem compare_loop (x y : List Int) (hl : x.length = y.length) (hx : x.length ≤ 100000) : ∀ (j i k : Nat), i + j = x.length → j + 1 ≤ k → ∃ c, slices_Compare_int_int.l0 k x y x (x.length : Int) (i : Int) = some c ∧ decide (c ≥ 0) = !lexL (x.drop i) (y.drop i)
  | 0, i, k + 1, h, hk => by
    refine ⟨0, ?_, ?_⟩
    · unfold slices_Compare_int_int.l0; rw [if_neg (by omega), if_neg (by omega)]
    · rw [List.drop_eq_nil_of_le (by omega)]; rfl
  | j + 1, i, k + 1, h, hk => by
    have hi : i < x.length := by omega
    have hi2 : i < y.length := by omega
    unfold slices_Compare_int_int.l0
    rw [if_pos (by omega), if_pos (by omega), if_pos (by omega), if_neg (by omega), if_pos (by omega), rd_nat x i hi, rd_nat y i hi2, List.drop_eq_getElem_cons hi, List.drop_eq_getElem_cons hi2, w64 (by omega) (by omega)]
    unfold cmp_Compare_int.f cmp_isNaN_int.f lexL
    simp only [bne_self_eq_false, Option.bind_some, Bool.false_eq_true, if_false]
    rcases Int.lt_trichotomy x[i] y[i] with h1 | h1 | h1
    · exact ⟨-1, by simp [h1], by rw [if_neg (by omega), decide_eq_true h1]; rfl⟩
    · obtain ⟨c, hc, hd⟩ := compare_loop x y hl hx j (i + 1) k (by omega) (by omega)
      rw [show ((i + 1 : Nat) : Int) = (i : Int) + 1 by omega] at hc
      exact ⟨c, by simp [h1, hc], by rw [if_pos h1]; exact hd⟩
    · exact ⟨1, by simp [h1, show ¬ x[i] < y[i] by omega], by rw [if_neg (by omega), decide_eq_false (by omega : ¬ x[i] < y[i])]; rfl⟩
def tupV (n a : Int) (t : List Int) : Bool := decide ((t.length : Int) = a) && !t.any (outB n)
/-- The d tuples from i on are of this arity, in range, and each is above the one before it. -/
def tupsV (n a : Int) (l : List (List Int)) : Nat → Nat → Bool
  | 0, _ => true
  | d + 1, i => tupV n a (rd_L2 l i) && (decide (i = 0) || lexL (rd_L2 l ((i : Int) - 1)) (rd_L2 l i)) && tupsV n a l d (i + 1)
theorem elements_eq (n : Int) (t : List Int) : shape_elements.f n t = some (!t.any (outB n)) := rfl
/-- shape.tuples' loop: from i on, the tuple ahead of i having this arity. -/
theorem tuples_loop (n a : Int) (nm : ByteArray) (a1 : Int) (l : List (List Int)) (hl : l.length ≤ 9223372036854775807) (ha : a ≤ 12) : ∀ (d i k : Nat), i + d = l.length → d + 100 ≤ k → (0 < i → ((rd_L2 l ((i : Int) - 1)).length : Int) = a) →
    shape_tuples.l0 k n l (l.length : Int) (i : Int) nm a l = some (tupsV n a l d i)
  | 0, i, k + 1, h, hk, hp => by unfold shape_tuples.l0; rw [if_neg (by omega)]; rfl
  | d + 1, i, k + 1, h, hk, hp => by
    unfold shape_tuples.l0 tupsV tupV
    rw [if_pos (by omega), if_pos (by omega), if_pos (by omega), w64 (x := (i : Int) + 1) (by omega) (by omega), w64 (x := (i : Int) - 1) (by omega) (by omega)]
    by_cases h1 : ((rd_L2 l (i : Int)).length : Int) = a
    · rw [if_pos h1, elements_eq, decide_eq_true h1]
      simp only [Option.bind_some, Bool.true_and]
      have ih := tuples_loop n a nm a1 l hl ha d (i + 1) k (by omega) (by omega) (fun _ => by rw [show (((i + 1 : Nat) : Int) - 1) = (i : Int) by omega]; exact h1)
      rw [show ((i + 1 : Nat) : Int) = (i : Int) + 1 by omega] at ih
      cases hb : (rd_L2 l (i : Int)).any (outB n) with
      | true => simp
      | false =>
        simp only [Bool.not_false, if_true, Bool.true_and]
        by_cases h2 : (i : Int) > 0
        · rw [if_pos h2, if_pos (by omega), if_pos (by omega), decide_eq_false (by omega), Bool.false_or]
          have hp' := hp (by omega)
          obtain ⟨c, hc, hd⟩ := compare_loop (rd_L2 l ((i : Int) - 1)) (rd_L2 l (i : Int)) (by omega) (by omega) (rd_L2 l ((i : Int) - 1)).length 0 k (by omega) (by omega)
          unfold slices_Compare_int_int.f
          rw [show ((0 : Nat) : Int) = 0 from rfl] at hc
          rw [hc]
          simp only [Option.bind_some, List.drop_zero] at hd ⊢
          by_cases h3 : c ≥ 0
          · rw [if_pos h3]
            rw [decide_eq_true h3] at hd
            rw [show lexL (rd_L2 l ((i : Int) - 1)) (rd_L2 l (i : Int)) = false from (Bool.not_eq_true' _).mp hd.symm]
            rfl
          · rw [if_neg h3, ih]
            rw [decide_eq_false h3] at hd
            rw [show lexL (rd_L2 l ((i : Int) - 1)) (rd_L2 l (i : Int)) = true from (Bool.not_eq_false' _).mp hd.symm]
            rfl
        · rw [if_neg h2, ih, decide_eq_true (by omega)]
          rfl
    · rw [if_neg h1, decide_eq_false h1]
      rfl
/-! ### the document's functions -/
theorem ref_letter_eq (c : Int) : paraphrastref01_letter.f c = some (letB c) := letter_eq c
theorem ref_digit_eq (c : Int) : paraphrastref01_digit.f c = some (digB c) := digit_eq c
theorem ref_word_eq (s : ByteArray) : paraphrastref01_Word.f s = some (wordB s) := word_eq s
theorem ref_name_loop (s : ByteArray) (hs : s.size ≤ 12) : ∀ (d i k : Nat), i + d = s.size → d + 1 ≤ k → paraphrastref01_Name.l0 k s (i : Int) = some (restB s d i)
  | 0, i, k + 1, h, hk => by unfold paraphrastref01_Name.l0; rw [if_neg (by omega)]; rfl
  | d + 1, i, k + 1, h, hk => by
    unfold paraphrastref01_Name.l0 restB
    have ih := ref_name_loop s hs d (i + 1) k (by omega) (by omega)
    rw [show ((i + 1 : Nat) : Int) = (i : Int) + 1 by omega] at ih
    rw [if_pos (by omega), if_pos (by omega), ref_letter_eq, ref_digit_eq, w64 (by omega) (by omega), ih]
    simp only [Option.bind_some]
    cases letB (bt s i) <;> cases digB (bt s i) <;> rfl
theorem ref_name_eq (s : ByteArray) (k : Nat) (hk : 20 ≤ k) : paraphrastref01_Name.f k s = some (nameB s) := by
  obtain ⟨k, rfl⟩ : ∃ k', k = k' + 1 := ⟨k - 1, by omega⟩
  unfold paraphrastref01_Name.f nameB
  by_cases h0 : s.size = 0
  · rw [if_pos (by omega)]; simp [paraphrastref01_Name.j0, h0]
  · rw [if_neg (by omega)]
    by_cases h1 : (s.size : Int) > 12
    · rw [if_pos h1]; simp [paraphrastref01_Name.j0, show ¬ s.size ≤ 12 by omega]
    · rw [if_neg h1, if_pos (by omega), ref_letter_eq]
      simp only [Option.bind_some]
      cases hl : letB (bt s 0) with
      | false => simp [paraphrastref01_Name.j0]
      | true =>
        rw [if_pos rfl, ref_word_eq]
        simp only [Option.bind_some]
        cases hw : wordB s with
        | true => simp [paraphrastref01_Name.j0]
        | false =>
          unfold paraphrastref01_Name.j0
          simp only [Bool.false_eq_true, if_false]
          have := ref_name_loop s (by omega) (s.size - 1) 1 k (by omega) (by omega)
          rw [show ((1 : Nat) : Int) = 1 from rfl] at this
          rw [this]
          simp; omega
theorem ref_tuples_loop (n a : Int) (nm : ByteArray) (l : List (List Int)) (hl : l.length ≤ 9223372036854775807) (ha : a ≤ 12) : ∀ (d i k : Nat), i + d = l.length → d + 100 ≤ k → (0 < i → ((rd_L2 l ((i : Int) - 1)).length : Int) = a) →
    paraphrastref01_rel.l0 k n (i : Int) nm a l = some (tupsV n a l d i)
  | 0, i, k + 1, h, hk, hp => by unfold paraphrastref01_rel.l0; rw [if_neg (by omega)]; rfl
  | d + 1, i, k + 1, h, hk, hp => by
    unfold paraphrastref01_rel.l0 tupsV tupV
    rw [if_pos (by omega), if_pos (by omega), w64 (x := (i : Int) + 1) (by omega) (by omega), w64 (x := (i : Int) - 1) (by omega) (by omega)]
    by_cases h1 : ((rd_L2 l (i : Int)).length : Int) = a
    · rw [if_pos h1, in_elements n (rd_L2 l (i : Int)) (by omega) k (by omega), elements_eq, decide_eq_true h1]
      simp only [Option.bind_some, Bool.true_and]
      have ih := ref_tuples_loop n a nm l hl ha d (i + 1) k (by omega) (by omega) (fun _ => by rw [show (((i + 1 : Nat) : Int) - 1) = (i : Int) by omega]; exact h1)
      rw [show ((i + 1 : Nat) : Int) = (i : Int) + 1 by omega] at ih
      cases hb : (rd_L2 l (i : Int)).any (outB n) with
      | true => simp
      | false =>
        simp only [Bool.not_false, if_true, Bool.true_and]
        by_cases h2 : (i : Int) > 0
        · rw [if_pos h2, if_pos (by omega), if_pos (by omega), decide_eq_false (by omega), Bool.false_or]
          have hp' := hp (by omega)
          have hL : paraphrastref01_Less.f k (rd_L2 l ((i : Int) - 1)) (rd_L2 l (i : Int)) = some (lexL (rd_L2 l ((i : Int) - 1)) (rd_L2 l (i : Int))) := less_all _ _ (by omega) (by omega) (rd_L2 l ((i : Int) - 1)).length 0 k (by omega) (by omega)
          rw [hL]
          simp only [Option.bind_some]
          cases lexL (rd_L2 l ((i : Int) - 1)) (rd_L2 l (i : Int)) with
          | false => rfl
          | true => rw [if_pos rfl, ih]; rfl
        · rw [if_neg h2, ih, decide_eq_true (by omega)]
          rfl
    · rw [if_neg h1, decide_eq_false h1]
      rfl
/-! ### relations and structures -/
def powOk (n a : Int) : Bool := match paraphrastref01_Pow.f 14 n a with | some q => decide (q ≤ 4096) | none => false
theorem pow_ok (n a : Int) (hn1 : 1 ≤ n) (hn2 : n ≤ 64) (h0 : 0 ≤ a) (h1 : a ≤ 12) (k : Nat) (hk : 14 ≤ k) : ∃ q, paraphrastref01_Pow.f k n a = some q ∧ shape_power.f k n a 4096 = some (if q > 4096 then -1 else q) ∧ 1 ≤ q ∧ powOk n a = decide (q ≤ 4096) := by
  obtain ⟨q, hq, e1, e2⟩ := pow_both n a hn1 hn2 h1 a.toNat 1 0 14 (by omega) (by omega) (by omega) (by omega) (by omega)
  have f1 : paraphrastref01_Pow.f 14 n a = some q := e1
  exact ⟨q, at_rounds (paraphrastref01_Pow.mono _ _) hk f1, at_rounds (shape_power.mono _ _ _) hk e2, hq, by unfold powOk; rw [f1]⟩
def relV (n : Int) (r : S52) : Bool := nameB r.f0 && decide (0 ≤ r.f1) && decide (r.f1 ≤ 12) && powOk n r.f1 && tupsV n r.f1 r.f2 r.f2.length 0
def relsV (n : Int) (l : List S52) : Nat → Nat → Bool
  | 0, _ => true
  | d + 1, i => relV n (rd_T52 l i) && !(l.take i).any (nameIs (rd_T52 l i).f0) && relsV n l d (i + 1)
def validB (n : Int) (l : List S52) : Bool := decide (1 ≤ n) && decide (n ≤ 64) && decide (l.length ≤ 8) && relsV n l l.length 0
theorem ref_rel_eq (T : Nat) (hT : T ≤ 9223372036854775807) (n : Int) (hn1 : 1 ≤ n) (hn2 : n ≤ 64) (r : S52) (hl : r.f2.length ≤ T) (k : Nat) (hk : T + 200 ≤ k) : paraphrastref01_rel.f k n r.f0 r.f1 r.f2 = some (relV n r) := by
  obtain ⟨k, rfl⟩ : ∃ k', k = k' + 1 := ⟨k - 1, by omega⟩
  have hj : paraphrastref01_rel.j0 (k + 1) n true r.f0 r.f1 r.f2 = some false := rfl
  unfold paraphrastref01_rel.f relV
  rw [ref_name_eq _ _ (by omega)]
  simp only [Option.bind_some]
  cases hn : nameB r.f0 with
  | false => simp [hj]
  | true =>
    rw [if_pos rfl]
    by_cases h0 : r.f1 < 0
    · rw [if_pos h0, hj, decide_eq_false (by omega)]; rfl
    · rw [if_neg h0]
      by_cases h1 : r.f1 > 12
      · rw [if_pos h1, hj, decide_eq_false (by omega : ¬ r.f1 ≤ 12)]; simp
      · obtain ⟨q, e1, _, _, e3⟩ := pow_ok n r.f1 hn1 hn2 (by omega) (by omega) (k + 1) (by omega)
        rw [if_neg h1, e1, e3, decide_eq_true (by omega : 0 ≤ r.f1), decide_eq_true (by omega : r.f1 ≤ 12)]
        simp only [Option.bind_some, Bool.true_and]
        by_cases h2 : q > 4096
        · rw [decide_eq_true h2, hj, decide_eq_false (by omega)]; rfl
        · rw [decide_eq_false h2, decide_eq_true (by omega : q ≤ 4096)]
          unfold paraphrastref01_rel.j0
          simp only [Bool.false_eq_true, if_false, Bool.true_and]
          exact ref_tuples_loop n r.f1 r.f0 r.f2 (by omega) (by omega) r.f2.length 0 k (by omega) (by omega) (by omega)
theorem rdT_nat (l : List S52) (i : Nat) (h : i < l.length) : rd_T52 l (i : Int) = l[i] := by unfold rd_T52; rw [Int.toNat_natCast, List.getD_eq_getElem?_getD, List.getElem?_eq_getElem h]; rfl
theorem valid_j2 (k : Nat) (n : Int) (l : List S52) (i : Nat) (b : Bool) (f0 : ByteArray) (f1 : Int) (f2 : List (List Int)) (hi : i < l.length) (hl : l.length ≤ 8) :
    shape_Valid.j2 (k + 1) (i : Int) l (l.length : Int) (i : Int) b n l f0 f1 f2 = if b = true then some false else if (l.take i).any (nameIs f0) = true then some false else shape_Valid.l0 k l (l.length : Int) ((i + 1 : Nat) : Int) n l := by
  conv => lhs; unfold shape_Valid.j2
  cases b with
  | true => rfl
  | false =>
    simp only [Bool.false_eq_true, if_false]
    rw [if_pos (by omega), if_pos (by omega), w64 (by omega) (by omega), Int.toNat_natCast, show ((i + 1 : Nat) : Int) = (i : Int) + 1 by omega]
    rfl
theorem valid_loop (n : Int) (hn1 : 1 ≤ n) (hn2 : n ≤ 64) (l : List S52) (hl : l.length ≤ 8) (T : Nat) (hT : T ≤ 9223372036854775807) (hall : ∀ r ∈ l, r.f2.length ≤ T) : ∀ (d i k : Nat), i + d = l.length → d * 2 + T + 200 ≤ k →
    shape_Valid.l0 k l (l.length : Int) (i : Int) n l = some (relsV n l d i)
  | 0, i, k + 1, h, hk => by unfold shape_Valid.l0; rw [if_neg (by omega)]; rfl
  | d + 1, i, k + 1, h, hk => by
    have hi : i < l.length := by omega
    have hr := hall _ (List.getElem_mem hi)
    rw [← rdT_nat l i hi] at hr
    obtain ⟨k, rfl⟩ : ∃ k', k = k' + 1 := ⟨k - 1, by omega⟩
    have ih := valid_loop n hn1 hn2 l hl T hT hall d (i + 1) k (by omega) (by omega)
    unfold shape_Valid.l0 relsV
    rw [if_pos (by omega), if_pos (by omega), if_pos (by omega), name_eq _ _ (by omega)]
    generalize rd_T52 l (i : Int) = r at hr ⊢
    simp only [Option.bind_some, valid_j2 k n l i _ r.f0 r.f1 r.f2 hi hl, ih, if_true]
    unfold relV
    cases hn : nameB r.f0 with
    | false => simp
    | true =>
      by_cases h0 : r.f1 < 0
      · rw [if_pos rfl, if_pos h0, decide_eq_false (by omega)]; simp
      · by_cases h1 : r.f1 > 12
        · rw [if_pos rfl, if_neg h0, if_pos h1, decide_eq_false (by omega : ¬ r.f1 ≤ 12)]; simp
        · obtain ⟨q, _, e2, hq, e3⟩ := pow_ok n r.f1 hn1 hn2 (by omega) (by omega) (k + 1) (by omega)
          rw [if_pos rfl, if_neg h0, if_neg h1, e2, e3, decide_eq_true (by omega : 0 ≤ r.f1), decide_eq_true (by omega : r.f1 ≤ 12)]
          simp only [Option.bind_some]
          by_cases h2 : q > 4096
          · rw [if_pos h2, if_pos (by omega), decide_eq_false (by omega)]; simp
          · rw [if_neg h2, if_neg (by omega), decide_eq_true (by omega : q ≤ 4096)]
            have ht : shape_tuples.f (k + 1) n r.f0 r.f1 r.f2 = some (tupsV n r.f1 r.f2 r.f2.length 0) := tuples_loop n r.f1 r.f0 0 r.f2 (by omega) (by omega) r.f2.length 0 (k + 1) (by omega) (by omega) (by omega)
            rw [ht]
            simp only [Option.bind_some, Bool.true_and]
            cases tupsV n r.f1 r.f2 r.f2.length 0 <;> cases (l.take i).any (nameIs r.f0) <;> rfl
theorem valid_eq (n : Int) (l : List S52) (T : Nat) (hT : T ≤ 9223372036854775807) (hall : ∀ r ∈ l, r.f2.length ≤ T) (k : Nat) (hk : T + 300 ≤ k) : shape_Valid.f k n l = some (validB n l) := by
  obtain ⟨k, rfl⟩ : ∃ k', k = k' + 1 := ⟨k - 1, by omega⟩
  have hj : shape_Valid.j0 (k + 1) true n l = some false := rfl
  unfold shape_Valid.f validB
  by_cases h1 : n < 1
  · rw [if_pos h1, hj, decide_eq_false (by omega)]; rfl
  · rw [if_neg h1]
    by_cases h2 : n > 64
    · rw [if_pos h2, hj, decide_eq_false (by omega : ¬ n ≤ 64)]; simp
    · rw [if_neg h2, decide_eq_true (by omega : 1 ≤ n), decide_eq_true (by omega : n ≤ 64)]
      by_cases h3 : (l.length : Int) > 8
      · rw [decide_eq_true h3, hj, decide_eq_false (by omega)]; rfl
      · rw [decide_eq_false h3, decide_eq_true (by omega : l.length ≤ 8)]
        unfold shape_Valid.j0
        simp only [Bool.false_eq_true, if_false, Bool.true_and]
        exact valid_loop n (by omega) (by omega) l (by omega) T hT hall l.length 0 k (by omega) (by omega)
theorem ref_names (n : Int) (l : List S52) (hl : l.length ≤ 8) (i : Nat) (hi : i < l.length) (R : Bool) (B : Nat) (hR : ∀ k, B ≤ k → paraphrastref01_Valid.l0 k ((i + 1 : Nat) : Int) n l = some R) : ∀ (m j k : Nat), j + m = i → m + B + 1 ≤ k →
    paraphrastref01_Valid.l1 k (i : Int) (j : Int) n l = some (!((l.take i).drop j).any (nameIs (rd_T52 l i).f0) && R)
  | 0, j, k + 1, h, hk => by
    unfold paraphrastref01_Valid.l1
    rw [if_neg (by omega), w64 (by omega) (by omega), show (i : Int) + 1 = ((i + 1 : Nat) : Int) by omega, hR k (by omega), List.drop_eq_nil_of_le (by simp; omega)]
    rfl
  | m + 1, j, k + 1, h, hk => by
    have ih := ref_names n l hl i hi R B hR m (j + 1) k (by omega) (by omega)
    unfold paraphrastref01_Valid.l1
    rw [if_pos (by omega), if_pos (by omega), if_pos (by omega), if_pos (by omega), if_pos (by omega), w64 (by omega) (by omega), show (j : Int) + 1 = ((j + 1 : Nat) : Int) by omega, ih, List.drop_eq_getElem_cons (show j < (l.take i).length by simp; omega), List.any_cons, List.getElem_take, rdT_nat l j (by omega)]
    unfold nameIs
    by_cases he : l[j].f0.toList = (rd_T52 l i).f0.toList
    · rw [if_pos he, beq_iff_eq.2 he]; rfl
    · rw [if_neg he, beq_eq_false_iff_ne.2 he]; rfl
theorem ref_valid_loop (n : Int) (hn1 : 1 ≤ n) (hn2 : n ≤ 64) (l : List S52) (hl : l.length ≤ 8) (T : Nat) (hT : T ≤ 9223372036854775807) (hall : ∀ r ∈ l, r.f2.length ≤ T) : ∀ (d i k : Nat), i + d = l.length → d * 12 + T + 200 ≤ k →
    paraphrastref01_Valid.l0 k (i : Int) n l = some (relsV n l d i)
  | 0, i, k + 1, h, hk => by unfold paraphrastref01_Valid.l0; rw [if_neg (by omega)]; rfl
  | d + 1, i, k + 1, h, hk => by
    have hi : i < l.length := by omega
    have hr := hall _ (List.getElem_mem hi)
    rw [← rdT_nat l i hi] at hr
    obtain ⟨B, hB⟩ : ∃ B : Nat, B = d * 12 + T + 200 := ⟨_, rfl⟩
    have IH : ∀ k', B ≤ k' → paraphrastref01_Valid.l0 k' ((i + 1 : Nat) : Int) n l = some (relsV n l d (i + 1)) := fun k' hk' => ref_valid_loop n hn1 hn2 l hl T hT hall d (i + 1) k' (by omega) (by omega)
    have hnm := ref_names n l hl i hi (relsV n l d (i + 1)) B IH i 0 k (by omega) (by omega)
    unfold paraphrastref01_Valid.l0 relsV
    rw [if_pos (by omega), if_pos (by omega), ref_rel_eq T hT n hn1 hn2 (rd_T52 l (i : Int)) hr k (by omega)]
    simp only [Option.bind_some]
    cases relV n (rd_T52 l (i : Int)) with
    | false => simp
    | true =>
      rw [if_pos rfl]
      rw [show ((0 : Nat) : Int) = 0 from rfl] at hnm
      rw [hnm, List.drop_zero, Bool.true_and]
theorem ref_valid_eq (n : Int) (l : List S52) (T : Nat) (hT : T ≤ 9223372036854775807) (hall : ∀ r ∈ l, r.f2.length ≤ T) (k : Nat) (hk : T + 400 ≤ k) : paraphrastref01_Valid.f k n l = some (validB n l) := by
  obtain ⟨k, rfl⟩ : ∃ k', k = k' + 1 := ⟨k - 1, by omega⟩
  have hj : paraphrastref01_Valid.j0 (k + 1) true n l = some false := rfl
  unfold paraphrastref01_Valid.f validB
  by_cases h1 : n < 1
  · rw [if_pos h1, hj, decide_eq_false (by omega)]; rfl
  · rw [if_neg h1]
    by_cases h2 : n > 64
    · rw [if_pos h2, hj, decide_eq_false (by omega : ¬ n ≤ 64)]; simp
    · rw [if_neg h2, decide_eq_true (by omega : 1 ≤ n), decide_eq_true (by omega : n ≤ 64)]
      by_cases h3 : (l.length : Int) > 8
      · rw [decide_eq_true h3, hj, decide_eq_false (by omega)]; rfl
      · rw [decide_eq_false h3, decide_eq_true (by omega : l.length ≤ 8)]
        unfold paraphrastref01_Valid.j0
        simp only [Bool.false_eq_true, if_false, Bool.true_and]
        exact ref_valid_loop n (by omega) (by omega) l (by omega) T hT hall l.length 0 k (by omega) (by omega)
end Go.Proofs.YtfmpaofbnjlniaaGreatDoor.F
/- Reading back what has been written: splitting a text whose parts do not hold the separator's first byte; the numbers 0 to 99; parseB of textL. -/
namespace Go.Proofs.YtfmpaofbnjlniaaGreatDoor.F
open Go.RowKit Go.Proofs.YtfmpaofbnjlniaaGreatDoorW.PrintWords
set_option linter.unusedVariables false
/-! ### numbers -/
/-! ### names -/
/-! ### tuples, relations, structures -/
/-- What a tuple of a valid structure is like, as far as its text goes. -/
def tupOk (t : List Int) : Prop := ∀ x ∈ t, 0 ≤ x ∧ x < 100
def relOk (r : S52) : Prop := nameB r.f0 = true ∧ (0 ≤ r.f1 ∧ r.f1 < 100) ∧ ∀ t ∈ r.f2, tupOk t
/-! ### how long a text is -/
/-! ### what a valid structure is like -/
theorem tupsV_all (n a : Int) (l : List (List Int)) : ∀ (d i : Nat), tupsV n a l d i = true → i + d = l.length → ∀ j (hj : j < l.length), i ≤ j → tupV n a l[j] = true ∧ (0 < j → ∃ h : j - 1 < l.length, lexL l[j - 1] l[j] = true)
  | 0, i, _, h, j, hj, hi => by omega
  | d + 1, i, h, hl, j, hj, hi => by
    unfold tupsV at h
    simp only [Bool.and_eq_true, Bool.or_eq_true, decide_eq_true_eq] at h
    by_cases e : j = i
    · subst e
      have r1 : rd_L2 l (j : Int) = l[j] := by unfold rd_L2; rw [Int.toNat_natCast, List.getD_eq_getElem?_getD, List.getElem?_eq_getElem hj]; rfl
      rw [r1] at h
      refine ⟨h.1.1, fun h0 => ⟨by omega, ?_⟩⟩
      have h2 := h.1.2.resolve_left (by omega)
      have r2 : rd_L2 l ((j : Int) - 1) = l[j - 1]'(by omega) := by unfold rd_L2; rw [show ((j : Int) - 1).toNat = j - 1 by omega, List.getD_eq_getElem?_getD, List.getElem?_eq_getElem (by omega)]; rfl
      rw [r2] at h2
      exact h2
    · exact tupsV_all n a l d (i + 1) h.2 (by omega) j hj (by omega)
theorem tupV_in (n a : Int) (t : List Int) (h : tupV n a t = true) : (t.length : Int) = a ∧ ∀ x ∈ t, 0 ≤ x ∧ x < n := by
  unfold tupV at h
  simp only [Bool.and_eq_true, decide_eq_true_eq, Bool.not_eq_true', List.any_eq_false] at h
  refine ⟨h.1, fun x hx => ?_⟩
  have := h.2 x hx
  simp only [outB, Bool.or_eq_true, decide_eq_true_eq] at this
  omega
theorem rel_facts (n : Int) (hn1 : 1 ≤ n) (hn2 : n ≤ 64) (r : S52) (h : relV n r = true) : relOk r ∧ (0 ≤ r.f1 ∧ r.f1 ≤ 12) ∧ (∀ t ∈ r.f2, (t.length : Int) = r.f1 ∧ ∀ x ∈ t, 0 ≤ x ∧ x < n) ∧ r.f2.length ≤ 4096 := by
  unfold relV at h
  simp only [Bool.and_eq_true, decide_eq_true_eq] at h
  obtain ⟨⟨⟨⟨h1, h2⟩, h3⟩, h4⟩, h5⟩ := h
  have hA := tupsV_all n r.f1 r.f2 r.f2.length 0 h5 (by omega)
  have hT : ∀ t ∈ r.f2, (t.length : Int) = r.f1 ∧ ∀ x ∈ t, 0 ≤ x ∧ x < n := fun t ht => by
    obtain ⟨j, hj, rfl⟩ := List.getElem_of_mem ht
    exact tupV_in n r.f1 _ (hA j hj (by omega)).1
  have hV : ∀ (j : Nat) (hj : j < r.f2.length), (j : Int) ≤ val n 0 r.f2[j] := by
    intro j
    induction j with
    | zero => intro hj; exact (val_bound n hn1 _ (hT _ (List.getElem_mem hj)).2).1
    | succ j ih =>
      intro hj
      have h1 := ih (by omega)
      obtain ⟨_, h2⟩ := (hA (j + 1) hj (by omega)).2 (by omega)
      simp only [Nat.add_sub_cancel] at h2
      have t1 := hT _ (List.getElem_mem (show j < r.f2.length by omega))
      have t2 := hT _ (List.getElem_mem hj)
      have := (val_order n hn1 (r.f2[j]'(by omega)) r.f2[j + 1] (by omega) t1.2 t2.2).1
      rw [h2, decide_eq_true_eq] at this
      omega
  refine ⟨⟨h1, ⟨h2, by omega⟩, fun t ht x hx => ?_⟩, ⟨h2, h3⟩, hT, ?_⟩
  · have := (hT t ht).2 x hx; omega
  · obtain ⟨q, e1, _, hq1, e2⟩ := pow_ok n r.f1 hn1 hn2 h2 h3 14 (Nat.le_refl _)
    rw [e2, decide_eq_true_eq] at h4
    have hq := pow_exact n r.f1 hn1 hn2 h3 r.f1.toNat 1 0 14 q (by omega) (by omega) (by omega) (by omega) e1 h4
    by_cases hz : r.f2.length = 0
    · omega
    · have hj : r.f2.length - 1 < r.f2.length := by omega
      have b1 := hV _ hj
      have t1 := hT _ (List.getElem_mem hj)
      have b2 := (val_bound n hn1 _ t1.2).2
      rw [show (r.f2[r.f2.length - 1]'hj).length = r.f1.toNat by omega] at b2
      rw [Int.one_mul] at hq
      omega
theorem relsV_all (n : Int) (l : List S52) : ∀ (d i : Nat), relsV n l d i = true → i + d = l.length → ∀ j (hj : j < l.length), i ≤ j → relV n l[j] = true
  | 0, i, _, h, j, hj, hi => by omega
  | d + 1, i, h, hl, j, hj, hi => by
    unfold relsV at h
    simp only [Bool.and_eq_true] at h
    by_cases e : j = i
    · subst e
      rw [rdT_nat l j hj] at h
      exact h.1.1
    · exact relsV_all n l d (i + 1) h.2 (by omega) j hj (by omega)
theorem valid_facts (n : Int) (l : List S52) (h : validB n l = true) : 1 ≤ n ∧ n ≤ 64 ∧ l.length ≤ 8 ∧ ∀ r ∈ l, relOk r ∧ (0 ≤ r.f1 ∧ r.f1 ≤ 12) ∧ (∀ t ∈ r.f2, (t.length : Int) = r.f1 ∧ ∀ x ∈ t, 0 ≤ x ∧ x < n) ∧ r.f2.length ≤ 4096 := by
  unfold validB at h
  simp only [Bool.and_eq_true, decide_eq_true_eq] at h
  obtain ⟨⟨⟨h1, h2⟩, h3⟩, h4⟩ := h
  refine ⟨h1, h2, h3, fun r hr => ?_⟩
  obtain ⟨j, hj, rfl⟩ := List.getElem_of_mem hr
  exact rel_facts n h1 h2 _ (relsV_all n l l.length 0 h4 (by omega) j hj (by omega))
end Go.Proofs.YtfmpaofbnjlniaaGreatDoor.F
namespace Go.Proofs.YtfmpaofbnjlniaaGreatDoor.F
open Go.RowKit Go.Proofs.YtfmpaofbnjlniaaGreatDoorW.PrintWords Go.Proofs.YtfmpaofbnjlniaaGreatDoorW.PrintLast Go.Proofs.YtfmpaofbnjlniaaGreatDoorW.PrintMore
attribute [local go_sem] max2_int min2_int max_two min_two max_three min_three max_four min_four
set_option linter.unusedVariables false
set_option linter.unusedSimpArgs false
/-! ### paraphrastlaw01_Few: function 9 -/
mutual
def paraphrastlaw01_Few.l0 : Nat → List (S24) → Int → Int → Int → Option (Bool)
 | 0, _, _, _, _ => none
 | k + 1, x0, x3, x4, x5 => if x5 < (x0.length : Int) then (if 0 ≤ x5 then (if (((rd_T24 x0 x5).f1).length : Int) > 12 then (some false) else (paraphrastlaw01_Few.l1 k x0 x3 x4 x5 0)) else (none)) else (some (decide (x4 ≤ 20000)))
def paraphrastlaw01_Few.l1 : Nat → List (S24) → Int → Int → Int → Int → Option (Bool)
 | 0, _, _, _, _, _ => none
 | k + 1, x0, x3, x4, x5, x6 => if 0 ≤ x5 then (if x5 < (x0.length : Int) then (if x6 < (((rd_T24 x0 x5).f1).length : Int) then (if 0 ≤ x6 then (if (wrap64 (x3 + (((rd_T52 ((rd_T24 x0 x5).f1) x6).f2).length : Int))) > 1500 then (paraphrastlaw01_Few.j2 k x0 (wrap64 (x3 + (((rd_T52 ((rd_T24 x0 x5).f1) x6).f2).length : Int))) x4 x5 x6 true) else (paraphrastlaw01_Few.j2 k x0 (wrap64 (x3 + (((rd_T52 ((rd_T24 x0 x5).f1) x6).f2).length : Int))) x4 x5 x6 (decide ((((rd_T52 ((rd_T24 x0 x5).f1) x6).f0).size : Int) > 1000)))) else (none)) else (paraphrastlaw01_Few.l0 k x0 x3 x4 (wrap64 (x5 + 1)))) else (none)) else (none)
def paraphrastlaw01_Few.j2 : Nat → List (S24) → Int → Int → Int → Int → Bool → Option (Bool)
 | 0, _, _, _, _, _, _ => none
 | k + 1, x0, x3, x4, x5, x6, x57 => if x57 = true then (some false) else (paraphrastlaw01_Few.l2 k x0 x3 x4 x5 x6 0)
def paraphrastlaw01_Few.l2 : Nat → List (S24) → Int → Int → Int → Int → Int → Option (Bool)
 | 0, _, _, _, _, _, _ => none
 | k + 1, x0, x3, x4, x5, x6, x7 => if 0 ≤ x5 then (if x5 < (x0.length : Int) then (if 0 ≤ x6 then (if x6 < (((rd_T24 x0 x5).f1).length : Int) then (if x7 < (((rd_T52 ((rd_T24 x0 x5).f1) x6).f2).length : Int) then (if 0 ≤ x7 then (paraphrastlaw01_Few.l2 k x0 x3 (wrap64 (x4 + ((rd_L2 ((rd_T52 ((rd_T24 x0 x5).f1) x6).f2) x7).length : Int))) x5 x6 (wrap64 (x7 + 1))) else (none)) else (paraphrastlaw01_Few.l1 k x0 x3 x4 x5 (wrap64 (x6 + 1)))) else (none)) else (none)) else (none)) else (none)
end
def paraphrastlaw01_Few.f (k : Nat) (l0 : List (S24)) : Option (Bool) := paraphrastlaw01_Few.l0 k l0 0 0 0
theorem paraphrastlaw01_Few.mono_l : ∀ k, (∀ y0 y1 y2 y3, LeO (paraphrastlaw01_Few.l0 k y0 y1 y2 y3) (paraphrastlaw01_Few.l0 (k + 1) y0 y1 y2 y3)) ∧ (∀ y0 y1 y2 y3 y4, LeO (paraphrastlaw01_Few.l1 k y0 y1 y2 y3 y4) (paraphrastlaw01_Few.l1 (k + 1) y0 y1 y2 y3 y4)) ∧ (∀ y0 y1 y2 y3 y4 y5, LeO (paraphrastlaw01_Few.j2 k y0 y1 y2 y3 y4 y5) (paraphrastlaw01_Few.j2 (k + 1) y0 y1 y2 y3 y4 y5)) ∧ (∀ y0 y1 y2 y3 y4 y5, LeO (paraphrastlaw01_Few.l2 k y0 y1 y2 y3 y4 y5) (paraphrastlaw01_Few.l2 (k + 1) y0 y1 y2 y3 y4 y5))
 | 0 => ⟨fun _ _ _ _ r h => by simp [paraphrastlaw01_Few.l0] at h, fun _ _ _ _ _ r h => by simp [paraphrastlaw01_Few.l1] at h, fun _ _ _ _ _ _ r h => by simp [paraphrastlaw01_Few.j2] at h, fun _ _ _ _ _ _ r h => by simp [paraphrastlaw01_Few.l2] at h⟩
 | k + 1 => by
  obtain ⟨ih0, ih1, ih2, ih3⟩ := paraphrastlaw01_Few.mono_l k
  refine ⟨?_, ?_, ?_, ?_⟩
  ·intro y0 y1 y2 y3
   unfold paraphrastlaw01_Few.l0
   repeat' first
   | (with_reducible exact ih0 _ _ _ _)
   | (with_reducible exact ih1 _ _ _ _ _)
   | (with_reducible exact ih2 _ _ _ _ _ _)
   | (with_reducible exact ih3 _ _ _ _ _ _)
   | (with_reducible exact LeO.refl _)
   | (with_reducible exact LeO.none _)
   | (with_reducible refine LeO.ite ?_ ?_)
   | (with_reducible refine LeO.bind ?_ (fun _ => ?_))
   | exact ih0 _ _ _ _
   | exact ih1 _ _ _ _ _
   | exact ih2 _ _ _ _ _ _
   | exact ih3 _ _ _ _ _ _
   | exact LeO.none _
   | refine LeO.ite ?_ ?_
   | refine LeO.bind ?_ (fun _ => ?_)
  ·intro y0 y1 y2 y3 y4
   unfold paraphrastlaw01_Few.l1
   repeat' first
   | (with_reducible exact ih0 _ _ _ _)
   | (with_reducible exact ih1 _ _ _ _ _)
   | (with_reducible exact ih2 _ _ _ _ _ _)
   | (with_reducible exact ih3 _ _ _ _ _ _)
   | (with_reducible exact LeO.refl _)
   | (with_reducible exact LeO.none _)
   | (with_reducible refine LeO.ite ?_ ?_)
   | (with_reducible refine LeO.bind ?_ (fun _ => ?_))
   | exact ih0 _ _ _ _
   | exact ih1 _ _ _ _ _
   | exact ih2 _ _ _ _ _ _
   | exact ih3 _ _ _ _ _ _
   | exact LeO.none _
   | refine LeO.ite ?_ ?_
   | refine LeO.bind ?_ (fun _ => ?_)
  ·intro y0 y1 y2 y3 y4 y5
   unfold paraphrastlaw01_Few.j2
   repeat' first
   | (with_reducible exact ih0 _ _ _ _)
   | (with_reducible exact ih1 _ _ _ _ _)
   | (with_reducible exact ih2 _ _ _ _ _ _)
   | (with_reducible exact ih3 _ _ _ _ _ _)
   | (with_reducible exact LeO.refl _)
   | (with_reducible exact LeO.none _)
   | (with_reducible refine LeO.ite ?_ ?_)
   | (with_reducible refine LeO.bind ?_ (fun _ => ?_))
   | exact ih0 _ _ _ _
   | exact ih1 _ _ _ _ _
   | exact ih2 _ _ _ _ _ _
   | exact ih3 _ _ _ _ _ _
   | exact LeO.none _
   | refine LeO.ite ?_ ?_
   | refine LeO.bind ?_ (fun _ => ?_)
  ·intro y0 y1 y2 y3 y4 y5
   unfold paraphrastlaw01_Few.l2
   repeat' first
   | (with_reducible exact ih0 _ _ _ _)
   | (with_reducible exact ih1 _ _ _ _ _)
   | (with_reducible exact ih2 _ _ _ _ _ _)
   | (with_reducible exact ih3 _ _ _ _ _ _)
   | (with_reducible exact LeO.refl _)
   | (with_reducible exact LeO.none _)
   | (with_reducible refine LeO.ite ?_ ?_)
   | (with_reducible refine LeO.bind ?_ (fun _ => ?_))
   | exact ih0 _ _ _ _
   | exact ih1 _ _ _ _ _
   | exact ih2 _ _ _ _ _ _
   | exact ih3 _ _ _ _ _ _
   | exact LeO.none _
   | refine LeO.ite ?_ ?_
   | refine LeO.bind ?_ (fun _ => ?_)
theorem paraphrastlaw01_Few.mono : ∀ a0 k, LeO (paraphrastlaw01_Few.f k a0) (paraphrastlaw01_Few.f (k + 1) a0) := by
 intro a0 k
 obtain ⟨ih0, ih1, ih2, ih3⟩ := paraphrastlaw01_Few.mono_l k
 unfold paraphrastlaw01_Few.f
 repeat' first
   | (with_reducible exact ih0 _ _ _ _)
   | (with_reducible exact ih1 _ _ _ _ _)
   | (with_reducible exact ih2 _ _ _ _ _ _)
   | (with_reducible exact ih3 _ _ _ _ _ _)
   | (with_reducible exact LeO.refl _)
   | (with_reducible exact LeO.none _)
   | (with_reducible refine LeO.ite ?_ ?_)
   | (with_reducible refine LeO.bind ?_ (fun _ => ?_))
   | exact ih0 _ _ _ _
   | exact ih1 _ _ _ _ _
   | exact ih2 _ _ _ _ _ _
   | exact ih3 _ _ _ _ _ _
   | exact LeO.none _
   | refine LeO.ite ?_ ?_
   | refine LeO.bind ?_ (fun _ => ?_)
set_option maxHeartbeats 8000000 in
set_option maxRecDepth 100000 in
theorem paraphrastlaw01_Few.calls (k : Nat) (A0 : Option Addr) (c0 : Nat) (l0 : List (S24)) (r : Bool) (w : World) (hr0 : Kd.C k24 w A0 l0.length l0) (hc0 : l0.length ≤ c0) (h : paraphrastlaw01_Few.f k l0 = some r) :
  Calls Tryz.prog 9 #[.slice A0 l0.length c0] w fun e w' => e = .returned (.bool r) ∧ Drawn0 w w' := by
 have HR0 := Aside0.mk hr0
 have HC0 := Aside0.mk hc0
 clear hr0 hc0
 have H : (paraphrastlaw01_Few.l0 k l0 0 0 0) = some r := h
 clear h
 have H' := Aside0.mk H
 clear H
 go_enter Tryz.func9, Tryz.ntmps9
 go_wp2
 go_loopg [3, 4, 5] k (fun kq v3 v4 v5 w' => ∃ (x3_1 : Int) (x4_1 : Int) (x5_1 : Int), v3 = .int .i64 x3_1 ∧ v4 = .int .i64 x4_1 ∧ v5 = .int .i64 x5_1 ∧ Aside0 (paraphrastlaw01_Few.l0 kq l0 x3_1 x4_1 x5_1 = some r) ∧ Aside0 (kq ≤ k) ∧ Drawn0 w w')
 case atStart => exact ⟨(0), (0), (0), eS, eS, eS, H', ⟨Nat.le_refl _⟩, dr0⟩
 case round =>
  clear H'
  obtain ⟨x3_1, x4_1, x5_1, rfl, rfl, rfl, HA, HK1, ⟨m1, rfl⟩⟩ := hrel
  cases gk with
  | zero => exact absurd HA.out (by simp [paraphrastlaw01_Few.l0])
  | succ k1 =>
   have H := HA.out
   clear HA
   simp only [paraphrastlaw01_Few.l0] at H
   by_cases c2 : x5_1 < (l0.length : Int)
   ·rw [if_pos c2] at H
    have c2b0 : decide (x5_1 < (l0.length : Int)) = true := decide_eq_true c2
    clear c2
    by_cases c3 : 0 ≤ x5_1
    ·rw [if_pos c3] at H
     have c3b0 : decide (0 ≤ x5_1) = true := decide_eq_true c3
     clear c3
     by_cases c4 : (((rd_T24 l0 x5_1).f1).length : Int) > 12
     ·rw [if_pos c4] at H
      have c4b0 : decide (12 < (((rd_T24 l0 x5_1).f1).length : Int)) = true := decide_eq_true c4
      have c4b1 : decide (12 < ((rd_T24 l0 x5_1).f1).length) = true := decide_eq_true (by omega)
      clear c4
      obtain rfl := Option.some.inj H
      have p101 : 0 ≤ (x5_1 : Int) := dtr
      have q101 : x5_1 < (l0.length : Int) := dtr
      obtain ⟨ad101, A101_1, c101_1, e101, hx101_0, hx101_1, hl101_1, hi101_1⟩ := at_T24 HR0.out x5_1 p101 q101
      cases e101
      have HR101_1 := Aside0.mk hi101_1
      have HC101_1 := Aside0.mk hl101_1
      clear hi101_1 hl101_1
      replace p101 := eq_true p101
      replace q101 := eq_true q101
      go_wp2
      go_ret
      exact ⟨eS, dr0⟩
     ·rw [if_neg c4] at H
      have c4b0 : decide (12 < (((rd_T24 l0 x5_1).f1).length : Int)) = false := decide_eq_false c4
      have c4b1 : decide (12 < ((rd_T24 l0 x5_1).f1).length) = false := decide_eq_false (by omega)
      clear c4
      have H' := Aside0.mk H
      clear H
      have p101 : 0 ≤ (x5_1 : Int) := dtr
      have q101 : x5_1 < (l0.length : Int) := dtr
      obtain ⟨ad101, A101_1, c101_1, e101, hx101_0, hx101_1, hl101_1, hi101_1⟩ := at_T24 HR0.out x5_1 p101 q101
      cases e101
      have HR101_1 := Aside0.mk hi101_1
      have HC101_1 := Aside0.mk hl101_1
      clear hi101_1 hl101_1
      replace p101 := eq_true p101
      replace q101 := eq_true q101
      go_wp2
      go_loopg [3, 4, 6] k1 (fun kq v3 v4 v6 w' => ∃ (x3_2 : Int) (x4_2 : Int) (x6_2 : Int), v3 = .int .i64 x3_2 ∧ v4 = .int .i64 x4_2 ∧ v6 = .int .i64 x6_2 ∧ Aside0 (paraphrastlaw01_Few.l1 kq l0 x3_2 x4_2 x5_1 x6_2 = some r) ∧ Aside0 (kq ≤ k1) ∧ Drawn0 w w')
      case atStart => exact ⟨(x3_1), (x4_1), (0), eS, eS, eS, H', ⟨Nat.le_refl _⟩, dr0⟩
      case round =>
       clear H'
       (try clear c2); (try clear c2b0); (try clear c3); (try clear c3b0); (try clear c4); (try clear c4b0); (try clear c4b1); (try clear hx101_0); (try clear hx101_1); (try clear p101); (try clear q101)
       obtain ⟨x3_2, x4_2, x6_2, rfl, rfl, rfl, HA, HK2, ⟨m2, rfl⟩⟩ := hrel
       cases gk with
       | zero => exact absurd HA.out (by simp [paraphrastlaw01_Few.l1])
       | succ k2 =>
        have H := HA.out
        clear HA
        simp only [paraphrastlaw01_Few.l1] at H
        by_cases c5 : 0 ≤ x5_1
        ·rw [if_pos c5] at H
         have c5b0 : decide (0 ≤ x5_1) = true := decide_eq_true c5
         clear c5
         by_cases c6 : x5_1 < (l0.length : Int)
         ·rw [if_pos c6] at H
          have c6b0 : decide (x5_1 < (l0.length : Int)) = true := decide_eq_true c6
          clear c6
          by_cases c7 : x6_2 < (((rd_T24 l0 x5_1).f1).length : Int)
          ·rw [if_pos c7] at H
           have c7b0 : decide (x6_2 < (((rd_T24 l0 x5_1).f1).length : Int)) = true := decide_eq_true c7
           clear c7
           by_cases c8 : 0 ≤ x6_2
           ·rw [if_pos c8] at H
            have c8b0 : decide (0 ≤ x6_2) = true := decide_eq_true c8
            clear c8
            have HC9 := Aside0.mk H
            clear H
            have p102 : 0 ≤ (x5_1 : Int) := dtr
            have q102 : x5_1 < (l0.length : Int) := dtr
            obtain ⟨ad102, A102_1, c102_1, e102, hx102_0, hx102_1, hl102_1, hi102_1⟩ := at_T24 HR0.out x5_1 p102 q102
            obtain rfl : ad101 = ad102 := (by injection e102)
            have HR102_1 := Aside0.mk hi102_1
            have HC102_1 := Aside0.mk hl102_1
            clear hi102_1 hl102_1
            replace p102 := eq_true p102
            replace q102 := eq_true q102
            have p103 : 0 ≤ (x5_1 : Int) := dtr
            have q103 : x5_1 < (l0.length : Int) := dtr
            obtain ⟨ad103, A103_1, c103_1, e103, hx103_0, hx103_1, hl103_1, hi103_1⟩ := at_T24 HR0.out x5_1 p103 q103
            obtain rfl : ad101 = ad103 := (by injection e103)
            have HR103_1 := Aside0.mk hi103_1
            have HC103_1 := Aside0.mk hl103_1
            clear hi103_1 hl103_1
            replace p103 := eq_true p103
            replace q103 := eq_true q103
            have ea_ := Option.some.inj (hx102_1.symm.trans hx103_1)
            injection ea_ with ea_ en_ ec_
            subst ea_
            subst ec_
            clear en_
            have p104 : 0 ≤ (x6_2 : Int) := dtr
            have q104 : x6_2 < (((rd_T24 l0 x5_1).f1).length : Int) := dtr
            obtain ⟨ad104, A104_2, c104_2, e104, hx104_0, hx104_1, hx104_2, hl104_2, hi104_2⟩ := at_T52 HR103_1.out x6_2 p104 q104
            cases e104
            have HR104_2 := Aside0.mk hi104_2
            have HC104_2 := Aside0.mk hl104_2
            clear hi104_2 hl104_2
            replace p104 := eq_true p104
            replace q104 := eq_true q104
            go_upto_region 11 with (fail)
            go_cut [57] (fun v57 wc => ∃ (kq : Nat) (x57_8 : Bool), v57 = .bool x57_8 ∧ Aside0 (paraphrastlaw01_Few.j2 kq l0 (wrap64 (x3_2 + (((rd_T52 ((rd_T24 l0 x5_1).f1) x6_2).f2).length : Int))) x4_2 x5_1 x6_2 x57_8 = some r) ∧ Aside0 (kq ≤ k2) ∧ Drawn0 w wc)
            case first =>
             have H := HC9.out
             clear HC9
             by_cases c10 : (wrap64 (x3_2 + (((rd_T52 ((rd_T24 l0 x5_1).f1) x6_2).f2).length : Int))) > 1500
             ·rw [if_pos c10] at H
              have c10b0 : decide (1500 < (wrap64 (x3_2 + (((rd_T52 ((rd_T24 l0 x5_1).f1) x6_2).f2).length : Int)))) = true := decide_eq_true c10
              clear c10
              (first | rw [c10b0] | (simp only [i64_w, i32_w]; rw [c10b0]) | skip)
              have H' := Aside0.mk H
              clear H
              go_wp2
              go_meet
              case rel => exact ⟨_, (true), eS, H', ⟨by have := HK1.out; have := HK2.out; first | omega | exact Nat.le_refl _⟩, dr0⟩
             ·rw [if_neg c10] at H
              have c10b0 : decide (1500 < (wrap64 (x3_2 + (((rd_T52 ((rd_T24 l0 x5_1).f1) x6_2).f2).length : Int)))) = false := decide_eq_false c10
              clear c10
              (first | rw [c10b0] | (simp only [i64_w, i32_w]; rw [c10b0]) | skip)
              have H' := Aside0.mk H
              clear H
              have p105 : 0 ≤ (x5_1 : Int) := dtr
              have q105 : x5_1 < (l0.length : Int) := dtr
              obtain ⟨ad105, A105_1, c105_1, e105, hx105_0, hx105_1, hl105_1, hi105_1⟩ := at_T24 HR0.out x5_1 p105 q105
              obtain rfl : ad101 = ad105 := (by injection e105)
              have HR105_1 := Aside0.mk hi105_1
              have HC105_1 := Aside0.mk hl105_1
              clear hi105_1 hl105_1
              replace p105 := eq_true p105
              replace q105 := eq_true q105
              have p106 : 0 ≤ (x6_2 : Int) := dtr
              have q106 : x6_2 < (((rd_T24 l0 x5_1).f1).length : Int) := dtr
              obtain ⟨ad106, A106_2, c106_2, e106, hx106_0, hx106_1, hx106_2, hl106_2, hi106_2⟩ := at_T52 HR105_1.out x6_2 p106 q106
              cases e106
              have HR106_2 := Aside0.mk hi106_2
              have HC106_2 := Aside0.mk hl106_2
              clear hi106_2 hl106_2
              replace p106 := eq_true p106
              replace q106 := eq_true q106
              go_wp2
              go_meet
              case rel => exact ⟨_, (decide ((((rd_T52 ((rd_T24 l0 x5_1).f1) x6_2).f0).size : Int) > 1000)), eS, H', ⟨by have := HK1.out; have := HK2.out; first | omega | exact Nat.le_refl _⟩, dr0⟩
            case rest =>
             clear HC9
             (try clear c2); (try clear c2b0); (try clear c3); (try clear c3b0); (try clear c4); (try clear c4b0); (try clear c4b1); (try clear c5); (try clear c5b0); (try clear c6); (try clear c6b0); (try clear c7); (try clear c7b0); (try clear c8); (try clear c8b0); (try clear hx101_0); (try clear hx101_1); (try clear hx102_0); (try clear hx102_1); (try clear hx103_0); (try clear hx103_1); (try clear hx104_0); (try clear hx104_1); (try clear hx104_2); (try clear p101); (try clear p102); (try clear p103); (try clear p104); (try clear q101); (try clear q102); (try clear q103); (try clear q104)
             obtain ⟨kq, x57_8, rfl, HA, HJ8, ⟨mc8, rfl⟩⟩ := hcut
             cases kq with
             | zero => exact absurd HA.out (by simp [paraphrastlaw01_Few.j2])
             | succ kj8 =>
              have H := HA.out
              clear HA
              simp only [paraphrastlaw01_Few.j2] at H
              by_cases c11 : x57_8 = true
              ·subst c11
               have H1 : (some false) = some r := by rw [if_pos rfl] at H; exact H
               clear H
               have H := H1
               clear H1
               obtain rfl := Option.some.inj H
               go_wp2
               go_ret
               exact ⟨eS, dr0⟩
              ·replace c11 := Bool.eq_false_iff.mpr c11
               subst c11
               have H1 : (paraphrastlaw01_Few.l2 kj8 l0 (wrap64 (x3_2 + (((rd_T52 ((rd_T24 l0 x5_1).f1) x6_2).f2).length : Int))) x4_2 x5_1 x6_2 0) = some r := by rw [if_neg (show ¬ (false = true) by decide)] at H; exact H
               clear H
               have H := H1
               clear H1
               have H' := Aside0.mk H
               clear H
               go_wp2
               go_loopg [4, 7] kj8 (fun kq v4 v7 w' => ∃ (x4_4 : Int) (x7_4 : Int), v4 = .int .i64 x4_4 ∧ v7 = .int .i64 x7_4 ∧ Aside0 (paraphrastlaw01_Few.l2 kq l0 (wrap64 (x3_2 + (((rd_T52 ((rd_T24 l0 x5_1).f1) x6_2).f2).length : Int))) x4_4 x5_1 x6_2 x7_4 = some r) ∧ Aside0 (kq ≤ kj8) ∧ Drawn0 w w')
               case atStart => exact ⟨(x4_2), (0), eS, eS, H', ⟨Nat.le_refl _⟩, dr0⟩
               case round =>
                clear H'
                (try clear c2); (try clear c2b0); (try clear c3); (try clear c3b0); (try clear c4); (try clear c4b0); (try clear c4b1); (try clear c5); (try clear c5b0); (try clear c6); (try clear c6b0); (try clear c7); (try clear c7b0); (try clear c8); (try clear c8b0); (try clear c11); (try clear hx101_0); (try clear hx101_1); (try clear hx102_0); (try clear hx102_1); (try clear hx103_0); (try clear hx103_1); (try clear hx104_0); (try clear hx104_1); (try clear hx104_2); (try clear p101); (try clear p102); (try clear p103); (try clear p104); (try clear q101); (try clear q102); (try clear q103); (try clear q104)
                obtain ⟨x4_4, x7_4, rfl, rfl, HA, HK4, ⟨m4, rfl⟩⟩ := hrel
                cases gk with
                | zero => exact absurd HA.out (by simp [paraphrastlaw01_Few.l2])
                | succ k4 =>
                 have H := HA.out
                 clear HA
                 simp only [paraphrastlaw01_Few.l2] at H
                 by_cases c12 : 0 ≤ x5_1
                 ·rw [if_pos c12] at H
                  have c12b0 : decide (0 ≤ x5_1) = true := decide_eq_true c12
                  clear c12
                  by_cases c13 : x5_1 < (l0.length : Int)
                  ·rw [if_pos c13] at H
                   have c13b0 : decide (x5_1 < (l0.length : Int)) = true := decide_eq_true c13
                   clear c13
                   by_cases c14 : 0 ≤ x6_2
                   ·rw [if_pos c14] at H
                    have c14b0 : decide (0 ≤ x6_2) = true := decide_eq_true c14
                    clear c14
                    by_cases c15 : x6_2 < (((rd_T24 l0 x5_1).f1).length : Int)
                    ·rw [if_pos c15] at H
                     have c15b0 : decide (x6_2 < (((rd_T24 l0 x5_1).f1).length : Int)) = true := decide_eq_true c15
                     clear c15
                     by_cases c16 : x7_4 < (((rd_T52 ((rd_T24 l0 x5_1).f1) x6_2).f2).length : Int)
                     ·rw [if_pos c16] at H
                      have c16b0 : decide (x7_4 < (((rd_T52 ((rd_T24 l0 x5_1).f1) x6_2).f2).length : Int)) = true := decide_eq_true c16
                      clear c16
                      by_cases c17 : 0 ≤ x7_4
                      ·rw [if_pos c17] at H
                       have c17b0 : decide (0 ≤ x7_4) = true := decide_eq_true c17
                       clear c17
                       have H' := Aside0.mk H
                       clear H
                       have p107 : 0 ≤ (x5_1 : Int) := dtr
                       have q107 : x5_1 < (l0.length : Int) := dtr
                       obtain ⟨ad107, A107_1, c107_1, e107, hx107_0, hx107_1, hl107_1, hi107_1⟩ := at_T24 HR0.out x5_1 p107 q107
                       obtain rfl : ad101 = ad107 := (by injection e107)
                       have HR107_1 := Aside0.mk hi107_1
                       have HC107_1 := Aside0.mk hl107_1
                       clear hi107_1 hl107_1
                       replace p107 := eq_true p107
                       replace q107 := eq_true q107
                       have p108 : 0 ≤ (x6_2 : Int) := dtr
                       have q108 : x6_2 < (((rd_T24 l0 x5_1).f1).length : Int) := dtr
                       obtain ⟨ad108, A108_2, c108_2, e108, hx108_0, hx108_1, hx108_2, hl108_2, hi108_2⟩ := at_T52 HR107_1.out x6_2 p108 q108
                       cases e108
                       have HR108_2 := Aside0.mk hi108_2
                       have HC108_2 := Aside0.mk hl108_2
                       clear hi108_2 hl108_2
                       replace p108 := eq_true p108
                       replace q108 := eq_true q108
                       have p109 : 0 ≤ (x5_1 : Int) := dtr
                       have q109 : x5_1 < (l0.length : Int) := dtr
                       obtain ⟨ad109, A109_1, c109_1, e109, hx109_0, hx109_1, hl109_1, hi109_1⟩ := at_T24 HR0.out x5_1 p109 q109
                       obtain rfl : ad101 = ad109 := (by injection e109)
                       have HR109_1 := Aside0.mk hi109_1
                       have HC109_1 := Aside0.mk hl109_1
                       clear hi109_1 hl109_1
                       replace p109 := eq_true p109
                       replace q109 := eq_true q109
                       have ea_ := Option.some.inj (hx107_1.symm.trans hx109_1)
                       injection ea_ with ea_ en_ ec_
                       subst ea_
                       subst ec_
                       clear en_
                       have p110 : 0 ≤ (x6_2 : Int) := dtr
                       have q110 : x6_2 < (((rd_T24 l0 x5_1).f1).length : Int) := dtr
                       obtain ⟨ad110, A110_2, c110_2, e110, hx110_0, hx110_1, hx110_2, hl110_2, hi110_2⟩ := at_T52 HR109_1.out x6_2 p110 q110
                       cases e110
                       have HR110_2 := Aside0.mk hi110_2
                       have HC110_2 := Aside0.mk hl110_2
                       clear hi110_2 hl110_2
                       replace p110 := eq_true p110
                       replace q110 := eq_true q110
                       have ea_ := Option.some.inj (hx108_2.symm.trans hx110_2)
                       injection ea_ with ea_ en_ ec_
                       subst ea_
                       subst ec_
                       clear en_
                       have p111 : 0 ≤ (x7_4 : Int) := dtr
                       have q111 : x7_4 < (((rd_T52 ((rd_T24 l0 x5_1).f1) x6_2).f2).length : Int) := dtr
                       obtain ⟨ad111, A111_0, c111_0, e111, hx111_0, hl111_0, hi111_0⟩ := at_L2 HR110_2.out x7_4 p111 q111
                       cases e111
                       have HR111_0 := Aside0.mk hi111_0
                       have HC111_0 := Aside0.mk hl111_0
                       clear hi111_0 hl111_0
                       replace p111 := eq_true p111
                       replace q111 := eq_true q111
                       go_wp2
                       go_roundg k4
                       case measure => have := HK1.out; have := HK2.out; have := HJ8.out; have := HK4.out; omega
                       case rel => exact ⟨(wrap64 (x4_4 + ((rd_L2 ((rd_T52 ((rd_T24 l0 x5_1).f1) x6_2).f2) x7_4).length : Int))), (wrap64 (x7_4 + 1)), eS, eS, H', ⟨by have := HK1.out; have := HK2.out; have := HJ8.out; have := HK4.out; omega⟩, dr0⟩
                      ·rw [if_neg c17] at H
                       exact absurd H (by simp)
                     ·rw [if_neg c16] at H
                      have c16b0 : decide (x7_4 < (((rd_T52 ((rd_T24 l0 x5_1).f1) x6_2).f2).length : Int)) = false := decide_eq_false c16
                      clear c16
                      have H' := Aside0.mk H
                      clear H
                      have p107 : 0 ≤ (x5_1 : Int) := dtr
                      have q107 : x5_1 < (l0.length : Int) := dtr
                      obtain ⟨ad107, A107_1, c107_1, e107, hx107_0, hx107_1, hl107_1, hi107_1⟩ := at_T24 HR0.out x5_1 p107 q107
                      obtain rfl : ad101 = ad107 := (by injection e107)
                      have HR107_1 := Aside0.mk hi107_1
                      have HC107_1 := Aside0.mk hl107_1
                      clear hi107_1 hl107_1
                      replace p107 := eq_true p107
                      replace q107 := eq_true q107
                      have p108 : 0 ≤ (x6_2 : Int) := dtr
                      have q108 : x6_2 < (((rd_T24 l0 x5_1).f1).length : Int) := dtr
                      obtain ⟨ad108, A108_2, c108_2, e108, hx108_0, hx108_1, hx108_2, hl108_2, hi108_2⟩ := at_T52 HR107_1.out x6_2 p108 q108
                      cases e108
                      have HR108_2 := Aside0.mk hi108_2
                      have HC108_2 := Aside0.mk hl108_2
                      clear hi108_2 hl108_2
                      replace p108 := eq_true p108
                      replace q108 := eq_true q108
                      go_wp2
                      go_roundg k4
                      case measure => have := HK1.out; have := HK2.out; have := HJ8.out; have := HK4.out; omega
                      case rel => exact ⟨((wrap64 (x3_2 + (((rd_T52 ((rd_T24 l0 x5_1).f1) x6_2).f2).length : Int)))), (x4_4), (wrap64 (x6_2 + 1)), eS, eS, eS, H', ⟨by have := HK1.out; have := HK2.out; have := HJ8.out; have := HK4.out; omega⟩, dr0⟩
                    ·rw [if_neg c15] at H
                     exact absurd H (by simp)
                   ·rw [if_neg c14] at H
                    exact absurd H (by simp)
                  ·rw [if_neg c13] at H
                   exact absurd H (by simp)
                 ·rw [if_neg c12] at H
                  exact absurd H (by simp)
           ·rw [if_neg c8] at H
            exact absurd H (by simp)
          ·rw [if_neg c7] at H
           have c7b0 : decide (x6_2 < (((rd_T24 l0 x5_1).f1).length : Int)) = false := decide_eq_false c7
           clear c7
           have H' := Aside0.mk H
           clear H
           have p102 : 0 ≤ (x5_1 : Int) := dtr
           have q102 : x5_1 < (l0.length : Int) := dtr
           obtain ⟨ad102, A102_1, c102_1, e102, hx102_0, hx102_1, hl102_1, hi102_1⟩ := at_T24 HR0.out x5_1 p102 q102
           obtain rfl : ad101 = ad102 := (by injection e102)
           have HR102_1 := Aside0.mk hi102_1
           have HC102_1 := Aside0.mk hl102_1
           clear hi102_1 hl102_1
           replace p102 := eq_true p102
           replace q102 := eq_true q102
           go_wp2
           go_roundg k2
           case measure => have := HK1.out; have := HK2.out; omega
           case rel => exact ⟨(x3_2), (x4_2), (wrap64 (x5_1 + 1)), eS, eS, eS, H', ⟨by have := HK1.out; have := HK2.out; omega⟩, dr0⟩
         ·rw [if_neg c6] at H
          exact absurd H (by simp)
        ·rw [if_neg c5] at H
         exact absurd H (by simp)
    ·rw [if_neg c3] at H
     exact absurd H (by simp)
   ·rw [if_neg c2] at H
    have c2b0 : decide (x5_1 < (l0.length : Int)) = false := decide_eq_false c2
    clear c2
    obtain rfl := Option.some.inj H
    go_wp2
    go_ret
    exact ⟨eS, dr0⟩
end Go.Proofs.YtfmpaofbnjlniaaGreatDoor.F
/- Few always answers. -/
namespace Go.Proofs.YtfmpaofbnjlniaaGreatDoor.F
open Go.RowKit Go.Proofs.YtfmpaofbnjlniaaGreatDoorW.PrintWords Go.Proofs.YtfmpaofbnjlniaaGreatDoorW.PrintLast Go.Proofs.YtfmpaofbnjlniaaGreatDoorW.PrintMore
set_option linter.unusedVariables false
theorem few_l2 (n : Int) (l : List S52) (i : Nat) (hi : i < l.length) (h8 : l.length ≤ 12) (x3 : Int) (hM : (rd_T52 l (i : Int)).f2.length ≤ 9223372036854775807) (H : ∀ x4, ∃ k b, paraphrastlaw01_Few.l1 k [⟨n, l⟩] x3 x4 0 ((i : Int) + 1) = some b) :
    ∀ (m j : Nat) (x4 : Int), j + m = (rd_T52 l (i : Int)).f2.length → ∃ k b, paraphrastlaw01_Few.l2 k [⟨n, l⟩] x3 x4 0 (i : Int) (j : Int) = some b
  | 0, j, x4, h => by
    obtain ⟨k, b, hk⟩ := H x4
    refine ⟨k + 1, b, ?_⟩
    unfold paraphrastlaw01_Few.l2
    rw [if_pos (by omega), if_pos (by simp), if_pos (by omega), if_pos (show (i : Int) < ((rd_T24 [⟨n, l⟩] 0).f1.length : Int) from by show (i : Int) < (l.length : Int); omega), if_neg (show ¬ (j : Int) < ((rd_T52 (rd_T24 [⟨n, l⟩] 0).f1 (i : Int)).f2.length : Int) from by show ¬ (j : Int) < ((rd_T52 l (i : Int)).f2.length : Int); omega), w64 (by omega) (by omega)]
    exact hk
  | m + 1, j, x4, h => by
    obtain ⟨k, b, hk⟩ := few_l2 n l i hi h8 x3 hM H m (j + 1) (wrap64 (x4 + ((rd_L2 (rd_T52 l (i : Int)).f2 (j : Int)).length : Int))) (by omega)
    refine ⟨k + 1, b, ?_⟩
    unfold paraphrastlaw01_Few.l2
    rw [if_pos (by omega), if_pos (by simp), if_pos (by omega), if_pos (show (i : Int) < ((rd_T24 [⟨n, l⟩] 0).f1.length : Int) from by show (i : Int) < (l.length : Int); omega), if_pos (show (j : Int) < ((rd_T52 (rd_T24 [⟨n, l⟩] 0).f1 (i : Int)).f2.length : Int) from by show (j : Int) < ((rd_T52 l (i : Int)).f2.length : Int); omega), if_pos (by omega), w64 (x := (j : Int) + 1) (by omega) (by omega)]
    exact hk
theorem few_l1 (n : Int) (l : List S52) (h8 : l.length ≤ 12) (hM : ∀ r ∈ l, r.f2.length ≤ 9223372036854775807) : ∀ (d i : Nat) (x3 x4 : Int), i + d = l.length → ∃ k b, paraphrastlaw01_Few.l1 k [⟨n, l⟩] x3 x4 0 (i : Int) = some b
  | 0, i, x3, x4, h => by
    refine ⟨2, decide (x4 ≤ 20000), ?_⟩
    unfold paraphrastlaw01_Few.l1
    rw [if_pos (by omega), if_pos (by simp), if_neg (show ¬ (i : Int) < ((rd_T24 [⟨n, l⟩] 0).f1.length : Int) from by show ¬ (i : Int) < (l.length : Int); omega), show wrap64 (0 + 1) = 1 from by unfold wrap64; omega]
    unfold paraphrastlaw01_Few.l0
    rw [if_neg (by simp)]
  | d + 1, i, x3, x4, h => by
    have hi : i < l.length := by omega
    have hr := hM _ (List.getElem_mem hi)
    rw [← rdT_nat l i hi] at hr
    generalize hX : wrap64 (x3 + ((rd_T52 l (i : Int)).f2.length : Int)) = X
    have step : ∀ k, paraphrastlaw01_Few.l1 (k + 1) [⟨n, l⟩] x3 x4 0 (i : Int) = if X > 1500 then paraphrastlaw01_Few.j2 k [⟨n, l⟩] X x4 0 (i : Int) true else paraphrastlaw01_Few.j2 k [⟨n, l⟩] X x4 0 (i : Int) (decide (((rd_T52 l (i : Int)).f0.size : Int) > 1000)) := fun k => by
      conv => lhs; unfold paraphrastlaw01_Few.l1
      rw [if_pos (by omega), if_pos (by simp), if_pos (show (i : Int) < ((rd_T24 [⟨n, l⟩] 0).f1.length : Int) from by show (i : Int) < (l.length : Int); omega), if_pos (by omega)]
      show (if wrap64 (x3 + ((rd_T52 l (i : Int)).f2.length : Int)) > 1500 then paraphrastlaw01_Few.j2 k [⟨n, l⟩] (wrap64 (x3 + ((rd_T52 l (i : Int)).f2.length : Int))) x4 0 (i : Int) true else paraphrastlaw01_Few.j2 k [⟨n, l⟩] (wrap64 (x3 + ((rd_T52 l (i : Int)).f2.length : Int))) x4 0 (i : Int) (decide (((rd_T52 l (i : Int)).f0.size : Int) > 1000))) = _
      rw [hX]
    by_cases h1 : X > 1500
    · exact ⟨2, false, by rw [step, if_pos h1]; rfl⟩
    · by_cases h2 : ((rd_T52 l (i : Int)).f0.size : Int) > 1000
      · exact ⟨2, false, by rw [step, if_neg h1, decide_eq_true h2]; rfl⟩
      · obtain ⟨k, b, hk⟩ := few_l2 n l i hi h8 X hr (fun x4' => by have := few_l1 n l h8 hM d (i + 1) X x4' (by omega); rwa [show ((i + 1 : Nat) : Int) = (i : Int) + 1 by omega] at this) (rd_T52 l (i : Int)).f2.length 0 x4 (by omega)
        exact ⟨k + 2, b, by rw [step, if_neg h1, decide_eq_false h2]; exact hk⟩
theorem few_ex (n : Int) (l : List S52) (hM : ∀ r ∈ l, r.f2.length ≤ 9223372036854775807) : ∃ k b, paraphrastlaw01_Few.f k [⟨n, l⟩] = some b := by
  by_cases h : (l.length : Int) > 12
  · exact ⟨1, false, by
      unfold paraphrastlaw01_Few.f paraphrastlaw01_Few.l0
      rw [if_pos (by simp), if_pos (by omega)]
      exact if_pos h⟩
  · obtain ⟨k, b, hk⟩ := few_l1 n l (by omega) hM l.length 0 0 0 (by omega)
    exact ⟨k + 1, b, by
      unfold paraphrastlaw01_Few.f paraphrastlaw01_Few.l0
      rw [if_pos (by simp), if_pos (by omega)]
      exact (if_neg h).trans hk⟩
theorem rels_max {w : World} {A : Option Addr} {n : Nat} {l : List S52} (h : Kd.C k52 w A n l) : ∀ r ∈ l, r.f2.length ≤ 9223372036854775807 := by
  intro r hr
  obtain ⟨i, hi, rfl⟩ := List.getElem_of_mem hr
  have hn : 0 < n := by have := h.1; omega
  obtain ⟨ad, _, hc⟩ := h.2.2 hn
  obtain ⟨c, _, hK, _⟩ := hc i _ (List.getElem?_eq_getElem hi)
  obtain ⟨A2, c2, _, _, g⟩ := k52_open hK
  exact g.2.1
end Go.Proofs.YtfmpaofbnjlniaaGreatDoor.F
namespace Go.Proofs.YtfmpaofbnjlniaaGreatDoor.F
open Go.RowKit Go.Proofs.YtfmpaofbnjlniaaGreatDoorW.PrintWords Go.Proofs.YtfmpaofbnjlniaaGreatDoorW.PrintLast Go.Proofs.YtfmpaofbnjlniaaGreatDoorW.PrintMore
attribute [local go_sem] max2_int min2_int max_two min_two max_three min_three max_four min_four
set_option linter.unusedVariables false
set_option linter.unusedSimpArgs false
/-! ### paraphrastref01_SameTuples: function 69 -/
def paraphrastref01_SameTuples.l0 : Nat → List (List Int) → List (List Int) → Int → Option (Bool)
 | 0, _, _, _ => none
 | k + 1, x0, x1, x5 => if x5 < (x0.length : Int) then (if 0 ≤ x5 then (if x5 < (x1.length : Int) then ((paraphrastref01_Equal.f k (rd_L2 x0 x5) (rd_L2 x1 x5)).bind fun t255 => (if t255 = true then (paraphrastref01_SameTuples.l0 k x0 x1 (wrap64 (x5 + 1))) else (some false))) else (none)) else (none)) else (some true)
def paraphrastref01_SameTuples.f (k : Nat) (l0 : List (List Int)) (l1 : List (List Int)) : Option (Bool) := if (l0.length : Int) = (l1.length : Int) then (paraphrastref01_SameTuples.l0 k l0 l1 0) else (some false)
set_option maxHeartbeats 8000000 in
set_option maxRecDepth 100000 in
theorem paraphrastref01_SameTuples.calls (k : Nat) (A0 : Option Addr) (c0 : Nat) (l0 : List (List Int)) (A1 : Option Addr) (c1 : Nat) (l1 : List (List Int)) (r : Bool) (w : World) (hr0 : Kd.C (Kd.slice 3 (Kd.int .i64)) w A0 l0.length l0) (hc0 : l0.length ≤ c0) (hr1 : Kd.C (Kd.slice 3 (Kd.int .i64)) w A1 l1.length l1) (hc1 : l1.length ≤ c1) (h : paraphrastref01_SameTuples.f k l0 l1 = some r) :
  Calls Tryz.prog 69 #[.slice A0 l0.length c0, .slice A1 l1.length c1] w fun e w' => e = .returned (.bool r) ∧ Drawn0 w w' := by
 have HR0 := Aside0.mk hr0
 have HC0 := Aside0.mk hc0
 clear hr0 hc0
 have HR1 := Aside0.mk hr1
 have HC1 := Aside0.mk hc1
 clear hr1 hc1
 have H : (if (l0.length : Int) = (l1.length : Int) then (paraphrastref01_SameTuples.l0 k l0 l1 0) else (some false)) = some r := h
 clear h
 by_cases c3 : (l0.length : Int) = (l1.length : Int)
 ·rw [if_pos c3] at H
  have c3b0 : ((l0.length : Int) == (l1.length : Int)) = true := beq_iff_eq.mpr c3
  have c3b1 : ((l0.length : Int) != (l1.length : Int)) = false := bne_eq_false_iff_eq.mpr c3
  have c3b2 : (l0.length == l1.length) = true := by first | simpa using c3 | (simp at c3 ⊢; omega)
  clear c3
  have H' := Aside0.mk H
  clear H
  go_enter Tryz.func69, Tryz.ntmps69
  go_wp2
  repeat (go_quiet (fail); try go_wp2)
  go_loopg [5] k (fun kq v5 w' => ∃ (x5_1 : Int), v5 = .int .i64 x5_1 ∧ Aside0 (paraphrastref01_SameTuples.l0 kq l0 l1 x5_1 = some r) ∧ Aside0 (kq ≤ k) ∧ Drawn0 w w')
  case atStart => exact ⟨(0), eS, H', ⟨Nat.le_refl _⟩, dr0⟩
  case round =>
   clear H'
   (try clear c1); (try clear c3); (try clear c3b0); (try clear c3b1); (try clear c3b2)
   obtain ⟨x5_1, rfl, HA, HK1, ⟨m1, rfl⟩⟩ := hrel
   cases gk with
   | zero => exact absurd HA.out (by simp [paraphrastref01_SameTuples.l0])
   | succ k1 =>
    have H := HA.out
    clear HA
    simp only [paraphrastref01_SameTuples.l0] at H
    by_cases c4 : x5_1 < (l0.length : Int)
    ·rw [if_pos c4] at H
     have c4b0 : decide (x5_1 < (l0.length : Int)) = true := decide_eq_true c4
     clear c4
     by_cases c5 : 0 ≤ x5_1
     ·rw [if_pos c5] at H
      have c5b0 : decide (0 ≤ x5_1) = true := decide_eq_true c5
      clear c5
      by_cases c6 : x5_1 < (l1.length : Int)
      ·rw [if_pos c6] at H
       have c6b0 : decide (x5_1 < (l1.length : Int)) = true := decide_eq_true c6
       clear c6
       replace H := Option.bind_eq_some_iff.mp H
       obtain ⟨t255, A70, H⟩ := H
       replace H : (if t255 = true then (paraphrastref01_SameTuples.l0 k1 l0 l1 (wrap64 (x5_1 + 1))) else (some false)) = some r := H
       have A7 := Aside0.mk A70
       clear A70
       by_cases c8 : t255 = true
       ·subst c8
        have H1 : (paraphrastref01_SameTuples.l0 k1 l0 l1 (wrap64 (x5_1 + 1))) = some r := by rw [if_pos rfl] at H; exact H
        clear H
        have H := H1
        clear H1
        have H' := Aside0.mk H
        clear H
        have p253 : 0 ≤ (x5_1 : Int) := dtr
        have q253 : x5_1 < (l0.length : Int) := dtr
        obtain ⟨ad253, A253_0, c253_0, e253, hx253_0, hl253_0, hi253_0⟩ := at_L2 HR0.out x5_1 p253 q253
        cases e253
        have HR253_0 := Aside0.mk hi253_0
        have HC253_0 := Aside0.mk hl253_0
        clear hi253_0 hl253_0
        replace p253 := eq_true p253
        replace q253 := eq_true q253
        have p254 : 0 ≤ (x5_1 : Int) := dtr
        have q254 : x5_1 < (l1.length : Int) := dtr
        obtain ⟨ad254, A254_0, c254_0, e254, hx254_0, hl254_0, hi254_0⟩ := at_L2 HR1.out x5_1 p254 q254
        cases e254
        have HR254_0 := Aside0.mk hi254_0
        have HC254_0 := Aside0.mk hl254_0
        clear hi254_0 hl254_0
        replace p254 := eq_true p254
        replace q254 := eq_true q254
        go_wp2_with (first | (go_at_call 41; (with_reducible refine (paraphrastref01_Equal.calls k1 _ _ (rd_L2 l0 x5_1) _ _ (rd_L2 l1 x5_1) true _ ?side1 ?side2 ?side3 ?side4 A7.out).mono ?_); (case side1 => exact cS HR253_0.out); (case side2 => exact HC253_0.out); (case side3 => exact cS HR254_0.out); (case side4 => exact HC254_0.out); rintro e w' ⟨rfl, ⟨nd, rfl⟩⟩; (try first | exact ⟨rfl, _, World.drewN_drewN _ _ _⟩ | exact ⟨rfl, _, Eq.trans (World.drewN_drewN _ _ _) (congrArg (World.drewN _) (Nat.add_assoc _ _ _))⟩)))
        repeat (go_quiet (first | (go_at_call 41; (with_reducible refine (paraphrastref01_Equal.calls k1 _ _ (rd_L2 l0 x5_1) _ _ (rd_L2 l1 x5_1) true _ ?side1 ?side2 ?side3 ?side4 A7.out).mono ?_); (case side1 => exact cS HR253_0.out); (case side2 => exact HC253_0.out); (case side3 => exact cS HR254_0.out); (case side4 => exact HC254_0.out); rintro e w' ⟨rfl, ⟨nd, rfl⟩⟩; (try first | exact ⟨rfl, _, World.drewN_drewN _ _ _⟩ | exact ⟨rfl, _, Eq.trans (World.drewN_drewN _ _ _) (congrArg (World.drewN _) (Nat.add_assoc _ _ _))⟩))); try go_wp2_with (first | (go_at_call 41; (with_reducible refine (paraphrastref01_Equal.calls k1 _ _ (rd_L2 l0 x5_1) _ _ (rd_L2 l1 x5_1) true _ ?side1 ?side2 ?side3 ?side4 A7.out).mono ?_); (case side1 => exact cS HR253_0.out); (case side2 => exact HC253_0.out); (case side3 => exact cS HR254_0.out); (case side4 => exact HC254_0.out); rintro e w' ⟨rfl, ⟨nd, rfl⟩⟩; (try first | exact ⟨rfl, _, World.drewN_drewN _ _ _⟩ | exact ⟨rfl, _, Eq.trans (World.drewN_drewN _ _ _) (congrArg (World.drewN _) (Nat.add_assoc _ _ _))⟩))))
        go_roundg k1
        case measure => have := HK1.out; omega
        case rel => exact ⟨(wrap64 (x5_1 + 1)), eS, H', ⟨by have := HK1.out; omega⟩, dr0⟩
       ·replace c8 := Bool.eq_false_iff.mpr c8
        subst c8
        have H1 : (some false) = some r := by rw [if_neg (show ¬ (false = true) by decide)] at H; exact H
        clear H
        have H := H1
        clear H1
        obtain rfl := Option.some.inj H
        have p253 : 0 ≤ (x5_1 : Int) := dtr
        have q253 : x5_1 < (l0.length : Int) := dtr
        obtain ⟨ad253, A253_0, c253_0, e253, hx253_0, hl253_0, hi253_0⟩ := at_L2 HR0.out x5_1 p253 q253
        cases e253
        have HR253_0 := Aside0.mk hi253_0
        have HC253_0 := Aside0.mk hl253_0
        clear hi253_0 hl253_0
        replace p253 := eq_true p253
        replace q253 := eq_true q253
        have p254 : 0 ≤ (x5_1 : Int) := dtr
        have q254 : x5_1 < (l1.length : Int) := dtr
        obtain ⟨ad254, A254_0, c254_0, e254, hx254_0, hl254_0, hi254_0⟩ := at_L2 HR1.out x5_1 p254 q254
        cases e254
        have HR254_0 := Aside0.mk hi254_0
        have HC254_0 := Aside0.mk hl254_0
        clear hi254_0 hl254_0
        replace p254 := eq_true p254
        replace q254 := eq_true q254
        go_wp2_with (first | (go_at_call 41; (with_reducible refine (paraphrastref01_Equal.calls k1 _ _ (rd_L2 l0 x5_1) _ _ (rd_L2 l1 x5_1) false _ ?side1 ?side2 ?side3 ?side4 A7.out).mono ?_); (case side1 => exact cS HR253_0.out); (case side2 => exact HC253_0.out); (case side3 => exact cS HR254_0.out); (case side4 => exact HC254_0.out); rintro e w' ⟨rfl, ⟨nd, rfl⟩⟩; (try first | exact ⟨rfl, _, World.drewN_drewN _ _ _⟩ | exact ⟨rfl, _, Eq.trans (World.drewN_drewN _ _ _) (congrArg (World.drewN _) (Nat.add_assoc _ _ _))⟩)))
        repeat (go_quiet (first | (go_at_call 41; (with_reducible refine (paraphrastref01_Equal.calls k1 _ _ (rd_L2 l0 x5_1) _ _ (rd_L2 l1 x5_1) false _ ?side1 ?side2 ?side3 ?side4 A7.out).mono ?_); (case side1 => exact cS HR253_0.out); (case side2 => exact HC253_0.out); (case side3 => exact cS HR254_0.out); (case side4 => exact HC254_0.out); rintro e w' ⟨rfl, ⟨nd, rfl⟩⟩; (try first | exact ⟨rfl, _, World.drewN_drewN _ _ _⟩ | exact ⟨rfl, _, Eq.trans (World.drewN_drewN _ _ _) (congrArg (World.drewN _) (Nat.add_assoc _ _ _))⟩))); try go_wp2_with (first | (go_at_call 41; (with_reducible refine (paraphrastref01_Equal.calls k1 _ _ (rd_L2 l0 x5_1) _ _ (rd_L2 l1 x5_1) false _ ?side1 ?side2 ?side3 ?side4 A7.out).mono ?_); (case side1 => exact cS HR253_0.out); (case side2 => exact HC253_0.out); (case side3 => exact cS HR254_0.out); (case side4 => exact HC254_0.out); rintro e w' ⟨rfl, ⟨nd, rfl⟩⟩; (try first | exact ⟨rfl, _, World.drewN_drewN _ _ _⟩ | exact ⟨rfl, _, Eq.trans (World.drewN_drewN _ _ _) (congrArg (World.drewN _) (Nat.add_assoc _ _ _))⟩))))
        go_ret
        exact ⟨eS, dr0⟩
      ·rw [if_neg c6] at H
       exact absurd H (by simp)
     ·rw [if_neg c5] at H
      exact absurd H (by simp)
    ·rw [if_neg c4] at H
     have c4b0 : decide (x5_1 < (l0.length : Int)) = false := decide_eq_false c4
     clear c4
     obtain rfl := Option.some.inj H
     go_wp2
     repeat (go_quiet (fail); try go_wp2)
     go_ret
     exact ⟨eS, dr0⟩
 ·rw [if_neg c3] at H
  have c3b0 : ((l0.length : Int) == (l1.length : Int)) = false := beq_eq_false_iff_ne.mpr c3
  have c3b1 : ((l0.length : Int) != (l1.length : Int)) = true := bne_iff_ne.mpr c3
  have c3b2 : (l0.length == l1.length) = false := by first | simpa using c3 | (simp at c3 ⊢; omega)
  obtain rfl := Option.some.inj H
  go_enter Tryz.func69, Tryz.ntmps69
  go_wp2
  repeat (go_quiet (fail); try go_wp2)
  go_ret
  exact ⟨eS, dr0⟩
end Go.Proofs.YtfmpaofbnjlniaaGreatDoor.F
namespace Go.Proofs.YtfmpaofbnjlniaaGreatDoor.F
open Go.RowKit Go.Proofs.YtfmpaofbnjlniaaGreatDoorW.PrintWords Go.Proofs.YtfmpaofbnjlniaaGreatDoorW.PrintLast Go.Proofs.YtfmpaofbnjlniaaGreatDoorW.PrintMore
attribute [local go_sem] max2_int min2_int max_two min_two max_three min_three max_four min_four
set_option linter.unusedVariables false
set_option linter.unusedSimpArgs false
theorem far_ne34 {W : World} {p : Addr} {v : Value} {g : Nat} (h : W.cell? p = some v) (hg : W.heap.size ≤ g) : p.block ≠ g := Nat.ne_of_lt (Nat.lt_of_lt_of_le (World.block_lt_of_cell? _ _ h) hg)
/-! ### paraphrastref01_Same: function 34 -/
mutual
def paraphrastref01_Same.j0 : Nat → Bool → Int → List (S52) → Int → List (S52) → Option (Bool)
 | 0, _, _, _, _, _ => none
 | k + 1, x21, x257000, x257001, x258000, x258001 => if x21 = true then (some false) else (paraphrastref01_Same.l0 k 0 x257000 x257001 x258000 x258001)
def paraphrastref01_Same.l0 : Nat → Int → Int → List (S52) → Int → List (S52) → Option (Bool)
 | 0, _, _, _, _, _ => none
 | k + 1, x5, x257000, x257001, x258000, x258001 => if x5 < (x257001.length : Int) then (if 0 ≤ x5 then (if x5 < (x258001.length : Int) then (if ((rd_T52 x257001 x5).f0).toList = ((rd_T52 x258001 x5).f0).toList then (if ((rd_T52 x257001 x5).f1) = ((rd_T52 x258001 x5).f1) then ((paraphrastref01_SameTuples.f k ((rd_T52 x257001 x5).f2) ((rd_T52 x258001 x5).f2)).bind fun t262 => (if t262 = true then (paraphrastref01_Same.l0 k (wrap64 (x5 + 1)) x257000 x257001 x258000 x258001) else (some false))) else (some false)) else (some false)) else (none)) else (none)) else (some true)
end
def paraphrastref01_Same.f (k : Nat) (a0_0 : Int) (l0_1 : List (S52)) (a1_0 : Int) (l1_1 : List (S52)) : Option (Bool) := if a0_0 = a1_0 then (paraphrastref01_Same.j0 k ((l0_1.length : Int) != (l1_1.length : Int)) a0_0 l0_1 a1_0 l1_1) else (paraphrastref01_Same.j0 k true a0_0 l0_1 a1_0 l1_1)
def paraphrastref01_Same.T6 : Bool × List (List Nat × List Nat) := (true, [([], []), ([0], [0]), ([], []), ([1, 2], [1, 2]), ([3], [3]), ([], []), ([5], [5]), ([], []), ([6, 7], [6, 7]), ([8], [8]), ([], []), ([], []), ([10, 4, 0, 1, 2, 3, 4, 10, 11], [4, 10]), ([11, 9, 12, 0, 1, 2, 3, 4, 5, 6, 7, 8, 9, 10, 11, 12], [9, 11])])
def paraphrastref01_Same.B6 : List Nat := [0, 1, 0, 7, 15, 0, 32, 0, 224, 480, 0, 0, 3103, 8191]
theorem paraphrastref01_Same.tab6 : rtab .any (opsOf Tryz.f34 6) = paraphrastref01_Same.T6 := by kernel_rfl
theorem paraphrastref01_Same.bits6 : waitsOk paraphrastref01_Same.T6.2 paraphrastref01_Same.B6 = true := by kernel_rfl
set_option maxHeartbeats 8000000 in
set_option maxRecDepth 100000 in
theorem paraphrastref01_Same.calls (k : Nat) (a0_0 : Int) (A0_1 : Option Addr) (c0_1 : Nat) (l0_1 : List (S52)) (a1_0 : Int) (A1_1 : Option Addr) (c1_1 : Nat) (l1_1 : List (S52)) (r : Bool) (w : World) (hr0_1 : Kd.C k52 w A0_1 l0_1.length l0_1) (hc0_1 : l0_1.length ≤ c0_1) (hr1_1 : Kd.C k52 w A1_1 l1_1.length l1_1) (hc1_1 : l1_1.length ≤ c1_1) (h : paraphrastref01_Same.f k a0_0 l0_1 a1_0 l1_1 = some r) :
  Calls Tryz.prog 34 #[.agg #[.int .i64 a0_0, .slice A0_1 l0_1.length c0_1], .agg #[.int .i64 a1_0, .slice A1_1 l1_1.length c1_1]] w fun e w' => e = .returned (.bool r) ∧ Below w.heap.size w w' := by
 have hu24 := Tryz.underlying24
 have hu52 := Tryz.underlying52
 have HR0_1 := Aside0.mk hr0_1
 have HC0_1 := Aside0.mk hc0_1
 clear hr0_1 hc0_1
 have HR1_1 := Aside0.mk hr1_1
 have HC1_1 := Aside0.mk hc1_1
 clear hr1_1 hc1_1
 have HB := Aside0.mk (Below.refl w.heap.size w)
 have H : (if a0_0 = a1_0 then (paraphrastref01_Same.j0 k ((l0_1.length : Int) != (l1_1.length : Int)) a0_0 l0_1 a1_0 l1_1) else (paraphrastref01_Same.j0 k true a0_0 l0_1 a1_0 l1_1)) = some r := h
 clear h
 have HC3 := Aside0.mk H
 clear H
 go_enter Tryz.func34, Tryz.ntmps34
 go_upto_region 1 with (first | ((with_reducible refine gate_dst (N := 2) rfl ?_); (try (refine gate_guard (by rfl) ?_; dsimp only)); refine box_event ?hg (N := 2) ?hd (cs := #[.int .i64 a0_0, .slice A0_1 l0_1.length c0_1]) (t := 24) ?hr ?_; (case hd => rfl); (case hg => rfl); (case hr => first | (go_simp; done) | (go_simp; rfl)); intro gb256 hg w4 hbox hb; have BK256 := Aside0.mk (hbox); have GW256 := geB w hg; have GE256 := geB w hg; replace HB := Aside0.mk (below_step bel hb); clear hb hbox hg) | ((with_reducible refine gate_dst (N := 3) rfl ?_); (try (refine gate_guard (by rfl) ?_; dsimp only)); refine box_event ?hg (N := 3) ?hd (cs := #[.int .i64 a1_0, .slice A1_1 l1_1.length c1_1]) (t := 24) ?hr ?_; (case hd => rfl); (case hg => rfl); (case hr => first | (go_simp; done) | (go_simp; rfl)); intro gb257 hg w5 hbox hb; have BK257 := Aside0.mk (hbox); have GW257 := geB w hg; have GE257 := geB w hg; have NB256_257 := neL BK256 hg; have NB257_256 := neG BK256 hg; replace BK256 := blB BK256 hb; replace HB := Aside0.mk (below_step bel hb); clear hb hbox hg))
 (try simp only [Act.put, List.setIfInBounds_toArray, List.set_cons_zero, List.set_cons_succ])
 go_cut [21] (fun v21 wc => ∃ (kq : Nat) (x21_2 : Bool), v21 = .bool x21_2 ∧ Aside0 (paraphrastref01_Same.j0 kq x21_2 a0_0 l0_1 a1_0 l1_1 = some r) ∧ Aside0 (kq ≤ k) ∧ Aside0 (wc.heap[gb256]? = some (.cells #[.int .i64 a0_0, (.slice A0_1 l0_1.length c0_1)] 24 (0, 0))) ∧ Aside0 (wc.heap[gb257]? = some (.cells #[.int .i64 a1_0, (.slice A1_1 l1_1.length c1_1)] 24 (0, 0))) ∧ Aside0 (Below w.heap.size w wc))
 case first =>
  have H := HC3.out
  clear HC3
  by_cases c6 : a0_0 = a1_0
  ·rw [if_pos c6] at H
   have c6b0 : (a0_0 == a1_0) = true := beq_iff_eq.mpr c6
   have c6b1 : (a0_0 != a1_0) = false := bne_eq_false_iff_eq.mpr c6
   clear c6
   (first | rw [c6b0] | (simp only [i64_w, i32_w]; rw [c6b0]) | skip)
   have H' := Aside0.mk H
   clear H
   have hnb7 := NB256_257.out
   have hnc7 := NB257_256.out
   obtain ⟨hcz8_0, hcz8_1, hfz8_0, hfz8_1⟩ := bq2 BK256
   obtain ⟨hcz9_0, hcz9_1, hfz9_0, hfz9_1⟩ := bq2 BK257
   go_wp2
   go_meet
   case rel => exact ⟨_, (((l0_1.length : Int) != (l1_1.length : Int))), eS, H', ⟨kle⟩, ⟨bk BK256⟩, ⟨bk BK257⟩, ⟨bel⟩⟩
  ·rw [if_neg c6] at H
   have c6b0 : (a0_0 == a1_0) = false := beq_eq_false_iff_ne.mpr c6
   have c6b1 : (a0_0 != a1_0) = true := bne_iff_ne.mpr c6
   (first | rw [c6b0] | (simp only [i64_w, i32_w]; rw [c6b0]) | skip)
   have H' := Aside0.mk H
   clear H
   have hnb10 := NB256_257.out
   have hnc10 := NB257_256.out
   obtain ⟨hcz11_0, hcz11_1, hfz11_0, hfz11_1⟩ := bq2 BK256
   obtain ⟨hcz12_0, hcz12_1, hfz12_0, hfz12_1⟩ := bq2 BK257
   go_wp2
   go_meet
   case rel => exact ⟨_, (true), eS, H', ⟨kle⟩, ⟨bk BK256⟩, ⟨bk BK257⟩, ⟨bel⟩⟩
 case rest =>
  clear HC3
  obtain ⟨kq, x21_2, rfl, HA, HJ2, BK256, BK257, HB⟩ := hcut
  cases kq with
  | zero => exact absurd HA.out (by simp [paraphrastref01_Same.j0])
  | succ kj2 =>
   have H := HA.out
   clear HA
   simp only [paraphrastref01_Same.j0] at H
   by_cases c13 : x21_2 = true
   ·subst c13
    have H1 : (some false) = some r := by rw [if_pos rfl] at H; exact H
    clear H
    have H := H1
    clear H1
    obtain rfl := Option.some.inj H
    go_wp2
    go_ret
    exact ⟨eN, bel⟩
   ·replace c13 := Bool.eq_false_iff.mpr c13
    subst c13
    have H1 : (paraphrastref01_Same.l0 kj2 0 a0_0 l0_1 a1_0 l1_1) = some r := by rw [if_neg (show ¬ (false = true) by decide)] at H; exact H
    clear H
    have H := H1
    clear H1
    have H' := Aside0.mk H
    clear H
    go_wp2
    go_loopg [5] kj2 (fun kq v5 w' => ∃ (x5_2 : Int), v5 = .int .i64 x5_2 ∧ Aside0 (paraphrastref01_Same.l0 kq x5_2 a0_0 l0_1 a1_0 l1_1 = some r) ∧ Aside0 (kq ≤ kj2) ∧ Aside0 (w'.heap[gb256]? = some (.cells #[.int .i64 a0_0, (.slice A0_1 l0_1.length c0_1)] 24 (0, 0))) ∧ Aside0 (w'.heap[gb257]? = some (.cells #[.int .i64 a1_0, (.slice A1_1 l1_1.length c1_1)] 24 (0, 0))) ∧ Aside0 (Below w.heap.size w w'))
    case atStart => exact ⟨(0), eS, H', ⟨Nat.le_refl _⟩, ⟨bk BK256⟩, ⟨bk BK257⟩, ⟨bel⟩⟩
    case round =>
     clear H'
     (try clear c13)
     obtain ⟨x5_2, rfl, HA, HK2, BK256, BK257, HB⟩ := hrel
     cases gk with
     | zero => exact absurd HA.out (by simp [paraphrastref01_Same.l0])
     | succ k2 =>
      have H := HA.out
      clear HA
      simp only [paraphrastref01_Same.l0] at H
      by_cases c14 : x5_2 < (l0_1.length : Int)
      ·rw [if_pos c14] at H
       have c14b0 : decide (x5_2 < (l0_1.length : Int)) = true := decide_eq_true c14
       clear c14
       by_cases c15 : 0 ≤ x5_2
       ·rw [if_pos c15] at H
        have c15b0 : decide (0 ≤ x5_2) = true := decide_eq_true c15
        clear c15
        by_cases c16 : x5_2 < (l1_1.length : Int)
        ·rw [if_pos c16] at H
         have c16b0 : decide (x5_2 < (l1_1.length : Int)) = true := decide_eq_true c16
         clear c16
         by_cases c17 : ((rd_T52 l0_1 x5_2).f0).toList = ((rd_T52 l1_1 x5_2).f0).toList
         ·rw [if_pos c17] at H
          have c17b0 : (((rd_T52 l0_1 x5_2).f0).toList == ((rd_T52 l1_1 x5_2).f0).toList) = true := beq_iff_eq.mpr c17
          have c17b1 : (((rd_T52 l0_1 x5_2).f0).toList != ((rd_T52 l1_1 x5_2).f0).toList) = false := bne_eq_false_iff_eq.mpr c17
          clear c17
          by_cases c18 : ((rd_T52 l0_1 x5_2).f1) = ((rd_T52 l1_1 x5_2).f1)
          ·rw [if_pos c18] at H
           have c18b0 : (((rd_T52 l0_1 x5_2).f1) == ((rd_T52 l1_1 x5_2).f1)) = true := beq_iff_eq.mpr c18
           have c18b1 : (((rd_T52 l0_1 x5_2).f1) != ((rd_T52 l1_1 x5_2).f1)) = false := bne_eq_false_iff_eq.mpr c18
           clear c18
           replace H := Option.bind_eq_some_iff.mp H
           obtain ⟨t262, A190, H⟩ := H
           replace H : (if t262 = true then (paraphrastref01_Same.l0 k2 (wrap64 (x5_2 + 1)) a0_0 l0_1 a1_0 l1_1) else (some false)) = some r := H
           have A19 := Aside0.mk A190
           clear A190
           by_cases c20 : t262 = true
           ·subst c20
            have H1 : (paraphrastref01_Same.l0 k2 (wrap64 (x5_2 + 1)) a0_0 l0_1 a1_0 l1_1) = some r := by rw [if_pos rfl] at H; exact H
            clear H
            have H := H1
            clear H1
            have H' := Aside0.mk H
            clear H
            have hnb21 := NB256_257.out
            have hnc21 := NB257_256.out
            obtain ⟨hcz22_0, hcz22_1, hfz22_0, hfz22_1⟩ := bq2 BK256
            try go_wp2
            replace BK256 := Aside0.mk (blk_drew BK256.out)
            replace BK257 := Aside0.mk (blk_drew BK257.out)
            replace HB := Aside0.mk (below_drew1 HB.out)
            have p258 : 0 ≤ (x5_2 : Int) := dtr
            have q258 : x5_2 < (l0_1.length : Int) := dtr
            obtain ⟨ad258, A258_2, c258_2, e258, hx258_0, hx258_1, hx258_2, hl258_2, hi258_2⟩ := at_T52 HR0_1.out x5_2 p258 q258
            have hw258_2 := hx258_2
            have hw258_1 := hx258_1
            have hw258_0 := hx258_0
            cases e258
            replace hx258_0 := oc hx258_0
            replace hx258_1 := oc hx258_1
            replace hx258_2 := oc hx258_2
            have HR258_2 := Aside0.mk hi258_2
            have HC258_2 := Aside0.mk hl258_2
            clear hi258_2 hl258_2
            replace p258 := eq_true p258
            replace q258 := eq_true q258
            have p259 : 0 ≤ (x5_2 : Int) := dtr
            have q259 : x5_2 < (l1_1.length : Int) := dtr
            obtain ⟨ad259, A259_2, c259_2, e259, hx259_0, hx259_1, hx259_2, hl259_2, hi259_2⟩ := at_T52 HR1_1.out x5_2 p259 q259
            have hw259_2 := hx259_2
            have hw259_1 := hx259_1
            have hw259_0 := hx259_0
            cases e259
            replace hx259_0 := oc hx259_0
            replace hx259_1 := oc hx259_1
            replace hx259_2 := oc hx259_2
            have HR259_2 := Aside0.mk hi259_2
            have HC259_2 := Aside0.mk hl259_2
            clear hi259_2 hl259_2
            replace p259 := eq_true p259
            replace q259 := eq_true q259
            refine start_ (n := 14) (S := fun w' => w'.cell? ⟨gb256, 0, none⟩ = some (.int .i64 a0_0) ∧ w'.cell? ⟨gb256, 1, none⟩ = some (.slice (some ad258) l0_1.length c0_1) ∧ w'.cell? ⟨gb257, 0, none⟩ = some (.int .i64 a1_0) ∧ w'.cell? ⟨gb257, 1, none⟩ = some (.slice (some ad259) l1_1.length c1_1) ∧ w'.cell? (ad258.add ((x5_2).toNat * 3)) = some (.string ((rd_T52 l0_1 x5_2).f0)) ∧ w'.cell? ⟨(ad258.add ((x5_2).toNat * 3)).block, (ad258.add ((x5_2).toNat * 3)).off + 1, none⟩ = some (.int .i64 ((rd_T52 l0_1 x5_2).f1)) ∧ w'.cell? ⟨(ad258.add ((x5_2).toNat * 3)).block, (ad258.add ((x5_2).toNat * 3)).off + 2, none⟩ = some (.slice A258_2 ((rd_T52 l0_1 x5_2).f2).length c258_2) ∧ w'.cell? (ad259.add ((x5_2).toNat * 3)) = some (.string ((rd_T52 l1_1 x5_2).f0)) ∧ w'.cell? ⟨(ad259.add ((x5_2).toNat * 3)).block, (ad259.add ((x5_2).toNat * 3)).off + 1, none⟩ = some (.int .i64 ((rd_T52 l1_1 x5_2).f1)) ∧ w'.cell? ⟨(ad259.add ((x5_2).toNat * 3)).block, (ad259.add ((x5_2).toNat * 3)).off + 2, none⟩ = some (.slice A259_2 ((rd_T52 l1_1 x5_2).f2).length c259_2)) (ds := []) #[false, false, false, false, false, false, false, false, false, false, false, false, false, false] (by kernel_rfl) rfl rfl ⟨(blk_cell BK256.out 0).trans rfl, (blk_cell BK256.out 1).trans rfl, (blk_cell BK257.out 0).trans rfl, (blk_cell BK257.out 1).trans rfl, (oc hw258_0), (oc hw258_1), (oc hw258_2), (oc hw259_0), (oc hw259_1), (oc hw259_2)⟩ (fun hHeld => ?_); refine with_tabW paraphrastref01_Same.tab6 paraphrastref01_Same.bits6 (fun HT_ HW_ => ?_)
            generalize wr.drew = w23 at BK256 BK257 HB HR258_2 HR259_2 hx258_0 hx258_1 hx258_2 hx259_0 hx259_1 hx259_2 hHeld ⊢
            refine sPu 0 (some 29) ?_
            refine sPu 2 (some 31) ?_
            refine sPu 5 (some 34) ?_
            refine sPu 7 (some 36) ?_
            refine sTk 1 (some 30) ?_
            refine sPu 3 (some 32) ?_
            refine sTk 4 (some 33) ?_
            refine sTk 6 (some 35) ?_
            refine sPu 8 (some 37) ?_
            refine sTk 9 (some 38) ?_
            refine join_ (σ := Nat × Nat) 2 #[true, true, true, true, true, true, true, true, true, true, true, true, false, false] (fun s_ => [(6, .pointer (some ⟨s_.1, 0, none⟩)), (7, .pointer (some ⟨s_.2, 0, none⟩))]) (fun s_ w' => (w'.cell? ⟨gb256, 0, none⟩ = some (.int .i64 a0_0) ∧ w'.cell? ⟨gb256, 1, none⟩ = some (.slice (some ad258) l0_1.length c0_1) ∧ w'.cell? ⟨gb257, 0, none⟩ = some (.int .i64 a1_0) ∧ w'.cell? ⟨gb257, 1, none⟩ = some (.slice (some ad259) l1_1.length c1_1) ∧ w'.cell? (ad258.add ((x5_2).toNat * 3)) = some (.string ((rd_T52 l0_1 x5_2).f0)) ∧ w'.cell? ⟨(ad258.add ((x5_2).toNat * 3)).block, (ad258.add ((x5_2).toNat * 3)).off + 1, none⟩ = some (.int .i64 ((rd_T52 l0_1 x5_2).f1)) ∧ w'.cell? ⟨(ad258.add ((x5_2).toNat * 3)).block, (ad258.add ((x5_2).toNat * 3)).off + 2, none⟩ = some (.slice A258_2 ((rd_T52 l0_1 x5_2).f2).length c258_2) ∧ w'.cell? (ad259.add ((x5_2).toNat * 3)) = some (.string ((rd_T52 l1_1 x5_2).f0)) ∧ w'.cell? ⟨(ad259.add ((x5_2).toNat * 3)).block, (ad259.add ((x5_2).toNat * 3)).off + 1, none⟩ = some (.int .i64 ((rd_T52 l1_1 x5_2).f1)) ∧ w'.cell? ⟨(ad259.add ((x5_2).toNat * 3)).block, (ad259.add ((x5_2).toNat * 3)).off + 2, none⟩ = some (.slice A259_2 ((rd_T52 l1_1 x5_2).f2).length c259_2)) ∧ (w'.heap[gb256]? = some (.cells #[.int .i64 a0_0, .slice (some ad258) l0_1.length c0_1] 24 (0, 0))) ∧ (w'.heap[gb257]? = some (.cells #[.int .i64 a1_0, .slice (some ad259) l1_1.length c1_1] 24 (0, 0))) ∧ (w'.heap[s_.1]? = some (.cells #[.string (⟨#[]⟩ : ByteArray), .int .i64 0, .slice none 0 0] 52 (0, 0))) ∧ (w'.heap[s_.2]? = some (.cells #[.string (⟨#[]⟩ : ByteArray), .int .i64 0, .slice none 0 0] 52 (0, 0))) ∧ (w.heap.size ≤ s_.1) ∧ (w.heap.size ≤ s_.1) ∧ (gb256 ≠ s_.1) ∧ (s_.1 ≠ gb256) ∧ (gb257 ≠ s_.1) ∧ (s_.1 ≠ gb257) ∧ (s_.2 ≠ s_.1) ∧ (s_.1 ≠ s_.2) ∧ (w.heap.size ≤ s_.2) ∧ (w.heap.size ≤ s_.2) ∧ (gb256 ≠ s_.2) ∧ (s_.2 ≠ gb256) ∧ (gb257 ≠ s_.2) ∧ (s_.2 ≠ gb257) ∧ (Below w.heap.size w w')) ?_ ?_
            rotate_left
            ·intro hCont
             refine two_ (i := 10) (j := 11) (Ni := some 6) (Nj := some 7) #[true, true, true, true, true, true, true, true, true, true, true, false, false, false] #[true, true, true, true, true, true, true, true, true, true, false, true, false, false] rfl rfl rfl rfl (two_of HT_.out (by kernel_rfl)) (by decide) (by decide) (fun K hK => ?_) (fun K hK => ?_)
             ·skip
              refine box_step ?hg (N := 6) ?hd (cs := #[.string (⟨#[]⟩ : ByteArray), .int .i64 0, .slice none 0 0]) (t := 52) ?hr ?_; (case hd => rfl); (case hg => rfl); (case hr => first | (go_simp; done) | (go_simp; rfl))
              intro gb260 hg w24 hbox hb
              have BK260 := Aside0.mk (hbox)
              have GW260 := geB w hg
              have GE260 := geB w hg
              have NB256_260 := neL BK256 hg
              have NB260_256 := neG BK256 hg
              have NB257_260 := neL BK257 hg
              have NB260_257 := neG BK257 hg
              replace BK256 := blB BK256 hb
              replace BK257 := blB BK257 hb
              replace HB := Aside0.mk (below_step bel hb)
              clear hb hbox hg
              refine hK.out _ _ ⟨(blk_cell BK256.out 0).trans rfl, (blk_cell BK256.out 1).trans rfl, (blk_cell BK257.out 0).trans rfl, (blk_cell BK257.out 1).trans rfl, (oc hw258_0), (oc hw258_1), (oc hw258_2), (oc hw259_0), (oc hw259_1), (oc hw259_2)⟩ (fun hHeld => ?_)
              clear hK K
              refine norm_ (a' := ?_) ?_ ?_
              rotate_left
              ·show Act.put _ (some 6) _ = _
               simp only [Act.put, List.setIfInBounds_toArray, List.set_cons_zero, List.set_cons_succ, i64_w, i32_w]
               rfl
              refine sOn 11 (some 7) (fun K hK => ?_)
              refine box_step ?hg (N := 7) ?hd (cs := #[.string (⟨#[]⟩ : ByteArray), .int .i64 0, .slice none 0 0]) (t := 52) ?hr ?_; (case hd => rfl); (case hg => rfl); (case hr => first | (go_simp; done) | (go_simp; rfl))
              intro gb261 hg w25 hbox hb
              have BK261 := Aside0.mk (hbox)
              have GW261 := geB w hg
              have GE261 := geB w hg
              have NB256_261 := neL BK256 hg
              have NB261_256 := neG BK256 hg
              have NB257_261 := neL BK257 hg
              have NB261_257 := neG BK257 hg
              have NB260_261 := neL BK260 hg
              have NB261_260 := neG BK260 hg
              replace BK256 := blB BK256 hb
              replace BK257 := blB BK257 hb
              replace BK260 := blB BK260 hb
              replace HB := Aside0.mk (below_step bel hb)
              clear hb hbox hg
              refine hK.out _ _ ⟨(blk_cell BK256.out 0).trans rfl, (blk_cell BK256.out 1).trans rfl, (blk_cell BK257.out 0).trans rfl, (blk_cell BK257.out 1).trans rfl, (oc hw258_0), (oc hw258_1), (oc hw258_2), (oc hw259_0), (oc hw259_1), (oc hw259_2)⟩ (fun hHeld => ?_)
              clear hK K
              refine norm_ (a' := ?_) ?_ ?_
              rotate_left
              ·show Act.put _ (some 7) _ = _
               simp only [Act.put, List.setIfInBounds_toArray, List.set_cons_zero, List.set_cons_succ, i64_w, i32_w]
               rfl
              exact norm_ (by simp only [putAll, Act.put, List.setIfInBounds_toArray, List.set_cons_zero, List.set_cons_succ]) (hCont (gb260, gb261) _ ⟨hHeld, (bk BK256), (bk BK257), (bk BK260), (bk BK261), GW260.out, GE260.out, NB256_260.out, NB260_256.out, NB257_260.out, NB260_257.out, NB261_260.out, NB260_261.out, GW261.out, GE261.out, NB256_261.out, NB261_256.out, NB257_261.out, NB261_257.out, bel⟩)
             ·skip
              refine box_step ?hg (N := 7) ?hd (cs := #[.string (⟨#[]⟩ : ByteArray), .int .i64 0, .slice none 0 0]) (t := 52) ?hr ?_; (case hd => rfl); (case hg => rfl); (case hr => first | (go_simp; done) | (go_simp; rfl))
              intro gb261 hg w24 hbox hb
              have BK261 := Aside0.mk (hbox)
              have GW261 := geB w hg
              have GE261 := geB w hg
              have NB256_261 := neL BK256 hg
              have NB261_256 := neG BK256 hg
              have NB257_261 := neL BK257 hg
              have NB261_257 := neG BK257 hg
              replace BK256 := blB BK256 hb
              replace BK257 := blB BK257 hb
              replace HB := Aside0.mk (below_step bel hb)
              clear hb hbox hg
              refine hK.out _ _ ⟨(blk_cell BK256.out 0).trans rfl, (blk_cell BK256.out 1).trans rfl, (blk_cell BK257.out 0).trans rfl, (blk_cell BK257.out 1).trans rfl, (oc hw258_0), (oc hw258_1), (oc hw258_2), (oc hw259_0), (oc hw259_1), (oc hw259_2)⟩ (fun hHeld => ?_)
              clear hK K
              refine norm_ (a' := ?_) ?_ ?_
              rotate_left
              ·show Act.put _ (some 7) _ = _
               simp only [Act.put, List.setIfInBounds_toArray, List.set_cons_zero, List.set_cons_succ, i64_w, i32_w]
               rfl
              refine sOn 10 (some 6) (fun K hK => ?_)
              refine box_step ?hg (N := 6) ?hd (cs := #[.string (⟨#[]⟩ : ByteArray), .int .i64 0, .slice none 0 0]) (t := 52) ?hr ?_; (case hd => rfl); (case hg => rfl); (case hr => first | (go_simp; done) | (go_simp; rfl))
              intro gb260 hg w25 hbox hb
              have BK260 := Aside0.mk (hbox)
              have GW260 := geB w hg
              have GE260 := geB w hg
              have NB256_260 := neL BK256 hg
              have NB260_256 := neG BK256 hg
              have NB257_260 := neL BK257 hg
              have NB260_257 := neG BK257 hg
              have NB261_260 := neL BK261 hg
              have NB260_261 := neG BK261 hg
              replace BK256 := blB BK256 hb
              replace BK257 := blB BK257 hb
              replace BK261 := blB BK261 hb
              replace HB := Aside0.mk (below_step bel hb)
              clear hb hbox hg
              refine hK.out _ _ ⟨(blk_cell BK256.out 0).trans rfl, (blk_cell BK256.out 1).trans rfl, (blk_cell BK257.out 0).trans rfl, (blk_cell BK257.out 1).trans rfl, (oc hw258_0), (oc hw258_1), (oc hw258_2), (oc hw259_0), (oc hw259_1), (oc hw259_2)⟩ (fun hHeld => ?_)
              clear hK K
              refine norm_ (a' := ?_) ?_ ?_
              rotate_left
              ·show Act.put _ (some 6) _ = _
               simp only [Act.put, List.setIfInBounds_toArray, List.set_cons_zero, List.set_cons_succ, i64_w, i32_w]
               rfl
              exact norm_ (by simp only [putAll, Act.put, List.setIfInBounds_toArray, List.set_cons_zero, List.set_cons_succ]) (hCont (gb260, gb261) _ ⟨hHeld, (bk BK256), (bk BK257), (bk BK260), (bk BK261), GW260.out, GE260.out, NB256_260.out, NB260_256.out, NB257_260.out, NB260_257.out, NB261_260.out, NB260_261.out, GW261.out, GE261.out, NB256_261.out, NB261_256.out, NB257_261.out, NB261_257.out, bel⟩)
            rintro ⟨gb260, gb261⟩ w26 ⟨hS_, h0_, h1_, h2_, h3_, h4_, h5_, h6_, h7_, h8_, h9_, h10_, h11_, h12_, h13_, h14_, h15_, h16_, h17_, h18_⟩
            have n0_ : Aside0 (w26.heap[gb256]? = some (.cells #[.int .i64 a0_0, .slice (some ad258) l0_1.length c0_1] 24 (0, 0))) := ⟨h0_⟩
            have n1_ : Aside0 (w26.heap[gb257]? = some (.cells #[.int .i64 a1_0, .slice (some ad259) l1_1.length c1_1] 24 (0, 0))) := ⟨h1_⟩
            have n2_ : Aside0 (w26.heap[gb260]? = some (.cells #[.string (⟨#[]⟩ : ByteArray), .int .i64 0, .slice none 0 0] 52 (0, 0))) := ⟨h2_⟩
            have n3_ : Aside0 (w26.heap[gb261]? = some (.cells #[.string (⟨#[]⟩ : ByteArray), .int .i64 0, .slice none 0 0] 52 (0, 0))) := ⟨h3_⟩
            have n4_ : Aside0 (w.heap.size ≤ gb260) := ⟨h4_⟩
            have n5_ : Aside0 (w.heap.size ≤ gb260) := ⟨h5_⟩
            have n6_ : Aside0 (gb256 ≠ gb260) := ⟨h6_⟩
            have n7_ : Aside0 (gb260 ≠ gb256) := ⟨h7_⟩
            have n8_ : Aside0 (gb257 ≠ gb260) := ⟨h8_⟩
            have n9_ : Aside0 (gb260 ≠ gb257) := ⟨h9_⟩
            have n10_ : Aside0 (gb261 ≠ gb260) := ⟨h10_⟩
            have n11_ : Aside0 (gb260 ≠ gb261) := ⟨h11_⟩
            have n12_ : Aside0 (w.heap.size ≤ gb261) := ⟨h12_⟩
            have n13_ : Aside0 (w.heap.size ≤ gb261) := ⟨h13_⟩
            have n14_ : Aside0 (gb256 ≠ gb261) := ⟨h14_⟩
            have n15_ : Aside0 (gb261 ≠ gb256) := ⟨h15_⟩
            have n16_ : Aside0 (gb257 ≠ gb261) := ⟨h16_⟩
            have n17_ : Aside0 (gb261 ≠ gb257) := ⟨h17_⟩
            have n18_ : Aside0 (Below w.heap.size w w26) := ⟨h18_⟩
            clear BK256
            clear BK257
            clear HB
            clear h0_ h1_ h2_ h3_ h4_ h5_ h6_ h7_ h8_ h9_ h10_ h11_ h12_ h13_ h14_ h15_ h16_ h17_ h18_
            have BK256 := n0_
            have BK257 := n1_
            have BK260 := n2_
            have BK261 := n3_
            have GW260 := n4_
            have GE260 := n5_
            have NB256_260 := n6_
            have NB260_256 := n7_
            have NB257_260 := n8_
            have NB260_257 := n9_
            have NB261_260 := n10_
            have NB260_261 := n11_
            have GW261 := n12_
            have GE261 := n13_
            have NB256_261 := n14_
            have NB261_256 := n15_
            have NB257_261 := n16_
            have NB261_257 := n17_
            have HB := n18_
            clear n0_ n1_ n2_ n3_ n4_ n5_ n6_ n7_ n8_ n9_ n10_ n11_ n12_ n13_ n14_ n15_ n16_ n17_ n18_
            have hHeld : w26.cell? ⟨gb256, 0, none⟩ = some (.int .i64 a0_0) ∧ w26.cell? ⟨gb256, 1, none⟩ = some (.slice (some ad258) l0_1.length c0_1) ∧ w26.cell? ⟨gb257, 0, none⟩ = some (.int .i64 a1_0) ∧ w26.cell? ⟨gb257, 1, none⟩ = some (.slice (some ad259) l1_1.length c1_1) ∧ w26.cell? (ad258.add ((x5_2).toNat * 3)) = some (.string ((rd_T52 l0_1 x5_2).f0)) ∧ w26.cell? ⟨(ad258.add ((x5_2).toNat * 3)).block, (ad258.add ((x5_2).toNat * 3)).off + 1, none⟩ = some (.int .i64 ((rd_T52 l0_1 x5_2).f1)) ∧ w26.cell? ⟨(ad258.add ((x5_2).toNat * 3)).block, (ad258.add ((x5_2).toNat * 3)).off + 2, none⟩ = some (.slice A258_2 ((rd_T52 l0_1 x5_2).f2).length c258_2) ∧ w26.cell? (ad259.add ((x5_2).toNat * 3)) = some (.string ((rd_T52 l1_1 x5_2).f0)) ∧ w26.cell? ⟨(ad259.add ((x5_2).toNat * 3)).block, (ad259.add ((x5_2).toNat * 3)).off + 1, none⟩ = some (.int .i64 ((rd_T52 l1_1 x5_2).f1)) ∧ w26.cell? ⟨(ad259.add ((x5_2).toNat * 3)).block, (ad259.add ((x5_2).toNat * 3)).off + 2, none⟩ = some (.slice A259_2 ((rd_T52 l1_1 x5_2).f2).length c259_2) := hS_
            refine norm_ (a' := ?_) ?_ ?_
            rotate_left
            ·simp only [putAll, Act.put, List.setIfInBounds_toArray, List.set_cons_zero, List.set_cons_succ]
             rfl
            refine sOn 12 none (fun K hK => ?_)
            have hs27 : w26.cell? ⟨gb260, 0, none⟩ = some (.string (⟨#[]⟩ : ByteArray)) := (blk_cell BK260.out 0).trans rfl
            have hfs27 := blk_frozen BK260.out 0
            have hns27_0 := NB256_260.out
            have hns27_1 := NB257_260.out
            have hns27_3 := NB261_260.out
            have hms27_0 := NB260_256.out
            have hms27_1 := NB260_257.out
            have hms27_3 := NB260_261.out
            have hs28 : w26.cell? ⟨gb260, 1, none⟩ = some (.int .i64 0) := (blk_cell BK260.out 1).trans rfl
            have hfs28 := blk_frozen BK260.out 1
            have hns28_0 := NB256_260.out
            have hns28_1 := NB257_260.out
            have hns28_3 := NB261_260.out
            have hms28_0 := NB260_256.out
            have hms28_1 := NB260_257.out
            have hms28_3 := NB260_261.out
            have hs29 : w26.cell? ⟨gb260, 2, none⟩ = some (.slice none 0 0) := (blk_cell BK260.out 2).trans rfl
            have hfs29 := blk_frozen BK260.out 2
            have hns29_0 := NB256_260.out
            have hns29_1 := NB257_260.out
            have hns29_3 := NB261_260.out
            have hms29_0 := NB260_256.out
            have hms29_1 := NB260_257.out
            have hms29_3 := NB260_261.out
            refine skip_ (w1 := ?_) (by rfl) rfl ?_ ?_
            rotate_left
            ·go_simp
             rfl
            refine hK.out _ _ ⟨((cell_far (p := ⟨gb260, _, none⟩) NB256_260.out _).trans (((cell_far (p := ⟨gb260, _, none⟩) NB256_260.out _).trans (((cell_far (p := ⟨gb260, _, none⟩) NB256_260.out _).trans (hHeld.1)))))), ((cell_far (p := ⟨gb260, _, none⟩) NB256_260.out _).trans (((cell_far (p := ⟨gb260, _, none⟩) NB256_260.out _).trans (((cell_far (p := ⟨gb260, _, none⟩) NB256_260.out _).trans (hHeld.2.1)))))), ((cell_far (p := ⟨gb260, _, none⟩) NB257_260.out _).trans (((cell_far (p := ⟨gb260, _, none⟩) NB257_260.out _).trans (((cell_far (p := ⟨gb260, _, none⟩) NB257_260.out _).trans (hHeld.2.2.1)))))), ((cell_far (p := ⟨gb260, _, none⟩) NB257_260.out _).trans (((cell_far (p := ⟨gb260, _, none⟩) NB257_260.out _).trans (((cell_far (p := ⟨gb260, _, none⟩) NB257_260.out _).trans (hHeld.2.2.2.1)))))), ((cell_far (p := ⟨gb260, _, none⟩) (far_ne34 hw258_0 GW260.out) _).trans (((cell_far (p := ⟨gb260, _, none⟩) (far_ne34 hw258_0 GW260.out) _).trans (((cell_far (p := ⟨gb260, _, none⟩) (far_ne34 hw258_0 GW260.out) _).trans (hHeld.2.2.2.2.1)))))), ((cell_far (p := ⟨gb260, _, none⟩) (far_ne34 hw258_1 GW260.out) _).trans (((cell_far (p := ⟨gb260, _, none⟩) (far_ne34 hw258_1 GW260.out) _).trans (((cell_far (p := ⟨gb260, _, none⟩) (far_ne34 hw258_1 GW260.out) _).trans (hHeld.2.2.2.2.2.1)))))), ((cell_far (p := ⟨gb260, _, none⟩) (far_ne34 hw258_2 GW260.out) _).trans (((cell_far (p := ⟨gb260, _, none⟩) (far_ne34 hw258_2 GW260.out) _).trans (((cell_far (p := ⟨gb260, _, none⟩) (far_ne34 hw258_2 GW260.out) _).trans (hHeld.2.2.2.2.2.2.1)))))), ((cell_far (p := ⟨gb260, _, none⟩) (far_ne34 hw259_0 GW260.out) _).trans (((cell_far (p := ⟨gb260, _, none⟩) (far_ne34 hw259_0 GW260.out) _).trans (((cell_far (p := ⟨gb260, _, none⟩) (far_ne34 hw259_0 GW260.out) _).trans (hHeld.2.2.2.2.2.2.2.1)))))), ((cell_far (p := ⟨gb260, _, none⟩) (far_ne34 hw259_1 GW260.out) _).trans (((cell_far (p := ⟨gb260, _, none⟩) (far_ne34 hw259_1 GW260.out) _).trans (((cell_far (p := ⟨gb260, _, none⟩) (far_ne34 hw259_1 GW260.out) _).trans (hHeld.2.2.2.2.2.2.2.2.1)))))), ((cell_far (p := ⟨gb260, _, none⟩) (far_ne34 hw259_2 GW260.out) _).trans (((cell_far (p := ⟨gb260, _, none⟩) (far_ne34 hw259_2 GW260.out) _).trans (((cell_far (p := ⟨gb260, _, none⟩) (far_ne34 hw259_2 GW260.out) _).trans (hHeld.2.2.2.2.2.2.2.2.2))))))⟩ (fun hHeld => ?_)
            clear hK K
            refine sOn 13 none (fun K hK => ?_)
            have hs30 : w26.cell? ⟨gb261, 0, none⟩ = some (.string (⟨#[]⟩ : ByteArray)) := (blk_cell BK261.out 0).trans rfl
            have hfs30 := blk_frozen BK261.out 0
            have hns30_0 := NB256_261.out
            have hns30_1 := NB257_261.out
            have hns30_2 := NB260_261.out
            have hms30_0 := NB261_256.out
            have hms30_1 := NB261_257.out
            have hms30_2 := NB261_260.out
            have hs31 : w26.cell? ⟨gb261, 1, none⟩ = some (.int .i64 0) := (blk_cell BK261.out 1).trans rfl
            have hfs31 := blk_frozen BK261.out 1
            have hns31_0 := NB256_261.out
            have hns31_1 := NB257_261.out
            have hns31_2 := NB260_261.out
            have hms31_0 := NB261_256.out
            have hms31_1 := NB261_257.out
            have hms31_2 := NB261_260.out
            have hs32 : w26.cell? ⟨gb261, 2, none⟩ = some (.slice none 0 0) := (blk_cell BK261.out 2).trans rfl
            have hfs32 := blk_frozen BK261.out 2
            have hns32_0 := NB256_261.out
            have hns32_1 := NB257_261.out
            have hns32_2 := NB260_261.out
            have hms32_0 := NB261_256.out
            have hms32_1 := NB261_257.out
            have hms32_2 := NB261_260.out
            refine skip_ (w1 := ?_) (by rfl) rfl ?_ ?_
            rotate_left
            ·go_simp
             rfl
            refine hK.out _ _ ⟨((cell_far (p := ⟨gb261, _, none⟩) NB256_261.out _).trans (((cell_far (p := ⟨gb261, _, none⟩) NB256_261.out _).trans (((cell_far (p := ⟨gb261, _, none⟩) NB256_261.out _).trans (hHeld.1)))))), ((cell_far (p := ⟨gb261, _, none⟩) NB256_261.out _).trans (((cell_far (p := ⟨gb261, _, none⟩) NB256_261.out _).trans (((cell_far (p := ⟨gb261, _, none⟩) NB256_261.out _).trans (hHeld.2.1)))))), ((cell_far (p := ⟨gb261, _, none⟩) NB257_261.out _).trans (((cell_far (p := ⟨gb261, _, none⟩) NB257_261.out _).trans (((cell_far (p := ⟨gb261, _, none⟩) NB257_261.out _).trans (hHeld.2.2.1)))))), ((cell_far (p := ⟨gb261, _, none⟩) NB257_261.out _).trans (((cell_far (p := ⟨gb261, _, none⟩) NB257_261.out _).trans (((cell_far (p := ⟨gb261, _, none⟩) NB257_261.out _).trans (hHeld.2.2.2.1)))))), ((cell_far (p := ⟨gb261, _, none⟩) (far_ne34 hw258_0 GW261.out) _).trans (((cell_far (p := ⟨gb261, _, none⟩) (far_ne34 hw258_0 GW261.out) _).trans (((cell_far (p := ⟨gb261, _, none⟩) (far_ne34 hw258_0 GW261.out) _).trans (hHeld.2.2.2.2.1)))))), ((cell_far (p := ⟨gb261, _, none⟩) (far_ne34 hw258_1 GW261.out) _).trans (((cell_far (p := ⟨gb261, _, none⟩) (far_ne34 hw258_1 GW261.out) _).trans (((cell_far (p := ⟨gb261, _, none⟩) (far_ne34 hw258_1 GW261.out) _).trans (hHeld.2.2.2.2.2.1)))))), ((cell_far (p := ⟨gb261, _, none⟩) (far_ne34 hw258_2 GW261.out) _).trans (((cell_far (p := ⟨gb261, _, none⟩) (far_ne34 hw258_2 GW261.out) _).trans (((cell_far (p := ⟨gb261, _, none⟩) (far_ne34 hw258_2 GW261.out) _).trans (hHeld.2.2.2.2.2.2.1)))))), ((cell_far (p := ⟨gb261, _, none⟩) (far_ne34 hw259_0 GW261.out) _).trans (((cell_far (p := ⟨gb261, _, none⟩) (far_ne34 hw259_0 GW261.out) _).trans (((cell_far (p := ⟨gb261, _, none⟩) (far_ne34 hw259_0 GW261.out) _).trans (hHeld.2.2.2.2.2.2.2.1)))))), ((cell_far (p := ⟨gb261, _, none⟩) (far_ne34 hw259_1 GW261.out) _).trans (((cell_far (p := ⟨gb261, _, none⟩) (far_ne34 hw259_1 GW261.out) _).trans (((cell_far (p := ⟨gb261, _, none⟩) (far_ne34 hw259_1 GW261.out) _).trans (hHeld.2.2.2.2.2.2.2.2.1)))))), ((cell_far (p := ⟨gb261, _, none⟩) (far_ne34 hw259_2 GW261.out) _).trans (((cell_far (p := ⟨gb261, _, none⟩) (far_ne34 hw259_2 GW261.out) _).trans (((cell_far (p := ⟨gb261, _, none⟩) (far_ne34 hw259_2 GW261.out) _).trans (hHeld.2.2.2.2.2.2.2.2.2))))))⟩ (fun hHeld => ?_)
            clear hK K
            refine done_ (done_of HT_.out (by kernel_rfl)) ?_
            have hnb33 := NB260_256.out
            have hnc33 := NB256_260.out
            have hnb34 := NB260_257.out
            have hnc34 := NB257_260.out
            have hnb35 := NB260_261.out
            have hnc35 := NB261_260.out
            obtain ⟨hcz36_0, hcz36_1, hcz36_2, hfz36_0, hfz36_1, hfz36_2⟩ := bq3 BK260
            have hnb37 := NB261_256.out
            have hnc37 := NB256_261.out
            have hnb38 := NB261_257.out
            have hnc38 := NB257_261.out
            obtain ⟨hcz39_0, hcz39_1, hcz39_2, hfz39_0, hfz39_1, hfz39_2⟩ := bq3 BK261
            try go_wp2_with (first | (go_at_call 69; (with_reducible refine (paraphrastref01_SameTuples.calls k2 _ _ ((rd_T52 l0_1 x5_2).f2) _ _ ((rd_T52 l1_1 x5_2).f2) true _ ?side1 ?side2 ?side3 ?side4 A19.out).mono ?_); (case side1 => exact Kd.C_below HR258_2.out bel); (case side2 => exact HC258_2.out); (case side3 => exact Kd.C_below HR259_2.out bel); (case side4 => exact HC259_2.out); rintro e w' ⟨rfl, ⟨nd, rfl⟩⟩))
            go_roundg k2
            case measure => have := HJ2.out; have := HK2.out; omega
            case rel => exact ⟨(wrap64 (x5_2 + 1)), eS, H', ⟨by have := HJ2.out; have := HK2.out; omega⟩, ⟨by (with_reducible repeat (first | refine blk_drewN ?_ _ | refine blk_drew ?_ | refine blk_alloc ?_ _)); refine blk_far ?_ NB256_261.out _; (with_reducible repeat (first | refine blk_drewN ?_ _ | refine blk_drew ?_ | refine blk_alloc ?_ _)); refine blk_far ?_ NB256_261.out _; (with_reducible repeat (first | refine blk_drewN ?_ _ | refine blk_drew ?_ | refine blk_alloc ?_ _)); refine blk_far ?_ NB256_261.out _; (with_reducible repeat (first | refine blk_drewN ?_ _ | refine blk_drew ?_ | refine blk_alloc ?_ _)); refine blk_far ?_ NB256_260.out _; (with_reducible repeat (first | refine blk_drewN ?_ _ | refine blk_drew ?_ | refine blk_alloc ?_ _)); refine blk_far ?_ NB256_260.out _; (with_reducible repeat (first | refine blk_drewN ?_ _ | refine blk_drew ?_ | refine blk_alloc ?_ _)); refine blk_far ?_ NB256_260.out _; (with_reducible repeat (first | refine blk_drewN ?_ _ | refine blk_drew ?_ | refine blk_alloc ?_ _)); exact BK256.out⟩, ⟨by (with_reducible repeat (first | refine blk_drewN ?_ _ | refine blk_drew ?_ | refine blk_alloc ?_ _)); refine blk_far ?_ NB257_261.out _; (with_reducible repeat (first | refine blk_drewN ?_ _ | refine blk_drew ?_ | refine blk_alloc ?_ _)); refine blk_far ?_ NB257_261.out _; (with_reducible repeat (first | refine blk_drewN ?_ _ | refine blk_drew ?_ | refine blk_alloc ?_ _)); refine blk_far ?_ NB257_261.out _; (with_reducible repeat (first | refine blk_drewN ?_ _ | refine blk_drew ?_ | refine blk_alloc ?_ _)); refine blk_far ?_ NB257_260.out _; (with_reducible repeat (first | refine blk_drewN ?_ _ | refine blk_drew ?_ | refine blk_alloc ?_ _)); refine blk_far ?_ NB257_260.out _; (with_reducible repeat (first | refine blk_drewN ?_ _ | refine blk_drew ?_ | refine blk_alloc ?_ _)); refine blk_far ?_ NB257_260.out _; (with_reducible repeat (first | refine blk_drewN ?_ _ | refine blk_drew ?_ | refine blk_alloc ?_ _)); exact BK257.out⟩, ⟨bel⟩⟩
           ·replace c20 := Bool.eq_false_iff.mpr c20
            subst c20
            have H1 : (some false) = some r := by rw [if_neg (show ¬ (false = true) by decide)] at H; exact H
            clear H
            have H := H1
            clear H1
            obtain rfl := Option.some.inj H
            have hnb40 := NB256_257.out
            have hnc40 := NB257_256.out
            obtain ⟨hcz41_0, hcz41_1, hfz41_0, hfz41_1⟩ := bq2 BK256
            try go_wp2
            replace BK256 := Aside0.mk (blk_drew BK256.out)
            replace BK257 := Aside0.mk (blk_drew BK257.out)
            replace HB := Aside0.mk (below_drew1 HB.out)
            have p258 : 0 ≤ (x5_2 : Int) := dtr
            have q258 : x5_2 < (l0_1.length : Int) := dtr
            obtain ⟨ad258, A258_2, c258_2, e258, hx258_0, hx258_1, hx258_2, hl258_2, hi258_2⟩ := at_T52 HR0_1.out x5_2 p258 q258
            have hw258_2 := hx258_2
            have hw258_1 := hx258_1
            have hw258_0 := hx258_0
            cases e258
            replace hx258_0 := oc hx258_0
            replace hx258_1 := oc hx258_1
            replace hx258_2 := oc hx258_2
            have HR258_2 := Aside0.mk hi258_2
            have HC258_2 := Aside0.mk hl258_2
            clear hi258_2 hl258_2
            replace p258 := eq_true p258
            replace q258 := eq_true q258
            have p259 : 0 ≤ (x5_2 : Int) := dtr
            have q259 : x5_2 < (l1_1.length : Int) := dtr
            obtain ⟨ad259, A259_2, c259_2, e259, hx259_0, hx259_1, hx259_2, hl259_2, hi259_2⟩ := at_T52 HR1_1.out x5_2 p259 q259
            have hw259_2 := hx259_2
            have hw259_1 := hx259_1
            have hw259_0 := hx259_0
            cases e259
            replace hx259_0 := oc hx259_0
            replace hx259_1 := oc hx259_1
            replace hx259_2 := oc hx259_2
            have HR259_2 := Aside0.mk hi259_2
            have HC259_2 := Aside0.mk hl259_2
            clear hi259_2 hl259_2
            replace p259 := eq_true p259
            replace q259 := eq_true q259
            refine start_ (n := 14) (S := fun w' => w'.cell? ⟨gb256, 0, none⟩ = some (.int .i64 a0_0) ∧ w'.cell? ⟨gb256, 1, none⟩ = some (.slice (some ad258) l0_1.length c0_1) ∧ w'.cell? ⟨gb257, 0, none⟩ = some (.int .i64 a1_0) ∧ w'.cell? ⟨gb257, 1, none⟩ = some (.slice (some ad259) l1_1.length c1_1) ∧ w'.cell? (ad258.add ((x5_2).toNat * 3)) = some (.string ((rd_T52 l0_1 x5_2).f0)) ∧ w'.cell? ⟨(ad258.add ((x5_2).toNat * 3)).block, (ad258.add ((x5_2).toNat * 3)).off + 1, none⟩ = some (.int .i64 ((rd_T52 l0_1 x5_2).f1)) ∧ w'.cell? ⟨(ad258.add ((x5_2).toNat * 3)).block, (ad258.add ((x5_2).toNat * 3)).off + 2, none⟩ = some (.slice A258_2 ((rd_T52 l0_1 x5_2).f2).length c258_2) ∧ w'.cell? (ad259.add ((x5_2).toNat * 3)) = some (.string ((rd_T52 l1_1 x5_2).f0)) ∧ w'.cell? ⟨(ad259.add ((x5_2).toNat * 3)).block, (ad259.add ((x5_2).toNat * 3)).off + 1, none⟩ = some (.int .i64 ((rd_T52 l1_1 x5_2).f1)) ∧ w'.cell? ⟨(ad259.add ((x5_2).toNat * 3)).block, (ad259.add ((x5_2).toNat * 3)).off + 2, none⟩ = some (.slice A259_2 ((rd_T52 l1_1 x5_2).f2).length c259_2)) (ds := []) #[false, false, false, false, false, false, false, false, false, false, false, false, false, false] (by kernel_rfl) rfl rfl ⟨(blk_cell BK256.out 0).trans rfl, (blk_cell BK256.out 1).trans rfl, (blk_cell BK257.out 0).trans rfl, (blk_cell BK257.out 1).trans rfl, (oc hw258_0), (oc hw258_1), (oc hw258_2), (oc hw259_0), (oc hw259_1), (oc hw259_2)⟩ (fun hHeld => ?_); refine with_tabW paraphrastref01_Same.tab6 paraphrastref01_Same.bits6 (fun HT_ HW_ => ?_)
            generalize wr.drew = w42 at BK256 BK257 HB HR258_2 HR259_2 hx258_0 hx258_1 hx258_2 hx259_0 hx259_1 hx259_2 hHeld ⊢
            refine sPu 0 (some 29) ?_
            refine sPu 2 (some 31) ?_
            refine sPu 5 (some 34) ?_
            refine sPu 7 (some 36) ?_
            refine sTk 1 (some 30) ?_
            refine sPu 3 (some 32) ?_
            refine sTk 4 (some 33) ?_
            refine sTk 6 (some 35) ?_
            refine sPu 8 (some 37) ?_
            refine sTk 9 (some 38) ?_
            refine join_ (σ := Nat × Nat) 2 #[true, true, true, true, true, true, true, true, true, true, true, true, false, false] (fun s_ => [(6, .pointer (some ⟨s_.1, 0, none⟩)), (7, .pointer (some ⟨s_.2, 0, none⟩))]) (fun s_ w' => (w'.cell? ⟨gb256, 0, none⟩ = some (.int .i64 a0_0) ∧ w'.cell? ⟨gb256, 1, none⟩ = some (.slice (some ad258) l0_1.length c0_1) ∧ w'.cell? ⟨gb257, 0, none⟩ = some (.int .i64 a1_0) ∧ w'.cell? ⟨gb257, 1, none⟩ = some (.slice (some ad259) l1_1.length c1_1) ∧ w'.cell? (ad258.add ((x5_2).toNat * 3)) = some (.string ((rd_T52 l0_1 x5_2).f0)) ∧ w'.cell? ⟨(ad258.add ((x5_2).toNat * 3)).block, (ad258.add ((x5_2).toNat * 3)).off + 1, none⟩ = some (.int .i64 ((rd_T52 l0_1 x5_2).f1)) ∧ w'.cell? ⟨(ad258.add ((x5_2).toNat * 3)).block, (ad258.add ((x5_2).toNat * 3)).off + 2, none⟩ = some (.slice A258_2 ((rd_T52 l0_1 x5_2).f2).length c258_2) ∧ w'.cell? (ad259.add ((x5_2).toNat * 3)) = some (.string ((rd_T52 l1_1 x5_2).f0)) ∧ w'.cell? ⟨(ad259.add ((x5_2).toNat * 3)).block, (ad259.add ((x5_2).toNat * 3)).off + 1, none⟩ = some (.int .i64 ((rd_T52 l1_1 x5_2).f1)) ∧ w'.cell? ⟨(ad259.add ((x5_2).toNat * 3)).block, (ad259.add ((x5_2).toNat * 3)).off + 2, none⟩ = some (.slice A259_2 ((rd_T52 l1_1 x5_2).f2).length c259_2)) ∧ (w'.heap[gb256]? = some (.cells #[.int .i64 a0_0, .slice (some ad258) l0_1.length c0_1] 24 (0, 0))) ∧ (w'.heap[gb257]? = some (.cells #[.int .i64 a1_0, .slice (some ad259) l1_1.length c1_1] 24 (0, 0))) ∧ (w'.heap[s_.1]? = some (.cells #[.string (⟨#[]⟩ : ByteArray), .int .i64 0, .slice none 0 0] 52 (0, 0))) ∧ (w'.heap[s_.2]? = some (.cells #[.string (⟨#[]⟩ : ByteArray), .int .i64 0, .slice none 0 0] 52 (0, 0))) ∧ (w.heap.size ≤ s_.1) ∧ (w.heap.size ≤ s_.1) ∧ (gb256 ≠ s_.1) ∧ (s_.1 ≠ gb256) ∧ (gb257 ≠ s_.1) ∧ (s_.1 ≠ gb257) ∧ (s_.2 ≠ s_.1) ∧ (s_.1 ≠ s_.2) ∧ (w.heap.size ≤ s_.2) ∧ (w.heap.size ≤ s_.2) ∧ (gb256 ≠ s_.2) ∧ (s_.2 ≠ gb256) ∧ (gb257 ≠ s_.2) ∧ (s_.2 ≠ gb257) ∧ (Below w.heap.size w w')) ?_ ?_
            rotate_left
            ·intro hCont
             refine two_ (i := 10) (j := 11) (Ni := some 6) (Nj := some 7) #[true, true, true, true, true, true, true, true, true, true, true, false, false, false] #[true, true, true, true, true, true, true, true, true, true, false, true, false, false] rfl rfl rfl rfl (two_of HT_.out (by kernel_rfl)) (by decide) (by decide) (fun K hK => ?_) (fun K hK => ?_)
             ·skip
              refine box_step ?hg (N := 6) ?hd (cs := #[.string (⟨#[]⟩ : ByteArray), .int .i64 0, .slice none 0 0]) (t := 52) ?hr ?_; (case hd => rfl); (case hg => rfl); (case hr => first | (go_simp; done) | (go_simp; rfl))
              intro gb260 hg w43 hbox hb
              have BK260 := Aside0.mk (hbox)
              have GW260 := geB w hg
              have GE260 := geB w hg
              have NB256_260 := neL BK256 hg
              have NB260_256 := neG BK256 hg
              have NB257_260 := neL BK257 hg
              have NB260_257 := neG BK257 hg
              replace BK256 := blB BK256 hb
              replace BK257 := blB BK257 hb
              replace HB := Aside0.mk (below_step bel hb)
              clear hb hbox hg
              refine hK.out _ _ ⟨(blk_cell BK256.out 0).trans rfl, (blk_cell BK256.out 1).trans rfl, (blk_cell BK257.out 0).trans rfl, (blk_cell BK257.out 1).trans rfl, (oc hw258_0), (oc hw258_1), (oc hw258_2), (oc hw259_0), (oc hw259_1), (oc hw259_2)⟩ (fun hHeld => ?_)
              clear hK K
              refine norm_ (a' := ?_) ?_ ?_
              rotate_left
              ·show Act.put _ (some 6) _ = _
               simp only [Act.put, List.setIfInBounds_toArray, List.set_cons_zero, List.set_cons_succ, i64_w, i32_w]
               rfl
              refine sOn 11 (some 7) (fun K hK => ?_)
              refine box_step ?hg (N := 7) ?hd (cs := #[.string (⟨#[]⟩ : ByteArray), .int .i64 0, .slice none 0 0]) (t := 52) ?hr ?_; (case hd => rfl); (case hg => rfl); (case hr => first | (go_simp; done) | (go_simp; rfl))
              intro gb261 hg w44 hbox hb
              have BK261 := Aside0.mk (hbox)
              have GW261 := geB w hg
              have GE261 := geB w hg
              have NB256_261 := neL BK256 hg
              have NB261_256 := neG BK256 hg
              have NB257_261 := neL BK257 hg
              have NB261_257 := neG BK257 hg
              have NB260_261 := neL BK260 hg
              have NB261_260 := neG BK260 hg
              replace BK256 := blB BK256 hb
              replace BK257 := blB BK257 hb
              replace BK260 := blB BK260 hb
              replace HB := Aside0.mk (below_step bel hb)
              clear hb hbox hg
              refine hK.out _ _ ⟨(blk_cell BK256.out 0).trans rfl, (blk_cell BK256.out 1).trans rfl, (blk_cell BK257.out 0).trans rfl, (blk_cell BK257.out 1).trans rfl, (oc hw258_0), (oc hw258_1), (oc hw258_2), (oc hw259_0), (oc hw259_1), (oc hw259_2)⟩ (fun hHeld => ?_)
              clear hK K
              refine norm_ (a' := ?_) ?_ ?_
              rotate_left
              ·show Act.put _ (some 7) _ = _
               simp only [Act.put, List.setIfInBounds_toArray, List.set_cons_zero, List.set_cons_succ, i64_w, i32_w]
               rfl
              exact norm_ (by simp only [putAll, Act.put, List.setIfInBounds_toArray, List.set_cons_zero, List.set_cons_succ]) (hCont (gb260, gb261) _ ⟨hHeld, (bk BK256), (bk BK257), (bk BK260), (bk BK261), GW260.out, GE260.out, NB256_260.out, NB260_256.out, NB257_260.out, NB260_257.out, NB261_260.out, NB260_261.out, GW261.out, GE261.out, NB256_261.out, NB261_256.out, NB257_261.out, NB261_257.out, bel⟩)
             ·skip
              refine box_step ?hg (N := 7) ?hd (cs := #[.string (⟨#[]⟩ : ByteArray), .int .i64 0, .slice none 0 0]) (t := 52) ?hr ?_; (case hd => rfl); (case hg => rfl); (case hr => first | (go_simp; done) | (go_simp; rfl))
              intro gb261 hg w43 hbox hb
              have BK261 := Aside0.mk (hbox)
              have GW261 := geB w hg
              have GE261 := geB w hg
              have NB256_261 := neL BK256 hg
              have NB261_256 := neG BK256 hg
              have NB257_261 := neL BK257 hg
              have NB261_257 := neG BK257 hg
              replace BK256 := blB BK256 hb
              replace BK257 := blB BK257 hb
              replace HB := Aside0.mk (below_step bel hb)
              clear hb hbox hg
              refine hK.out _ _ ⟨(blk_cell BK256.out 0).trans rfl, (blk_cell BK256.out 1).trans rfl, (blk_cell BK257.out 0).trans rfl, (blk_cell BK257.out 1).trans rfl, (oc hw258_0), (oc hw258_1), (oc hw258_2), (oc hw259_0), (oc hw259_1), (oc hw259_2)⟩ (fun hHeld => ?_)
              clear hK K
              refine norm_ (a' := ?_) ?_ ?_
              rotate_left
              ·show Act.put _ (some 7) _ = _
               simp only [Act.put, List.setIfInBounds_toArray, List.set_cons_zero, List.set_cons_succ, i64_w, i32_w]
               rfl
              refine sOn 10 (some 6) (fun K hK => ?_)
              refine box_step ?hg (N := 6) ?hd (cs := #[.string (⟨#[]⟩ : ByteArray), .int .i64 0, .slice none 0 0]) (t := 52) ?hr ?_; (case hd => rfl); (case hg => rfl); (case hr => first | (go_simp; done) | (go_simp; rfl))
              intro gb260 hg w44 hbox hb
              have BK260 := Aside0.mk (hbox)
              have GW260 := geB w hg
              have GE260 := geB w hg
              have NB256_260 := neL BK256 hg
              have NB260_256 := neG BK256 hg
              have NB257_260 := neL BK257 hg
              have NB260_257 := neG BK257 hg
              have NB261_260 := neL BK261 hg
              have NB260_261 := neG BK261 hg
              replace BK256 := blB BK256 hb
              replace BK257 := blB BK257 hb
              replace BK261 := blB BK261 hb
              replace HB := Aside0.mk (below_step bel hb)
              clear hb hbox hg
              refine hK.out _ _ ⟨(blk_cell BK256.out 0).trans rfl, (blk_cell BK256.out 1).trans rfl, (blk_cell BK257.out 0).trans rfl, (blk_cell BK257.out 1).trans rfl, (oc hw258_0), (oc hw258_1), (oc hw258_2), (oc hw259_0), (oc hw259_1), (oc hw259_2)⟩ (fun hHeld => ?_)
              clear hK K
              refine norm_ (a' := ?_) ?_ ?_
              rotate_left
              ·show Act.put _ (some 6) _ = _
               simp only [Act.put, List.setIfInBounds_toArray, List.set_cons_zero, List.set_cons_succ, i64_w, i32_w]
               rfl
              exact norm_ (by simp only [putAll, Act.put, List.setIfInBounds_toArray, List.set_cons_zero, List.set_cons_succ]) (hCont (gb260, gb261) _ ⟨hHeld, (bk BK256), (bk BK257), (bk BK260), (bk BK261), GW260.out, GE260.out, NB256_260.out, NB260_256.out, NB257_260.out, NB260_257.out, NB261_260.out, NB260_261.out, GW261.out, GE261.out, NB256_261.out, NB261_256.out, NB257_261.out, NB261_257.out, bel⟩)
            rintro ⟨gb260, gb261⟩ w45 ⟨hS_, h0_, h1_, h2_, h3_, h4_, h5_, h6_, h7_, h8_, h9_, h10_, h11_, h12_, h13_, h14_, h15_, h16_, h17_, h18_⟩
            have n0_ : Aside0 (w45.heap[gb256]? = some (.cells #[.int .i64 a0_0, .slice (some ad258) l0_1.length c0_1] 24 (0, 0))) := ⟨h0_⟩
            have n1_ : Aside0 (w45.heap[gb257]? = some (.cells #[.int .i64 a1_0, .slice (some ad259) l1_1.length c1_1] 24 (0, 0))) := ⟨h1_⟩
            have n2_ : Aside0 (w45.heap[gb260]? = some (.cells #[.string (⟨#[]⟩ : ByteArray), .int .i64 0, .slice none 0 0] 52 (0, 0))) := ⟨h2_⟩
            have n3_ : Aside0 (w45.heap[gb261]? = some (.cells #[.string (⟨#[]⟩ : ByteArray), .int .i64 0, .slice none 0 0] 52 (0, 0))) := ⟨h3_⟩
            have n4_ : Aside0 (w.heap.size ≤ gb260) := ⟨h4_⟩
            have n5_ : Aside0 (w.heap.size ≤ gb260) := ⟨h5_⟩
            have n6_ : Aside0 (gb256 ≠ gb260) := ⟨h6_⟩
            have n7_ : Aside0 (gb260 ≠ gb256) := ⟨h7_⟩
            have n8_ : Aside0 (gb257 ≠ gb260) := ⟨h8_⟩
            have n9_ : Aside0 (gb260 ≠ gb257) := ⟨h9_⟩
            have n10_ : Aside0 (gb261 ≠ gb260) := ⟨h10_⟩
            have n11_ : Aside0 (gb260 ≠ gb261) := ⟨h11_⟩
            have n12_ : Aside0 (w.heap.size ≤ gb261) := ⟨h12_⟩
            have n13_ : Aside0 (w.heap.size ≤ gb261) := ⟨h13_⟩
            have n14_ : Aside0 (gb256 ≠ gb261) := ⟨h14_⟩
            have n15_ : Aside0 (gb261 ≠ gb256) := ⟨h15_⟩
            have n16_ : Aside0 (gb257 ≠ gb261) := ⟨h16_⟩
            have n17_ : Aside0 (gb261 ≠ gb257) := ⟨h17_⟩
            have n18_ : Aside0 (Below w.heap.size w w45) := ⟨h18_⟩
            clear BK256
            clear BK257
            clear HB
            clear h0_ h1_ h2_ h3_ h4_ h5_ h6_ h7_ h8_ h9_ h10_ h11_ h12_ h13_ h14_ h15_ h16_ h17_ h18_
            have BK256 := n0_
            have BK257 := n1_
            have BK260 := n2_
            have BK261 := n3_
            have GW260 := n4_
            have GE260 := n5_
            have NB256_260 := n6_
            have NB260_256 := n7_
            have NB257_260 := n8_
            have NB260_257 := n9_
            have NB261_260 := n10_
            have NB260_261 := n11_
            have GW261 := n12_
            have GE261 := n13_
            have NB256_261 := n14_
            have NB261_256 := n15_
            have NB257_261 := n16_
            have NB261_257 := n17_
            have HB := n18_
            clear n0_ n1_ n2_ n3_ n4_ n5_ n6_ n7_ n8_ n9_ n10_ n11_ n12_ n13_ n14_ n15_ n16_ n17_ n18_
            have hHeld : w45.cell? ⟨gb256, 0, none⟩ = some (.int .i64 a0_0) ∧ w45.cell? ⟨gb256, 1, none⟩ = some (.slice (some ad258) l0_1.length c0_1) ∧ w45.cell? ⟨gb257, 0, none⟩ = some (.int .i64 a1_0) ∧ w45.cell? ⟨gb257, 1, none⟩ = some (.slice (some ad259) l1_1.length c1_1) ∧ w45.cell? (ad258.add ((x5_2).toNat * 3)) = some (.string ((rd_T52 l0_1 x5_2).f0)) ∧ w45.cell? ⟨(ad258.add ((x5_2).toNat * 3)).block, (ad258.add ((x5_2).toNat * 3)).off + 1, none⟩ = some (.int .i64 ((rd_T52 l0_1 x5_2).f1)) ∧ w45.cell? ⟨(ad258.add ((x5_2).toNat * 3)).block, (ad258.add ((x5_2).toNat * 3)).off + 2, none⟩ = some (.slice A258_2 ((rd_T52 l0_1 x5_2).f2).length c258_2) ∧ w45.cell? (ad259.add ((x5_2).toNat * 3)) = some (.string ((rd_T52 l1_1 x5_2).f0)) ∧ w45.cell? ⟨(ad259.add ((x5_2).toNat * 3)).block, (ad259.add ((x5_2).toNat * 3)).off + 1, none⟩ = some (.int .i64 ((rd_T52 l1_1 x5_2).f1)) ∧ w45.cell? ⟨(ad259.add ((x5_2).toNat * 3)).block, (ad259.add ((x5_2).toNat * 3)).off + 2, none⟩ = some (.slice A259_2 ((rd_T52 l1_1 x5_2).f2).length c259_2) := hS_
            refine norm_ (a' := ?_) ?_ ?_
            rotate_left
            ·simp only [putAll, Act.put, List.setIfInBounds_toArray, List.set_cons_zero, List.set_cons_succ]
             rfl
            refine sOn 12 none (fun K hK => ?_)
            have hs46 : w45.cell? ⟨gb260, 0, none⟩ = some (.string (⟨#[]⟩ : ByteArray)) := (blk_cell BK260.out 0).trans rfl
            have hfs46 := blk_frozen BK260.out 0
            have hns46_0 := NB256_260.out
            have hns46_1 := NB257_260.out
            have hns46_3 := NB261_260.out
            have hms46_0 := NB260_256.out
            have hms46_1 := NB260_257.out
            have hms46_3 := NB260_261.out
            have hs47 : w45.cell? ⟨gb260, 1, none⟩ = some (.int .i64 0) := (blk_cell BK260.out 1).trans rfl
            have hfs47 := blk_frozen BK260.out 1
            have hns47_0 := NB256_260.out
            have hns47_1 := NB257_260.out
            have hns47_3 := NB261_260.out
            have hms47_0 := NB260_256.out
            have hms47_1 := NB260_257.out
            have hms47_3 := NB260_261.out
            have hs48 : w45.cell? ⟨gb260, 2, none⟩ = some (.slice none 0 0) := (blk_cell BK260.out 2).trans rfl
            have hfs48 := blk_frozen BK260.out 2
            have hns48_0 := NB256_260.out
            have hns48_1 := NB257_260.out
            have hns48_3 := NB261_260.out
            have hms48_0 := NB260_256.out
            have hms48_1 := NB260_257.out
            have hms48_3 := NB260_261.out
            refine skip_ (w1 := ?_) (by rfl) rfl ?_ ?_
            rotate_left
            ·go_simp
             rfl
            refine hK.out _ _ ⟨((cell_far (p := ⟨gb260, _, none⟩) NB256_260.out _).trans (((cell_far (p := ⟨gb260, _, none⟩) NB256_260.out _).trans (((cell_far (p := ⟨gb260, _, none⟩) NB256_260.out _).trans (hHeld.1)))))), ((cell_far (p := ⟨gb260, _, none⟩) NB256_260.out _).trans (((cell_far (p := ⟨gb260, _, none⟩) NB256_260.out _).trans (((cell_far (p := ⟨gb260, _, none⟩) NB256_260.out _).trans (hHeld.2.1)))))), ((cell_far (p := ⟨gb260, _, none⟩) NB257_260.out _).trans (((cell_far (p := ⟨gb260, _, none⟩) NB257_260.out _).trans (((cell_far (p := ⟨gb260, _, none⟩) NB257_260.out _).trans (hHeld.2.2.1)))))), ((cell_far (p := ⟨gb260, _, none⟩) NB257_260.out _).trans (((cell_far (p := ⟨gb260, _, none⟩) NB257_260.out _).trans (((cell_far (p := ⟨gb260, _, none⟩) NB257_260.out _).trans (hHeld.2.2.2.1)))))), ((cell_far (p := ⟨gb260, _, none⟩) (far_ne34 hw258_0 GW260.out) _).trans (((cell_far (p := ⟨gb260, _, none⟩) (far_ne34 hw258_0 GW260.out) _).trans (((cell_far (p := ⟨gb260, _, none⟩) (far_ne34 hw258_0 GW260.out) _).trans (hHeld.2.2.2.2.1)))))), ((cell_far (p := ⟨gb260, _, none⟩) (far_ne34 hw258_1 GW260.out) _).trans (((cell_far (p := ⟨gb260, _, none⟩) (far_ne34 hw258_1 GW260.out) _).trans (((cell_far (p := ⟨gb260, _, none⟩) (far_ne34 hw258_1 GW260.out) _).trans (hHeld.2.2.2.2.2.1)))))), ((cell_far (p := ⟨gb260, _, none⟩) (far_ne34 hw258_2 GW260.out) _).trans (((cell_far (p := ⟨gb260, _, none⟩) (far_ne34 hw258_2 GW260.out) _).trans (((cell_far (p := ⟨gb260, _, none⟩) (far_ne34 hw258_2 GW260.out) _).trans (hHeld.2.2.2.2.2.2.1)))))), ((cell_far (p := ⟨gb260, _, none⟩) (far_ne34 hw259_0 GW260.out) _).trans (((cell_far (p := ⟨gb260, _, none⟩) (far_ne34 hw259_0 GW260.out) _).trans (((cell_far (p := ⟨gb260, _, none⟩) (far_ne34 hw259_0 GW260.out) _).trans (hHeld.2.2.2.2.2.2.2.1)))))), ((cell_far (p := ⟨gb260, _, none⟩) (far_ne34 hw259_1 GW260.out) _).trans (((cell_far (p := ⟨gb260, _, none⟩) (far_ne34 hw259_1 GW260.out) _).trans (((cell_far (p := ⟨gb260, _, none⟩) (far_ne34 hw259_1 GW260.out) _).trans (hHeld.2.2.2.2.2.2.2.2.1)))))), ((cell_far (p := ⟨gb260, _, none⟩) (far_ne34 hw259_2 GW260.out) _).trans (((cell_far (p := ⟨gb260, _, none⟩) (far_ne34 hw259_2 GW260.out) _).trans (((cell_far (p := ⟨gb260, _, none⟩) (far_ne34 hw259_2 GW260.out) _).trans (hHeld.2.2.2.2.2.2.2.2.2))))))⟩ (fun hHeld => ?_)
            clear hK K
            refine sOn 13 none (fun K hK => ?_)
            have hs49 : w45.cell? ⟨gb261, 0, none⟩ = some (.string (⟨#[]⟩ : ByteArray)) := (blk_cell BK261.out 0).trans rfl
            have hfs49 := blk_frozen BK261.out 0
            have hns49_0 := NB256_261.out
            have hns49_1 := NB257_261.out
            have hns49_2 := NB260_261.out
            have hms49_0 := NB261_256.out
            have hms49_1 := NB261_257.out
            have hms49_2 := NB261_260.out
            have hs50 : w45.cell? ⟨gb261, 1, none⟩ = some (.int .i64 0) := (blk_cell BK261.out 1).trans rfl
            have hfs50 := blk_frozen BK261.out 1
            have hns50_0 := NB256_261.out
            have hns50_1 := NB257_261.out
            have hns50_2 := NB260_261.out
            have hms50_0 := NB261_256.out
            have hms50_1 := NB261_257.out
            have hms50_2 := NB261_260.out
            have hs51 : w45.cell? ⟨gb261, 2, none⟩ = some (.slice none 0 0) := (blk_cell BK261.out 2).trans rfl
            have hfs51 := blk_frozen BK261.out 2
            have hns51_0 := NB256_261.out
            have hns51_1 := NB257_261.out
            have hns51_2 := NB260_261.out
            have hms51_0 := NB261_256.out
            have hms51_1 := NB261_257.out
            have hms51_2 := NB261_260.out
            refine skip_ (w1 := ?_) (by rfl) rfl ?_ ?_
            rotate_left
            ·go_simp
             rfl
            refine hK.out _ _ ⟨((cell_far (p := ⟨gb261, _, none⟩) NB256_261.out _).trans (((cell_far (p := ⟨gb261, _, none⟩) NB256_261.out _).trans (((cell_far (p := ⟨gb261, _, none⟩) NB256_261.out _).trans (hHeld.1)))))), ((cell_far (p := ⟨gb261, _, none⟩) NB256_261.out _).trans (((cell_far (p := ⟨gb261, _, none⟩) NB256_261.out _).trans (((cell_far (p := ⟨gb261, _, none⟩) NB256_261.out _).trans (hHeld.2.1)))))), ((cell_far (p := ⟨gb261, _, none⟩) NB257_261.out _).trans (((cell_far (p := ⟨gb261, _, none⟩) NB257_261.out _).trans (((cell_far (p := ⟨gb261, _, none⟩) NB257_261.out _).trans (hHeld.2.2.1)))))), ((cell_far (p := ⟨gb261, _, none⟩) NB257_261.out _).trans (((cell_far (p := ⟨gb261, _, none⟩) NB257_261.out _).trans (((cell_far (p := ⟨gb261, _, none⟩) NB257_261.out _).trans (hHeld.2.2.2.1)))))), ((cell_far (p := ⟨gb261, _, none⟩) (far_ne34 hw258_0 GW261.out) _).trans (((cell_far (p := ⟨gb261, _, none⟩) (far_ne34 hw258_0 GW261.out) _).trans (((cell_far (p := ⟨gb261, _, none⟩) (far_ne34 hw258_0 GW261.out) _).trans (hHeld.2.2.2.2.1)))))), ((cell_far (p := ⟨gb261, _, none⟩) (far_ne34 hw258_1 GW261.out) _).trans (((cell_far (p := ⟨gb261, _, none⟩) (far_ne34 hw258_1 GW261.out) _).trans (((cell_far (p := ⟨gb261, _, none⟩) (far_ne34 hw258_1 GW261.out) _).trans (hHeld.2.2.2.2.2.1)))))), ((cell_far (p := ⟨gb261, _, none⟩) (far_ne34 hw258_2 GW261.out) _).trans (((cell_far (p := ⟨gb261, _, none⟩) (far_ne34 hw258_2 GW261.out) _).trans (((cell_far (p := ⟨gb261, _, none⟩) (far_ne34 hw258_2 GW261.out) _).trans (hHeld.2.2.2.2.2.2.1)))))), ((cell_far (p := ⟨gb261, _, none⟩) (far_ne34 hw259_0 GW261.out) _).trans (((cell_far (p := ⟨gb261, _, none⟩) (far_ne34 hw259_0 GW261.out) _).trans (((cell_far (p := ⟨gb261, _, none⟩) (far_ne34 hw259_0 GW261.out) _).trans (hHeld.2.2.2.2.2.2.2.1)))))), ((cell_far (p := ⟨gb261, _, none⟩) (far_ne34 hw259_1 GW261.out) _).trans (((cell_far (p := ⟨gb261, _, none⟩) (far_ne34 hw259_1 GW261.out) _).trans (((cell_far (p := ⟨gb261, _, none⟩) (far_ne34 hw259_1 GW261.out) _).trans (hHeld.2.2.2.2.2.2.2.2.1)))))), ((cell_far (p := ⟨gb261, _, none⟩) (far_ne34 hw259_2 GW261.out) _).trans (((cell_far (p := ⟨gb261, _, none⟩) (far_ne34 hw259_2 GW261.out) _).trans (((cell_far (p := ⟨gb261, _, none⟩) (far_ne34 hw259_2 GW261.out) _).trans (hHeld.2.2.2.2.2.2.2.2.2))))))⟩ (fun hHeld => ?_)
            clear hK K
            refine done_ (done_of HT_.out (by kernel_rfl)) ?_
            have hnb52 := NB260_256.out
            have hnc52 := NB256_260.out
            have hnb53 := NB260_257.out
            have hnc53 := NB257_260.out
            have hnb54 := NB260_261.out
            have hnc54 := NB261_260.out
            obtain ⟨hcz55_0, hcz55_1, hcz55_2, hfz55_0, hfz55_1, hfz55_2⟩ := bq3 BK260
            have hnb56 := NB261_256.out
            have hnc56 := NB256_261.out
            have hnb57 := NB261_257.out
            have hnc57 := NB257_261.out
            obtain ⟨hcz58_0, hcz58_1, hcz58_2, hfz58_0, hfz58_1, hfz58_2⟩ := bq3 BK261
            try go_wp2_with (first | (go_at_call 69; (with_reducible refine (paraphrastref01_SameTuples.calls k2 _ _ ((rd_T52 l0_1 x5_2).f2) _ _ ((rd_T52 l1_1 x5_2).f2) false _ ?side1 ?side2 ?side3 ?side4 A19.out).mono ?_); (case side1 => exact Kd.C_below HR258_2.out bel); (case side2 => exact HC258_2.out); (case side3 => exact Kd.C_below HR259_2.out bel); (case side4 => exact HC259_2.out); rintro e w' ⟨rfl, ⟨nd, rfl⟩⟩))
            go_ret
            exact ⟨eN, bel⟩
          ·rw [if_neg c18] at H
           have c18b0 : (((rd_T52 l0_1 x5_2).f1) == ((rd_T52 l1_1 x5_2).f1)) = false := beq_eq_false_iff_ne.mpr c18
           have c18b1 : (((rd_T52 l0_1 x5_2).f1) != ((rd_T52 l1_1 x5_2).f1)) = true := bne_iff_ne.mpr c18
           obtain rfl := Option.some.inj H
           have hnb59 := NB256_257.out
           have hnc59 := NB257_256.out
           obtain ⟨hcz60_0, hcz60_1, hfz60_0, hfz60_1⟩ := bq2 BK256
           try go_wp2
           replace BK256 := Aside0.mk (blk_drew BK256.out)
           replace BK257 := Aside0.mk (blk_drew BK257.out)
           replace HB := Aside0.mk (below_drew1 HB.out)
           have p258 : 0 ≤ (x5_2 : Int) := dtr
           have q258 : x5_2 < (l0_1.length : Int) := dtr
           obtain ⟨ad258, A258_2, c258_2, e258, hx258_0, hx258_1, hx258_2, hl258_2, hi258_2⟩ := at_T52 HR0_1.out x5_2 p258 q258
           have hw258_2 := hx258_2
           have hw258_1 := hx258_1
           have hw258_0 := hx258_0
           cases e258
           replace hx258_0 := oc hx258_0
           replace hx258_1 := oc hx258_1
           replace hx258_2 := oc hx258_2
           have HR258_2 := Aside0.mk hi258_2
           have HC258_2 := Aside0.mk hl258_2
           clear hi258_2 hl258_2
           replace p258 := eq_true p258
           replace q258 := eq_true q258
           have p259 : 0 ≤ (x5_2 : Int) := dtr
           have q259 : x5_2 < (l1_1.length : Int) := dtr
           obtain ⟨ad259, A259_2, c259_2, e259, hx259_0, hx259_1, hx259_2, hl259_2, hi259_2⟩ := at_T52 HR1_1.out x5_2 p259 q259
           have hw259_2 := hx259_2
           have hw259_1 := hx259_1
           have hw259_0 := hx259_0
           cases e259
           replace hx259_0 := oc hx259_0
           replace hx259_1 := oc hx259_1
           replace hx259_2 := oc hx259_2
           have HR259_2 := Aside0.mk hi259_2
           have HC259_2 := Aside0.mk hl259_2
           clear hi259_2 hl259_2
           replace p259 := eq_true p259
           replace q259 := eq_true q259
           refine start_ (n := 14) (S := fun w' => w'.cell? ⟨gb256, 0, none⟩ = some (.int .i64 a0_0) ∧ w'.cell? ⟨gb256, 1, none⟩ = some (.slice (some ad258) l0_1.length c0_1) ∧ w'.cell? ⟨gb257, 0, none⟩ = some (.int .i64 a1_0) ∧ w'.cell? ⟨gb257, 1, none⟩ = some (.slice (some ad259) l1_1.length c1_1) ∧ w'.cell? (ad258.add ((x5_2).toNat * 3)) = some (.string ((rd_T52 l0_1 x5_2).f0)) ∧ w'.cell? ⟨(ad258.add ((x5_2).toNat * 3)).block, (ad258.add ((x5_2).toNat * 3)).off + 1, none⟩ = some (.int .i64 ((rd_T52 l0_1 x5_2).f1)) ∧ w'.cell? ⟨(ad258.add ((x5_2).toNat * 3)).block, (ad258.add ((x5_2).toNat * 3)).off + 2, none⟩ = some (.slice A258_2 ((rd_T52 l0_1 x5_2).f2).length c258_2) ∧ w'.cell? (ad259.add ((x5_2).toNat * 3)) = some (.string ((rd_T52 l1_1 x5_2).f0)) ∧ w'.cell? ⟨(ad259.add ((x5_2).toNat * 3)).block, (ad259.add ((x5_2).toNat * 3)).off + 1, none⟩ = some (.int .i64 ((rd_T52 l1_1 x5_2).f1)) ∧ w'.cell? ⟨(ad259.add ((x5_2).toNat * 3)).block, (ad259.add ((x5_2).toNat * 3)).off + 2, none⟩ = some (.slice A259_2 ((rd_T52 l1_1 x5_2).f2).length c259_2)) (ds := []) #[false, false, false, false, false, false, false, false, false, false, false, false, false, false] (by kernel_rfl) rfl rfl ⟨(blk_cell BK256.out 0).trans rfl, (blk_cell BK256.out 1).trans rfl, (blk_cell BK257.out 0).trans rfl, (blk_cell BK257.out 1).trans rfl, (oc hw258_0), (oc hw258_1), (oc hw258_2), (oc hw259_0), (oc hw259_1), (oc hw259_2)⟩ (fun hHeld => ?_); refine with_tabW paraphrastref01_Same.tab6 paraphrastref01_Same.bits6 (fun HT_ HW_ => ?_)
           generalize wr.drew = w61 at BK256 BK257 HB HR258_2 HR259_2 hx258_0 hx258_1 hx258_2 hx259_0 hx259_1 hx259_2 hHeld ⊢
           refine sPu 0 (some 29) ?_
           refine sPu 2 (some 31) ?_
           refine sPu 5 (some 34) ?_
           refine sPu 7 (some 36) ?_
           refine sTk 1 (some 30) ?_
           refine sPu 3 (some 32) ?_
           refine sTk 4 (some 33) ?_
           refine sTk 6 (some 35) ?_
           refine sPu 8 (some 37) ?_
           refine sTk 9 (some 38) ?_
           refine join_ (σ := Nat × Nat) 2 #[true, true, true, true, true, true, true, true, true, true, true, true, false, false] (fun s_ => [(6, .pointer (some ⟨s_.1, 0, none⟩)), (7, .pointer (some ⟨s_.2, 0, none⟩))]) (fun s_ w' => (w'.cell? ⟨gb256, 0, none⟩ = some (.int .i64 a0_0) ∧ w'.cell? ⟨gb256, 1, none⟩ = some (.slice (some ad258) l0_1.length c0_1) ∧ w'.cell? ⟨gb257, 0, none⟩ = some (.int .i64 a1_0) ∧ w'.cell? ⟨gb257, 1, none⟩ = some (.slice (some ad259) l1_1.length c1_1) ∧ w'.cell? (ad258.add ((x5_2).toNat * 3)) = some (.string ((rd_T52 l0_1 x5_2).f0)) ∧ w'.cell? ⟨(ad258.add ((x5_2).toNat * 3)).block, (ad258.add ((x5_2).toNat * 3)).off + 1, none⟩ = some (.int .i64 ((rd_T52 l0_1 x5_2).f1)) ∧ w'.cell? ⟨(ad258.add ((x5_2).toNat * 3)).block, (ad258.add ((x5_2).toNat * 3)).off + 2, none⟩ = some (.slice A258_2 ((rd_T52 l0_1 x5_2).f2).length c258_2) ∧ w'.cell? (ad259.add ((x5_2).toNat * 3)) = some (.string ((rd_T52 l1_1 x5_2).f0)) ∧ w'.cell? ⟨(ad259.add ((x5_2).toNat * 3)).block, (ad259.add ((x5_2).toNat * 3)).off + 1, none⟩ = some (.int .i64 ((rd_T52 l1_1 x5_2).f1)) ∧ w'.cell? ⟨(ad259.add ((x5_2).toNat * 3)).block, (ad259.add ((x5_2).toNat * 3)).off + 2, none⟩ = some (.slice A259_2 ((rd_T52 l1_1 x5_2).f2).length c259_2)) ∧ (w'.heap[gb256]? = some (.cells #[.int .i64 a0_0, .slice (some ad258) l0_1.length c0_1] 24 (0, 0))) ∧ (w'.heap[gb257]? = some (.cells #[.int .i64 a1_0, .slice (some ad259) l1_1.length c1_1] 24 (0, 0))) ∧ (w'.heap[s_.1]? = some (.cells #[.string (⟨#[]⟩ : ByteArray), .int .i64 0, .slice none 0 0] 52 (0, 0))) ∧ (w'.heap[s_.2]? = some (.cells #[.string (⟨#[]⟩ : ByteArray), .int .i64 0, .slice none 0 0] 52 (0, 0))) ∧ (w.heap.size ≤ s_.1) ∧ (w.heap.size ≤ s_.1) ∧ (gb256 ≠ s_.1) ∧ (s_.1 ≠ gb256) ∧ (gb257 ≠ s_.1) ∧ (s_.1 ≠ gb257) ∧ (s_.2 ≠ s_.1) ∧ (s_.1 ≠ s_.2) ∧ (w.heap.size ≤ s_.2) ∧ (w.heap.size ≤ s_.2) ∧ (gb256 ≠ s_.2) ∧ (s_.2 ≠ gb256) ∧ (gb257 ≠ s_.2) ∧ (s_.2 ≠ gb257) ∧ (Below w.heap.size w w')) ?_ ?_
           rotate_left
           ·intro hCont
            refine two_ (i := 10) (j := 11) (Ni := some 6) (Nj := some 7) #[true, true, true, true, true, true, true, true, true, true, true, false, false, false] #[true, true, true, true, true, true, true, true, true, true, false, true, false, false] rfl rfl rfl rfl (two_of HT_.out (by kernel_rfl)) (by decide) (by decide) (fun K hK => ?_) (fun K hK => ?_)
            ·skip
             refine box_step ?hg (N := 6) ?hd (cs := #[.string (⟨#[]⟩ : ByteArray), .int .i64 0, .slice none 0 0]) (t := 52) ?hr ?_; (case hd => rfl); (case hg => rfl); (case hr => first | (go_simp; done) | (go_simp; rfl))
             intro gb260 hg w62 hbox hb
             have BK260 := Aside0.mk (hbox)
             have GW260 := geB w hg
             have GE260 := geB w hg
             have NB256_260 := neL BK256 hg
             have NB260_256 := neG BK256 hg
             have NB257_260 := neL BK257 hg
             have NB260_257 := neG BK257 hg
             replace BK256 := blB BK256 hb
             replace BK257 := blB BK257 hb
             replace HB := Aside0.mk (below_step bel hb)
             clear hb hbox hg
             refine hK.out _ _ ⟨(blk_cell BK256.out 0).trans rfl, (blk_cell BK256.out 1).trans rfl, (blk_cell BK257.out 0).trans rfl, (blk_cell BK257.out 1).trans rfl, (oc hw258_0), (oc hw258_1), (oc hw258_2), (oc hw259_0), (oc hw259_1), (oc hw259_2)⟩ (fun hHeld => ?_)
             clear hK K
             refine norm_ (a' := ?_) ?_ ?_
             rotate_left
             ·show Act.put _ (some 6) _ = _
              simp only [Act.put, List.setIfInBounds_toArray, List.set_cons_zero, List.set_cons_succ, i64_w, i32_w]
              rfl
             refine sOn 11 (some 7) (fun K hK => ?_)
             refine box_step ?hg (N := 7) ?hd (cs := #[.string (⟨#[]⟩ : ByteArray), .int .i64 0, .slice none 0 0]) (t := 52) ?hr ?_; (case hd => rfl); (case hg => rfl); (case hr => first | (go_simp; done) | (go_simp; rfl))
             intro gb261 hg w63 hbox hb
             have BK261 := Aside0.mk (hbox)
             have GW261 := geB w hg
             have GE261 := geB w hg
             have NB256_261 := neL BK256 hg
             have NB261_256 := neG BK256 hg
             have NB257_261 := neL BK257 hg
             have NB261_257 := neG BK257 hg
             have NB260_261 := neL BK260 hg
             have NB261_260 := neG BK260 hg
             replace BK256 := blB BK256 hb
             replace BK257 := blB BK257 hb
             replace BK260 := blB BK260 hb
             replace HB := Aside0.mk (below_step bel hb)
             clear hb hbox hg
             refine hK.out _ _ ⟨(blk_cell BK256.out 0).trans rfl, (blk_cell BK256.out 1).trans rfl, (blk_cell BK257.out 0).trans rfl, (blk_cell BK257.out 1).trans rfl, (oc hw258_0), (oc hw258_1), (oc hw258_2), (oc hw259_0), (oc hw259_1), (oc hw259_2)⟩ (fun hHeld => ?_)
             clear hK K
             refine norm_ (a' := ?_) ?_ ?_
             rotate_left
             ·show Act.put _ (some 7) _ = _
              simp only [Act.put, List.setIfInBounds_toArray, List.set_cons_zero, List.set_cons_succ, i64_w, i32_w]
              rfl
             exact norm_ (by simp only [putAll, Act.put, List.setIfInBounds_toArray, List.set_cons_zero, List.set_cons_succ]) (hCont (gb260, gb261) _ ⟨hHeld, (bk BK256), (bk BK257), (bk BK260), (bk BK261), GW260.out, GE260.out, NB256_260.out, NB260_256.out, NB257_260.out, NB260_257.out, NB261_260.out, NB260_261.out, GW261.out, GE261.out, NB256_261.out, NB261_256.out, NB257_261.out, NB261_257.out, bel⟩)
            ·skip
             refine box_step ?hg (N := 7) ?hd (cs := #[.string (⟨#[]⟩ : ByteArray), .int .i64 0, .slice none 0 0]) (t := 52) ?hr ?_; (case hd => rfl); (case hg => rfl); (case hr => first | (go_simp; done) | (go_simp; rfl))
             intro gb261 hg w62 hbox hb
             have BK261 := Aside0.mk (hbox)
             have GW261 := geB w hg
             have GE261 := geB w hg
             have NB256_261 := neL BK256 hg
             have NB261_256 := neG BK256 hg
             have NB257_261 := neL BK257 hg
             have NB261_257 := neG BK257 hg
             replace BK256 := blB BK256 hb
             replace BK257 := blB BK257 hb
             replace HB := Aside0.mk (below_step bel hb)
             clear hb hbox hg
             refine hK.out _ _ ⟨(blk_cell BK256.out 0).trans rfl, (blk_cell BK256.out 1).trans rfl, (blk_cell BK257.out 0).trans rfl, (blk_cell BK257.out 1).trans rfl, (oc hw258_0), (oc hw258_1), (oc hw258_2), (oc hw259_0), (oc hw259_1), (oc hw259_2)⟩ (fun hHeld => ?_)
             clear hK K
             refine norm_ (a' := ?_) ?_ ?_
             rotate_left
             ·show Act.put _ (some 7) _ = _
              simp only [Act.put, List.setIfInBounds_toArray, List.set_cons_zero, List.set_cons_succ, i64_w, i32_w]
              rfl
             refine sOn 10 (some 6) (fun K hK => ?_)
             refine box_step ?hg (N := 6) ?hd (cs := #[.string (⟨#[]⟩ : ByteArray), .int .i64 0, .slice none 0 0]) (t := 52) ?hr ?_; (case hd => rfl); (case hg => rfl); (case hr => first | (go_simp; done) | (go_simp; rfl))
             intro gb260 hg w63 hbox hb
             have BK260 := Aside0.mk (hbox)
             have GW260 := geB w hg
             have GE260 := geB w hg
             have NB256_260 := neL BK256 hg
             have NB260_256 := neG BK256 hg
             have NB257_260 := neL BK257 hg
             have NB260_257 := neG BK257 hg
             have NB261_260 := neL BK261 hg
             have NB260_261 := neG BK261 hg
             replace BK256 := blB BK256 hb
             replace BK257 := blB BK257 hb
             replace BK261 := blB BK261 hb
             replace HB := Aside0.mk (below_step bel hb)
             clear hb hbox hg
             refine hK.out _ _ ⟨(blk_cell BK256.out 0).trans rfl, (blk_cell BK256.out 1).trans rfl, (blk_cell BK257.out 0).trans rfl, (blk_cell BK257.out 1).trans rfl, (oc hw258_0), (oc hw258_1), (oc hw258_2), (oc hw259_0), (oc hw259_1), (oc hw259_2)⟩ (fun hHeld => ?_)
             clear hK K
             refine norm_ (a' := ?_) ?_ ?_
             rotate_left
             ·show Act.put _ (some 6) _ = _
              simp only [Act.put, List.setIfInBounds_toArray, List.set_cons_zero, List.set_cons_succ, i64_w, i32_w]
              rfl
             exact norm_ (by simp only [putAll, Act.put, List.setIfInBounds_toArray, List.set_cons_zero, List.set_cons_succ]) (hCont (gb260, gb261) _ ⟨hHeld, (bk BK256), (bk BK257), (bk BK260), (bk BK261), GW260.out, GE260.out, NB256_260.out, NB260_256.out, NB257_260.out, NB260_257.out, NB261_260.out, NB260_261.out, GW261.out, GE261.out, NB256_261.out, NB261_256.out, NB257_261.out, NB261_257.out, bel⟩)
           rintro ⟨gb260, gb261⟩ w64 ⟨hS_, h0_, h1_, h2_, h3_, h4_, h5_, h6_, h7_, h8_, h9_, h10_, h11_, h12_, h13_, h14_, h15_, h16_, h17_, h18_⟩
           have n0_ : Aside0 (w64.heap[gb256]? = some (.cells #[.int .i64 a0_0, .slice (some ad258) l0_1.length c0_1] 24 (0, 0))) := ⟨h0_⟩
           have n1_ : Aside0 (w64.heap[gb257]? = some (.cells #[.int .i64 a1_0, .slice (some ad259) l1_1.length c1_1] 24 (0, 0))) := ⟨h1_⟩
           have n2_ : Aside0 (w64.heap[gb260]? = some (.cells #[.string (⟨#[]⟩ : ByteArray), .int .i64 0, .slice none 0 0] 52 (0, 0))) := ⟨h2_⟩
           have n3_ : Aside0 (w64.heap[gb261]? = some (.cells #[.string (⟨#[]⟩ : ByteArray), .int .i64 0, .slice none 0 0] 52 (0, 0))) := ⟨h3_⟩
           have n4_ : Aside0 (w.heap.size ≤ gb260) := ⟨h4_⟩
           have n5_ : Aside0 (w.heap.size ≤ gb260) := ⟨h5_⟩
           have n6_ : Aside0 (gb256 ≠ gb260) := ⟨h6_⟩
           have n7_ : Aside0 (gb260 ≠ gb256) := ⟨h7_⟩
           have n8_ : Aside0 (gb257 ≠ gb260) := ⟨h8_⟩
           have n9_ : Aside0 (gb260 ≠ gb257) := ⟨h9_⟩
           have n10_ : Aside0 (gb261 ≠ gb260) := ⟨h10_⟩
           have n11_ : Aside0 (gb260 ≠ gb261) := ⟨h11_⟩
           have n12_ : Aside0 (w.heap.size ≤ gb261) := ⟨h12_⟩
           have n13_ : Aside0 (w.heap.size ≤ gb261) := ⟨h13_⟩
           have n14_ : Aside0 (gb256 ≠ gb261) := ⟨h14_⟩
           have n15_ : Aside0 (gb261 ≠ gb256) := ⟨h15_⟩
           have n16_ : Aside0 (gb257 ≠ gb261) := ⟨h16_⟩
           have n17_ : Aside0 (gb261 ≠ gb257) := ⟨h17_⟩
           have n18_ : Aside0 (Below w.heap.size w w64) := ⟨h18_⟩
           clear BK256
           clear BK257
           clear HB
           clear h0_ h1_ h2_ h3_ h4_ h5_ h6_ h7_ h8_ h9_ h10_ h11_ h12_ h13_ h14_ h15_ h16_ h17_ h18_
           have BK256 := n0_
           have BK257 := n1_
           have BK260 := n2_
           have BK261 := n3_
           have GW260 := n4_
           have GE260 := n5_
           have NB256_260 := n6_
           have NB260_256 := n7_
           have NB257_260 := n8_
           have NB260_257 := n9_
           have NB261_260 := n10_
           have NB260_261 := n11_
           have GW261 := n12_
           have GE261 := n13_
           have NB256_261 := n14_
           have NB261_256 := n15_
           have NB257_261 := n16_
           have NB261_257 := n17_
           have HB := n18_
           clear n0_ n1_ n2_ n3_ n4_ n5_ n6_ n7_ n8_ n9_ n10_ n11_ n12_ n13_ n14_ n15_ n16_ n17_ n18_
           have hHeld : w64.cell? ⟨gb256, 0, none⟩ = some (.int .i64 a0_0) ∧ w64.cell? ⟨gb256, 1, none⟩ = some (.slice (some ad258) l0_1.length c0_1) ∧ w64.cell? ⟨gb257, 0, none⟩ = some (.int .i64 a1_0) ∧ w64.cell? ⟨gb257, 1, none⟩ = some (.slice (some ad259) l1_1.length c1_1) ∧ w64.cell? (ad258.add ((x5_2).toNat * 3)) = some (.string ((rd_T52 l0_1 x5_2).f0)) ∧ w64.cell? ⟨(ad258.add ((x5_2).toNat * 3)).block, (ad258.add ((x5_2).toNat * 3)).off + 1, none⟩ = some (.int .i64 ((rd_T52 l0_1 x5_2).f1)) ∧ w64.cell? ⟨(ad258.add ((x5_2).toNat * 3)).block, (ad258.add ((x5_2).toNat * 3)).off + 2, none⟩ = some (.slice A258_2 ((rd_T52 l0_1 x5_2).f2).length c258_2) ∧ w64.cell? (ad259.add ((x5_2).toNat * 3)) = some (.string ((rd_T52 l1_1 x5_2).f0)) ∧ w64.cell? ⟨(ad259.add ((x5_2).toNat * 3)).block, (ad259.add ((x5_2).toNat * 3)).off + 1, none⟩ = some (.int .i64 ((rd_T52 l1_1 x5_2).f1)) ∧ w64.cell? ⟨(ad259.add ((x5_2).toNat * 3)).block, (ad259.add ((x5_2).toNat * 3)).off + 2, none⟩ = some (.slice A259_2 ((rd_T52 l1_1 x5_2).f2).length c259_2) := hS_
           refine norm_ (a' := ?_) ?_ ?_
           rotate_left
           ·simp only [putAll, Act.put, List.setIfInBounds_toArray, List.set_cons_zero, List.set_cons_succ]
            rfl
           refine sOn 12 none (fun K hK => ?_)
           have hs65 : w64.cell? ⟨gb260, 0, none⟩ = some (.string (⟨#[]⟩ : ByteArray)) := (blk_cell BK260.out 0).trans rfl
           have hfs65 := blk_frozen BK260.out 0
           have hns65_0 := NB256_260.out
           have hns65_1 := NB257_260.out
           have hns65_3 := NB261_260.out
           have hms65_0 := NB260_256.out
           have hms65_1 := NB260_257.out
           have hms65_3 := NB260_261.out
           have hs66 : w64.cell? ⟨gb260, 1, none⟩ = some (.int .i64 0) := (blk_cell BK260.out 1).trans rfl
           have hfs66 := blk_frozen BK260.out 1
           have hns66_0 := NB256_260.out
           have hns66_1 := NB257_260.out
           have hns66_3 := NB261_260.out
           have hms66_0 := NB260_256.out
           have hms66_1 := NB260_257.out
           have hms66_3 := NB260_261.out
           have hs67 : w64.cell? ⟨gb260, 2, none⟩ = some (.slice none 0 0) := (blk_cell BK260.out 2).trans rfl
           have hfs67 := blk_frozen BK260.out 2
           have hns67_0 := NB256_260.out
           have hns67_1 := NB257_260.out
           have hns67_3 := NB261_260.out
           have hms67_0 := NB260_256.out
           have hms67_1 := NB260_257.out
           have hms67_3 := NB260_261.out
           refine skip_ (w1 := ?_) (by rfl) rfl ?_ ?_
           rotate_left
           ·go_simp
            rfl
           refine hK.out _ _ ⟨((cell_far (p := ⟨gb260, _, none⟩) NB256_260.out _).trans (((cell_far (p := ⟨gb260, _, none⟩) NB256_260.out _).trans (((cell_far (p := ⟨gb260, _, none⟩) NB256_260.out _).trans (hHeld.1)))))), ((cell_far (p := ⟨gb260, _, none⟩) NB256_260.out _).trans (((cell_far (p := ⟨gb260, _, none⟩) NB256_260.out _).trans (((cell_far (p := ⟨gb260, _, none⟩) NB256_260.out _).trans (hHeld.2.1)))))), ((cell_far (p := ⟨gb260, _, none⟩) NB257_260.out _).trans (((cell_far (p := ⟨gb260, _, none⟩) NB257_260.out _).trans (((cell_far (p := ⟨gb260, _, none⟩) NB257_260.out _).trans (hHeld.2.2.1)))))), ((cell_far (p := ⟨gb260, _, none⟩) NB257_260.out _).trans (((cell_far (p := ⟨gb260, _, none⟩) NB257_260.out _).trans (((cell_far (p := ⟨gb260, _, none⟩) NB257_260.out _).trans (hHeld.2.2.2.1)))))), ((cell_far (p := ⟨gb260, _, none⟩) (far_ne34 hw258_0 GW260.out) _).trans (((cell_far (p := ⟨gb260, _, none⟩) (far_ne34 hw258_0 GW260.out) _).trans (((cell_far (p := ⟨gb260, _, none⟩) (far_ne34 hw258_0 GW260.out) _).trans (hHeld.2.2.2.2.1)))))), ((cell_far (p := ⟨gb260, _, none⟩) (far_ne34 hw258_1 GW260.out) _).trans (((cell_far (p := ⟨gb260, _, none⟩) (far_ne34 hw258_1 GW260.out) _).trans (((cell_far (p := ⟨gb260, _, none⟩) (far_ne34 hw258_1 GW260.out) _).trans (hHeld.2.2.2.2.2.1)))))), ((cell_far (p := ⟨gb260, _, none⟩) (far_ne34 hw258_2 GW260.out) _).trans (((cell_far (p := ⟨gb260, _, none⟩) (far_ne34 hw258_2 GW260.out) _).trans (((cell_far (p := ⟨gb260, _, none⟩) (far_ne34 hw258_2 GW260.out) _).trans (hHeld.2.2.2.2.2.2.1)))))), ((cell_far (p := ⟨gb260, _, none⟩) (far_ne34 hw259_0 GW260.out) _).trans (((cell_far (p := ⟨gb260, _, none⟩) (far_ne34 hw259_0 GW260.out) _).trans (((cell_far (p := ⟨gb260, _, none⟩) (far_ne34 hw259_0 GW260.out) _).trans (hHeld.2.2.2.2.2.2.2.1)))))), ((cell_far (p := ⟨gb260, _, none⟩) (far_ne34 hw259_1 GW260.out) _).trans (((cell_far (p := ⟨gb260, _, none⟩) (far_ne34 hw259_1 GW260.out) _).trans (((cell_far (p := ⟨gb260, _, none⟩) (far_ne34 hw259_1 GW260.out) _).trans (hHeld.2.2.2.2.2.2.2.2.1)))))), ((cell_far (p := ⟨gb260, _, none⟩) (far_ne34 hw259_2 GW260.out) _).trans (((cell_far (p := ⟨gb260, _, none⟩) (far_ne34 hw259_2 GW260.out) _).trans (((cell_far (p := ⟨gb260, _, none⟩) (far_ne34 hw259_2 GW260.out) _).trans (hHeld.2.2.2.2.2.2.2.2.2))))))⟩ (fun hHeld => ?_)
           clear hK K
           refine sOn 13 none (fun K hK => ?_)
           have hs68 : w64.cell? ⟨gb261, 0, none⟩ = some (.string (⟨#[]⟩ : ByteArray)) := (blk_cell BK261.out 0).trans rfl
           have hfs68 := blk_frozen BK261.out 0
           have hns68_0 := NB256_261.out
           have hns68_1 := NB257_261.out
           have hns68_2 := NB260_261.out
           have hms68_0 := NB261_256.out
           have hms68_1 := NB261_257.out
           have hms68_2 := NB261_260.out
           have hs69 : w64.cell? ⟨gb261, 1, none⟩ = some (.int .i64 0) := (blk_cell BK261.out 1).trans rfl
           have hfs69 := blk_frozen BK261.out 1
           have hns69_0 := NB256_261.out
           have hns69_1 := NB257_261.out
           have hns69_2 := NB260_261.out
           have hms69_0 := NB261_256.out
           have hms69_1 := NB261_257.out
           have hms69_2 := NB261_260.out
           have hs70 : w64.cell? ⟨gb261, 2, none⟩ = some (.slice none 0 0) := (blk_cell BK261.out 2).trans rfl
           have hfs70 := blk_frozen BK261.out 2
           have hns70_0 := NB256_261.out
           have hns70_1 := NB257_261.out
           have hns70_2 := NB260_261.out
           have hms70_0 := NB261_256.out
           have hms70_1 := NB261_257.out
           have hms70_2 := NB261_260.out
           refine skip_ (w1 := ?_) (by rfl) rfl ?_ ?_
           rotate_left
           ·go_simp
            rfl
           refine hK.out _ _ ⟨((cell_far (p := ⟨gb261, _, none⟩) NB256_261.out _).trans (((cell_far (p := ⟨gb261, _, none⟩) NB256_261.out _).trans (((cell_far (p := ⟨gb261, _, none⟩) NB256_261.out _).trans (hHeld.1)))))), ((cell_far (p := ⟨gb261, _, none⟩) NB256_261.out _).trans (((cell_far (p := ⟨gb261, _, none⟩) NB256_261.out _).trans (((cell_far (p := ⟨gb261, _, none⟩) NB256_261.out _).trans (hHeld.2.1)))))), ((cell_far (p := ⟨gb261, _, none⟩) NB257_261.out _).trans (((cell_far (p := ⟨gb261, _, none⟩) NB257_261.out _).trans (((cell_far (p := ⟨gb261, _, none⟩) NB257_261.out _).trans (hHeld.2.2.1)))))), ((cell_far (p := ⟨gb261, _, none⟩) NB257_261.out _).trans (((cell_far (p := ⟨gb261, _, none⟩) NB257_261.out _).trans (((cell_far (p := ⟨gb261, _, none⟩) NB257_261.out _).trans (hHeld.2.2.2.1)))))), ((cell_far (p := ⟨gb261, _, none⟩) (far_ne34 hw258_0 GW261.out) _).trans (((cell_far (p := ⟨gb261, _, none⟩) (far_ne34 hw258_0 GW261.out) _).trans (((cell_far (p := ⟨gb261, _, none⟩) (far_ne34 hw258_0 GW261.out) _).trans (hHeld.2.2.2.2.1)))))), ((cell_far (p := ⟨gb261, _, none⟩) (far_ne34 hw258_1 GW261.out) _).trans (((cell_far (p := ⟨gb261, _, none⟩) (far_ne34 hw258_1 GW261.out) _).trans (((cell_far (p := ⟨gb261, _, none⟩) (far_ne34 hw258_1 GW261.out) _).trans (hHeld.2.2.2.2.2.1)))))), ((cell_far (p := ⟨gb261, _, none⟩) (far_ne34 hw258_2 GW261.out) _).trans (((cell_far (p := ⟨gb261, _, none⟩) (far_ne34 hw258_2 GW261.out) _).trans (((cell_far (p := ⟨gb261, _, none⟩) (far_ne34 hw258_2 GW261.out) _).trans (hHeld.2.2.2.2.2.2.1)))))), ((cell_far (p := ⟨gb261, _, none⟩) (far_ne34 hw259_0 GW261.out) _).trans (((cell_far (p := ⟨gb261, _, none⟩) (far_ne34 hw259_0 GW261.out) _).trans (((cell_far (p := ⟨gb261, _, none⟩) (far_ne34 hw259_0 GW261.out) _).trans (hHeld.2.2.2.2.2.2.2.1)))))), ((cell_far (p := ⟨gb261, _, none⟩) (far_ne34 hw259_1 GW261.out) _).trans (((cell_far (p := ⟨gb261, _, none⟩) (far_ne34 hw259_1 GW261.out) _).trans (((cell_far (p := ⟨gb261, _, none⟩) (far_ne34 hw259_1 GW261.out) _).trans (hHeld.2.2.2.2.2.2.2.2.1)))))), ((cell_far (p := ⟨gb261, _, none⟩) (far_ne34 hw259_2 GW261.out) _).trans (((cell_far (p := ⟨gb261, _, none⟩) (far_ne34 hw259_2 GW261.out) _).trans (((cell_far (p := ⟨gb261, _, none⟩) (far_ne34 hw259_2 GW261.out) _).trans (hHeld.2.2.2.2.2.2.2.2.2))))))⟩ (fun hHeld => ?_)
           clear hK K
           refine done_ (done_of HT_.out (by kernel_rfl)) ?_
           have hnb71 := NB260_256.out
           have hnc71 := NB256_260.out
           have hnb72 := NB260_257.out
           have hnc72 := NB257_260.out
           have hnb73 := NB260_261.out
           have hnc73 := NB261_260.out
           obtain ⟨hcz74_0, hcz74_1, hcz74_2, hfz74_0, hfz74_1, hfz74_2⟩ := bq3 BK260
           have hnb75 := NB261_256.out
           have hnc75 := NB256_261.out
           have hnb76 := NB261_257.out
           have hnc76 := NB257_261.out
           obtain ⟨hcz77_0, hcz77_1, hcz77_2, hfz77_0, hfz77_1, hfz77_2⟩ := bq3 BK261
           try go_wp2
           go_ret
           exact ⟨eN, bel⟩
         ·rw [if_neg c17] at H
          have c17b0 : (((rd_T52 l0_1 x5_2).f0).toList == ((rd_T52 l1_1 x5_2).f0).toList) = false := beq_eq_false_iff_ne.mpr c17
          have c17b1 : (((rd_T52 l0_1 x5_2).f0).toList != ((rd_T52 l1_1 x5_2).f0).toList) = true := bne_iff_ne.mpr c17
          obtain rfl := Option.some.inj H
          have hnb78 := NB256_257.out
          have hnc78 := NB257_256.out
          obtain ⟨hcz79_0, hcz79_1, hfz79_0, hfz79_1⟩ := bq2 BK256
          try go_wp2
          replace BK256 := Aside0.mk (blk_drew BK256.out)
          replace BK257 := Aside0.mk (blk_drew BK257.out)
          replace HB := Aside0.mk (below_drew1 HB.out)
          have p258 : 0 ≤ (x5_2 : Int) := dtr
          have q258 : x5_2 < (l0_1.length : Int) := dtr
          obtain ⟨ad258, A258_2, c258_2, e258, hx258_0, hx258_1, hx258_2, hl258_2, hi258_2⟩ := at_T52 HR0_1.out x5_2 p258 q258
          have hw258_2 := hx258_2
          have hw258_1 := hx258_1
          have hw258_0 := hx258_0
          cases e258
          replace hx258_0 := oc hx258_0
          replace hx258_1 := oc hx258_1
          replace hx258_2 := oc hx258_2
          have HR258_2 := Aside0.mk hi258_2
          have HC258_2 := Aside0.mk hl258_2
          clear hi258_2 hl258_2
          replace p258 := eq_true p258
          replace q258 := eq_true q258
          have p259 : 0 ≤ (x5_2 : Int) := dtr
          have q259 : x5_2 < (l1_1.length : Int) := dtr
          obtain ⟨ad259, A259_2, c259_2, e259, hx259_0, hx259_1, hx259_2, hl259_2, hi259_2⟩ := at_T52 HR1_1.out x5_2 p259 q259
          have hw259_2 := hx259_2
          have hw259_1 := hx259_1
          have hw259_0 := hx259_0
          cases e259
          replace hx259_0 := oc hx259_0
          replace hx259_1 := oc hx259_1
          replace hx259_2 := oc hx259_2
          have HR259_2 := Aside0.mk hi259_2
          have HC259_2 := Aside0.mk hl259_2
          clear hi259_2 hl259_2
          replace p259 := eq_true p259
          replace q259 := eq_true q259
          refine start_ (n := 14) (S := fun w' => w'.cell? ⟨gb256, 0, none⟩ = some (.int .i64 a0_0) ∧ w'.cell? ⟨gb256, 1, none⟩ = some (.slice (some ad258) l0_1.length c0_1) ∧ w'.cell? ⟨gb257, 0, none⟩ = some (.int .i64 a1_0) ∧ w'.cell? ⟨gb257, 1, none⟩ = some (.slice (some ad259) l1_1.length c1_1) ∧ w'.cell? (ad258.add ((x5_2).toNat * 3)) = some (.string ((rd_T52 l0_1 x5_2).f0)) ∧ w'.cell? ⟨(ad258.add ((x5_2).toNat * 3)).block, (ad258.add ((x5_2).toNat * 3)).off + 1, none⟩ = some (.int .i64 ((rd_T52 l0_1 x5_2).f1)) ∧ w'.cell? ⟨(ad258.add ((x5_2).toNat * 3)).block, (ad258.add ((x5_2).toNat * 3)).off + 2, none⟩ = some (.slice A258_2 ((rd_T52 l0_1 x5_2).f2).length c258_2) ∧ w'.cell? (ad259.add ((x5_2).toNat * 3)) = some (.string ((rd_T52 l1_1 x5_2).f0)) ∧ w'.cell? ⟨(ad259.add ((x5_2).toNat * 3)).block, (ad259.add ((x5_2).toNat * 3)).off + 1, none⟩ = some (.int .i64 ((rd_T52 l1_1 x5_2).f1)) ∧ w'.cell? ⟨(ad259.add ((x5_2).toNat * 3)).block, (ad259.add ((x5_2).toNat * 3)).off + 2, none⟩ = some (.slice A259_2 ((rd_T52 l1_1 x5_2).f2).length c259_2)) (ds := []) #[false, false, false, false, false, false, false, false, false, false, false, false, false, false] (by kernel_rfl) rfl rfl ⟨(blk_cell BK256.out 0).trans rfl, (blk_cell BK256.out 1).trans rfl, (blk_cell BK257.out 0).trans rfl, (blk_cell BK257.out 1).trans rfl, (oc hw258_0), (oc hw258_1), (oc hw258_2), (oc hw259_0), (oc hw259_1), (oc hw259_2)⟩ (fun hHeld => ?_); refine with_tabW paraphrastref01_Same.tab6 paraphrastref01_Same.bits6 (fun HT_ HW_ => ?_)
          generalize wr.drew = w80 at BK256 BK257 HB HR258_2 HR259_2 hx258_0 hx258_1 hx258_2 hx259_0 hx259_1 hx259_2 hHeld ⊢
          refine sPu 0 (some 29) ?_
          refine sPu 2 (some 31) ?_
          refine sPu 5 (some 34) ?_
          refine sPu 7 (some 36) ?_
          refine sTk 1 (some 30) ?_
          refine sPu 3 (some 32) ?_
          refine sTk 4 (some 33) ?_
          refine sTk 6 (some 35) ?_
          refine sPu 8 (some 37) ?_
          refine sTk 9 (some 38) ?_
          refine join_ (σ := Nat × Nat) 2 #[true, true, true, true, true, true, true, true, true, true, true, true, false, false] (fun s_ => [(6, .pointer (some ⟨s_.1, 0, none⟩)), (7, .pointer (some ⟨s_.2, 0, none⟩))]) (fun s_ w' => (w'.cell? ⟨gb256, 0, none⟩ = some (.int .i64 a0_0) ∧ w'.cell? ⟨gb256, 1, none⟩ = some (.slice (some ad258) l0_1.length c0_1) ∧ w'.cell? ⟨gb257, 0, none⟩ = some (.int .i64 a1_0) ∧ w'.cell? ⟨gb257, 1, none⟩ = some (.slice (some ad259) l1_1.length c1_1) ∧ w'.cell? (ad258.add ((x5_2).toNat * 3)) = some (.string ((rd_T52 l0_1 x5_2).f0)) ∧ w'.cell? ⟨(ad258.add ((x5_2).toNat * 3)).block, (ad258.add ((x5_2).toNat * 3)).off + 1, none⟩ = some (.int .i64 ((rd_T52 l0_1 x5_2).f1)) ∧ w'.cell? ⟨(ad258.add ((x5_2).toNat * 3)).block, (ad258.add ((x5_2).toNat * 3)).off + 2, none⟩ = some (.slice A258_2 ((rd_T52 l0_1 x5_2).f2).length c258_2) ∧ w'.cell? (ad259.add ((x5_2).toNat * 3)) = some (.string ((rd_T52 l1_1 x5_2).f0)) ∧ w'.cell? ⟨(ad259.add ((x5_2).toNat * 3)).block, (ad259.add ((x5_2).toNat * 3)).off + 1, none⟩ = some (.int .i64 ((rd_T52 l1_1 x5_2).f1)) ∧ w'.cell? ⟨(ad259.add ((x5_2).toNat * 3)).block, (ad259.add ((x5_2).toNat * 3)).off + 2, none⟩ = some (.slice A259_2 ((rd_T52 l1_1 x5_2).f2).length c259_2)) ∧ (w'.heap[gb256]? = some (.cells #[.int .i64 a0_0, .slice (some ad258) l0_1.length c0_1] 24 (0, 0))) ∧ (w'.heap[gb257]? = some (.cells #[.int .i64 a1_0, .slice (some ad259) l1_1.length c1_1] 24 (0, 0))) ∧ (w'.heap[s_.1]? = some (.cells #[.string (⟨#[]⟩ : ByteArray), .int .i64 0, .slice none 0 0] 52 (0, 0))) ∧ (w'.heap[s_.2]? = some (.cells #[.string (⟨#[]⟩ : ByteArray), .int .i64 0, .slice none 0 0] 52 (0, 0))) ∧ (w.heap.size ≤ s_.1) ∧ (w.heap.size ≤ s_.1) ∧ (gb256 ≠ s_.1) ∧ (s_.1 ≠ gb256) ∧ (gb257 ≠ s_.1) ∧ (s_.1 ≠ gb257) ∧ (s_.2 ≠ s_.1) ∧ (s_.1 ≠ s_.2) ∧ (w.heap.size ≤ s_.2) ∧ (w.heap.size ≤ s_.2) ∧ (gb256 ≠ s_.2) ∧ (s_.2 ≠ gb256) ∧ (gb257 ≠ s_.2) ∧ (s_.2 ≠ gb257) ∧ (Below w.heap.size w w')) ?_ ?_
          rotate_left
          ·intro hCont
           refine two_ (i := 10) (j := 11) (Ni := some 6) (Nj := some 7) #[true, true, true, true, true, true, true, true, true, true, true, false, false, false] #[true, true, true, true, true, true, true, true, true, true, false, true, false, false] rfl rfl rfl rfl (two_of HT_.out (by kernel_rfl)) (by decide) (by decide) (fun K hK => ?_) (fun K hK => ?_)
           ·skip
            refine box_step ?hg (N := 6) ?hd (cs := #[.string (⟨#[]⟩ : ByteArray), .int .i64 0, .slice none 0 0]) (t := 52) ?hr ?_; (case hd => rfl); (case hg => rfl); (case hr => first | (go_simp; done) | (go_simp; rfl))
            intro gb260 hg w81 hbox hb
            have BK260 := Aside0.mk (hbox)
            have GW260 := geB w hg
            have GE260 := geB w hg
            have NB256_260 := neL BK256 hg
            have NB260_256 := neG BK256 hg
            have NB257_260 := neL BK257 hg
            have NB260_257 := neG BK257 hg
            replace BK256 := blB BK256 hb
            replace BK257 := blB BK257 hb
            replace HB := Aside0.mk (below_step bel hb)
            clear hb hbox hg
            refine hK.out _ _ ⟨(blk_cell BK256.out 0).trans rfl, (blk_cell BK256.out 1).trans rfl, (blk_cell BK257.out 0).trans rfl, (blk_cell BK257.out 1).trans rfl, (oc hw258_0), (oc hw258_1), (oc hw258_2), (oc hw259_0), (oc hw259_1), (oc hw259_2)⟩ (fun hHeld => ?_)
            clear hK K
            refine norm_ (a' := ?_) ?_ ?_
            rotate_left
            ·show Act.put _ (some 6) _ = _
             simp only [Act.put, List.setIfInBounds_toArray, List.set_cons_zero, List.set_cons_succ, i64_w, i32_w]
             rfl
            refine sOn 11 (some 7) (fun K hK => ?_)
            refine box_step ?hg (N := 7) ?hd (cs := #[.string (⟨#[]⟩ : ByteArray), .int .i64 0, .slice none 0 0]) (t := 52) ?hr ?_; (case hd => rfl); (case hg => rfl); (case hr => first | (go_simp; done) | (go_simp; rfl))
            intro gb261 hg w82 hbox hb
            have BK261 := Aside0.mk (hbox)
            have GW261 := geB w hg
            have GE261 := geB w hg
            have NB256_261 := neL BK256 hg
            have NB261_256 := neG BK256 hg
            have NB257_261 := neL BK257 hg
            have NB261_257 := neG BK257 hg
            have NB260_261 := neL BK260 hg
            have NB261_260 := neG BK260 hg
            replace BK256 := blB BK256 hb
            replace BK257 := blB BK257 hb
            replace BK260 := blB BK260 hb
            replace HB := Aside0.mk (below_step bel hb)
            clear hb hbox hg
            refine hK.out _ _ ⟨(blk_cell BK256.out 0).trans rfl, (blk_cell BK256.out 1).trans rfl, (blk_cell BK257.out 0).trans rfl, (blk_cell BK257.out 1).trans rfl, (oc hw258_0), (oc hw258_1), (oc hw258_2), (oc hw259_0), (oc hw259_1), (oc hw259_2)⟩ (fun hHeld => ?_)
            clear hK K
            refine norm_ (a' := ?_) ?_ ?_
            rotate_left
            ·show Act.put _ (some 7) _ = _
             simp only [Act.put, List.setIfInBounds_toArray, List.set_cons_zero, List.set_cons_succ, i64_w, i32_w]
             rfl
            exact norm_ (by simp only [putAll, Act.put, List.setIfInBounds_toArray, List.set_cons_zero, List.set_cons_succ]) (hCont (gb260, gb261) _ ⟨hHeld, (bk BK256), (bk BK257), (bk BK260), (bk BK261), GW260.out, GE260.out, NB256_260.out, NB260_256.out, NB257_260.out, NB260_257.out, NB261_260.out, NB260_261.out, GW261.out, GE261.out, NB256_261.out, NB261_256.out, NB257_261.out, NB261_257.out, bel⟩)
           ·skip
            refine box_step ?hg (N := 7) ?hd (cs := #[.string (⟨#[]⟩ : ByteArray), .int .i64 0, .slice none 0 0]) (t := 52) ?hr ?_; (case hd => rfl); (case hg => rfl); (case hr => first | (go_simp; done) | (go_simp; rfl))
            intro gb261 hg w81 hbox hb
            have BK261 := Aside0.mk (hbox)
            have GW261 := geB w hg
            have GE261 := geB w hg
            have NB256_261 := neL BK256 hg
            have NB261_256 := neG BK256 hg
            have NB257_261 := neL BK257 hg
            have NB261_257 := neG BK257 hg
            replace BK256 := blB BK256 hb
            replace BK257 := blB BK257 hb
            replace HB := Aside0.mk (below_step bel hb)
            clear hb hbox hg
            refine hK.out _ _ ⟨(blk_cell BK256.out 0).trans rfl, (blk_cell BK256.out 1).trans rfl, (blk_cell BK257.out 0).trans rfl, (blk_cell BK257.out 1).trans rfl, (oc hw258_0), (oc hw258_1), (oc hw258_2), (oc hw259_0), (oc hw259_1), (oc hw259_2)⟩ (fun hHeld => ?_)
            clear hK K
            refine norm_ (a' := ?_) ?_ ?_
            rotate_left
            ·show Act.put _ (some 7) _ = _
             simp only [Act.put, List.setIfInBounds_toArray, List.set_cons_zero, List.set_cons_succ, i64_w, i32_w]
             rfl
            refine sOn 10 (some 6) (fun K hK => ?_)
            refine box_step ?hg (N := 6) ?hd (cs := #[.string (⟨#[]⟩ : ByteArray), .int .i64 0, .slice none 0 0]) (t := 52) ?hr ?_; (case hd => rfl); (case hg => rfl); (case hr => first | (go_simp; done) | (go_simp; rfl))
            intro gb260 hg w82 hbox hb
            have BK260 := Aside0.mk (hbox)
            have GW260 := geB w hg
            have GE260 := geB w hg
            have NB256_260 := neL BK256 hg
            have NB260_256 := neG BK256 hg
            have NB257_260 := neL BK257 hg
            have NB260_257 := neG BK257 hg
            have NB261_260 := neL BK261 hg
            have NB260_261 := neG BK261 hg
            replace BK256 := blB BK256 hb
            replace BK257 := blB BK257 hb
            replace BK261 := blB BK261 hb
            replace HB := Aside0.mk (below_step bel hb)
            clear hb hbox hg
            refine hK.out _ _ ⟨(blk_cell BK256.out 0).trans rfl, (blk_cell BK256.out 1).trans rfl, (blk_cell BK257.out 0).trans rfl, (blk_cell BK257.out 1).trans rfl, (oc hw258_0), (oc hw258_1), (oc hw258_2), (oc hw259_0), (oc hw259_1), (oc hw259_2)⟩ (fun hHeld => ?_)
            clear hK K
            refine norm_ (a' := ?_) ?_ ?_
            rotate_left
            ·show Act.put _ (some 6) _ = _
             simp only [Act.put, List.setIfInBounds_toArray, List.set_cons_zero, List.set_cons_succ, i64_w, i32_w]
             rfl
            exact norm_ (by simp only [putAll, Act.put, List.setIfInBounds_toArray, List.set_cons_zero, List.set_cons_succ]) (hCont (gb260, gb261) _ ⟨hHeld, (bk BK256), (bk BK257), (bk BK260), (bk BK261), GW260.out, GE260.out, NB256_260.out, NB260_256.out, NB257_260.out, NB260_257.out, NB261_260.out, NB260_261.out, GW261.out, GE261.out, NB256_261.out, NB261_256.out, NB257_261.out, NB261_257.out, bel⟩)
          rintro ⟨gb260, gb261⟩ w83 ⟨hS_, h0_, h1_, h2_, h3_, h4_, h5_, h6_, h7_, h8_, h9_, h10_, h11_, h12_, h13_, h14_, h15_, h16_, h17_, h18_⟩
          have n0_ : Aside0 (w83.heap[gb256]? = some (.cells #[.int .i64 a0_0, .slice (some ad258) l0_1.length c0_1] 24 (0, 0))) := ⟨h0_⟩
          have n1_ : Aside0 (w83.heap[gb257]? = some (.cells #[.int .i64 a1_0, .slice (some ad259) l1_1.length c1_1] 24 (0, 0))) := ⟨h1_⟩
          have n2_ : Aside0 (w83.heap[gb260]? = some (.cells #[.string (⟨#[]⟩ : ByteArray), .int .i64 0, .slice none 0 0] 52 (0, 0))) := ⟨h2_⟩
          have n3_ : Aside0 (w83.heap[gb261]? = some (.cells #[.string (⟨#[]⟩ : ByteArray), .int .i64 0, .slice none 0 0] 52 (0, 0))) := ⟨h3_⟩
          have n4_ : Aside0 (w.heap.size ≤ gb260) := ⟨h4_⟩
          have n5_ : Aside0 (w.heap.size ≤ gb260) := ⟨h5_⟩
          have n6_ : Aside0 (gb256 ≠ gb260) := ⟨h6_⟩
          have n7_ : Aside0 (gb260 ≠ gb256) := ⟨h7_⟩
          have n8_ : Aside0 (gb257 ≠ gb260) := ⟨h8_⟩
          have n9_ : Aside0 (gb260 ≠ gb257) := ⟨h9_⟩
          have n10_ : Aside0 (gb261 ≠ gb260) := ⟨h10_⟩
          have n11_ : Aside0 (gb260 ≠ gb261) := ⟨h11_⟩
          have n12_ : Aside0 (w.heap.size ≤ gb261) := ⟨h12_⟩
          have n13_ : Aside0 (w.heap.size ≤ gb261) := ⟨h13_⟩
          have n14_ : Aside0 (gb256 ≠ gb261) := ⟨h14_⟩
          have n15_ : Aside0 (gb261 ≠ gb256) := ⟨h15_⟩
          have n16_ : Aside0 (gb257 ≠ gb261) := ⟨h16_⟩
          have n17_ : Aside0 (gb261 ≠ gb257) := ⟨h17_⟩
          have n18_ : Aside0 (Below w.heap.size w w83) := ⟨h18_⟩
          clear BK256
          clear BK257
          clear HB
          clear h0_ h1_ h2_ h3_ h4_ h5_ h6_ h7_ h8_ h9_ h10_ h11_ h12_ h13_ h14_ h15_ h16_ h17_ h18_
          have BK256 := n0_
          have BK257 := n1_
          have BK260 := n2_
          have BK261 := n3_
          have GW260 := n4_
          have GE260 := n5_
          have NB256_260 := n6_
          have NB260_256 := n7_
          have NB257_260 := n8_
          have NB260_257 := n9_
          have NB261_260 := n10_
          have NB260_261 := n11_
          have GW261 := n12_
          have GE261 := n13_
          have NB256_261 := n14_
          have NB261_256 := n15_
          have NB257_261 := n16_
          have NB261_257 := n17_
          have HB := n18_
          clear n0_ n1_ n2_ n3_ n4_ n5_ n6_ n7_ n8_ n9_ n10_ n11_ n12_ n13_ n14_ n15_ n16_ n17_ n18_
          have hHeld : w83.cell? ⟨gb256, 0, none⟩ = some (.int .i64 a0_0) ∧ w83.cell? ⟨gb256, 1, none⟩ = some (.slice (some ad258) l0_1.length c0_1) ∧ w83.cell? ⟨gb257, 0, none⟩ = some (.int .i64 a1_0) ∧ w83.cell? ⟨gb257, 1, none⟩ = some (.slice (some ad259) l1_1.length c1_1) ∧ w83.cell? (ad258.add ((x5_2).toNat * 3)) = some (.string ((rd_T52 l0_1 x5_2).f0)) ∧ w83.cell? ⟨(ad258.add ((x5_2).toNat * 3)).block, (ad258.add ((x5_2).toNat * 3)).off + 1, none⟩ = some (.int .i64 ((rd_T52 l0_1 x5_2).f1)) ∧ w83.cell? ⟨(ad258.add ((x5_2).toNat * 3)).block, (ad258.add ((x5_2).toNat * 3)).off + 2, none⟩ = some (.slice A258_2 ((rd_T52 l0_1 x5_2).f2).length c258_2) ∧ w83.cell? (ad259.add ((x5_2).toNat * 3)) = some (.string ((rd_T52 l1_1 x5_2).f0)) ∧ w83.cell? ⟨(ad259.add ((x5_2).toNat * 3)).block, (ad259.add ((x5_2).toNat * 3)).off + 1, none⟩ = some (.int .i64 ((rd_T52 l1_1 x5_2).f1)) ∧ w83.cell? ⟨(ad259.add ((x5_2).toNat * 3)).block, (ad259.add ((x5_2).toNat * 3)).off + 2, none⟩ = some (.slice A259_2 ((rd_T52 l1_1 x5_2).f2).length c259_2) := hS_
          refine norm_ (a' := ?_) ?_ ?_
          rotate_left
          ·simp only [putAll, Act.put, List.setIfInBounds_toArray, List.set_cons_zero, List.set_cons_succ]
           rfl
          refine sOn 12 none (fun K hK => ?_)
          have hs84 : w83.cell? ⟨gb260, 0, none⟩ = some (.string (⟨#[]⟩ : ByteArray)) := (blk_cell BK260.out 0).trans rfl
          have hfs84 := blk_frozen BK260.out 0
          have hns84_0 := NB256_260.out
          have hns84_1 := NB257_260.out
          have hns84_3 := NB261_260.out
          have hms84_0 := NB260_256.out
          have hms84_1 := NB260_257.out
          have hms84_3 := NB260_261.out
          have hs85 : w83.cell? ⟨gb260, 1, none⟩ = some (.int .i64 0) := (blk_cell BK260.out 1).trans rfl
          have hfs85 := blk_frozen BK260.out 1
          have hns85_0 := NB256_260.out
          have hns85_1 := NB257_260.out
          have hns85_3 := NB261_260.out
          have hms85_0 := NB260_256.out
          have hms85_1 := NB260_257.out
          have hms85_3 := NB260_261.out
          have hs86 : w83.cell? ⟨gb260, 2, none⟩ = some (.slice none 0 0) := (blk_cell BK260.out 2).trans rfl
          have hfs86 := blk_frozen BK260.out 2
          have hns86_0 := NB256_260.out
          have hns86_1 := NB257_260.out
          have hns86_3 := NB261_260.out
          have hms86_0 := NB260_256.out
          have hms86_1 := NB260_257.out
          have hms86_3 := NB260_261.out
          refine skip_ (w1 := ?_) (by rfl) rfl ?_ ?_
          rotate_left
          ·go_simp
           rfl
          refine hK.out _ _ ⟨((cell_far (p := ⟨gb260, _, none⟩) NB256_260.out _).trans (((cell_far (p := ⟨gb260, _, none⟩) NB256_260.out _).trans (((cell_far (p := ⟨gb260, _, none⟩) NB256_260.out _).trans (hHeld.1)))))), ((cell_far (p := ⟨gb260, _, none⟩) NB256_260.out _).trans (((cell_far (p := ⟨gb260, _, none⟩) NB256_260.out _).trans (((cell_far (p := ⟨gb260, _, none⟩) NB256_260.out _).trans (hHeld.2.1)))))), ((cell_far (p := ⟨gb260, _, none⟩) NB257_260.out _).trans (((cell_far (p := ⟨gb260, _, none⟩) NB257_260.out _).trans (((cell_far (p := ⟨gb260, _, none⟩) NB257_260.out _).trans (hHeld.2.2.1)))))), ((cell_far (p := ⟨gb260, _, none⟩) NB257_260.out _).trans (((cell_far (p := ⟨gb260, _, none⟩) NB257_260.out _).trans (((cell_far (p := ⟨gb260, _, none⟩) NB257_260.out _).trans (hHeld.2.2.2.1)))))), ((cell_far (p := ⟨gb260, _, none⟩) (far_ne34 hw258_0 GW260.out) _).trans (((cell_far (p := ⟨gb260, _, none⟩) (far_ne34 hw258_0 GW260.out) _).trans (((cell_far (p := ⟨gb260, _, none⟩) (far_ne34 hw258_0 GW260.out) _).trans (hHeld.2.2.2.2.1)))))), ((cell_far (p := ⟨gb260, _, none⟩) (far_ne34 hw258_1 GW260.out) _).trans (((cell_far (p := ⟨gb260, _, none⟩) (far_ne34 hw258_1 GW260.out) _).trans (((cell_far (p := ⟨gb260, _, none⟩) (far_ne34 hw258_1 GW260.out) _).trans (hHeld.2.2.2.2.2.1)))))), ((cell_far (p := ⟨gb260, _, none⟩) (far_ne34 hw258_2 GW260.out) _).trans (((cell_far (p := ⟨gb260, _, none⟩) (far_ne34 hw258_2 GW260.out) _).trans (((cell_far (p := ⟨gb260, _, none⟩) (far_ne34 hw258_2 GW260.out) _).trans (hHeld.2.2.2.2.2.2.1)))))), ((cell_far (p := ⟨gb260, _, none⟩) (far_ne34 hw259_0 GW260.out) _).trans (((cell_far (p := ⟨gb260, _, none⟩) (far_ne34 hw259_0 GW260.out) _).trans (((cell_far (p := ⟨gb260, _, none⟩) (far_ne34 hw259_0 GW260.out) _).trans (hHeld.2.2.2.2.2.2.2.1)))))), ((cell_far (p := ⟨gb260, _, none⟩) (far_ne34 hw259_1 GW260.out) _).trans (((cell_far (p := ⟨gb260, _, none⟩) (far_ne34 hw259_1 GW260.out) _).trans (((cell_far (p := ⟨gb260, _, none⟩) (far_ne34 hw259_1 GW260.out) _).trans (hHeld.2.2.2.2.2.2.2.2.1)))))), ((cell_far (p := ⟨gb260, _, none⟩) (far_ne34 hw259_2 GW260.out) _).trans (((cell_far (p := ⟨gb260, _, none⟩) (far_ne34 hw259_2 GW260.out) _).trans (((cell_far (p := ⟨gb260, _, none⟩) (far_ne34 hw259_2 GW260.out) _).trans (hHeld.2.2.2.2.2.2.2.2.2))))))⟩ (fun hHeld => ?_)
          clear hK K
          refine sOn 13 none (fun K hK => ?_)
          have hs87 : w83.cell? ⟨gb261, 0, none⟩ = some (.string (⟨#[]⟩ : ByteArray)) := (blk_cell BK261.out 0).trans rfl
          have hfs87 := blk_frozen BK261.out 0
          have hns87_0 := NB256_261.out
          have hns87_1 := NB257_261.out
          have hns87_2 := NB260_261.out
          have hms87_0 := NB261_256.out
          have hms87_1 := NB261_257.out
          have hms87_2 := NB261_260.out
          have hs88 : w83.cell? ⟨gb261, 1, none⟩ = some (.int .i64 0) := (blk_cell BK261.out 1).trans rfl
          have hfs88 := blk_frozen BK261.out 1
          have hns88_0 := NB256_261.out
          have hns88_1 := NB257_261.out
          have hns88_2 := NB260_261.out
          have hms88_0 := NB261_256.out
          have hms88_1 := NB261_257.out
          have hms88_2 := NB261_260.out
          have hs89 : w83.cell? ⟨gb261, 2, none⟩ = some (.slice none 0 0) := (blk_cell BK261.out 2).trans rfl
          have hfs89 := blk_frozen BK261.out 2
          have hns89_0 := NB256_261.out
          have hns89_1 := NB257_261.out
          have hns89_2 := NB260_261.out
          have hms89_0 := NB261_256.out
          have hms89_1 := NB261_257.out
          have hms89_2 := NB261_260.out
          refine skip_ (w1 := ?_) (by rfl) rfl ?_ ?_
          rotate_left
          ·go_simp
           rfl
          refine hK.out _ _ ⟨((cell_far (p := ⟨gb261, _, none⟩) NB256_261.out _).trans (((cell_far (p := ⟨gb261, _, none⟩) NB256_261.out _).trans (((cell_far (p := ⟨gb261, _, none⟩) NB256_261.out _).trans (hHeld.1)))))), ((cell_far (p := ⟨gb261, _, none⟩) NB256_261.out _).trans (((cell_far (p := ⟨gb261, _, none⟩) NB256_261.out _).trans (((cell_far (p := ⟨gb261, _, none⟩) NB256_261.out _).trans (hHeld.2.1)))))), ((cell_far (p := ⟨gb261, _, none⟩) NB257_261.out _).trans (((cell_far (p := ⟨gb261, _, none⟩) NB257_261.out _).trans (((cell_far (p := ⟨gb261, _, none⟩) NB257_261.out _).trans (hHeld.2.2.1)))))), ((cell_far (p := ⟨gb261, _, none⟩) NB257_261.out _).trans (((cell_far (p := ⟨gb261, _, none⟩) NB257_261.out _).trans (((cell_far (p := ⟨gb261, _, none⟩) NB257_261.out _).trans (hHeld.2.2.2.1)))))), ((cell_far (p := ⟨gb261, _, none⟩) (far_ne34 hw258_0 GW261.out) _).trans (((cell_far (p := ⟨gb261, _, none⟩) (far_ne34 hw258_0 GW261.out) _).trans (((cell_far (p := ⟨gb261, _, none⟩) (far_ne34 hw258_0 GW261.out) _).trans (hHeld.2.2.2.2.1)))))), ((cell_far (p := ⟨gb261, _, none⟩) (far_ne34 hw258_1 GW261.out) _).trans (((cell_far (p := ⟨gb261, _, none⟩) (far_ne34 hw258_1 GW261.out) _).trans (((cell_far (p := ⟨gb261, _, none⟩) (far_ne34 hw258_1 GW261.out) _).trans (hHeld.2.2.2.2.2.1)))))), ((cell_far (p := ⟨gb261, _, none⟩) (far_ne34 hw258_2 GW261.out) _).trans (((cell_far (p := ⟨gb261, _, none⟩) (far_ne34 hw258_2 GW261.out) _).trans (((cell_far (p := ⟨gb261, _, none⟩) (far_ne34 hw258_2 GW261.out) _).trans (hHeld.2.2.2.2.2.2.1)))))), ((cell_far (p := ⟨gb261, _, none⟩) (far_ne34 hw259_0 GW261.out) _).trans (((cell_far (p := ⟨gb261, _, none⟩) (far_ne34 hw259_0 GW261.out) _).trans (((cell_far (p := ⟨gb261, _, none⟩) (far_ne34 hw259_0 GW261.out) _).trans (hHeld.2.2.2.2.2.2.2.1)))))), ((cell_far (p := ⟨gb261, _, none⟩) (far_ne34 hw259_1 GW261.out) _).trans (((cell_far (p := ⟨gb261, _, none⟩) (far_ne34 hw259_1 GW261.out) _).trans (((cell_far (p := ⟨gb261, _, none⟩) (far_ne34 hw259_1 GW261.out) _).trans (hHeld.2.2.2.2.2.2.2.2.1)))))), ((cell_far (p := ⟨gb261, _, none⟩) (far_ne34 hw259_2 GW261.out) _).trans (((cell_far (p := ⟨gb261, _, none⟩) (far_ne34 hw259_2 GW261.out) _).trans (((cell_far (p := ⟨gb261, _, none⟩) (far_ne34 hw259_2 GW261.out) _).trans (hHeld.2.2.2.2.2.2.2.2.2))))))⟩ (fun hHeld => ?_)
          clear hK K
          refine done_ (done_of HT_.out (by kernel_rfl)) ?_
          have hnb90 := NB260_256.out
          have hnc90 := NB256_260.out
          have hnb91 := NB260_257.out
          have hnc91 := NB257_260.out
          have hnb92 := NB260_261.out
          have hnc92 := NB261_260.out
          obtain ⟨hcz93_0, hcz93_1, hcz93_2, hfz93_0, hfz93_1, hfz93_2⟩ := bq3 BK260
          have hnb94 := NB261_256.out
          have hnc94 := NB256_261.out
          have hnb95 := NB261_257.out
          have hnc95 := NB257_261.out
          obtain ⟨hcz96_0, hcz96_1, hcz96_2, hfz96_0, hfz96_1, hfz96_2⟩ := bq3 BK261
          try go_wp2
          go_ret
          exact ⟨eN, bel⟩
        ·rw [if_neg c16] at H
         exact absurd H (by simp)
       ·rw [if_neg c15] at H
        exact absurd H (by simp)
      ·rw [if_neg c14] at H
       have c14b0 : decide (x5_2 < (l0_1.length : Int)) = false := decide_eq_false c14
       clear c14
       obtain rfl := Option.some.inj H
       have hnb97 := NB256_257.out
       have hnc97 := NB257_256.out
       obtain ⟨hcz98_0, hcz98_1, hfz98_0, hfz98_1⟩ := bq2 BK256
       go_wp2
       go_ret
       exact ⟨eN, bel⟩
end Go.Proofs.YtfmpaofbnjlniaaGreatDoor.F
/- Same, Text and Parse at structures: what they answer. -/
namespace Go.Proofs.YtfmpaofbnjlniaaGreatDoor.F
open Go.RowKit Go.Proofs.YtfmpaofbnjlniaaGreatDoorW.PrintWords Go.Proofs.YtfmpaofbnjlniaaGreatDoorW.PrintLast Go.Proofs.YtfmpaofbnjlniaaGreatDoorW.PrintMore
set_option linter.unusedVariables false
theorem rdL2_nat (l : List (List Int)) (i : Nat) (h : i < l.length) : rd_L2 l (i : Int) = l[i] := by unfold rd_L2; rw [Int.toNat_natCast, List.getD_eq_getElem?_getD, List.getElem?_eq_getElem h]; rfl
theorem sameTuples_loop (l : List (List Int)) (hl : l.length ≤ 100000) (ht : ∀ t ∈ l, t.length ≤ 1000) : ∀ (d i k : Nat), i + d = l.length → d + 1101 ≤ k → paraphrastref01_SameTuples.l0 k l l (i : Int) = some true
  | 0, i, k + 1, h, hk => by unfold paraphrastref01_SameTuples.l0; rw [if_neg (by omega)]
  | d + 1, i, k + 1, h, hk => by
    have hi : i < l.length := by omega
    unfold paraphrastref01_SameTuples.l0
    rw [if_pos (by omega), if_pos (by omega), if_pos (by omega), rdL2_nat l i hi, equal_same _ (ht _ (List.getElem_mem hi)) k (by omega), w64 (by omega) (by omega), show (i : Int) + 1 = ((i + 1 : Nat) : Int) by omega, sameTuples_loop l hl ht d (i + 1) k (by omega) (by omega)]
    simp
theorem sameTuples_refl (l : List (List Int)) (hl : l.length ≤ 100000) (ht : ∀ t ∈ l, t.length ≤ 1000) (k : Nat) (hk : 101200 ≤ k) : paraphrastref01_SameTuples.f k l l = some true := by
  unfold paraphrastref01_SameTuples.f
  rw [if_pos rfl]
  exact sameTuples_loop l hl ht l.length 0 k (by omega) (by omega)
theorem same_loop (n : Int) (l : List S52) (hl : l.length ≤ 1000) (hr : ∀ r ∈ l, r.f2.length ≤ 100000 ∧ ∀ t ∈ r.f2, t.length ≤ 1000) : ∀ (d i k : Nat), i + d = l.length → d + 101201 ≤ k → paraphrastref01_Same.l0 k (i : Int) n l n l = some true
  | 0, i, k + 1, h, hk => by unfold paraphrastref01_Same.l0; rw [if_neg (by omega)]
  | d + 1, i, k + 1, h, hk => by
    have hi : i < l.length := by omega
    obtain ⟨h1, h2⟩ := hr _ (List.getElem_mem hi)
    unfold paraphrastref01_Same.l0
    rw [if_pos (by omega), if_pos (by omega), if_pos (by omega), if_pos rfl, if_pos rfl, rdT_nat l i hi, sameTuples_refl _ h1 h2 k (by omega), w64 (by omega) (by omega), show (i : Int) + 1 = ((i + 1 : Nat) : Int) by omega, same_loop n l hl hr d (i + 1) k (by omega) (by omega)]
    simp
theorem same_refl (n : Int) (l : List S52) (hl : l.length ≤ 1000) (hr : ∀ r ∈ l, r.f2.length ≤ 100000 ∧ ∀ t ∈ r.f2, t.length ≤ 1000) (k : Nat) (hk : 102300 ≤ k) : paraphrastref01_Same.f k n l n l = some true := by
  obtain ⟨k, rfl⟩ : ∃ k', k = k' + 1 := ⟨k - 1, by omega⟩
  unfold paraphrastref01_Same.f
  rw [if_pos rfl, bne_self_eq_false]
  unfold paraphrastref01_Same.j0
  dsimp only
  rw [if_neg (by simp)]
  exact same_loop n l hl hr l.length 0 k (by omega) (by omega)
end Go.Proofs.YtfmpaofbnjlniaaGreatDoor.F
/- slices.Clone at []int, by hand. -/
namespace Go.Proofs.YtfmpaofbnjlniaaGreatDoor.F
open Go.RowKit Go.Proofs.YtfmpaofbnjlniaaGreatDoorW.PrintWords Go.Proofs.YtfmpaofbnjlniaaGreatDoorW.PrintLast Go.Proofs.YtfmpaofbnjlniaaGreatDoorW.PrintMore
set_option linter.unusedVariables false
set_option linter.unusedSimpArgs false
def slices_Clone_int_int.f (l : List Int) : Option (List Int) := if l.length ≤ 100000 then some l else none
set_option maxHeartbeats 4000000 in
set_option maxRecDepth 100000 in
theorem slices_Clone_int_int.calls (A0 : Option Addr) (c0 : Nat) (l0 : List Int) (r1 : List Int) (w : World) (hr0 : Kd.C (Kd.int .i64) w A0 l0.length l0) (hc0 : l0.length ≤ c0) (h : slices_Clone_int_int.f l0 = some r1) :
    Calls Tryz.prog 60 #[.slice A0 l0.length c0] w fun e w' => ∃ v0_ : Value, e = .returned v0_ ∧ Kd.R (Kd.int .i64) 3 w' w.heap.size (fun _ => True) v0_ r1 ∧ Below w.heap.size w w' := by
  unfold slices_Clone_int_int.f at h
  by_cases hl : l0.length ≤ 100000
  case neg => rw [if_neg hl] at h; cases h
  rw [if_pos hl] at h
  obtain rfl := Option.some.inj h
  clear h
  have HR0 := Aside0.mk hr0
  have HC0 := Aside0.mk hc0
  clear hr0 hc0
  have hq : ∀ (n c : Nat) (W : World), (binOp .eql 46 (.slice A0 n c) (.slice none 0 0)).run Tryz.prog W = .ok (.bool A0.isNone) W := fun n c W => Lib.run_eql_slice_nil W 46 3 A0 n c 0 0 Tryz.underlying46
  go_enter Tryz.func60, Tryz.ntmps60
  cases A0 with
  | none =>
    have h0 : l0 = [] := by
      cases l0 with
      | nil => rfl
      | cons x xs => obtain ⟨ad, h, _⟩ := HR0.out.2.2 (by simp); cases h
    subst h0
    go_wp2
    go_ret
    exact ⟨_, rfl, Kd.R_nil _ _ _ _ _, Below.refl _ _⟩
  | some ad =>
    have HO := Aside0.mk (show Kd.R (Kd.int .i64) 3 (w.alloc (.cells #[] 3)) w.heap.size (fun _ => True) (.slice (some ⟨w.heap.size, 0, none⟩) 0 0) [] from Kd.R_of_own (h1 := fun _ => rfl) (ok := fun _ => True) (own_lit_of (enc := Value.int .i64) w w.heap.size 3 [] (Nat.le_refl _) (by simp)) (fun _ _ => trivial))
    have HC := Aside0.mk (Kd.C_alloc HR0.out (.cells #[] 3))
    have HB := Aside0.mk (below_alloc (Below.refl w.heap.size w) (.cells #[] 3))
    go_wp2_with (first | ((with_reducible refine gate_builtin (b := .append) (xs := #[.tmp 5, .tmp 6]) rfl ?_); at_builtin; refine Kd.R_append_rows (Kd.int .i64) (w0 := w) w.heap.size rfl (.tmp 5) (.tmp 6) 46 3 (.int .i64 0) 8 rfl Tryz.underlying46 infoInt rfl (by decide) (by omega) (.slice (some ⟨w.heap.size, 0, none⟩) 0 0) [] l0 _ _ _ (fun _ => True) (fun _ => False) rfl rfl ?aO ?aR (fun _ _ h => h) (fun _ h => h.elim) ?aF ?aB ?aS ?aL ?_; (case aO => exact HO.out); (case aR => exact HC.out); (case aF => exact fun _ _ => trivial); (case aB => exact HB.out); (case aS => exact HB.out.size); (case aL => simp; omega); intro v7 w7 ho hb hg hat; have n0_ := Aside0.mk ho; have n1_ := Aside0.mk hb; clear ho hb hg hat HO HC HB))
    go_ret
    exact ⟨_, rfl, n0_.out, n1_.out⟩
end Go.Proofs.YtfmpaofbnjlniaaGreatDoor.F
/- shape.Copy, by hand: the copy's relations lie apart from each other. -/
namespace Go.Proofs.YtfmpaofbnjlniaaGreatDoor.F
open Go.RowKit Go.Proofs.YtfmpaofbnjlniaaGreatDoorW.PrintWords Go.Proofs.YtfmpaofbnjlniaaGreatDoorW.PrintLast Go.Proofs.YtfmpaofbnjlniaaGreatDoorW.PrintMore
set_option linter.unusedVariables false
set_option linter.unusedSimpArgs false
def copyOk (l : List S52) : Prop := l.length ≤ 100000 ∧ ∀ r ∈ l, r.f2.length ≤ 100000 ∧ ∀ t ∈ r.f2, t.length ≤ 100000
theorem infoRel' : (Tryz.prog.info? 52).map (fun i => (i.zero, i.size, i.bytes)) = some (some (.agg #[.string ⟨#[]⟩, .int .i64 0, .slice none 0 0]), 3, 48) := by kernel_rfl
set_option maxHeartbeats 4000000 in
set_option maxRecDepth 100000 in
theorem copy_calls (n : Int) (A : Option Addr) (c : Nat) (l : List S52) (w : World) (hC : Kd.C k52 w A l.length l) (hlc : l.length ≤ c) (hok : copyOk l) :
    Calls Tryz.prog 54 #[.agg #[.int .i64 n, .slice A l.length c]] w fun e w' => ∃ v, e = .returned (.agg #[.int .i64 n, v]) ∧ Kd.S k52 52 w' w.heap.size (fun _ => True) v l ∧ Below w.heap.size w w' := by
  have hu38 := Tryz.underlying24
  have hu54 := Tryz.underlying52
  have HC := Aside0.mk hC
  have HL := Aside0.mk hlc
  have HOK := Aside0.mk hok
  have hl0 := hok.1
  clear hC hlc hok
  go_enter Tryz.func54, Tryz.ntmps54
  go_wp2
  have HB3 := Aside0.mk (below_alloc (below_alloc (below_alloc (Below.refl w.heap.size w) (.cells #[.int .i64 n, .slice A l.length c] 24)) (.cells #[.int .i64 0, .slice none 0 0] 24)) (.cells #[.int .i64 n, .slice none 0 0] 24))
  have H2 := Aside0.mk (show (((w.alloc (.cells #[.int .i64 n, .slice A l.length c] 24)).alloc (.cells #[.int .i64 0, .slice none 0 0] 24)).alloc (.cells #[.int .i64 n, .slice none 0 0] 24)).heap[w.heap.size + 1]? = some (.cells #[.int .i64 0, .slice none 0 0] 24 (0, 0)) from (heap_alloc_old _ _ (by simp)).trans (by have := heap_alloc_new (w.alloc (.cells #[.int .i64 n, .slice A l.length c] 24)) (.cells #[.int .i64 0, .slice none 0 0] 24); simpa using this))
  have H3 := Aside0.mk (show (((w.alloc (.cells #[.int .i64 n, .slice A l.length c] 24)).alloc (.cells #[.int .i64 0, .slice none 0 0] 24)).alloc (.cells #[.int .i64 n, .slice none 0 0] 24)).heap[w.heap.size + 1 + 1]? = some (.cells #[.int .i64 n, .slice none 0 0] 24 (0, 0)) from by have := heap_alloc_new ((w.alloc (.cells #[.int .i64 n, .slice A l.length c] 24)).alloc (.cells #[.int .i64 0, .slice none 0 0] 24)) (.cells #[.int .i64 n, .slice none 0 0] 24); simpa using this)
  generalize hW3 : ((w.alloc (.cells #[.int .i64 n, .slice A l.length c] 24)).alloc (.cells #[.int .i64 0, .slice none 0 0] 24)).alloc (.cells #[.int .i64 n, .slice none 0 0] 24) = W3 at *
  clear hW3
  generalize hg2 : w.heap.size + 1 = g2 at *
  generalize hg3 : g2 + 1 = g3 at *
  have hg2w : w.heap.size ≤ g2 := by omega
  have hg3w : w.heap.size ≤ g3 := by omega
  go_loopw [15] (fun v15 wr => ∃ (j : Nat) (v : Value), v15 = .int .i64 j ∧ j ≤ l.length ∧ Aside0 (wr.heap[g2]? = some (.cells #[.int .i64 0, .slice none 0 0] 24 (0, 0))) ∧ Aside0 (wr.heap[g3]? = some (.cells #[.int .i64 n, v] 24 (0, 0))) ∧ Aside0 (Kd.S k52 52 wr w.heap.size (fun _ => True) v (l.take j)) ∧ Aside0 (Below w.heap.size w wr)) (fun v15 _ => l.length - (intOf v15).toNat)
  case atStart => exact ⟨0, .slice none 0 0, rfl, Nat.zero_le _, H2, H3, ⟨Kd.S_nil _ _ _ _ _⟩, HB3⟩
  case round =>
    clear H2 H3 HB3
    obtain ⟨j, v, rfl, hj, H2, H3, HV, HB⟩ := hrel
    generalize wr = wq at *
    by_cases hlt : j < l.length
    · obtain ⟨ad, A2, c2, hA, hx0, hx1, hx2, hl2, hi2⟩ := at_T52 HC.out (j : Int) (by omega) (by omega)
      subst hA
      simp only [Int.toNat_natCast] at hx0 hx1 hx2
      have hrj : rd_T52 l (j : Int) = l[j] := by unfold rd_T52; rw [Int.toNat_natCast, List.getD_eq_getElem?_getD, List.getElem?_eq_getElem hlt]; rfl
      rw [hrj] at hx0 hx1 hx2 hl2 hi2
      have HRJ := Aside0.mk (show l[j]? = some l[j] from List.getElem?_eq_getElem hlt)
      have hrok := HOK.out.2 l[j] (List.getElem_mem hlt)
      generalize l[j] = r at *
      replace hx0 := (HB.out.cell (World.block_lt_of_cell? w _ hx0)).trans hx0
      replace hx1 := (HB.out.cell (World.block_lt_of_cell? w _ hx1)).trans hx1
      replace hx2 := (HB.out.cell (World.block_lt_of_cell? w _ hx2)).trans hx2
      have HT := Aside0.mk hi2
      have HL2 := Aside0.mk hl2
      have hr2 := hrok.1
      have HRT := Aside0.mk hrok.2
      clear hi2 hl2 hrj hrok
      have hlt2' : g2 < wq.heap.size := (Array.getElem?_eq_some_iff.1 H2.out).1
      have hlt3 : g3 < wq.heap.size := (Array.getElem?_eq_some_iff.1 H3.out).1
      go_wp2
      have HBa := Aside0.mk (below_alloc (below_alloc (Below.refl wq.heap.size wq) (.cells #[.string r.f0, .int .i64 r.f1, .slice A2 r.f2.length c2] 52)) (.cells #[.string r.f0, .int .i64 r.f1, .slice none 0 0] 52))
      have H6 := Aside0.mk (show ((wq.alloc (.cells #[.string r.f0, .int .i64 r.f1, .slice A2 r.f2.length c2] 52)).alloc (.cells #[.string r.f0, .int .i64 r.f1, .slice none 0 0] 52)).heap[wq.heap.size + 1]? = some (.cells #[.string r.f0, .int .i64 r.f1, .slice none 0 0] 52 (0, 0)) from by have := heap_alloc_new (wq.alloc (.cells #[.string r.f0, .int .i64 r.f1, .slice A2 r.f2.length c2] 52)) (.cells #[.string r.f0, .int .i64 r.f1, .slice none 0 0] 52); simpa using this)
      generalize hW5 : (wq.alloc (.cells #[.string r.f0, .int .i64 r.f1, .slice A2 r.f2.length c2] 52)).alloc (.cells #[.string r.f0, .int .i64 r.f1, .slice none 0 0] 52) = W5 at *
      clear hW5
      generalize hg6 : wq.heap.size + 1 = g6 at *
      have hg6w : wq.heap.size ≤ g6 := by omega
      clear hx0 hx1 hx2
      go_loopw [27] (fun v27 wl => ∃ (i : Nat) (vt : Value), v27 = .int .i64 i ∧ i ≤ r.f2.length ∧ Aside0 (wl.heap[g6]? = some (.cells #[.string r.f0, .int .i64 r.f1, vt] 52 (0, 0))) ∧ Aside0 (Kd.R (Kd.slice 3 (Kd.int .i64)) 46 wl wq.heap.size (fun _ => True) vt (r.f2.take i)) ∧ Aside0 (Below wq.heap.size wq wl)) (fun v27 _ => r.f2.length - (intOf v27).toNat)
      case atStart => exact ⟨0, .slice none 0 0, rfl, Nat.zero_le _, H6, ⟨Kd.R_nil _ _ _ _ _⟩, HBa⟩
      case round =>
        clear H6 HBa
        obtain ⟨i, vt, rfl, hi, H6, HR, HBl⟩ := hrel
        by_cases hlt2 : i < r.f2.length
        · obtain ⟨ad3, A4, c4, hA3, hy0, hl4, hi4⟩ := at_L2 HT.out (i : Int) (by omega) (by omega)
          subst hA3
          simp only [Int.toNat_natCast] at hy0
          have hrt : rd_L2 r.f2 (i : Int) = r.f2[i] := by unfold rd_L2; rw [Int.toNat_natCast, List.getD_eq_getElem?_getD, List.getElem?_eq_getElem hlt2]; rfl
          rw [hrt] at hy0 hl4 hi4
          have HTI := Aside0.mk (show r.f2[i]? = some r.f2[i] from List.getElem?_eq_getElem hlt2)
          have htl := HRT.out r.f2[i] (List.getElem_mem hlt2)
          generalize r.f2[i] = t at *
          have hb2 := below_step HB.out HBl.out
          replace hy0 := (hb2.cell (World.block_lt_of_cell? w _ hy0)).trans hy0
          have HC4 := Aside0.mk (Kd.C_below hi4 (hb2.mono (Nat.le_refl _)))
          have HL4 := Aside0.mk hl4
          clear hi4 hl4 hrt hb2
          have hc6 : wr.cell? ⟨g6, 2, none⟩ = some vt := (blk_cell H6.out 2).trans rfl
          have hf6 := blk_frozen H6.out 2
          go_upto_region 9 with (fail)
          have HBd := Aside0.mk (below_drew HBl.out)
          have H6d := Aside0.mk (show wr.drew.heap[g6]? = some (.cells #[.string r.f0, .int .i64 r.f1, vt] 52 (0, 0)) from H6.out)
          have HRd := Aside0.mk (Kd.R_drew HR.out)
          have HCd := Aside0.mk (Kd.C_drew HC4.out)
          have hg6d : g6 < wr.drew.heap.size := (Array.getElem?_eq_some_iff.1 H6d.out).1
          have hcd : wr.drew.cell? ⟨g6, 2, none⟩ = some vt := hc6
          refine wp_region_noPanic ?_
          refine start_ (n := 8) (S := fun w' => w'.cell? ⟨g6, 2, none⟩ = some vt) (ds := [7]) #[false, false, false, false, false, false, false, false] (by kernel_rfl) rfl rfl hcd (fun hHeld => ?_)
          generalize wr.drew = wd at *
          refine pure_ (i := 0) (N := some 31) (v := ?_) (a' := ?_) #[true, false, false, false, false, false, false, false] rfl rfl (by kernel_rfl) (fun _ _ _ h => h) (Or.inl ⟨by rfl, ?_⟩) ?_ ?_
          rotate_left
          · intro w'
            go_simp
            with_reducible rfl
          rotate_left
          · simp only [Act.put, List.setIfInBounds_toArray, List.set_cons_zero, List.set_cons_succ, i64_w, i32_w]
            rfl
          refine pure_ (i := 2) (N := some 33) (v := ?_) (a' := ?_) #[true, false, true, false, false, false, false, false] rfl rfl (by kernel_rfl) (fun _ _ _ h => h) (Or.inl ⟨by rfl, ?_⟩) ?_ ?_
          rotate_left
          · intro w'
            go_simp
            with_reducible rfl
          rotate_left
          · simp only [Act.put, List.setIfInBounds_toArray, List.set_cons_zero, List.set_cons_succ, i64_w, i32_w]
            rfl
          refine take_ (i := 1) (N := some 32) (v := ?_) (a' := ?_) #[true, true, true, false, false, false, false, false] rfl rfl (by kernel_rfl) (fun _ _ _ h => h) (Or.inl ⟨by rfl, ?_⟩) hHeld ?_ ?_
          rotate_left
          · intro w' s0
            go_simp
            with_reducible rfl
          rotate_left
          · simp only [Act.put, List.setIfInBounds_toArray, List.set_cons_zero, List.set_cons_succ, i64_w, i32_w]
            rfl
          refine one_ (i := 3) (N := some 34) #[true, true, true, true, false, false, false, false] rfl rfl (by kernel_rfl) (by decide) (fun K hK => ?_)
          refine callE_ 60 #[.slice A4 t.length c4] (by rfl) rfl (by go_simp) ?_
          refine (slices_Clone_int_int.calls A4 c4 t t _ HCd.out HL4.out (if_pos htl)).mono ?_
          rintro e w6 ⟨va, rfl, hRa, hb6⟩
          obtain ⟨Aa, ca, ea⟩ := Kd.R_slice hRa
          subst ea
          left
          refine ⟨_, rfl, ?_⟩
          have HB6 := Aside0.mk (below_step HBd.out hb6)
          have H66 := Aside0.mk ((hb6.block g6 hg6d).trans H6d.out)
          have HR6 := Aside0.mk (Kd.R_below HRd.out hb6)
          have HRa := Aside0.mk (Kd.R_lower (Kd.R_newR hRa HRd.out) HBd.out.size)
          refine hK.out _ _ (pw_cell_below hb6 hcd) (fun hHeld2 => ?_)
          clear hK K hb6 hRa HRd HR H6 H6d HBd HBl
          refine norm_ (a' := ?_) ?_ ?_
          rotate_left
          · show Act.put _ (some 34) _ = _
            simp only [Act.put, List.setIfInBounds_toArray, List.set_cons_zero, List.set_cons_succ, i64_w, i32_w]
            rfl
          refine one_ (i := 4) (N := some 35) #[true, true, true, true, true, false, false, false] rfl rfl (by kernel_rfl) (by decide) (fun K hK => ?_)
          refine value_ (w1 := ?_) (v := ?_) (by rfl) rfl ?_ ?_
          rotate_left 2
          · go_simp
            constructor
            · rfl
            · rfl
          refine hK.out _ _ ((blk_cell (blk_alloc H66.out _) 2).trans rfl) (fun hHeld => ?_)
          clear hK K
          refine norm_ (a' := ?_) ?_ ?_
          rotate_left
          · show Act.put _ (some 35) _ = _
            simp only [Act.put, List.setIfInBounds_toArray, List.set_cons_zero, List.set_cons_succ, i64_w, i32_w]
            rfl
          refine one_ (i := 5) (N := some 36) #[true, true, true, true, true, true, false, false] rfl rfl (by kernel_rfl) (by decide) (fun K hK => ?_)
          refine Kd.R_append_step (Kd.slice 3 (Kd.int .i64)) (w0 := wq) wq.heap.size (by rfl) (.tmp 32) (.tmp 35) 50 46 (.slice none 0 0) 24 rfl Tryz.underlying50 infoInts rfl (by decide) (by omega) vt (r.f2.take i) t [.slice Aa t.length ca] (fun _ => True) (fun k_ => True ∧ some k_ ≠ vt.ownBlock) rfl rfl ?aP (fun _ hk => hk) ?aF ?aO ?aB ?aS ?aL ?_
          (case aP => exact Kd.M_row HRa.out)
          (case aB => exact HB6.out)
          (case aF => exact (fun _ _ => trivial))
          (case aO => exact HR6.out)
          (case aS => exact HB6.out.size)
          (case aL => rw [List.length_take]; omega)
          intro v7 w7 ho hb hg hat
          have n0_ := Aside0.mk hb
          have n1_ := Aside0.mk ho
          have n2_ := Aside0.mk (blk_grown H66.out hg (Kd.R_ne HR6.out H66.out (by decide)))
          clear ho hb hg hat HB6 HR6 HRa
          obtain ⟨A7, c7, e7⟩ := Kd.R_slice n1_.out
          subst e7
          rw [show (r.f2.take i ++ [t]).length = i + 1 from by rw [List.length_append, List.length_singleton, List.length_take]; omega] at n1_ ⊢
          refine hK.out _ _ ((blk_cell n2_.out 2).trans rfl) (fun hHeld => ?_)
          clear hK K
          refine norm_ (a' := ?_) ?_ ?_
          rotate_left
          · show Act.put _ (some 36) _ = _
            simp only [Act.put, List.setIfInBounds_toArray, List.set_cons_zero, List.set_cons_succ, i64_w, i32_w]
            rfl
          refine pure_ (i := 6) (N := some 37) (v := ?_) (a' := ?_) #[true, true, true, true, true, true, true, false] rfl rfl (by kernel_rfl) (fun _ _ _ h => h) (Or.inl ⟨by rfl, ?_⟩) ?_ ?_
          rotate_left
          · intro w'
            go_simp
            with_reducible rfl
          rotate_left
          · simp only [Act.put, List.setIfInBounds_toArray, List.set_cons_zero, List.set_cons_succ, i64_w, i32_w]
            rfl
          refine last_ (i := 7) (N := none) #[true, true, true, true, true, true, true, true] rfl rfl (by kernel_rfl) (by decide) (fun K hK => ?_)
          have hs7 : w7.cell? ⟨g6, 2, none⟩ = some vt := (blk_cell n2_.out 2).trans rfl
          have hf7 := blk_frozen n2_.out 2
          refine skip_ (w1 := ?_) (by rfl) rfl ?_ ?_
          rotate_left
          · go_simp
            rfl
          refine hK.out _ _ ?_
          clear hK K
          refine done_ (by kernel_rfl) ?_
          refine NoPanic.normal ?_
          have n3_ := Aside0.mk (Kd.R_set n1_.out n2_.out (by decide) 2 (.slice A7 (i + 1) c7))
          have n4_ := Aside0.mk (blk_put (cs' := #[.string r.f0, .int .i64 r.f1, .slice A7 (i + 1) c7]) n2_.out 2 (.slice A7 (i + 1) c7) rfl)
          have n5_ := Aside0.mk (below_set (j := 2) (v := .slice A7 (i + 1) c7) n0_.out hg6w)
          rw [← take_snoc' HTI.out] at n3_
          try go_wp2
          go_roundw
          · exact ⟨i + 1, _, (by simp), hlt2, n4_, n3_, n5_⟩
          · simp [intOf]; omega
        · obtain rfl : i = r.f2.length := by omega
          rw [List.take_length] at HR
          have H3l := Aside0.mk ((HBl.out.block g3 hlt3).trans H3.out)
          have H2l := Aside0.mk ((HBl.out.block g2 hlt2').trans H2.out)
          obtain ⟨At, ct, hvt⟩ := Kd.R_slice HR.out
          subst hvt
          have hc3 : wr.cell? ⟨g3, 1, none⟩ = some v := (blk_cell H3l.out 1).trans rfl
          have hc6_0 : wr.cell? ⟨g6, 0, none⟩ = some (.string r.f0) := (blk_cell H6.out 0).trans rfl
          have hc6_1 : wr.cell? ⟨g6, 1, none⟩ = some (.int .i64 r.f1) := (blk_cell H6.out 1).trans rfl
          have hc6_2 : wr.cell? ⟨g6, 2, none⟩ = some (.slice At r.f2.length ct) := (blk_cell H6.out 2).trans rfl
          have HRb := Aside0.mk (Kd.R_lower (Kd.R_mono (Kd.R_bound HR.out) (fun k_ hk => (hk.2.1 : wq.heap.size ≤ k_))) HB.out.size)
          have HVl := Aside0.mk (Kd.S_mono (ok' := fun k_ => True ∧ ¬ wq.heap.size ≤ k_) (Kd.S_below (Kd.S_bound HV.out) HBl.out) (fun k_ hk => ⟨trivial, by have := hk.2.2.1; omega⟩))
          have HVN := Aside0.mk (Kd.S_lt HV.out)
          have HBw := Aside0.mk (below_step HB.out HBl.out)
          have hjl : (l.take j).length ≤ 100000 := by rw [List.length_take]; omega
          go_wp2_with (first | ((with_reducible refine gate_builtin (b := .append) (xs := #[.tmp 40, .tmp 42]) rfl ?_); at_builtin; refine Kd.S_append k52 (w0 := w) w.heap.size rfl (.tmp 40) (.tmp 42) 22 52 (.agg #[.string ⟨#[]⟩, .int .i64 0, .slice none 0 0]) 48 rfl Tryz.underlying22 infoRel' rfl (by decide) (by omega) v (l.take j) r [.string r.f0, .int .i64 r.f1, .slice At r.f2.length ct] (fun _ => True) (fun k_ => wq.heap.size ≤ k_) rfl rfl ?aP ?aK ?aF ?aO ?aB ?aS ?aL ?_; (case aP => exact k52_mkM _ _ _ r HRb.out); (case aK => exact fun k_ hk => ⟨trivial, fun e => by have := HVN.out k_ e.symm; omega⟩); (case aF => exact fun _ _ => trivial); (case aO => exact HVl.out); (case aB => exact HBw.out); (case aS => exact HBw.out.size); (case aL => omega); intro v7 w7 ho hb hg hat; have n0_ := Aside0.mk hb; have n1_ := Aside0.mk ho; have n2_ := Aside0.mk (blk_grown H3l.out hg (Kd.S_ne HVl.out H3l.out (by decide))); have n3_ := Aside0.mk (blk_grown H2l.out hg (Kd.S_ne HVl.out H2l.out (by decide))); clear ho hb hg hat; obtain ⟨A7, c7, e7⟩ := Kd.S_slice n1_.out; subst e7; have hc9 : w7.cell? ⟨g3, 1, none⟩ = some v := (blk_cell n2_.out 1).trans rfl; have hf9 := blk_frozen n2_.out 1))
          rw [show (l.take j ++ [r]).length = j + 1 from by rw [List.length_append, List.length_singleton, List.length_take]; omega] at n1_
          have n4_ := Aside0.mk (Kd.S_set n1_.out n2_.out (by decide) 1 (.slice A7 (j + 1) c7))
          have n5_ := Aside0.mk (blk_put (cs' := #[.int .i64 n, .slice A7 (j + 1) c7]) n2_.out 1 (.slice A7 (j + 1) c7) rfl)
          have n6_ := Aside0.mk ((Below.heap_setCell w7 ⟨g3, 1, none⟩ (.slice A7 (j + 1) c7) g2 (by show g2 ≠ g3; omega)).trans n3_.out)
          have n7_ := Aside0.mk (below_set (j := 1) (v := .slice A7 (j + 1) c7) n0_.out hg3w)
          rw [← take_snoc' HRJ.out] at n4_
          go_roundw
          · exact ⟨j + 1, _, (by simp), hlt, n6_, n5_, n4_, n7_⟩
          · simp [intOf]; omega
    · obtain rfl : j = l.length := by omega
      rw [List.take_length] at HV
      obtain ⟨Av, cv, hv⟩ := Kd.S_slice HV.out
      subst hv
      have hcz3_0 : wq.cell? ⟨g3, 0, none⟩ = some (.int .i64 n) := (blk_cell H3.out 0).trans rfl
      have hcz3_1 : wq.cell? ⟨g3, 1, none⟩ = some (.slice Av l.length cv) := (blk_cell H3.out 1).trans rfl
      have hcz2_0 : wq.cell? ⟨g2, 0, none⟩ = some (.int .i64 0) := (blk_cell H2.out 0).trans rfl
      have hcz2_1 : wq.cell? ⟨g2, 1, none⟩ = some (.slice none 0 0) := (blk_cell H2.out 1).trans rfl
      have hfz2_0 := blk_frozen H2.out 0
      have hfz2_1 := blk_frozen H2.out 1
      go_wp2
      have HX := blk_put (cs' := #[.int .i64 n, .slice Av l.length cv]) (blk_put (cs' := #[.int .i64 n, .slice none 0 0]) H2.out 0 (.int .i64 n) rfl) 1 (.slice Av l.length cv) rfl
      have HV1 := Kd.S_set HV.out H2.out (by decide) 0 (.int .i64 n)
      have HV2 := Kd.S_set HV1 (blk_put (cs' := #[.int .i64 n, .slice none 0 0]) H2.out 0 (.int .i64 n) rfl) (by decide) 1 (.slice Av l.length cv)
      have HBX := below_set (j := 1) (v := .slice Av l.length cv) (below_set (j := 0) (v := .int .i64 n) HB.out hg2w) hg2w
      refine bodyPost_ret (results_cell_row rfl _ _ g2 24 #[.int .i64 n, .slice Av l.length cv] (0, 0) _ rfl HX Tryz.underlying24 rfl (by kernel_rfl)) rfl ?_
      exact ⟨_, rfl, HV2, HBX⟩
end Go.Proofs.YtfmpaofbnjlniaaGreatDoor.F
/- shape.Put, by hand. -/
namespace Go.Proofs.YtfmpaofbnjlniaaGreatDoor.F
open Go.RowKit Go.Proofs.YtfmpaofbnjlniaaGreatDoorW.PrintWords Go.Proofs.YtfmpaofbnjlniaaGreatDoorW.PrintLast Go.Proofs.YtfmpaofbnjlniaaGreatDoorW.PrintMore
set_option linter.unusedVariables false
set_option linter.unusedSimpArgs false
instance (l : List S52) : Decidable (copyOk l) := by unfold copyOk; infer_instance
def PutEnds (w : World) (r : Int × List S52 × Int) (e : Ending) (w' : World) : Prop := ∃ v : Value, e = .returned (.tuple #[.agg #[.int .i64 r.1, v], .int .i64 r.2.2]) ∧ Kd.R k52 52 w' w.heap.size (fun _ => True) v r.2.1 ∧ Below w.heap.size w w'
end Go.Proofs.YtfmpaofbnjlniaaGreatDoor.F
/- What Has and Put answer at valid structures. -/
namespace Go.Proofs.YtfmpaofbnjlniaaGreatDoor.F
open Go.RowKit Go.Proofs.YtfmpaofbnjlniaaGreatDoorW.PrintWords Go.Proofs.YtfmpaofbnjlniaaGreatDoorW.PrintLast Go.Proofs.YtfmpaofbnjlniaaGreatDoorW.PrintMore
set_option linter.unusedVariables false
theorem rels_names (n : Int) (l : List S52) : ∀ (d i : Nat), relsV n l d i = true → i + d = l.length → ∀ j (hj : j < l.length), i ≤ j → (l.take j).any (nameIs l[j].f0) = false
  | 0, i, _, h, j, hj, hi => by omega
  | d + 1, i, h, hl, j, hj, hi => by
    unfold relsV at h
    simp only [Bool.and_eq_true] at h
    by_cases e : j = i
    · subst e
      rw [rdT_nat l j hj] at h
      simpa using h.1.2
    · exact rels_names n l d (i + 1) h.2 (by omega) j hj (by omega)
theorem valid_parts (n : Int) (l : List S52) (h : validB n l = true) : (∀ j (hj : j < l.length), relV n l[j] = true) ∧ ∀ j (hj : j < l.length), (l.take j).any (nameIs l[j].f0) = false := by
  unfold validB at h
  simp only [Bool.and_eq_true] at h
  exact ⟨fun j hj => relsV_all n l l.length 0 h.2 (by omega) j hj (by omega), fun j hj => rels_names n l l.length 0 h.2 (by omega) j hj (by omega)⟩
theorem names_ne (n : Int) (l : List S52) (h : validB n l = true) (i j : Nat) (hij : i < j) (hj : j < l.length) : (l[i]'(by omega)).f0.toList ≠ l[j].f0.toList := by
  have := (valid_parts n l h).2 j hj
  rw [List.any_eq_false] at this
  have h2 := this (l[i]'(by omega)) (by rw [List.mem_iff_getElem]; exact ⟨i, by rw [List.length_take]; omega, by rw [List.getElem_take]⟩)
  unfold nameIs at h2
  simpa using h2
theorem find_at (n : Int) (l : List S52) (h : validB n l = true) (i : Nat) (hi : i < l.length) (m : Int) (hm : l[i].f1 = m) : shape_Find.f n l l[i].f0 m = some (i : Int) := by
  unfold shape_Find.f shape_Find_1_idx.f
  rw [Option.bind_some, fidx_at (List.getElem?_eq_getElem hi) (by unfold symIs; simp [hm]) (fun j y hj hy => by
    obtain ⟨hjl, rfl⟩ := List.getElem?_eq_some_iff.1 hy
    have := names_ne n l h j i hj hi
    unfold symIs
    rw [beq_eq_false_iff_ne.2 this]; rfl)]
end Go.Proofs.YtfmpaofbnjlniaaGreatDoor.F
/- paraphrastref01.Sorted, by hand. -/
namespace Go.Proofs.YtfmpaofbnjlniaaGreatDoor.F
open Go.RowKit Go.Proofs.YtfmpaofbnjlniaaGreatDoorW.PrintWords Go.Proofs.YtfmpaofbnjlniaaGreatDoorW.PrintLast Go.Proofs.YtfmpaofbnjlniaaGreatDoorW.PrintMore
set_option linter.unusedVariables false
set_option linter.unusedSimpArgs false
def sortOk (l : List (List Int)) : Prop := l.length ≤ 100000 ∧ ∀ t ∈ l, t.length = (l.headD []).length ∧ t.length ≤ 1000
instance (l : List (List Int)) : Decidable (sortOk l) := by unfold sortOk; infer_instance
end Go.Proofs.YtfmpaofbnjlniaaGreatDoor.F
namespace Go.Proofs.YtfmpaofbnjlniaaGreatDoor.F
open Go.RowKit Go.Proofs.YtfmpaofbnjlniaaGreatDoorW.PrintWords Go.Proofs.YtfmpaofbnjlniaaGreatDoorW.PrintLast Go.Proofs.YtfmpaofbnjlniaaGreatDoorW.PrintMore
attribute [local go_sem] max2_int min2_int max_two min_two max_three min_three max_four min_four
set_option linter.unusedVariables false
set_option linter.unusedSimpArgs false
/-! ### paraphrastref01_Find: function 24 -/
def paraphrastref01_Find.l0 : Nat → ByteArray → Int → Int → List (S52) → Option (Int)
 | 0, _, _, _, _ => none
 | k + 1, x1, x5, x293000, x293001 => if x5 < (x293001.length : Int) then (if 0 ≤ x5 then (if ((rd_T52 x293001 x5).f0).toList = x1.toList then (some x5) else (paraphrastref01_Find.l0 k x1 (wrap64 (x5 + 1)) x293000 x293001)) else (none)) else (some (-1))
def paraphrastref01_Find.f (k : Nat) (a0_0 : Int) (l0_1 : List (S52)) (a1 : ByteArray) : Option (Int) := paraphrastref01_Find.l0 k a1 0 a0_0 l0_1
set_option maxHeartbeats 8000000 in
set_option maxRecDepth 100000 in
theorem paraphrastref01_Find.calls (k : Nat) (a0_0 : Int) (A0_1 : Option Addr) (c0_1 : Nat) (l0_1 : List (S52)) (a1 : ByteArray) (r : Int) (w : World) (hr0_1 : Kd.C k52 w A0_1 l0_1.length l0_1) (hc0_1 : l0_1.length ≤ c0_1) (h : paraphrastref01_Find.f k a0_0 l0_1 a1 = some r) :
  Calls Tryz.prog 24 #[.agg #[.int .i64 a0_0, .slice A0_1 l0_1.length c0_1], .string a1] w fun e w' => e = .returned (.int .i64 r) ∧ Below w.heap.size w w' := by
 have hu24 := Tryz.underlying24
 have HR0_1 := Aside0.mk hr0_1
 have HC0_1 := Aside0.mk hc0_1
 clear hr0_1 hc0_1
 have HB := Aside0.mk (Below.refl w.heap.size w)
 have H : (paraphrastref01_Find.l0 k a1 0 a0_0 l0_1) = some r := h
 clear h
 have H' := Aside0.mk H
 clear H
 go_enter Tryz.func24, Tryz.ntmps24
 go_wp2_with (first | ((with_reducible refine gate_dst (N := 2) rfl ?_); refine box_event ?hg (N := 2) ?hd (cs := #[.int .i64 a0_0, .slice A0_1 l0_1.length c0_1]) (t := 24) ?hr ?_; (case hd => rfl); (case hg => rfl); (case hr => first | (go_simp; done) | (go_simp; rfl)); intro gb292 hg w3 hbox hb; have BK292 := Aside0.mk (hbox); have GW292 := geB w hg; have GE292 := geB w hg; replace HB := Aside0.mk (below_step bel hb); clear hb hbox hg))
 go_loopg [5] k (fun kq v5 w' => ∃ (x5_1 : Int), v5 = .int .i64 x5_1 ∧ Aside0 (paraphrastref01_Find.l0 kq a1 x5_1 a0_0 l0_1 = some r) ∧ Aside0 (kq ≤ k) ∧ Aside0 (w'.heap[gb292]? = some (.cells #[.int .i64 a0_0, (.slice A0_1 l0_1.length c0_1)] 24 (0, 0))) ∧ Aside0 (Below w.heap.size w w'))
 case atStart => exact ⟨(0), eS, H', ⟨Nat.le_refl _⟩, ⟨bk BK292⟩, ⟨bel⟩⟩
 case round =>
  clear H'
  obtain ⟨x5_1, rfl, HA, HK1, BK292, HB⟩ := hrel
  cases gk with
  | zero => exact absurd HA.out (by simp [paraphrastref01_Find.l0])
  | succ k1 =>
   have H := HA.out
   clear HA
   simp only [paraphrastref01_Find.l0] at H
   by_cases c4 : x5_1 < (l0_1.length : Int)
   ·rw [if_pos c4] at H
    have c4b0 : decide (x5_1 < (l0_1.length : Int)) = true := decide_eq_true c4
    clear c4
    by_cases c5 : 0 ≤ x5_1
    ·rw [if_pos c5] at H
     have c5b0 : decide (0 ≤ x5_1) = true := decide_eq_true c5
     clear c5
     by_cases c6 : ((rd_T52 l0_1 x5_1).f0).toList = a1.toList
     ·rw [if_pos c6] at H
      have c6b0 : (((rd_T52 l0_1 x5_1).f0).toList == a1.toList) = true := beq_iff_eq.mpr c6
      have c6b1 : (((rd_T52 l0_1 x5_1).f0).toList != a1.toList) = false := bne_eq_false_iff_eq.mpr c6
      clear c6
      obtain rfl := Option.some.inj H
      obtain ⟨hcz7_0, hcz7_1, hfz7_0, hfz7_1⟩ := bq2 BK292
      have p293 : 0 ≤ (x5_1 : Int) := dtr
      have q293 : x5_1 < (l0_1.length : Int) := dtr
      obtain ⟨ad293, A293_2, c293_2, e293, hx293_0, hx293_1, hx293_2, hl293_2, hi293_2⟩ := at_T52 HR0_1.out x5_1 p293 q293
      cases e293
      replace hx293_0 := oc hx293_0
      replace hx293_1 := oc hx293_1
      replace hx293_2 := oc hx293_2
      have HR293_2 := Aside0.mk hi293_2
      have HC293_2 := Aside0.mk hl293_2
      clear hi293_2 hl293_2
      replace p293 := eq_true p293
      replace q293 := eq_true q293
      go_wp2
      go_ret
      exact ⟨eN, bel⟩
     ·rw [if_neg c6] at H
      have c6b0 : (((rd_T52 l0_1 x5_1).f0).toList == a1.toList) = false := beq_eq_false_iff_ne.mpr c6
      have c6b1 : (((rd_T52 l0_1 x5_1).f0).toList != a1.toList) = true := bne_iff_ne.mpr c6
      have H' := Aside0.mk H
      clear H
      obtain ⟨hcz8_0, hcz8_1, hfz8_0, hfz8_1⟩ := bq2 BK292
      have p293 : 0 ≤ (x5_1 : Int) := dtr
      have q293 : x5_1 < (l0_1.length : Int) := dtr
      obtain ⟨ad293, A293_2, c293_2, e293, hx293_0, hx293_1, hx293_2, hl293_2, hi293_2⟩ := at_T52 HR0_1.out x5_1 p293 q293
      cases e293
      replace hx293_0 := oc hx293_0
      replace hx293_1 := oc hx293_1
      replace hx293_2 := oc hx293_2
      have HR293_2 := Aside0.mk hi293_2
      have HC293_2 := Aside0.mk hl293_2
      clear hi293_2 hl293_2
      replace p293 := eq_true p293
      replace q293 := eq_true q293
      go_wp2
      go_roundg k1
      case measure => have := HK1.out; omega
      case rel => exact ⟨(wrap64 (x5_1 + 1)), eS, H', ⟨by have := HK1.out; omega⟩, ⟨bk BK292⟩, ⟨bel⟩⟩
    ·rw [if_neg c5] at H
     exact absurd H (by simp)
   ·rw [if_neg c4] at H
    have c4b0 : decide (x5_1 < (l0_1.length : Int)) = false := decide_eq_false c4
    clear c4
    obtain rfl := Option.some.inj H
    obtain ⟨hcz9_0, hcz9_1, hfz9_0, hfz9_1⟩ := bq2 BK292
    go_wp2
    go_ret
    exact ⟨eN, bel⟩
end Go.Proofs.YtfmpaofbnjlniaaGreatDoor.F
namespace Go.Proofs.YtfmpaofbnjlniaaGreatDoor.F
open Go.RowKit Go.Proofs.YtfmpaofbnjlniaaGreatDoorW.PrintWords Go.Proofs.YtfmpaofbnjlniaaGreatDoorW.PrintLast Go.Proofs.YtfmpaofbnjlniaaGreatDoorW.PrintMore
attribute [local go_sem] max2_int min2_int max_two min_two max_three min_three max_four min_four
set_option linter.unusedVariables false
set_option linter.unusedSimpArgs false
/-! ### paraphrastref01_copied: function 53 -/
def paraphrastref01_copied.l0 : Nat → List (List Int) → List (List Int) → Int → Option ((List (List Int)))
 | 0, _, _, _ => none
 | k + 1, x0, x3, x4 => if x4 < (x0.length : Int) then ((some (([] : List Int) : List Int)).bind fun y301 => (if 0 ≤ x4 then (if y301.length + (rd_L2 x0 x4).length < 17592186044416 then (if x3.length < 5864062014805 then (paraphrastref01_copied.l0 k x0 (x3 ++ [(y301 ++ (rd_L2 x0 x4))]) (wrap64 (x4 + 1))) else (none)) else (none)) else (none))) else (some x3)
def paraphrastref01_copied.f (k : Nat) (l0 : List (List Int)) : Option ((List (List Int))) := paraphrastref01_copied.l0 k l0 ([] : List (List Int)) 0
set_option maxHeartbeats 8000000 in
set_option maxRecDepth 100000 in
theorem paraphrastref01_copied.calls (k : Nat) (A0 : Option Addr) (c0 : Nat) (l0 : List (List Int)) (r : List (List Int)) (w : World) (hr0 : Kd.C (Kd.slice 3 (Kd.int .i64)) w A0 l0.length l0) (hc0 : l0.length ≤ c0) (h : paraphrastref01_copied.f k l0 = some r) :
  Calls Tryz.prog 53 #[.slice A0 l0.length c0] w fun e w' => ∃ v0_ : Value, e = .returned (v0_) ∧ Kd.S (Kd.slice 3 (Kd.int .i64)) 46 w' w.heap.size (fun _ => True) v0_ r ∧ Below w.heap.size w w' := by
 have HR0 := Aside0.mk hr0
 have HC0 := Aside0.mk hc0
 clear hr0 hc0
 have HB := Aside0.mk (Below.refl w.heap.size w)
 have H : (paraphrastref01_copied.l0 k l0 ([] : List (List Int)) 0) = some r := h
 clear h
 have H' := Aside0.mk H
 clear H
 go_enter Tryz.func53, Tryz.ntmps53
 go_wp2
 go_loopg [3, 4] k (fun kq v3 v4 w' => ∃ (x3_1 : List (List Int)) (x4_1 : Int), v4 = .int .i64 x4_1 ∧ Aside0 (paraphrastref01_copied.l0 kq l0 x3_1 x4_1 = some r) ∧ Aside0 (kq ≤ k) ∧ Aside0 (Kd.S (Kd.slice 3 (Kd.int .i64)) 46 w' w.heap.size (fun _ => True) v3 x3_1) ∧ Aside0 (Below w.heap.size w w'))
 case atStart => exact ⟨(([] : List (List Int))), (0), eS, H', ⟨Nat.le_refl _⟩, ⟨by first | exact Kd.S_nil _ _ _ _ _ | exact Kd.N_nil _ _ _ _ _ | exact Kd.V_nil _ _ _ _ _ | exact Kd.Q_nil _ _ _ _ _ | exact Kd.R_nil _ _ _ _ _⟩, ⟨bel⟩⟩
 case round =>
  clear H'
  obtain ⟨x3_1, x4_1, rfl, HA, HK1, HO_3, HB⟩ := hrel
  cases gk with
  | zero => exact absurd HA.out (by simp [paraphrastref01_copied.l0])
  | succ k1 =>
   have H := HA.out
   clear HA
   simp only [paraphrastref01_copied.l0] at H
   by_cases c2 : x4_1 < (l0.length : Int)
   ·rw [if_pos c2] at H
    have c2b0 : decide (x4_1 < (l0.length : Int)) = true := decide_eq_true c2
    clear c2
    obtain ⟨y301, hy301⟩ : ∃ y_ : List Int, y_ = (([] : List Int)) := ⟨_, rfl⟩
    replace H : (if 0 ≤ x4_1 then (if y301.length + (rd_L2 l0 x4_1).length < 17592186044416 then (if x3_1.length < 5864062014805 then (paraphrastref01_copied.l0 k1 l0 (x3_1 ++ [(y301 ++ (rd_L2 l0 x4_1))]) (wrap64 (x4_1 + 1))) else (none)) else (none)) else (none)) = some r := by first | (rw [hy301]; with_reducible exact H) | (have H2_ := (Option.bind_some _ _).symm.trans H; rw [hy301]; with_reducible exact H2_) | (have H2_ := (Option.bind_some _ _).symm.trans H; with_reducible exact H2_) | with_reducible exact H | (rw [hy301]; exact H) | exact H
    have Ny301 := Aside0.mk hy301
    clear hy301
    by_cases c3 : 0 ≤ x4_1
    ·rw [if_pos c3] at H
     have c3b0 : decide (0 ≤ x4_1) = true := decide_eq_true c3
     clear c3
     by_cases c4 : y301.length + (rd_L2 l0 x4_1).length < 17592186044416
     ·rw [if_pos c4] at H
      have LMc4 := Aside0.mk c4
      clear c4
      obtain ⟨y305, hy305⟩ : ∃ y_ : List Int, y_ = (y301 ++ (rd_L2 l0 x4_1)) := ⟨_, rfl⟩
      replace H : (if x3_1.length < 5864062014805 then (paraphrastref01_copied.l0 k1 l0 (x3_1 ++ [y305]) (wrap64 (x4_1 + 1))) else (none)) = some r := by first | (rw [hy305]; with_reducible exact H) | (have H2_ := (Option.bind_some _ _).symm.trans H; rw [hy305]; with_reducible exact H2_) | (have H2_ := (Option.bind_some _ _).symm.trans H; with_reducible exact H2_) | with_reducible exact H | (rw [hy305]; exact H) | exact H
      have Ny305 := Aside0.mk hy305
      clear hy305
      by_cases c5 : x3_1.length < 5864062014805
      ·rw [if_pos c5] at H
       have LMc5 := Aside0.mk c5
       clear c5
       obtain ⟨y308, hy308⟩ : ∃ y_ : List (List Int), y_ = (x3_1 ++ [y305]) := ⟨_, rfl⟩
       replace H : (paraphrastref01_copied.l0 k1 l0 y308 (wrap64 (x4_1 + 1))) = some r := by first | (rw [hy308]; with_reducible exact H) | (have H2_ := (Option.bind_some _ _).symm.trans H; rw [hy308]; with_reducible exact H2_) | (have H2_ := (Option.bind_some _ _).symm.trans H; with_reducible exact H2_) | with_reducible exact H | (rw [hy308]; exact H) | exact H
       have Ny308 := Aside0.mk hy308
       clear hy308
       have H' := Aside0.mk H
       clear H
       go_wp2_with (first | ((with_reducible refine gate_dst (N := 12) rfl ?_); refine Kd.R_lit (Kd.int .i64) _ 3 ?hg (N := 12) ?hd (xs := ([] : List Int)) (inner := []) (ok := fun _ => True) (okp := fun _ => True) ?hr ?hp (fun _ hk => hk) trivial (Below.refl _ _) (Nat.le_refl _) (by simp) ?_; (case hd => rfl); (case hg => rfl); (case hr => first | (go_simp; done) | (go_simp; rfl)); (case hp => exact (Reps.none _ _)); intro v302 w6 ho7 hb hg_ hnew_; clear hg_ hnew_; (first | rw [← Ny301.out] at ho7 | (simp only [Int.reduceToNat] at ho7; rw [← Ny301.out] at ho7)); have HO303 := Aside0.mk (Kd.R_lower ho7 (below_size bel)); replace HO_3 := Aside0.mk (Kd.S_elder' (by (with_reducible repeat (first | apply Kd.S_alloc | apply Kd.S_drewN | apply Kd.S_drew)); exact HO_3.out) (Kd.R_base ho7) hb); replace HB := Aside0.mk (below_step bel hb); clear hb ho7; have p304 : 0 ≤ (x4_1 : Int) := dtr; have q304 : x4_1 < (l0.length : Int) := dtr; obtain ⟨ad304, A304_0, c304_0, e304, hx304_0, hl304_0, hi304_0⟩ := at_L2 HR0.out x4_1 p304 q304; cases e304; replace hx304_0 := oc hx304_0; have HR304_0 := Aside0.mk hi304_0; have HC304_0 := Aside0.mk hl304_0; clear hi304_0 hl304_0; replace p304 := eq_true p304; replace q304 := eq_true q304) | ((with_reducible refine gate_builtin (b := .append) (xs := #[.tmp 12, .tmp 16]) rfl ?_); at_builtin; refine Kd.R_append_rows (Kd.int .i64) (w0 := w) w.heap.size rfl (.tmp 12) (.tmp 16) 46 3 (.int .i64 0) 8 rfl Tryz.underlying46 info3 rfl (by decide) (by omega) v302 y301 (rd_L2 l0 x4_1) _ _ _ (fun _ => True) (fun _ => False) rfl rfl ?aO ?aR (fun _ _ h => h) (fun _ h => h.elim) ?aF ?aB ?aS ?aL ?_; (case aR => exact cS (Kd.C_below HR304_0.out HB.out)); (case aB => exact bel); (case aF => exact (fun _ _ => trivial)); (case aO => exact (tw HO303.out)); (case aS => exact (below_size bel)); (case aL => have := LMc4.out; omega); intro v306 w8 ho hb hg hat; rw [← Ny305.out] at ho; have HO307 := Aside0.mk (ho); replace HO_3 := Aside0.mk (Kd.S_after (ok := (fun _ => True)) (by (with_reducible repeat (first | apply Kd.S_alloc | apply Kd.S_drewN | apply Kd.S_drew)); exact HO_3.out) hg hat); replace HB := Aside0.mk (hb); clear HO303; clear ho hb hg hat; obtain ⟨Ao10, co10, eo10⟩ := Kd.R_slice HO307.out; subst eo10) | ((with_reducible refine gate_builtin (b := .append) (xs := #[.tmp 11, .tmp 18]) rfl ?_); at_builtin; refine Kd.S_append (Kd.slice 3 (Kd.int .i64)) (w0 := w) w.heap.size rfl (.tmp 11) (.tmp 18) 50 46 (.slice none 0 0) 24 rfl Tryz.underlying50 info46 rfl (by decide) (by omega) u3 x3_1 y305 [.slice Ao10 y305.length co10] (fun _ => True) (fun k_ => some k_ = (.slice Ao10 y305.length co10 : Value).ownBlock) rfl rfl ?aP (fun k_ hk_ => ((Kd.R_mono (ok' := fun k_ => ((fun _ => True)) k_ ∧ some k_ ≠ (u3 : Value).ownBlock) (Kd.R_apart' (HO307.out) (Kd.S_typed HO_3.out) (by decide)) (fun k_ hk => ⟨trivial, hk.2⟩))).1 k_ hk_.symm) ?aF ?aO ?aB ?aS ?aL ?_; (case aP => exact Kd.M_row (Kd.R_mono (Kd.R_tight rfl (Kd.R_mono (ok' := fun k_ => ((fun _ => True)) k_ ∧ some k_ ≠ (u3 : Value).ownBlock) (Kd.R_apart' (HO307.out) (Kd.S_typed HO_3.out) (by decide)) (fun k_ hk => ⟨trivial, hk.2⟩))) (fun _ h_ => h_))); (case aB => exact bel); (case aF => exact (fun _ _ => trivial)); (case aO => exact (by (with_reducible repeat (first | apply Kd.S_alloc | apply Kd.S_drewN | apply Kd.S_drew)); exact Kd.S_mono HO_3.out (fun k_ hk => ⟨trivial, fun e_ => hk.2 e_⟩))); (case aS => exact (below_size bel)); (case aL => have := LMc5.out; omega); intro v309 w9 ho hb hg hat; rw [← Ny308.out] at ho; have HO310 := Aside0.mk (ho); replace HB := Aside0.mk (hb); clear HO_3 HO307; clear ho hb hg hat))
       go_roundg k1
       case measure => have := HK1.out; omega
       case rel => exact ⟨(y308), (wrap64 (x4_1 + 1)), eS, H', ⟨by have := HK1.out; omega⟩, ⟨by (with_reducible repeat (first | apply Kd.S_alloc | apply Kd.S_drewN | apply Kd.S_drew)); exact HO310.out⟩, ⟨bel⟩⟩
      ·rw [if_neg c5] at H
       exact absurd H (by simp)
     ·rw [if_neg c4] at H
      exact absurd H (by simp)
    ·rw [if_neg c3] at H
     exact absurd H (by simp)
   ·rw [if_neg c2] at H
    have c2b0 : decide (x4_1 < (l0.length : Int)) = false := decide_eq_false c2
    clear c2
    obtain rfl := Option.some.inj H
    go_wp2
    go_ret
    exact ⟨_, eN, by (with_reducible repeat (first | apply Kd.S_alloc | apply Kd.S_drewN | apply Kd.S_drew)); exact HO_3.out, bel⟩
end Go.Proofs.YtfmpaofbnjlniaaGreatDoor.F
/- Find, Among, Copy and Put of the reference: what they answer. -/
namespace Go.Proofs.YtfmpaofbnjlniaaGreatDoor.F
open Go.RowKit Go.Proofs.YtfmpaofbnjlniaaGreatDoorW.PrintWords Go.Proofs.YtfmpaofbnjlniaaGreatDoorW.PrintLast Go.Proofs.YtfmpaofbnjlniaaGreatDoorW.PrintMore
set_option linter.unusedVariables false
/-- The reference's Find: the first relation of that name. -/
theorem find_from (n : Int) (l : List S52) (nm : ByteArray) (hL : l.length ≤ 9223372036854775807) : ∀ (d i : Nat), i + d = l.length → (∀ j (hj : j < l.length), j < i → l[j].f0 ≠ nm) →
    (∃ (q : Nat) (hq : q < l.length), l[q].f0 = nm ∧ (∀ j (hj : j < l.length), j < q → l[j].f0 ≠ nm) ∧ ∀ k, d + 1 ≤ k → paraphrastref01_Find.l0 k nm (i : Int) n l = some (q : Int)) ∨ ((∀ j (hj : j < l.length), l[j].f0 ≠ nm) ∧ ∀ k, d + 1 ≤ k → paraphrastref01_Find.l0 k nm (i : Int) n l = some (-1))
  | 0, i, h, hi => Or.inr ⟨fun j hj => hi j hj (by omega), fun k hk => by
    obtain ⟨k, rfl⟩ : ∃ k', k = k' + 1 := ⟨k - 1, by omega⟩
    unfold paraphrastref01_Find.l0
    rw [if_neg (by omega)]⟩
  | d + 1, i, h, hi => by
    have hil : i < l.length := by omega
    by_cases e : l[i].f0 = nm
    · refine Or.inl ⟨i, hil, e, hi, fun k hk => ?_⟩
      obtain ⟨k, rfl⟩ : ∃ k', k = k' + 1 := ⟨k - 1, by omega⟩
      unfold paraphrastref01_Find.l0
      rw [if_pos (by omega), if_pos (by omega), rdT_nat l i hil, if_pos (by rw [e])]
    · have step : ∀ k r, paraphrastref01_Find.l0 k nm ((i + 1 : Nat) : Int) n l = some r → paraphrastref01_Find.l0 (k + 1) nm (i : Int) n l = some r := fun k r hk => by
        conv => lhs; unfold paraphrastref01_Find.l0
        rw [if_pos (by omega), if_pos (by omega), rdT_nat l i hil, if_neg (fun e2 => e (toList_inj e2)), w64 (by omega) (by omega), show (i : Int) + 1 = ((i + 1 : Nat) : Int) by omega]
        exact hk
      rcases find_from n l nm hL d (i + 1) (by omega) (fun j hj hj2 => by
        by_cases e3 : j = i
        · subst e3; exact e
        · exact hi j hj (by omega)) with ⟨q, hq, h1, h2, h3⟩ | ⟨h1, h3⟩
      · exact Or.inl ⟨q, hq, h1, h2, fun k hk => by
          obtain ⟨k, rfl⟩ : ∃ k', k = k' + 1 := ⟨k - 1, by omega⟩
          exact step k _ (h3 k (by omega))⟩
      · exact Or.inr ⟨h1, fun k hk => by
          obtain ⟨k, rfl⟩ : ∃ k', k = k' + 1 := ⟨k - 1, by omega⟩
          exact step k _ (h3 k (by omega))⟩
theorem find_cases (n : Int) (l : List S52) (nm : ByteArray) (hL : l.length ≤ 9223372036854775807) :
    (∃ (q : Nat) (hq : q < l.length), l[q].f0 = nm ∧ (∀ j (hj : j < l.length), j < q → l[j].f0 ≠ nm) ∧ ∀ k, l.length + 1 ≤ k → paraphrastref01_Find.f k n l nm = some (q : Int)) ∨ ((∀ j (hj : j < l.length), l[j].f0 ≠ nm) ∧ ∀ k, l.length + 1 ≤ k → paraphrastref01_Find.f k n l nm = some (-1)) :=
  find_from n l nm hL l.length 0 (by omega) (fun j hj h => by omega)
theorem copied_from (ts : List (List Int)) (hn : ts.length ≤ 100000) (hl : ∀ a ∈ ts, a.length ≤ 1000) : ∀ (d i k : Nat), i + d = ts.length → d + 1 ≤ k → paraphrastref01_copied.l0 k ts (ts.take i) (i : Int) = some ts
  | 0, i, k + 1, h, hk => by
    unfold paraphrastref01_copied.l0
    rw [if_neg (by omega), List.take_of_length_le (by omega)]
  | d + 1, i, k + 1, h, hk => by
    have hi : i < ts.length := by omega
    have := hl _ (List.getElem_mem hi)
    unfold paraphrastref01_copied.l0
    rw [if_pos (by omega), Option.bind_some, if_pos (by omega), rdL2_nat ts i hi, if_pos (by simp only [List.length_nil]; omega), if_pos (by rw [List.length_take]; omega), List.nil_append, ← take_snoc' (List.getElem?_eq_getElem hi), w64 (by omega) (by omega), show (i : Int) + 1 = ((i + 1 : Nat) : Int) by omega]
    exact copied_from ts hn hl d (i + 1) k (by omega) (by omega)
theorem copied_eq (ts : List (List Int)) (hn : ts.length ≤ 100000) (hl : ∀ a ∈ ts, a.length ≤ 1000) (k : Nat) (hk : 100001 ≤ k) : paraphrastref01_copied.f k ts = some ts :=
  copied_from ts hn hl ts.length 0 k (by omega) (by omega)
end Go.Proofs.YtfmpaofbnjlniaaGreatDoor.F
/- Short words for the proofs by hand: a region's steps without a table. -/
namespace Go.Proofs.YtfmpaofbnjlniaaGreatDoor.F
open Go.RowKit Go.Proofs.YtfmpaofbnjlniaaGreatDoorW.PrintWords Go.Proofs.YtfmpaofbnjlniaaGreatDoorW.PrintLast Go.Proofs.YtfmpaofbnjlniaaGreatDoorW.PrintMore
set_option linter.unusedVariables false
section
variable {P : Program} {ops : Array Oper} {Q : Exit → Act → World → Prop} {md : Region.Mode} {S : World → Prop} {ds : List Nat}
theorem hPu (i : Nat) (N : Option Tmp) {oi : Oper} {v : Value} {fuel : Nat} {l : Array Bool} {a : Act} {w : World} {a' : Act} (h : wpAnyLast P md ops Q S ds fuel (l.setIfInBounds i true) a' w)
    (hi : ops[i]? = some oi := by rfl) (hN : oi.dst = N := by rfl) (hc : (Region.noSelect ops && Region.free md ops l i && (Region.ready md ops l).contains i) = true := by kernel_rfl) (hq : ∀ c a w, Q (.panic c) (a.put oi.dst v) w → Q (.panic c) a w := by exact fun _ _ _ h => h)
    (hw : Region.wanted oi (yielded ops a.tmps) = true := by rfl) (hy : ∀ w, (execOp a.eval oi).run P w = .ok (.value v) w := by (intro w'; go_simp; with_reducible rfl)) (ha : a.put N v = a' := by (simp only [Act.put, List.setIfInBounds_toArray, List.set_cons_zero, List.set_cons_succ, i64_w, i32_w]; rfl)) : wpAnyLast P md ops Q S ds (fuel + 1) l a w :=
  pure_ (l.setIfInBounds i true) hi hN (by unfold anyB; rw [hc]; simp) hq (Or.inl ⟨hw, hy⟩) ha h
theorem hTk (i : Nat) (N : Option Tmp) {oi : Oper} {v : Value} {fuel : Nat} {l : Array Bool} {a : Act} {w : World} {a' : Act} (h : wpAnyLast P md ops Q S ds fuel (l.setIfInBounds i true) a' w)
    (hi : ops[i]? = some oi := by rfl) (hN : oi.dst = N := by rfl) (hc : (Region.noSelect ops && Region.free md ops l i && (Region.ready md ops l).contains i && Region.closedB md ops l && Region.lastB md ops l ds i) = true := by kernel_rfl) (hq : ∀ c a w, Q (.panic c) (a.put oi.dst v) w → Q (.panic c) a w := by exact fun _ _ _ h => h)
    (hw : Region.wanted oi (yielded ops a.tmps) = true := by rfl) (hy : ∀ w, S w → (execOp a.eval oi).run P w = .ok (.value v) w := by (intro w' s0; go_simp; with_reducible rfl)) (hS : S w := by exact hHeld) (ha : a.put N v = a' := by (simp only [Act.put, List.setIfInBounds_toArray, List.set_cons_zero, List.set_cons_succ, i64_w, i32_w]; rfl)) : wpAnyLast P md ops Q S ds (fuel + 1) l a w :=
  take_ (l.setIfInBounds i true) hi hN (by unfold takeB; rw [hc]; simp) hq (Or.inl ⟨hw, hy⟩) hS ha h
theorem hOn (i : Nat) (N : Option Tmp) {oi : Oper} {fuel : Nat} {l : Array Bool} {a : Act} {w : World} (h : ∀ K : Act → World → Prop, Shut (∀ a' w', S w' → (S w' → wpAnyLast P md ops Q S ds fuel (l.setIfInBounds i true) a' w') → K a' w') → if Region.wanted oi (yielded ops a.tmps) = true then Oper.wp P oi a w K Q else K (a.put N undef) w)
    (hi : ops[i]? = some oi := by rfl) (hN : oi.dst = N := by rfl) (hc : (Region.ready md ops l == [i]) = true := by kernel_rfl) (hd : i ∉ ds := by decide) :
    wpAnyLast P md ops Q S ds (fuel + 1) l a w := one_ (l.setIfInBounds i true) hi hN (by unfold readyB; rw [hc]; simp) hd h
theorem hLa (i : Nat) (N : Option Tmp) {oi : Oper} {fuel : Nat} {l : Array Bool} {a : Act} {w : World} (h : ∀ K : Act → World → Prop, Shut (∀ a' w', wpAnyLast P md ops Q S ds fuel (l.setIfInBounds i true) a' w' → K a' w') → if Region.wanted oi (yielded ops a.tmps) = true then Oper.wp P oi a w K Q else K (a.put N undef) w)
    (hi : ops[i]? = some oi := by rfl) (hN : oi.dst = N := by rfl) (hc : (Region.ready md ops l == [i]) = true := by kernel_rfl) (hd : i ∈ ds := by decide) :
    wpAnyLast P md ops Q S ds (fuel + 1) l a w := last_ (l.setIfInBounds i true) hi hN (by unfold readyB; rw [hc]; simp) hd h
theorem hSt {id : Nat} (n : Nat) {a : Act} {w : World} (h : S w.drew → wpAnyLast P .any ops Q S ds n (Array.replicate n false) a w.drew) (hS : S w.drew) (hm : P.follows .mixedOrders = true := by kernel_rfl) (hn : ops.size = n := by rfl) : (Code.region id ops true).wp P Q a w :=
  start_ (Array.replicate n false) hm hn rfl hS h
theorem hNo (N : Option Tmp) {fuel : Nat} {l : Array Bool} {a a' : Act} {v : Value} {w : World} (h : wpAnyLast P md ops Q S ds fuel l a' w) (ha : a.put N v = a' := by (simp only [Act.put, List.setIfInBounds_toArray, List.set_cons_zero, List.set_cons_succ, i64_w, i32_w]; rfl)) : wpAnyLast P md ops Q S ds fuel l (a.put N v) w := norm_ ha h
end
end Go.Proofs.YtfmpaofbnjlniaaGreatDoor.F
/- shape.Keep, by hand. -/
namespace Go.Proofs.YtfmpaofbnjlniaaGreatDoor.F
open Go.RowKit Go.Maps Go.WideMaps Go.Proofs.YtfmpaofbnjlniaaGreatDoorW.PrintWords Go.Proofs.YtfmpaofbnjlniaaGreatDoorW.PrintLast Go.Proofs.YtfmpaofbnjlniaaGreatDoorW.PrintMore
set_option linter.unusedVariables false
set_option linter.unusedSimpArgs false
def keepAt (l : List S52) (x : S96) : Int := fidx (symIs x.f0 x.f1) l
def keyS (x : S96) : Lit := .string x.f0.data.toList
def keepSet {H : Type} (sy : List S96) : DataW H := setOf (.lit (.bool true)) (sy.map keyS)
def keepCount (sy : List S96) : Nat := Maps.size (keepSet (H := Unit) sy)
def keepOk (sy : List S96) : Prop := sy.length ≤ 1000 ∧ ∀ x ∈ sy, x.f0.size ≤ 1000
instance (sy : List S96) : Decidable (keepOk sy) := by unfold keepOk; infer_instance
def keepRels (l : List S52) (sy : List S96) : List S52 := sy.map fun x => rd_T52 l (keepAt l x)
def keepRes (n : Int) (l : List S52) (sy : List S96) : Int × List S52 × Int :=
  if sy.all (fun x => decide (0 ≤ keepAt l x)) = true then (if keepCount sy = sy.length then (n, keepRels l sy, 0) else (0, [], 2)) else (0, [], 4)
def shape_Keep.f (k : Nat) (n : Int) (l : List S52) (sy : List S96) : Option (Int × List S52 × Int) :=
  (shape_Valid.f k n l).bind fun b => if b = true then (if copyOk l ∧ keepOk sy then some (keepRes n l sy) else none) else some (0, [], 1)
theorem results_keep (tmps : Array Value) (W : World) (g8 : Nat) (a b : Int) (v : Value) (hp8 : tmps.getD 4 undef = .pointer (some ⟨g8, 0, none⟩)) (hp9 : tmps.getD 5 undef = .int .i64 b)
    (h8 : W.heap[g8]? = some (.cells #[.int .i64 a, v] 24 (0, 0))) :
    (results Tryz.f23 tmps).run Tryz.prog W = .ok (.tuple #[.agg #[.int .i64 a, v], .int .i64 b]) W := by
  have hp8' : tmps[4]?.getD undef = .pointer (some ⟨g8, 0, none⟩) := by simpa using hp8
  have hp9' : tmps[5]?.getD undef = .int .i64 b := by simpa using hp9
  have hr := run_loadVar_row (P := Tryz.prog) W g8 24 24 #[.int .i64 a, v] (0, 0) _ h8 Tryz.underlying24 rfl (by kernel_rfl)
  simp [results, Tryz.results23, hp8', hp9', asAddr, hr]
section
variable {H : Type} {P : Program} {kt : TypeId} {Rr : Value → Option (DataW H × List MemPlace)} {w w1 : World} {b n g : Nat} {D : DataW H} {α : Type} {d : Kd α} {e base : Nat} {ok : Nat → Prop} {v : Value} {xs : List α}
theorem map_same (h : w.ownsMap P kt Rr b n D) (hs : w1.heap[b]? = w.heap[b]?) : w1.ownsMap P kt Rr b n D := by
  obtain ⟨es, clock, hb, F, hn, hD⟩ := h
  exact ⟨es, clock, hs.trans hb, F, hn, hD⟩
theorem map_below (h : w.ownsMap P kt Rr b n D) (hb : Below w.heap.size w w1) : w1.ownsMap P kt Rr b n D := map_same h (hb.block b h.lt)
theorem map_blk (h : w.ownsMap P kt Rr b n D) : ∃ es clock, w.heap[b]? = some (.map es clock) := by
  obtain ⟨es, clock, hb, _⟩ := h
  exact ⟨es, clock, hb⟩
theorem map_ne {cs : Array Value} {t : TypeId} {z : Nat × Nat} (h : w.ownsMap P kt Rr b n D) (hg : w.heap[g]? = some (.cells cs t z)) : g ≠ b := by
  obtain ⟨es, clock, hb⟩ := map_blk h
  intro e
  subst e
  rw [hb] at hg
  cases hg
theorem R_mapped (h : d.R e w base ok v xs) (hm : w.ownsMap P kt Rr b n D) (hg : w.grownBy w1 (some b)) : d.R e w1 base ok v xs :=
  Kd.R_mono (Kd.R_step (Kd.R_bound h) (fun k hk hlt => hg.block k hlt (fun e => by
    obtain ⟨_, _, _, q, _, cells, hc⟩ := hk
    injection e with e
    exact map_ne hm hc e))) (fun k hk => hk.1)
theorem map_ne_own (h : d.R e w base ok v xs) (hm : w.ownsMap P kt Rr b n D) : some b ≠ v.ownBlock := fun he => by
  obtain ⟨cells, hc⟩ := Kd.R_typed h b he.symm
  exact map_ne hm hc rfl
end
theorem keys_snoc {H : Type} {sy : List S96} {j : Nat} {x : S96} (h : sy[j]? = some x) : keepSet (H := H) (sy.take (j + 1)) = (keepSet (sy.take j)).put (keyS x) (.lit (.bool true)) := by
  unfold keepSet
  rw [take_snoc' h, List.map_append]
  exact setOf_snoc _ _ _
theorem law_str : Keyed Tryz.prog 9 := string_keyed Tryz.underlying9
theorem infoRelK : (Tryz.prog.info? 52).map (fun i => (i.zero, i.size, i.bytes)) = some (some (.agg #[.string ⟨#[]⟩, .int .i64 0, .slice none 0 0]), 3, 48) := by kernel_rfl
theorem fidx_lt {α : Type} (p : α → Bool) (l : List α) : fidx p l < (l.length : Int) := by
  unfold fidx
  cases h : l.findIdx? p with
  | none => simp only; omega
  | some i =>
    obtain ⟨hi, _⟩ := List.findIdx?_eq_some_iff_getElem.1 h
    simp only; omega
theorem keepRels_snoc {l : List S52} {sy : List S96} {j : Nat} {x : S96} (h : sy[j]? = some x) : keepRels l (sy.take (j + 1)) = keepRels l (sy.take j) ++ [rd_T52 l (keepAt l x)] := by
  unfold keepRels
  rw [take_snoc' h, List.map_append]
  rfl
set_option maxHeartbeats 4000000 in
set_option maxRecDepth 100000 in
theorem keep_calls (k : Nat) (n : Int) (A : Option Addr) (c : Nat) (l : List S52) (A2 : Option Addr) (c2 : Nat) (sy : List S96) (r : Int × List S52 × Int) (w : World)
    (hC : Kd.C k52 w A l.length l) (hlc : l.length ≤ c) (hC2 : Kd.C k96 w A2 sy.length sy) (hlc2 : sy.length ≤ c2) (h : shape_Keep.f k n l sy = some r) :
    Calls Tryz.prog 23 #[.agg #[.int .i64 n, .slice A l.length c], .slice A2 sy.length c2] w (PutEnds w r) := by
  have hu38 := Tryz.underlying24
  have hu54 := Tryz.underlying52
  have hu96 := Tryz.underlying96
  have hmm := @run_makeMap Tryz.prog
  unfold shape_Keep.f at h
  obtain ⟨vb, hh, h⟩ := Option.bind_eq_some_iff.1 h
  have hB1 := below_alloc (below_alloc (Below.refl w.heap.size w) (.cells #[.int .i64 n, .slice A l.length c] 24)) (.cells #[.int .i64 0, .slice none 0 0] 24)
  have HC1 := Aside0.mk (Kd.C_below hC hB1)
  have HT1 := Aside0.mk (Kd.C_below hC2 hB1)
  have HB1 := Aside0.mk hB1
  have HC0 := Aside0.mk hC
  have HT0 := Aside0.mk hC2
  have HLC := Aside0.mk hlc
  have HLC2 := Aside0.mk hlc2
  have HH := Aside0.mk hh
  have H := Aside0.mk h
  have K4 := Aside0.mk (show ((w.alloc (.cells #[.int .i64 n, .slice A l.length c] 24)).alloc (.cells #[.int .i64 0, .slice none 0 0] 24)).heap[w.heap.size]? = some (.cells #[.int .i64 n, .slice A l.length c] 24 (0, 0)) from (heap_alloc_old _ _ (by simp)).trans (heap_alloc_new w _))
  have K8 := Aside0.mk (show ((w.alloc (.cells #[.int .i64 n, .slice A l.length c] 24)).alloc (.cells #[.int .i64 0, .slice none 0 0] 24)).heap[w.heap.size + 1]? = some (.cells #[.int .i64 0, .slice none 0 0] 24 (0, 0)) from by have := heap_alloc_new (w.alloc (.cells #[.int .i64 n, .slice A l.length c] 24)) (.cells #[.int .i64 0, .slice none 0 0] 24); simpa using this)
  clear hB1 hC hlc hC2 hlc2 hh h
  go_enter Tryz.func23, Tryz.ntmps23
  go_wp2_with (fail)
  refine (shape_Valid.calls k n A c l vb _ HC1.out HLC.out HH.out).mono ?_
  rintro e w1 ⟨rfl, hb1⟩
  generalize hg8 : w.heap.size + 1 = g8 at *
  have hg8w : w.heap.size ≤ g8 := by omega
  have K4' := Aside0.mk ((hb1.block w.heap.size (Array.getElem?_eq_some_iff.1 K4.out).1).trans K4.out)
  have K8' := Aside0.mk ((hb1.block g8 (Array.getElem?_eq_some_iff.1 K8.out).1).trans K8.out)
  have HB2 := Aside0.mk (below_step HB1.out hb1)
  have HC2 := Aside0.mk (Kd.C_below HC1.out hb1)
  have HT2 := Aside0.mk (Kd.C_below HT1.out hb1)
  clear hb1 K4 K8 HB1 HC1 HT1
  obtain ⟨c8_0, c8_1, f8_0, f8_1⟩ := bq2 K8'
  obtain ⟨c4_0, c4_1, _, _⟩ := bq2 K4'
  cases vb with
  | false =>
    have h2 := H.out
    rw [if_neg (by simp)] at h2
    obtain rfl := Option.some.inj h2
    clear h2 H
    go_wp2
    have HX := blk_put (cs' := #[.int .i64 0, .slice none 0 0]) (blk_put (cs' := #[.int .i64 0, .slice none 0 0]) K8'.out 0 (.int .i64 0) rfl) 1 (.slice none 0 0) rfl
    have HBX := below_set (j := 1) (v := .slice none 0 0) (below_set (j := 0) (v := .int .i64 0) HB2.out hg8w) hg8w
    refine bodyPost_ret (results_keep _ _ g8 0 1 _ rfl rfl HX) rfl ?_
    exact ⟨_, rfl, Kd.R_nil _ _ _ _ _, HBX⟩
  | true =>
    have h2 := H.out
    rw [if_pos rfl] at h2
    by_cases hcp : copyOk l ∧ keepOk sy
    case neg => rw [if_neg hcp] at h2; cases h2
    rw [if_pos hcp] at h2
    have hres := (Option.some.inj h2).symm
    subst hres
    have HCP := Aside0.mk hcp.1
    have HKO := Aside0.mk hcp.2
    have hsl := hcp.2.1
    clear h2 H hcp
    go_wp2_with (fail)
    refine (copy_calls n A c l _ HC2.out HLC.out HCP.out).mono ?_
    rintro e w3 ⟨v3, rfl, hS, hb3⟩
    have K4 := Aside0.mk ((hb3.block w.heap.size (Array.getElem?_eq_some_iff.1 K4'.out).1).trans K4'.out)
    have K8 := Aside0.mk ((hb3.block g8 (Array.getElem?_eq_some_iff.1 K8'.out).1).trans K8'.out)
    have HB4 := Aside0.mk (below_step HB2.out hb3)
    have HC4 := Aside0.mk (Kd.C_below HC2.out hb3)
    have HT4 := Aside0.mk (Kd.C_below HT2.out hb3)
    have HS4 := Aside0.mk (Kd.R_lower (Kd.R_mono (Kd.R_bound (Kd.S_R hS)) (fun k_ hk => (hk.2.2.1 : k_ < w3.heap.size))) HB2.out.size)
    obtain ⟨A3, c3, hv3⟩ := Kd.S_slice hS
    subst hv3
    clear hb3 hS K4' K8' HB2 HC2 HT2 c8_0 c8_1 f8_0 f8_1 c4_0 c4_1
    go_upto_region 4 with (fail)
    have K6 := Aside0.mk (heap_alloc_new w3 (.cells #[.int .i64 n, .slice A3 l.length c3] 24))
    have hba := below_alloc (Below.refl w3.heap.size w3) (.cells #[.int .i64 n, .slice A3 l.length c3] 24)
    have K4' := blB K4 hba
    have K8' := blB K8 hba
    have HC5 := Aside0.mk (Kd.C_below HC4.out hba)
    have HT5 := Aside0.mk (Kd.C_below HT4.out hba)
    have HS5 := Aside0.mk (Kd.R_below HS4.out hba)
    have HB5 := Aside0.mk (below_step HB4.out hba)
    have hN0 := HB4.out.size
    have hN4 : w.heap.size < w3.heap.size := blk_lt K4.out
    have hN8 : g8 < w3.heap.size := blk_lt K8.out
    have hN6 : w3.heap.size < (w3.alloc (.cells #[.int .i64 n, .slice A3 l.length c3] 24)).heap.size := blk_lt K6.out
    generalize w3.alloc (.cells #[.int .i64 n, .slice A3 l.length c3] 24) = w4 at *
    generalize w3.heap.size = N at *
    clear hba K4 K8 HC4 HT4 HS4 HB4
    obtain ⟨c4_0, c4_1, _, _⟩ := bq2 K4'
    go_upto_region 5 with (fail)
    have K7 := Aside0.mk (heap_alloc_new w4 (.cells #[.int .i64 n, .slice none 0 0] 24))
    have hba := below_alloc (Below.refl w4.heap.size w4) (.cells #[.int .i64 n, .slice none 0 0] 24)
    replace K4 := blB K4' hba
    replace K8 := blB K8' hba
    replace K6 := blB K6 hba
    have HC6 := Aside0.mk (Kd.C_below HC5.out hba)
    have HT6 := Aside0.mk (Kd.C_below HT5.out hba)
    have HS6 := Aside0.mk (Kd.R_below HS5.out hba)
    have HB6 := Aside0.mk (below_step HB5.out hba)
    have hN7 : w4.heap.size < (w4.alloc (.cells #[.int .i64 n, .slice none 0 0] 24)).heap.size := blk_lt K7.out
    generalize w4.alloc (.cells #[.int .i64 n, .slice none 0 0] 24) = w5 at *
    generalize hg7 : w4.heap.size = g7 at *
    clear hba K4' K8' HC5 HT5 HS5 HB5 c4_0 c4_1
    go_wp2
    have HM := Aside0.mk (World.ownsMap_made w5 Tryz.prog 9 (plainElem (H := Unit) Tryz.prog 4))
    have hba := below_alloc (Below.refl w5.heap.size w5) (.map #[] 0)
    have K4' := blB K4 hba
    have K8' := blB K8 hba
    have K6' := blB K6 hba
    have K7' := blB K7 hba
    have HC7 := Aside0.mk (Kd.C_below HC6.out hba)
    have HT7 := Aside0.mk (Kd.C_below HT6.out hba)
    have HS7 := Aside0.mk (Kd.R_below HS6.out hba)
    have HB7 := Aside0.mk (below_step HB6.out hba)
    generalize w5.alloc (.map #[] 0) = w6 at *
    generalize hgm : w5.heap.size = gm at *
    clear hba K4 K8 K6 K7 HC6 HT6 HS6 HB6
    have hgN : N ≤ gm := by omega
    have hgw : w.heap.size ≤ gm := by omega
    go_loopw [24] (fun v24 wr => ∃ (j : Nat) (vo : Value), v24 = .int .i64 j ∧ j ≤ sy.length ∧ Aside0 (∀ x ∈ sy.take j, 0 ≤ keepAt l x) ∧ Aside0 (wr.heap[w.heap.size]? = some (.cells #[.int .i64 n, .slice A l.length c] 24 (0, 0))) ∧ Aside0 (wr.heap[g8]? = some (.cells #[.int .i64 0, .slice none 0 0] 24 (0, 0))) ∧ Aside0 (wr.heap[N]? = some (.cells #[.int .i64 n, .slice A3 l.length c3] 24 (0, 0))) ∧ Aside0 (wr.heap[g7]? = some (.cells #[.int .i64 n, vo] 24 (0, 0)))
      ∧ Aside0 (Kd.R k52 52 wr w.heap.size (fun k_ => k_ < N) (.slice A3 l.length c3) l) ∧ Aside0 (Kd.R k52 52 wr w.heap.size (fun _ => True) vo (keepRels l (sy.take j))) ∧ Aside0 (∀ k_, vo.ownBlock = some k_ → N ≤ k_) ∧ Aside0 (wr.ownsMap Tryz.prog 9 (plainElem (H := Unit) Tryz.prog 4) gm j (keepSet (sy.take j))) ∧ Aside0 (Below w.heap.size w wr)) (fun v24 _ => sy.length - (intOf v24).toNat)
    case atStart => exact ⟨0, .slice none 0 0, rfl, Nat.zero_le _, ⟨fun x hx => by simp at hx⟩, K4', K8', K6', K7', HS7, ⟨Kd.R_nil _ _ _ _ _⟩, ⟨fun k_ hk => by simp [Value.ownBlock] at hk⟩, ⟨by simpa [keepSet, setOf] using HM.out⟩, HB7⟩
    case round =>
      clear K4' K8' K6' K7' HS7 HM HB7 HC7 HT7
      obtain ⟨j, vo, rfl, hj, HA, K4, K8, K6, K7, HF, HO, HV, HM, HB⟩ := hrel
      generalize wr = wq at *
      obtain ⟨c4_0, c4_1, _, _⟩ := bq2 K4
      by_cases hlt : j < sy.length
      · obtain ⟨ad, hA, hx0, hx1⟩ := at_T96 (Kd.C_below HT0.out HB.out) (j : Int) (by omega) (by omega)
        subst hA
        simp only [Int.toNat_natCast] at hx0 hx1
        have hrj : rd_T96 sy (j : Int) = sy[j] := by unfold rd_T96; rw [Int.toNat_natCast, List.getD_eq_getElem?_getD, List.getElem?_eq_getElem hlt]; rfl
        rw [hrj] at hx0 hx1
        have HXJ := Aside0.mk (show sy[j]? = some sy[j] from List.getElem?_eq_getElem hlt)
        have HXS := Aside0.mk (HKO.out.2 _ (List.getElem_mem hlt))
        generalize sy[j] = x at *
        clear hrj
        go_upto_region 9 with (fail)
        have hNx : N < wq.heap.size := blk_lt K6.out
        have h7x : g7 < wq.heap.size := blk_lt K7.out
        have KX := Aside0.mk (heap_alloc_new wq (.cells #[.string x.f0, .int .i64 x.f1] 96))
        have hba := below_alloc (Below.refl wq.heap.size wq) (.cells #[.string x.f0, .int .i64 x.f1] 96)
        replace K4 := blB K4 hba
        replace K8 := blB K8 hba
        replace K6 := blB K6 hba
        replace K7 := blB K7 hba
        replace HF := rD HF hba
        replace HO := rD HO hba
        replace HM := Aside0.mk (map_below HM.out hba)
        replace HB := Aside0.mk (below_step HB.out hba)
        generalize wq.alloc (.cells #[.string x.f0, .int .i64 x.f1] 96) = wa at *
        generalize wq.heap.size = gx at *
        clear hba c4_0 c4_1 hx0 hx1
        obtain ⟨c4_0, c4_1, _, _⟩ := bq2 K4
        obtain ⟨cx0, cx1, _, _⟩ := bq2 KX
        go_wp2_with (fail)
        refine (shape_Find.calls n A c l x.f0 x.f1 (keepAt l x) _ (Kd.C_below HC0.out HB.out) HLC.out rfl).mono ?_
        rintro e wf ⟨rfl, hbf⟩
        replace K4 := blB K4 hbf
        replace K8 := blB K8 hbf
        replace K6 := blB K6 hbf
        replace K7 := blB K7 hbf
        replace KX := blB KX hbf
        replace HF := rD HF hbf
        replace HO := rD HO hbf
        replace HM := Aside0.mk (map_below HM.out hbf)
        replace HB := Aside0.mk (below_step HB.out hbf)
        clear hbf c4_0 c4_1 cx0 cx1
        by_cases hq : 0 ≤ keepAt l x
        · have hql : keepAt l x < (l.length : Int) := fidx_lt _ _
          have HKR := Aside0.mk (keepRels_snoc (l := l) HXJ.out)
          have HA2 := Aside0.mk (show ∀ y ∈ sy.take (j + 1), 0 ≤ keepAt l y from fun y hy => by
            rw [take_snoc' HXJ.out] at hy
            rcases List.mem_append.1 hy with hy | hy
            · exact HA.out y hy
            · rw [List.mem_singleton.1 hy]; exact hq)
          generalize keepAt l x = q at *
          obtain ⟨gf, capf, eA, _, _, _, _⟩ := Kd.R_form HF.out (by omega)
          obtain ⟨rfl, rfl⟩ : A3 = some ⟨gf, 0, none⟩ ∧ c3 = capf := by injection eA with h2 h3 h4; exact ⟨h2, h4⟩
          obtain ⟨ce, hcl, hMe, hce, _⟩ := Kd.R_elem HF.out z52 q hq hql
          have hMe2 : k52.M wf w.heap.size (fun k_ => k_ < N) (rd_T52 l q) ce := k52.M_mono (fun k_ hk => hk.1) hMe
          generalize rd_T52 l q = rr at *
          obtain ⟨v2, rfl, hR2⟩ := k52_openM hMe2
          obtain ⟨At, ct, ev2⟩ := Kd.R_slice hR2
          subst ev2
          have hz0 : wf.cell? ⟨gf, q.toNat * 3, none⟩ = some (.string rr.f0) := hce 0 _ rfl
          have hz1 : wf.cell? ⟨gf, q.toNat * 3 + 1, none⟩ = some (.int .i64 rr.f1) := hce 1 _ rfl
          have hz2 : wf.cell? ⟨gf, q.toNat * 3 + 2, none⟩ = some (.slice At rr.f2.length ct) := hce 2 _ rfl
          clear hcl hMe hce hMe2 eA
          have hlen : (keepRels l (sy.take j)).length ≤ 1000 := by unfold keepRels; rw [List.length_map, List.length_take]; omega
          have q0 : decide (q < 0) = false := decide_eq_false (by omega)
          go_upto_region 12 with (fail)
          have c7 : wf.drew.cell? ⟨g7, 1, none⟩ = some vo := (blk_cell K7.out 1).trans rfl
          have c6 : wf.drew.cell? ⟨N, 1, none⟩ = some (.slice (some ⟨gf, 0, none⟩) l.length c3) := (blk_cell K6.out 1).trans rfl
          refine wp_region_noPanic ?_
          refine hSt 11 (S := fun w' => w'.cell? ⟨g7, 1, none⟩ = some vo ∧ w'.cell? ⟨N, 1, none⟩ = some (.slice (some ⟨gf, 0, none⟩) l.length c3) ∧ w'.cell? ⟨gf, q.toNat * 3, none⟩ = some (.string rr.f0) ∧ w'.cell? ⟨gf, q.toNat * 3 + 1, none⟩ = some (.int .i64 rr.f1) ∧ w'.cell? ⟨gf, q.toNat * 3 + 2, none⟩ = some (.slice At rr.f2.length ct)) (ds := [8, 10]) (fun hHeld => ?_) ⟨c7, c6, hz0, hz1, hz2⟩
          replace K4 := Aside0.mk (blk_drew K4.out)
          replace K8 := Aside0.mk (blk_drew K8.out)
          replace K6 := Aside0.mk (blk_drew K6.out)
          replace K7 := Aside0.mk (blk_drew K7.out)
          replace KX := Aside0.mk (blk_drew KX.out)
          replace HF := Aside0.mk (Kd.R_drew HF.out)
          replace HO := Aside0.mk (Kd.R_drew HO.out)
          have HR2 := Aside0.mk (Kd.R_drew hR2)
          replace HM := Aside0.mk (HM.out.drew)
          replace HB := Aside0.mk (below_drew HB.out)
          clear hR2 hz0 hz1 hz2 c6 c7
          generalize wf.drew = wd at *
          have hq1 := eq_true hq
          have hq2 := eq_true hql
          refine hPu 0 (some 37) ?_
          refine hPu 2 (some 39) ?_
          refine hPu 4 (some 41) ?_
          refine hTk 1 (some 38) ?_
          refine hTk 3 (some 40) ?_
          refine hPu 5 (some 42) ?_
          refine hTk 6 (some 43) ?_
          refine hOn 7 (some 44) (fun K hK => ?_)
          refine value_ (w1 := ?_) (v := ?_) (by rfl) rfl ?_ ?_
          rotate_left 2
          · go_simp
            constructor
            · rfl
            · rfl
          have hba := below_alloc (Below.refl wd.heap.size wd) (.cells #[.string rr.f0, .int .i64 rr.f1, .slice At rr.f2.length ct] 52)
          refine hK.out _ _ ⟨pw_cell_below hba hHeld.1, pw_cell_below hba hHeld.2.1, pw_cell_below hba hHeld.2.2.1, pw_cell_below hba hHeld.2.2.2.1, pw_cell_below hba hHeld.2.2.2.2⟩ (fun _ => ?_)
          clear hK K hba
          refine hNo (some 44) ?_
          refine hLa 8 (some 45) (fun K hK => ?_)
          refine Kd.R_append_step k52 (w0 := w) w.heap.size (by rfl) (.tmp 38) (.tmp 44) 22 52 (.agg #[.string ⟨#[]⟩, .int .i64 0, .slice none 0 0]) 48 rfl Tryz.underlying22 infoRelK rfl (by decide) (by omega) vo (keepRels l (sy.take j)) rr [.string rr.f0, .int .i64 rr.f1, .slice At rr.f2.length ct] (fun _ => True) (fun k_ => k_ < N) rfl rfl ?aP ?aK ?aF ?aO ?aB ?aS ?aL ?_
          (case aP => exact k52_mkM _ _ _ rr HR2.out)
          (case aK => exact fun k_ hk => ⟨trivial, fun e => by have := HV.out k_ e.symm; omega⟩)
          (case aF => exact fun _ _ => trivial)
          (case aO => exact HO.out)
          (case aB => exact HB.out)
          (case aS => exact HB.out.size)
          (case aL => omega)
          intro v7 w7 ho hb hg hat
          replace K4 := Aside0.mk (blk_grown K4.out hg (Kd.R_ne HO.out K4.out (by decide)))
          replace K8 := Aside0.mk (blk_grown K8.out hg (Kd.R_ne HO.out K8.out (by decide)))
          replace K6 := Aside0.mk (blk_grown K6.out hg (Kd.R_ne HO.out K6.out (by decide)))
          replace K7 := Aside0.mk (blk_grown K7.out hg (Kd.R_ne HO.out K7.out (by decide)))
          replace KX := Aside0.mk (blk_grown KX.out hg (Kd.R_ne HO.out KX.out (by decide)))
          replace HF := Aside0.mk (Kd.R_grown HF.out hg (fun k_ hk e => by have := HV.out k_ e.symm; omega))
          have hNd : N < wd.heap.size := by have := HM.out.lt; omega
          replace HV := Aside0.mk (show ∀ k_, v7.ownBlock = some k_ → N ≤ k_ from fun k_ hk => by
            rcases hat with e | ⟨b, e, hb2⟩
            · exact HV.out k_ (e ▸ hk)
            · rw [e] at hk; injection hk with hk; omega)
          replace HM := Aside0.mk (HM.out.kept hg (map_ne_own HO.out HM.out))
          replace HO := Aside0.mk ho
          replace HB := Aside0.mk hb
          rw [← HKR.out] at HO
          obtain ⟨A7, c7, e7⟩ := Kd.R_slice HO.out
          subst e7
          clear ho hb hg hat hHeld
          refine hK.out _ _ ?_
          clear hK K
          refine hNo (some 45) ?_
          refine hPu 9 (some 46) ?_
          obtain ⟨_, c7_1, _, f7_1⟩ := bq2 K7
          refine hLa 10 none (fun K hK => ?_)
          refine skip_ (w1 := ?_) (by rfl) rfl ?_ ?_
          rotate_left
          · go_simp
            rfl
          refine hK.out _ _ ?_
          clear hK K
          refine done_ (by kernel_rfl) ?_
          refine NoPanic.normal ?_
          have hg7w : w.heap.size ≤ g7 := by omega
          replace K4 := Aside0.mk (blk_far K4.out (p := ⟨g7, 1, none⟩) (by show w.heap.size ≠ g7; omega) (.slice A7 (keepRels l (sy.take (j + 1))).length c7))
          replace K8 := Aside0.mk (blk_far K8.out (p := ⟨g7, 1, none⟩) (by show g8 ≠ g7; omega) (.slice A7 (keepRels l (sy.take (j + 1))).length c7))
          replace K6 := Aside0.mk (blk_far K6.out (p := ⟨g7, 1, none⟩) (by show N ≠ g7; omega) (.slice A7 (keepRels l (sy.take (j + 1))).length c7))
          replace KX := Aside0.mk (blk_far KX.out (p := ⟨g7, 1, none⟩) (by show gx ≠ g7; omega) (.slice A7 (keepRels l (sy.take (j + 1))).length c7))
          replace HF := Aside0.mk (Kd.R_set HF.out K7.out (by decide) 1 (.slice A7 (keepRels l (sy.take (j + 1))).length c7))
          replace HO := Aside0.mk (Kd.R_set HO.out K7.out (by decide) 1 (.slice A7 (keepRels l (sy.take (j + 1))).length c7))
          replace HM := Aside0.mk (HM.out.setCell (a := ⟨g7, 1, none⟩) (by show gm ≠ g7; omega) (.slice A7 (keepRels l (sy.take (j + 1))).length c7))
          replace HB := Aside0.mk (below_set (j := 1) (v := .slice A7 (keepRels l (sy.take (j + 1))).length c7) HB.out hg7w)
          replace K7 := Aside0.mk (blk_put (cs' := #[.int .i64 n, .slice A7 (keepRels l (sy.take (j + 1))).length c7]) K7.out 1 (.slice A7 (keepRels l (sy.take (j + 1))).length c7) rfl)
          clear c7_1 f7_1
          generalize w7.setCell ⟨g7, 1, none⟩ (.slice A7 (keepRels l (sy.take (j + 1))).length c7) = wz at *
          obtain ⟨cx0, cx1, _, _⟩ := bq2 KX
          have hkey : keyOf Tryz.prog 9 (.string x.f0) = some (keyS x) := keyOf_string_mk Tryz.underlying9 (by have := HXS.out; unfold maxLen; omega)
          go_wp2_with (first | (at_mapUpdate; refine wpList_mapUpdate_own _ rfl _ _ _ 98 rfl 9 4 law_str Tryz.underlying98 (plainElem (H := Unit) Tryz.prog 4) gm j _ rfl HM.out (by unfold maxLen; omega) _ _ _ rfl rfl hkey _ [] (plainElem_bool Tryz.underlying4 true) ?_; intro w1 hown1 hgrow1))
          replace K4 := Aside0.mk (blk_grown K4.out hgrow1 (by intro e; injection e with e; omega))
          replace K8 := Aside0.mk (blk_grown K8.out hgrow1 (by intro e; injection e with e; omega))
          replace K6 := Aside0.mk (blk_grown K6.out hgrow1 (by intro e; injection e with e; omega))
          replace K7 := Aside0.mk (blk_grown K7.out hgrow1 (by intro e; injection e with e; omega))
          replace HF := Aside0.mk (R_mapped HF.out HM.out hgrow1)
          replace HO := Aside0.mk (R_mapped HO.out HM.out hgrow1)
          replace HB := Aside0.mk (HB.out.grown hgrow1 HB.out.size (fun i hi => by cases hi; exact hgw))
          rw [← keys_snoc HXJ.out] at hown1
          go_roundw
          · exact ⟨j + 1, _, by simp, hlt, HA2, K4, K8, K6, K7, HF, HO, HV, ⟨hown1⟩, HB⟩
          · simp [intOf]; omega
        · have hr : keepRes n l sy = (0, [], 4) := if_neg (fun e => hq (by simpa using List.all_eq_true.1 e x (List.mem_of_getElem? HXJ.out)))
          have hq0 : decide (keepAt l x < 0) = true := decide_eq_true (by omega)
          obtain ⟨c8_0, c8_1, f8_0, f8_1⟩ := bq2 K8
          go_wp2
          have HX := blk_put (cs' := #[.int .i64 0, .slice none 0 0]) (blk_put (cs' := #[.int .i64 0, .slice none 0 0]) K8.out 0 (.int .i64 0) rfl) 1 (.slice none 0 0) rfl
          have HBX := below_set (j := 1) (v := .slice none 0 0) (below_set (j := 0) (v := .int .i64 0) HB.out hg8w) hg8w
          refine bodyPost_ret (results_keep _ _ g8 0 4 _ rfl rfl HX) rfl ?_
          rw [hr]
          exact ⟨_, rfl, Kd.R_nil _ _ _ _ _, HBX⟩
      · obtain rfl : j = sy.length := by omega
        rw [List.take_length] at HA HO HM
        have hall : sy.all (fun x => decide (0 ≤ keepAt l x)) = true := List.all_eq_true.2 (fun x hx => by simpa using HA.out x hx)
        have hr : keepRes n l sy = if keepCount sy = sy.length then (n, keepRels l sy, 0) else (0, [], 2) := if_pos hall
        have hm0 : Maps.size (keepSet (H := Unit) sy) = keepCount sy := rfl
        generalize keepCount sy = m at *
        obtain ⟨c8_0, c8_1, f8_0, f8_1⟩ := bq2 K8
        by_cases hm : m = sy.length
        · subst hm
          rw [if_pos rfl] at hr
          have HR := Aside0.mk hr
          clear hr hall
          obtain ⟨Ao, co, hvo⟩ := Kd.R_slice HO.out
          subst hvo
          obtain ⟨c7_0, c7_1, _, _⟩ := bq2 K7
          go_wp2_with (first | (at_len; refine wpList_len_own _ rfl _ 98 rfl 9 4 Tryz.underlying98 (plainElem (H := Unit) Tryz.prog 4) gm sy.length _ rfl HM.out ?_; rw [hm0]))
          have HX := blk_put (cs' := #[.int .i64 n, .slice Ao (keepRels l sy).length co]) (blk_put (cs' := #[.int .i64 n, .slice none 0 0]) K8.out 0 (.int .i64 n) rfl) 1 (.slice Ao (keepRels l sy).length co) rfl
          have HV1 := Kd.R_set HO.out K8.out (by decide) 0 (.int .i64 n)
          have HV2 := Kd.R_set HV1 (blk_put (cs' := #[.int .i64 n, .slice none 0 0]) K8.out 0 (.int .i64 n) rfl) (by decide) 1 (.slice Ao (keepRels l sy).length co)
          have HBX := below_set (j := 1) (v := .slice Ao (keepRels l sy).length co) (below_set (j := 0) (v := .int .i64 n) HB.out hg8w) hg8w
          refine bodyPost_ret (results_keep _ _ g8 n 0 _ rfl rfl HX) rfl ?_
          rw [HR.out]
          exact ⟨_, rfl, HV2, HBX⟩
        · rw [if_neg hm] at hr
          have HR := Aside0.mk hr
          have h1 : (m != sy.length) = true := bne_iff_ne.2 hm
          have h2 : ((m : Int) != (sy.length : Int)) = true := bne_iff_ne.2 (by omega)
          clear hr hall hm
          go_wp2_with (first | (at_len; refine wpList_len_own _ rfl _ 98 rfl 9 4 Tryz.underlying98 (plainElem (H := Unit) Tryz.prog 4) gm sy.length _ rfl HM.out ?_; rw [hm0]))
          have HX := blk_put (cs' := #[.int .i64 0, .slice none 0 0]) (blk_put (cs' := #[.int .i64 0, .slice none 0 0]) K8.out 0 (.int .i64 0) rfl) 1 (.slice none 0 0) rfl
          have HBX := below_set (j := 1) (v := .slice none 0 0) (below_set (j := 0) (v := .int .i64 0) HB.out hg8w) hg8w
          refine bodyPost_ret (results_keep _ _ g8 0 2 _ rfl rfl HX) rfl ?_
          rw [HR.out]
          exact ⟨_, rfl, Kd.R_nil _ _ _ _ _, HBX⟩
theorem shape_Keep.calls (k : Nat) (a0_0 : Int) (A0_1 : Option Addr) (c0_1 : Nat) (l0_1 : List S52) (A1 : Option Addr) (c1 : Nat) (l1 : List S96) (r1 : Int) (r2 : List S52) (r3 : Int) (w : World) (hr0_1 : Kd.C k52 w A0_1 l0_1.length l0_1) (hc0_1 : l0_1.length ≤ c0_1) (hr1 : Kd.C k96 w A1 l1.length l1) (hc1 : l1.length ≤ c1) (h : shape_Keep.f k a0_0 l0_1 l1 = some (r1, r2, r3)) :
    Calls Tryz.prog 23 #[.agg #[.int .i64 a0_0, .slice A0_1 l0_1.length c0_1], .slice A1 l1.length c1] w fun e w' => ∃ v1_ : Value, e = .returned (.tuple #[.agg #[.int .i64 r1, v1_], .int .i64 r3]) ∧ Kd.R k52 52 w' w.heap.size (fun _ => True) v1_ r2 ∧ Below w.heap.size w w' :=
  keep_calls k a0_0 A0_1 c0_1 l0_1 A1 c1 l1 (r1, r2, r3) w hr0_1 hc0_1 hr1 hc1 h
end Go.Proofs.YtfmpaofbnjlniaaGreatDoor.F
