/- Part 4 of the proof: ShapeTexts: Text and Parse answer as the reference says, for every structure and every string. -/
import Derived.Test.YtfmpaofbnjlniaaGreatDoorTexts3
import Derived.Lib.SplitLaws
/- Names, tuples, relations, structures: what Name, tuples, rel and Valid answer, as plain Bools; the program's and the document's. -/
namespace Go.Proofs.YtfmpaofbnjlniaaGreatDoor.F
open Go.RowKit Go.Proofs.YtfmpaofbnjlniaaGreatDoorW.PrintWords Go.Proofs.YtfmpaofbnjlniaaGreatDoorW.PrintLast Go.Proofs.YtfmpaofbnjlniaaGreatDoorW.PrintMore
set_option linter.unusedVariables false
def letB (c : Int) : Bool := (decide (97 ≤ c) && decide (c ≤ 122)) || (decide (65 ≤ c) && decide (c ≤ 90))
def digB (c : Int) : Bool := decide (48 ≤ c) && decide (c ≤ 57)
theorem letter_eq (c : Int) : shape_letter.f c = some (letB c) := by
  unfold shape_letter.f letB
  simp only [ge_iff_le]
  by_cases h1 : 97 ≤ c <;> by_cases h2 : c ≤ 122 <;> by_cases h3 : 65 ≤ c <;> by_cases h4 : c ≤ 90 <;> simp [h1, h2, h3, h4]
theorem digit_eq (c : Int) : shape_digit.f c = some (digB c) := by
  unfold shape_digit.f digB
  split <;> simp <;> omega
def wordB (s : ByteArray) : Bool := (shape_word.f s).getD false
theorem word_eq (s : ByteArray) : shape_word.f s = some (wordB s) := by
  unfold wordB shape_word.f
  repeat' split
  all_goals rfl
/-- The d bytes from i on are letters or digits. -/
def restB (s : ByteArray) : Nat → Nat → Bool
  | 0, _ => true
  | d + 1, i => (letB (bt s i) || digB (bt s i)) && restB s d (i + 1)
def nameB (s : ByteArray) : Bool := decide (1 ≤ s.size) && decide (s.size ≤ 12) && letB (bt s 0) && !wordB s && restB s (s.size - 1) 1
theorem name_loop (s : ByteArray) (hs : s.size ≤ 12) : ∀ (d i k : Nat), i + d = s.size → d + 1 ≤ k → shape_Name.l0 k s (s.size : Int) (i : Int) = some (restB s d i)
  | 0, i, k + 1, h, hk => by unfold shape_Name.l0; rw [if_neg (by omega)]; rfl
  | d + 1, i, k + 1, h, hk => by
    unfold shape_Name.l0 restB
    have ih := name_loop s hs d (i + 1) k (by omega) (by omega)
    rw [show ((i + 1 : Nat) : Int) = (i : Int) + 1 by omega] at ih
    rw [if_pos (by omega), if_pos (by omega), if_pos (by omega), letter_eq, digit_eq, w64 (by omega) (by omega), ih]
    simp only [Option.bind_some]
    cases letB (bt s i) <;> cases digB (bt s i) <;> rfl
theorem toList_loop (bs : ByteArray) : ∀ (d i : Nat) (r : List UInt8), i + d = bs.size → ByteArray.toList.loop bs i r = r.reverse ++ bs.data.toList.drop i
  | 0, i, r, h => by
    have hl : bs.data.toList.length = bs.size := data_length bs
    unfold ByteArray.toList.loop
    rw [if_neg (by omega), List.drop_eq_nil_of_le (by omega), List.append_nil]
  | d + 1, i, r, h => by
    have hl : bs.data.toList.length = bs.size := data_length bs
    unfold ByteArray.toList.loop
    rw [if_pos (by omega), toList_loop bs d (i + 1) _ (by omega), List.drop_eq_getElem_cons (show i < bs.data.toList.length by omega), List.reverse_cons, List.append_assoc]
    have hi : i < bs.data.size := by rw [Array.length_toList] at hl; omega
    have : bs.get! i = bs.data.toList[i]'(by omega) := by
      show bs.data[i]! = _
      rw [getElem!_pos bs.data i hi]; simp
    rw [this]; rfl
theorem toList_data (s : ByteArray) : s.toList = s.data.toList := by
  unfold ByteArray.toList
  rw [toList_loop s s.size 0 [] (by omega)]; simp
theorem toList_inj {s t : ByteArray} (h : s.toList = t.toList) : s = t := by
  rw [toList_data, toList_data] at h
  cases s; cases t
  simp at h
  simp [h]
theorem toList_nil (s : ByteArray) : s.toList = ([] : List UInt8) ↔ s.size = 0 := by
  rw [toList_data, ← data_length s]
  exact (List.length_eq_zero_iff (l := s.data.toList)).symm
theorem name_eq (s : ByteArray) (k : Nat) (hk : 20 ≤ k) : shape_Name.f k s = some (nameB s) := by
  obtain ⟨k, rfl⟩ : ∃ k', k = k' + 1 := ⟨k - 1, by omega⟩
  unfold shape_Name.f nameB
  by_cases h0 : s.size = 0
  · rw [if_pos ((toList_nil s).2 h0)]; simp [shape_Name.j0, h0]
  · rw [if_neg (fun h => h0 ((toList_nil s).1 h))]
    by_cases h1 : (s.size : Int) > 12
    · rw [if_pos h1]; simp [shape_Name.j0, show ¬ s.size ≤ 12 by omega]
    · rw [if_neg h1, if_pos (by omega), letter_eq]
      simp only [Option.bind_some]
      cases hl : letB (bt s 0) with
      | false => simp [shape_Name.j0]
      | true =>
        rw [if_pos rfl, word_eq]
        simp only [Option.bind_some]
        cases hw : wordB s with
        | true => simp [shape_Name.j0]
        | false =>
          unfold shape_Name.j0
          simp only [Bool.false_eq_true, if_false]
          have := name_loop s (by omega) s.size 0 k (by omega) (by omega)
          rw [show ((0 : Nat) : Int) = 0 from rfl] at this
          rw [this]
          obtain ⟨m, hm⟩ : ∃ m, s.size = m + 1 := ⟨s.size - 1, by omega⟩
          rw [hm, restB, show ((0 : Nat) : Int) = 0 from rfl, hl]
          simp; omega
theorem compare_loop (x y : List Int) (hl : x.length = y.length) (hx : x.length ≤ 100000) : ∀ (j i k : Nat), i + j = x.length → j + 1 ≤ k → ∃ c, slices_Compare_int_int.l0 k x y x (x.length : Int) (i : Int) = some c ∧ decide (c ≥ 0) = !lexL (x.drop i) (y.drop i)
  | 0, i, k + 1, h, hk => by
    refine ⟨0, ?_, ?_⟩
    · unfold slices_Compare_int_int.l0; rw [if_neg (by omega), if_neg (by omega)]
    · rw [List.drop_eq_nil_of_le (by omega)]; rfl
  | j + 1, i, k + 1, h, hk => by
    have hi : i < x.length := by omega
    have hi2 : i < y.length := by omega
    unfold slices_Compare_int_int.l0
    rw [if_pos (by omega), if_pos (by omega), if_pos (by omega), if_neg (by omega), if_pos (by omega), rd_nat x i hi, rd_nat y i hi2, List.drop_eq_getElem_cons hi, List.drop_eq_getElem_cons hi2, w64 (by omega) (by omega)]
    unfold cmp_Compare_int.f cmp_isNaN_int.f lexL
    simp only [bne_self_eq_false, Option.bind_some, Bool.false_eq_true, if_false]
    rcases Int.lt_trichotomy x[i] y[i] with h1 | h1 | h1
    · exact ⟨-1, by simp [h1], by rw [if_neg (by omega), decide_eq_true h1]; rfl⟩
    · obtain ⟨c, hc, hd⟩ := compare_loop x y hl hx j (i + 1) k (by omega) (by omega)
      rw [show ((i + 1 : Nat) : Int) = (i : Int) + 1 by omega] at hc
      exact ⟨c, by simp [h1, hc], by rw [if_pos h1]; exact hd⟩
    · exact ⟨1, by simp [h1, show ¬ x[i] < y[i] by omega], by rw [if_neg (by omega), decide_eq_false (by omega : ¬ x[i] < y[i])]; rfl⟩
def tupV (n a : Int) (t : List Int) : Bool := decide ((t.length : Int) = a) && !t.any (outB n)
/-- The d tuples from i on are of this arity, in range, and each is above the one before it. -/
def tupsV (n a : Int) (l : List (List Int)) : Nat → Nat → Bool
  | 0, _ => true
  | d + 1, i => tupV n a (rd_L2 l i) && (decide (i = 0) || lexL (rd_L2 l ((i : Int) - 1)) (rd_L2 l i)) && tupsV n a l d (i + 1)
theorem elements_eq (n : Int) (t : List Int) : shape_elements.f n t = some (!t.any (outB n)) := rfl
/-- shape.tuples' loop: from i on, the tuple ahead of i having this arity. -/
theorem tuples_loop (n a : Int) (nm : ByteArray) (a1 : Int) (l : List (List Int)) (hl : l.length ≤ 9223372036854775807) (ha : a ≤ 12) : ∀ (d i k : Nat), i + d = l.length → d + 100 ≤ k → (0 < i → ((rd_L2 l ((i : Int) - 1)).length : Int) = a) →
    shape_tuples.l0 k n l (l.length : Int) (i : Int) nm a l = some (tupsV n a l d i)
  | 0, i, k + 1, h, hk, hp => by unfold shape_tuples.l0; rw [if_neg (by omega)]; rfl
  | d + 1, i, k + 1, h, hk, hp => by
    unfold shape_tuples.l0 tupsV tupV
    rw [if_pos (by omega), if_pos (by omega), if_pos (by omega), w64 (x := (i : Int) + 1) (by omega) (by omega), w64 (x := (i : Int) - 1) (by omega) (by omega)]
    by_cases h1 : ((rd_L2 l (i : Int)).length : Int) = a
    · rw [if_pos h1, elements_eq, decide_eq_true h1]
      simp only [Option.bind_some, Bool.true_and]
      have ih := tuples_loop n a nm a1 l hl ha d (i + 1) k (by omega) (by omega) (fun _ => by rw [show (((i + 1 : Nat) : Int) - 1) = (i : Int) by omega]; exact h1)
      rw [show ((i + 1 : Nat) : Int) = (i : Int) + 1 by omega] at ih
      cases hb : (rd_L2 l (i : Int)).any (outB n) with
      | true => simp
      | false =>
        simp only [Bool.not_false, if_true, Bool.true_and]
        by_cases h2 : (i : Int) > 0
        · rw [if_pos h2, if_pos (by omega), if_pos (by omega), decide_eq_false (by omega), Bool.false_or]
          have hp' := hp (by omega)
          obtain ⟨c, hc, hd⟩ := compare_loop (rd_L2 l ((i : Int) - 1)) (rd_L2 l (i : Int)) (by omega) (by omega) (rd_L2 l ((i : Int) - 1)).length 0 k (by omega) (by omega)
          unfold slices_Compare_int_int.f
          rw [show ((0 : Nat) : Int) = 0 from rfl] at hc
          rw [hc]
          simp only [Option.bind_some, List.drop_zero] at hd ⊢
          by_cases h3 : c ≥ 0
          · rw [if_pos h3]
            rw [decide_eq_true h3] at hd
            rw [show lexL (rd_L2 l ((i : Int) - 1)) (rd_L2 l (i : Int)) = false from (Bool.not_eq_true' _).mp hd.symm]
            rfl
          · rw [if_neg h3, ih]
            rw [decide_eq_false h3] at hd
            rw [show lexL (rd_L2 l ((i : Int) - 1)) (rd_L2 l (i : Int)) = true from (Bool.not_eq_false' _).mp hd.symm]
            rfl
        · rw [if_neg h2, ih, decide_eq_true (by omega)]
          rfl
    · rw [if_neg h1, decide_eq_false h1]
      rfl
/-! ### the document's functions -/
theorem ref_letter_eq (c : Int) : paraphrastref01_letter.f c = some (letB c) := letter_eq c
theorem ref_digit_eq (c : Int) : paraphrastref01_digit.f c = some (digB c) := digit_eq c
theorem ref_word_eq (s : ByteArray) : paraphrastref01_Word.f s = some (wordB s) := word_eq s
theorem ref_name_loop (s : ByteArray) (hs : s.size ≤ 12) : ∀ (d i k : Nat), i + d = s.size → d + 1 ≤ k → paraphrastref01_Name.l0 k s (i : Int) = some (restB s d i)
  | 0, i, k + 1, h, hk => by unfold paraphrastref01_Name.l0; rw [if_neg (by omega)]; rfl
  | d + 1, i, k + 1, h, hk => by
    unfold paraphrastref01_Name.l0 restB
    have ih := ref_name_loop s hs d (i + 1) k (by omega) (by omega)
    rw [show ((i + 1 : Nat) : Int) = (i : Int) + 1 by omega] at ih
    rw [if_pos (by omega), if_pos (by omega), ref_letter_eq, ref_digit_eq, w64 (by omega) (by omega), ih]
    simp only [Option.bind_some]
    cases letB (bt s i) <;> cases digB (bt s i) <;> rfl
theorem ref_name_eq (s : ByteArray) (k : Nat) (hk : 20 ≤ k) : paraphrastref01_Name.f k s = some (nameB s) := by
  obtain ⟨k, rfl⟩ : ∃ k', k = k' + 1 := ⟨k - 1, by omega⟩
  unfold paraphrastref01_Name.f nameB
  by_cases h0 : s.size = 0
  · rw [if_pos (by omega)]; simp [paraphrastref01_Name.j0, h0]
  · rw [if_neg (by omega)]
    by_cases h1 : (s.size : Int) > 12
    · rw [if_pos h1]; simp [paraphrastref01_Name.j0, show ¬ s.size ≤ 12 by omega]
    · rw [if_neg h1, if_pos (by omega), ref_letter_eq]
      simp only [Option.bind_some]
      cases hl : letB (bt s 0) with
      | false => simp [paraphrastref01_Name.j0]
      | true =>
        rw [if_pos rfl, ref_word_eq]
        simp only [Option.bind_some]
        cases hw : wordB s with
        | true => simp [paraphrastref01_Name.j0]
        | false =>
          unfold paraphrastref01_Name.j0
          simp only [Bool.false_eq_true, if_false]
          have := ref_name_loop s (by omega) (s.size - 1) 1 k (by omega) (by omega)
          rw [show ((1 : Nat) : Int) = 1 from rfl] at this
          rw [this]
          simp; omega
theorem ref_tuples_loop (n a : Int) (nm : ByteArray) (l : List (List Int)) (hl : l.length ≤ 9223372036854775807) (ha : a ≤ 12) : ∀ (d i k : Nat), i + d = l.length → d + 100 ≤ k → (0 < i → ((rd_L2 l ((i : Int) - 1)).length : Int) = a) →
    paraphrastref01_rel.l0 k n (i : Int) nm a l = some (tupsV n a l d i)
  | 0, i, k + 1, h, hk, hp => by unfold paraphrastref01_rel.l0; rw [if_neg (by omega)]; rfl
  | d + 1, i, k + 1, h, hk, hp => by
    unfold paraphrastref01_rel.l0 tupsV tupV
    rw [if_pos (by omega), if_pos (by omega), w64 (x := (i : Int) + 1) (by omega) (by omega), w64 (x := (i : Int) - 1) (by omega) (by omega)]
    by_cases h1 : ((rd_L2 l (i : Int)).length : Int) = a
    · rw [if_pos h1, in_elements n (rd_L2 l (i : Int)) (by omega) k (by omega), elements_eq, decide_eq_true h1]
      simp only [Option.bind_some, Bool.true_and]
      have ih := ref_tuples_loop n a nm l hl ha d (i + 1) k (by omega) (by omega) (fun _ => by rw [show (((i + 1 : Nat) : Int) - 1) = (i : Int) by omega]; exact h1)
      rw [show ((i + 1 : Nat) : Int) = (i : Int) + 1 by omega] at ih
      cases hb : (rd_L2 l (i : Int)).any (outB n) with
      | true => simp
      | false =>
        simp only [Bool.not_false, if_true, Bool.true_and]
        by_cases h2 : (i : Int) > 0
        · rw [if_pos h2, if_pos (by omega), if_pos (by omega), decide_eq_false (by omega), Bool.false_or]
          have hp' := hp (by omega)
          have hL : paraphrastref01_Less.f k (rd_L2 l ((i : Int) - 1)) (rd_L2 l (i : Int)) = some (lexL (rd_L2 l ((i : Int) - 1)) (rd_L2 l (i : Int))) := less_all _ _ (by omega) (by omega) (rd_L2 l ((i : Int) - 1)).length 0 k (by omega) (by omega)
          rw [hL]
          simp only [Option.bind_some]
          cases lexL (rd_L2 l ((i : Int) - 1)) (rd_L2 l (i : Int)) with
          | false => rfl
          | true => rw [if_pos rfl, ih]; rfl
        · rw [if_neg h2, ih, decide_eq_true (by omega)]
          rfl
    · rw [if_neg h1, decide_eq_false h1]
      rfl
/-! ### relations and structures -/
def powOk (n a : Int) : Bool := match paraphrastref01_Pow.f 14 n a with | some q => decide (q ≤ 4096) | none => false
theorem pow_ok (n a : Int) (hn1 : 1 ≤ n) (hn2 : n ≤ 64) (h0 : 0 ≤ a) (h1 : a ≤ 12) (k : Nat) (hk : 14 ≤ k) : ∃ q, paraphrastref01_Pow.f k n a = some q ∧ shape_power.f k n a 4096 = some (if q > 4096 then -1 else q) ∧ 1 ≤ q ∧ powOk n a = decide (q ≤ 4096) := by
  obtain ⟨q, hq, e1, e2⟩ := pow_both n a hn1 hn2 h1 a.toNat 1 0 14 (by omega) (by omega) (by omega) (by omega) (by omega)
  have f1 : paraphrastref01_Pow.f 14 n a = some q := e1
  exact ⟨q, at_rounds (paraphrastref01_Pow.mono _ _) hk f1, at_rounds (shape_power.mono _ _ _) hk e2, hq, by unfold powOk; rw [f1]⟩
def relV (n : Int) (r : S52) : Bool := nameB r.f0 && decide (0 ≤ r.f1) && decide (r.f1 ≤ 12) && powOk n r.f1 && tupsV n r.f1 r.f2 r.f2.length 0
def relsV (n : Int) (l : List S52) : Nat → Nat → Bool
  | 0, _ => true
  | d + 1, i => relV n (rd_T52 l i) && !(l.take i).any (nameIs (rd_T52 l i).f0) && relsV n l d (i + 1)
def validB (n : Int) (l : List S52) : Bool := decide (1 ≤ n) && decide (n ≤ 64) && decide (l.length ≤ 8) && relsV n l l.length 0
theorem ref_rel_eq (T : Nat) (hT : T ≤ 9223372036854775807) (n : Int) (hn1 : 1 ≤ n) (hn2 : n ≤ 64) (r : S52) (hl : r.f2.length ≤ T) (k : Nat) (hk : T + 200 ≤ k) : paraphrastref01_rel.f k n r.f0 r.f1 r.f2 = some (relV n r) := by
  obtain ⟨k, rfl⟩ : ∃ k', k = k' + 1 := ⟨k - 1, by omega⟩
  have hj : paraphrastref01_rel.j0 (k + 1) n true r.f0 r.f1 r.f2 = some false := rfl
  unfold paraphrastref01_rel.f relV
  rw [ref_name_eq _ _ (by omega)]
  simp only [Option.bind_some]
  cases hn : nameB r.f0 with
  | false => simp [hj]
  | true =>
    rw [if_pos rfl]
    by_cases h0 : r.f1 < 0
    · rw [if_pos h0, hj, decide_eq_false (by omega)]; rfl
    · rw [if_neg h0]
      by_cases h1 : r.f1 > 12
      · rw [if_pos h1, hj, decide_eq_false (by omega : ¬ r.f1 ≤ 12)]; simp
      · obtain ⟨q, e1, _, _, e3⟩ := pow_ok n r.f1 hn1 hn2 (by omega) (by omega) (k + 1) (by omega)
        rw [if_neg h1, e1, e3, decide_eq_true (by omega : 0 ≤ r.f1), decide_eq_true (by omega : r.f1 ≤ 12)]
        simp only [Option.bind_some, Bool.true_and]
        by_cases h2 : q > 4096
        · rw [decide_eq_true h2, hj, decide_eq_false (by omega)]; rfl
        · rw [decide_eq_false h2, decide_eq_true (by omega : q ≤ 4096)]
          unfold paraphrastref01_rel.j0
          simp only [Bool.false_eq_true, if_false, Bool.true_and]
          exact ref_tuples_loop n r.f1 r.f0 r.f2 (by omega) (by omega) r.f2.length 0 k (by omega) (by omega) (by omega)
theorem rdT_nat (l : List S52) (i : Nat) (h : i < l.length) : rd_T52 l (i : Int) = l[i] := by unfold rd_T52; rw [Int.toNat_natCast, List.getD_eq_getElem?_getD, List.getElem?_eq_getElem h]; rfl
theorem valid_j2 (k : Nat) (n : Int) (l : List S52) (i : Nat) (b : Bool) (f0 : ByteArray) (f1 : Int) (f2 : List (List Int)) (hi : i < l.length) (hl : l.length ≤ 8) :
    shape_Valid.j2 (k + 1) (i : Int) l (l.length : Int) (i : Int) b n l f0 f1 f2 = if b = true then some false else if (l.take i).any (nameIs f0) = true then some false else shape_Valid.l0 k l (l.length : Int) ((i + 1 : Nat) : Int) n l := by
  conv => lhs; unfold shape_Valid.j2
  cases b with
  | true => rfl
  | false =>
    simp only [Bool.false_eq_true, if_false]
    rw [if_pos (by omega), if_pos (by omega), w64 (by omega) (by omega), Int.toNat_natCast, show ((i + 1 : Nat) : Int) = (i : Int) + 1 by omega]
    rfl
theorem valid_loop (n : Int) (hn1 : 1 ≤ n) (hn2 : n ≤ 64) (l : List S52) (hl : l.length ≤ 8) (T : Nat) (hT : T ≤ 9223372036854775807) (hall : ∀ r ∈ l, r.f2.length ≤ T) : ∀ (d i k : Nat), i + d = l.length → d * 2 + T + 200 ≤ k →
    shape_Valid.l0 k l (l.length : Int) (i : Int) n l = some (relsV n l d i)
  | 0, i, k + 1, h, hk => by unfold shape_Valid.l0; rw [if_neg (by omega)]; rfl
  | d + 1, i, k + 1, h, hk => by
    have hi : i < l.length := by omega
    have hr := hall _ (List.getElem_mem hi)
    rw [← rdT_nat l i hi] at hr
    obtain ⟨k, rfl⟩ : ∃ k', k = k' + 1 := ⟨k - 1, by omega⟩
    have ih := valid_loop n hn1 hn2 l hl T hT hall d (i + 1) k (by omega) (by omega)
    unfold shape_Valid.l0 relsV
    rw [if_pos (by omega), if_pos (by omega), if_pos (by omega), name_eq _ _ (by omega)]
    generalize rd_T52 l (i : Int) = r at hr ⊢
    simp only [Option.bind_some, valid_j2 k n l i _ r.f0 r.f1 r.f2 hi hl, ih, if_true]
    unfold relV
    cases hn : nameB r.f0 with
    | false => simp
    | true =>
      by_cases h0 : r.f1 < 0
      · rw [if_pos rfl, if_pos h0, decide_eq_false (by omega)]; simp
      · by_cases h1 : r.f1 > 12
        · rw [if_pos rfl, if_neg h0, if_pos h1, decide_eq_false (by omega : ¬ r.f1 ≤ 12)]; simp
        · obtain ⟨q, _, e2, hq, e3⟩ := pow_ok n r.f1 hn1 hn2 (by omega) (by omega) (k + 1) (by omega)
          rw [if_pos rfl, if_neg h0, if_neg h1, e2, e3, decide_eq_true (by omega : 0 ≤ r.f1), decide_eq_true (by omega : r.f1 ≤ 12)]
          simp only [Option.bind_some]
          by_cases h2 : q > 4096
          · rw [if_pos h2, if_pos (by omega), decide_eq_false (by omega)]; simp
          · rw [if_neg h2, if_neg (by omega), decide_eq_true (by omega : q ≤ 4096)]
            have ht : shape_tuples.f (k + 1) n r.f0 r.f1 r.f2 = some (tupsV n r.f1 r.f2 r.f2.length 0) := tuples_loop n r.f1 r.f0 0 r.f2 (by omega) (by omega) r.f2.length 0 (k + 1) (by omega) (by omega) (by omega)
            rw [ht]
            simp only [Option.bind_some, Bool.true_and]
            cases tupsV n r.f1 r.f2 r.f2.length 0 <;> cases (l.take i).any (nameIs r.f0) <;> rfl
theorem valid_eq (n : Int) (l : List S52) (T : Nat) (hT : T ≤ 9223372036854775807) (hall : ∀ r ∈ l, r.f2.length ≤ T) (k : Nat) (hk : T + 300 ≤ k) : shape_Valid.f k n l = some (validB n l) := by
  obtain ⟨k, rfl⟩ : ∃ k', k = k' + 1 := ⟨k - 1, by omega⟩
  have hj : shape_Valid.j0 (k + 1) true n l = some false := rfl
  unfold shape_Valid.f validB
  by_cases h1 : n < 1
  · rw [if_pos h1, hj, decide_eq_false (by omega)]; rfl
  · rw [if_neg h1]
    by_cases h2 : n > 64
    · rw [if_pos h2, hj, decide_eq_false (by omega : ¬ n ≤ 64)]; simp
    · rw [if_neg h2, decide_eq_true (by omega : 1 ≤ n), decide_eq_true (by omega : n ≤ 64)]
      by_cases h3 : (l.length : Int) > 8
      · rw [decide_eq_true h3, hj, decide_eq_false (by omega)]; rfl
      · rw [decide_eq_false h3, decide_eq_true (by omega : l.length ≤ 8)]
        unfold shape_Valid.j0
        simp only [Bool.false_eq_true, if_false, Bool.true_and]
        exact valid_loop n (by omega) (by omega) l (by omega) T hT hall l.length 0 k (by omega) (by omega)
theorem ref_names (n : Int) (l : List S52) (hl : l.length ≤ 8) (i : Nat) (hi : i < l.length) (R : Bool) (B : Nat) (hR : ∀ k, B ≤ k → paraphrastref01_Valid.l0 k ((i + 1 : Nat) : Int) n l = some R) : ∀ (m j k : Nat), j + m = i → m + B + 1 ≤ k →
    paraphrastref01_Valid.l1 k (i : Int) (j : Int) n l = some (!((l.take i).drop j).any (nameIs (rd_T52 l i).f0) && R)
  | 0, j, k + 1, h, hk => by
    unfold paraphrastref01_Valid.l1
    rw [if_neg (by omega), w64 (by omega) (by omega), show (i : Int) + 1 = ((i + 1 : Nat) : Int) by omega, hR k (by omega), List.drop_eq_nil_of_le (by simp; omega)]
    rfl
  | m + 1, j, k + 1, h, hk => by
    have ih := ref_names n l hl i hi R B hR m (j + 1) k (by omega) (by omega)
    unfold paraphrastref01_Valid.l1
    rw [if_pos (by omega), if_pos (by omega), if_pos (by omega), if_pos (by omega), if_pos (by omega), w64 (by omega) (by omega), show (j : Int) + 1 = ((j + 1 : Nat) : Int) by omega, ih, List.drop_eq_getElem_cons (show j < (l.take i).length by simp; omega), List.any_cons, List.getElem_take, rdT_nat l j (by omega)]
    unfold nameIs
    by_cases he : l[j].f0.toList = (rd_T52 l i).f0.toList
    · rw [if_pos he, beq_iff_eq.2 he]; rfl
    · rw [if_neg he, beq_eq_false_iff_ne.2 he]; rfl
theorem ref_valid_loop (n : Int) (hn1 : 1 ≤ n) (hn2 : n ≤ 64) (l : List S52) (hl : l.length ≤ 8) (T : Nat) (hT : T ≤ 9223372036854775807) (hall : ∀ r ∈ l, r.f2.length ≤ T) : ∀ (d i k : Nat), i + d = l.length → d * 12 + T + 200 ≤ k →
    paraphrastref01_Valid.l0 k (i : Int) n l = some (relsV n l d i)
  | 0, i, k + 1, h, hk => by unfold paraphrastref01_Valid.l0; rw [if_neg (by omega)]; rfl
  | d + 1, i, k + 1, h, hk => by
    have hi : i < l.length := by omega
    have hr := hall _ (List.getElem_mem hi)
    rw [← rdT_nat l i hi] at hr
    obtain ⟨B, hB⟩ : ∃ B : Nat, B = d * 12 + T + 200 := ⟨_, rfl⟩
    have IH : ∀ k', B ≤ k' → paraphrastref01_Valid.l0 k' ((i + 1 : Nat) : Int) n l = some (relsV n l d (i + 1)) := fun k' hk' => ref_valid_loop n hn1 hn2 l hl T hT hall d (i + 1) k' (by omega) (by omega)
    have hnm := ref_names n l hl i hi (relsV n l d (i + 1)) B IH i 0 k (by omega) (by omega)
    unfold paraphrastref01_Valid.l0 relsV
    rw [if_pos (by omega), if_pos (by omega), ref_rel_eq T hT n hn1 hn2 (rd_T52 l (i : Int)) hr k (by omega)]
    simp only [Option.bind_some]
    cases relV n (rd_T52 l (i : Int)) with
    | false => simp
    | true =>
      rw [if_pos rfl]
      rw [show ((0 : Nat) : Int) = 0 from rfl] at hnm
      rw [hnm, List.drop_zero, Bool.true_and]
theorem ref_valid_eq (n : Int) (l : List S52) (T : Nat) (hT : T ≤ 9223372036854775807) (hall : ∀ r ∈ l, r.f2.length ≤ T) (k : Nat) (hk : T + 400 ≤ k) : paraphrastref01_Valid.f k n l = some (validB n l) := by
  obtain ⟨k, rfl⟩ : ∃ k', k = k' + 1 := ⟨k - 1, by omega⟩
  have hj : paraphrastref01_Valid.j0 (k + 1) true n l = some false := rfl
  unfold paraphrastref01_Valid.f validB
  by_cases h1 : n < 1
  · rw [if_pos h1, hj, decide_eq_false (by omega)]; rfl
  · rw [if_neg h1]
    by_cases h2 : n > 64
    · rw [if_pos h2, hj, decide_eq_false (by omega : ¬ n ≤ 64)]; simp
    · rw [if_neg h2, decide_eq_true (by omega : 1 ≤ n), decide_eq_true (by omega : n ≤ 64)]
      by_cases h3 : (l.length : Int) > 8
      · rw [decide_eq_true h3, hj, decide_eq_false (by omega)]; rfl
      · rw [decide_eq_false h3, decide_eq_true (by omega : l.length ≤ 8)]
        unfold paraphrastref01_Valid.j0
        simp only [Bool.false_eq_true, if_false, Bool.true_and]
        exact ref_valid_loop n (by omega) (by omega) l (by omega) T hT hall l.length 0 k (by omega) (by omega)
end Go.Proofs.YtfmpaofbnjlniaaGreatDoor.F
/- Reading back what has been written: splitting a text whose parts do not hold the separator's first byte; the numbers 0 to 99; parseB of textL. -/
namespace Go.Proofs.YtfmpaofbnjlniaaGreatDoor.F
open Go.RowKit Go.Proofs.YtfmpaofbnjlniaaGreatDoorW.PrintWords
set_option linter.unusedVariables false
theorem index_hd (c : UInt8) (rest : List UInt8) : ∀ (A B : List UInt8), c ∉ A → Lib.index (A ++ (c :: rest ++ B)) (c :: rest) = A.length
  | [], B, _ => by
    rw [List.nil_append, List.cons_append]
    unfold Lib.index
    rw [if_pos (by rw [← List.cons_append]; exact List.isPrefixOf_iff_prefix.2 (List.prefix_append _ _))]; rfl
  | a :: A, B, h => by
    have ih := index_hd c rest A B (fun e => h (List.mem_cons_of_mem _ e))
    have ha : c ≠ a := fun e => h (e ▸ List.mem_cons_self)
    rw [List.cons_append]
    unfold Lib.index
    rw [if_neg (by simp [List.isPrefixOf, ha]), ih, if_neg (by simp <;> omega)]
    simp
theorem index_no (c : UInt8) (rest : List UInt8) : ∀ (A : List UInt8), c ∉ A → Lib.index A (c :: rest) = -1
  | [], _ => rfl
  | a :: A, h => by
    have ih := index_no c rest A (fun e => h (List.mem_cons_of_mem _ e))
    have ha : c ≠ a := fun e => h (e ▸ List.mem_cons_self)
    unfold Lib.index
    rw [if_neg (by simp [List.isPrefixOf, ha]), ih, if_pos (by decide)]
theorem split_no (c : UInt8) (rest A : List UInt8) (h : c ∉ A) : Lib.split A (c :: rest) = [A] := by
  unfold Lib.split
  rw [Lib.count_miss (index_no c rest A h)]; rfl
theorem split_hd (c : UInt8) (rest A B : List UInt8) (h : c ∉ A) : Lib.split (A ++ (c :: rest ++ B)) (c :: rest) = A :: Lib.split B (c :: rest) := by
  have hi := index_hd c rest A B h
  have hd : (A ++ (c :: rest ++ B)).drop (A.length + (c :: rest).length) = B := by
    rw [← List.append_assoc, List.drop_left' (by simp)]
  unfold Lib.split
  rw [Lib.count_hit (by simp) hi, hd, Nat.add_comm]
  conv => lhs; unfold Lib.splitK
  rw [hi, if_neg (by simp <;> omega), Int.toNat_natCast, hd, Nat.add_zero, List.take_left' rfl]
def joinR (s : List UInt8) : List (List UInt8) → List UInt8
  | [] => []
  | p :: ps => s ++ (p ++ joinR s ps)
theorem split_joinR (c : UInt8) (rest : List UInt8) : ∀ (ps : List (List UInt8)) (A : List UInt8), c ∉ A → (∀ p ∈ ps, c ∉ p) → Lib.split (A ++ joinR (c :: rest) ps) (c :: rest) = A :: ps
  | [], A, h, _ => by rw [joinR, List.append_nil, split_no c rest A h]
  | p :: ps, A, h, hp => by
    rw [joinR, split_hd c rest A _ h, split_joinR c rest ps p (hp p List.mem_cons_self) (fun q hq => hp q (List.mem_cons_of_mem _ hq))]
def mkB (l : List UInt8) : ByteArray := ⟨l.toArray⟩
theorem mkB_data (s : ByteArray) : mkB s.data.toList = s := by cases s; simp [mkB]
theorem splitL_mk (l : List UInt8) (sep : ByteArray) : splitL (mkB l) sep = (Lib.split l sep.data.toList).map mkB := by
  unfold splitL Lib.split
  have h := congrArg (List.map mkB) (Lib.splitB_data sep 0 (Lib.countB (mkB l) sep) (mkB l))
  rw [List.map_map] at h
  have e : (mkB ∘ fun x : ByteArray => x.data.toList) = id := funext fun x => mkB_data x
  rw [e, List.map_id] at h
  rw [h]
  rfl
theorem splitL_join (l : List UInt8) (c : UInt8) (rest : List UInt8) (sep : ByteArray) (hs : sep.data.toList = c :: rest) (A : List UInt8) (ps : List (List UInt8)) (hl : l = A ++ joinR (c :: rest) ps) (hA : c ∉ A) (hp : ∀ p ∈ ps, c ∉ p) : splitL (mkB l) sep = mkB A :: ps.map mkB := by
  rw [splitL_mk, hs, hl, split_joinR c rest ps A hA hp, List.map_cons]
/-! ### numbers -/
theorem atoi_one : ∀ i : Fin 10, Lib.atoiAll [UInt8.ofNat (48 + i.val)] = .ok (i.val : Int) := by decide +kernel
theorem atoi_two : ∀ i : Fin 100, ¬ i.val < 10 → Lib.atoiAll [UInt8.ofNat (48 + i.val / 10), UInt8.ofNat (48 + i.val % 10)] = .ok (i.val : Int) := by decide +kernel
theorem digs_cases (x : Int) (h0 : 0 ≤ x) (h1 : x < 100) : (∃ i : Fin 10, x = i.val ∧ digs x = [UInt8.ofNat (48 + i.val)]) ∨ (∃ i : Fin 100, ¬ i.val < 10 ∧ x = i.val ∧ digs x = [UInt8.ofNat (48 + i.val / 10), UInt8.ofNat (48 + i.val % 10)]) := by
  unfold digs
  by_cases h : x.toNat < 10
  · exact Or.inl ⟨⟨x.toNat, h⟩, by simp; omega, Lib.decDigits_one h⟩
  · exact Or.inr ⟨⟨x.toNat, by omega⟩, h, by simp; omega, Lib.decDigits_two h (by omega)⟩
theorem numB_digs (x : Int) (h0 : 0 ≤ x) (h1 : x < 100) : numB (mkB (digs x)) = some x := by
  have h : Lib.atoiAll (digs x) = .ok x := by
    rcases digs_cases x h0 h1 with ⟨i, hx, hd⟩ | ⟨i, hi, hx, hd⟩
    · rw [hd, hx]; exact atoi_one i
    · rw [hd, hx]; exact atoi_two i hi
  unfold numB
  rw [show (mkB (digs x)).data.toList = digs x from rfl, h]
theorem ofNat48 (d : Nat) (h : d < 10) : 48 ≤ (UInt8.ofNat (48 + d)).toNat ∧ (UInt8.ofNat (48 + d)).toNat ≤ 57 := by
  rw [UInt8.toNat_ofNat_of_lt' (by show 48 + d < 256; omega)]; omega
theorem digs_mem (x : Int) (h0 : 0 ≤ x) (h1 : x < 100) : ∀ b ∈ digs x, 48 ≤ b.toNat ∧ b.toNat ≤ 57 := by
  intro b hb
  rcases digs_cases x h0 h1 with ⟨i, hx, hd⟩ | ⟨i, hi, hx, hd⟩
  · rw [hd] at hb
    obtain rfl := List.mem_singleton.1 hb
    exact ofNat48 _ i.isLt
  · rw [hd] at hb
    have h2 := i.isLt
    rcases List.mem_cons.1 hb with rfl | hb
    · exact ofNat48 _ (by omega)
    · obtain rfl := List.mem_singleton.1 hb
      exact ofNat48 _ (by omega)
theorem digs_len (x : Int) (h0 : 0 ≤ x) (h1 : x < 100) : 1 ≤ (digs x).length ∧ (digs x).length ≤ 2 := by
  rcases digs_cases x h0 h1 with ⟨i, hx, hd⟩ | ⟨i, hi, hx, hd⟩ <;> rw [hd] <;> simp
theorem digs_not (c : UInt8) (hc : c.toNat < 48 ∨ 57 < c.toNat) (x : Int) (h0 : 0 ≤ x) (h1 : x < 100) : c ∉ digs x := fun h => by have := digs_mem x h0 h1 c h; omega
/-! ### names -/
theorem rest_all (s : ByteArray) : ∀ (d i : Nat), restB s d i = true → ∀ j, i ≤ j → j < i + d → (letB (bt s j) || digB (bt s j)) = true
  | 0, i, h, j, h1, h2 => by omega
  | d + 1, i, h, j, h1, h2 => by
    unfold restB at h
    rw [Bool.and_eq_true] at h
    by_cases e : j = i
    · rw [e]; exact h.1
    · exact rest_all s d (i + 1) h.2 j (by omega) (by omega)
theorem name_mem (s : ByteArray) (h : nameB s = true) : (∀ b ∈ s.data.toList, (48 ≤ b.toNat ∧ b.toNat ≤ 57) ∨ (65 ≤ b.toNat ∧ b.toNat ≤ 122)) ∧ s.data.toList.length ≤ 12 := by
  have hl : s.data.toList.length = s.size := data_length s
  unfold nameB at h
  simp only [Bool.and_eq_true, decide_eq_true_eq] at h
  obtain ⟨⟨⟨⟨h1, h2⟩, h3⟩, h4⟩, h5⟩ := h
  refine ⟨fun b hb => ?_, by omega⟩
  obtain ⟨j, hj, rfl⟩ := List.getElem_of_mem hb
  have hb : (letB (bt s j) || digB (bt s j)) = true := by
    by_cases e : j = 0
    · subst e; rw [show ((0 : Nat) : Int) = 0 from rfl, h3]; rfl
    · exact rest_all s (s.size - 1) 1 h5 j (by omega) (by omega)
  have hbt : bt s j = ((s.data.toList[j]'hj).toNat : Int) := by
    unfold bt
    rw [dif_pos (by simp; omega)]
    simp; rfl
  rw [hbt] at hb
  unfold letB digB at hb
  simp only [Bool.or_eq_true, Bool.and_eq_true, decide_eq_true_eq] at hb
  omega
/-! ### tuples, relations, structures -/
/-- What a tuple of a valid structure is like, as far as its text goes. -/
def tupOk (t : List Int) : Prop := ∀ x ∈ t, 0 ≤ x ∧ x < 100
theorem tupRest_join (l : List Int) : tupRest l = joinR [44] (l.map digs) := by
  induction l with
  | nil => rfl
  | cons x xs ih => rw [tupRest, ih]; rfl
theorem tupsT_join (l : List (List Int)) : tupsT l = joinR [32] (l.map tupT) := by
  induction l with
  | nil => rfl
  | cons x xs ih => rw [tupsT, ih]; rfl
def pieceR (r : S52) : List UInt8 := r.f0.data.toList ++ (47 :: digs r.f1) ++ tupsT r.f2
theorem relsT_join (l : List S52) : relsT l = joinR [59, 32] (l.map pieceR) := by
  induction l with
  | nil => rfl
  | cons x xs ih => rw [relsT, ih]; simp [relT, relHd, pieceR, joinR]
theorem joinR_mem (s : List UInt8) (b : UInt8) : ∀ ps : List (List UInt8), b ∈ joinR s ps → b ∈ s ∨ ∃ p ∈ ps, b ∈ p
  | [], h => by simp [joinR] at h
  | p :: ps, h => by
    rw [joinR, List.mem_append, List.mem_append] at h
    rcases h with h | h | h
    · exact Or.inl h
    · exact Or.inr ⟨p, List.mem_cons_self, h⟩
    · rcases joinR_mem s b ps h with h | ⟨q, hq, hb⟩
      · exact Or.inl h
      · exact Or.inr ⟨q, List.mem_cons_of_mem _ hq, hb⟩
theorem tupT_not (c : UInt8) (hc : c.toNat < 40 ∨ 57 < c.toNat) (t : List Int) (ht : tupOk t) : c ∉ tupT t := by
  intro h
  cases t with
  | nil => simp [tupT, tupPre, tupJ] at h; rcases h with rfl | rfl <;> simp at hc
  | cons x xs =>
    rw [tupT, tupPre, List.nil_append, tupJ, tupRest_join, List.mem_append] at h
    rcases h with h | h
    · exact digs_not c (by omega) x (ht x List.mem_cons_self).1 (ht x List.mem_cons_self).2 h
    · rcases joinR_mem _ c _ h with h | ⟨p, hp, h⟩
      · obtain rfl := List.mem_singleton.1 h; simp at hc
      · obtain ⟨y, hy, rfl⟩ := List.mem_map.1 hp
        have := ht y (List.mem_cons_of_mem _ hy)
        exact digs_not c (by omega) y this.1 this.2 h
theorem numsB_digs : ∀ l : List Int, tupOk l → numsB ((l.map digs).map mkB) = some l
  | [], _ => rfl
  | x :: xs, h => by
    have hx := h x List.mem_cons_self
    rw [List.map_cons, List.map_cons, numsB, numB_digs x hx.1 hx.2, numsB_digs xs (fun y hy => h y (List.mem_cons_of_mem _ hy))]
    rfl
theorem tupB_text (t : List Int) (ht : tupOk t) : tupB (mkB (tupT t)) = some t := by
  unfold tupB
  cases t with
  | nil => rw [if_pos (by unfold isUnit; rw [toList_data]; rfl)]
  | cons x xs =>
    have hx := ht x List.mem_cons_self
    have hj : tupT (x :: xs) = digs x ++ joinR [44] (xs.map digs) := by rw [tupT, tupPre, List.nil_append, tupJ, tupRest_join]
    have hu : isUnit (mkB (tupT (x :: xs))) = false := by
      unfold isUnit
      rw [toList_data, show (mkB (tupT (x :: xs))).data.toList = tupT (x :: xs) from rfl, hj]
      obtain ⟨d, ds, hd⟩ : ∃ d ds, digs x = d :: ds := by
        have := (digs_len x hx.1 hx.2).1
        cases h : digs x with
        | nil => rw [h] at this; simp at this
        | cons d ds => exact ⟨d, ds, rfl⟩
      have := digs_mem x hx.1 hx.2 d (by rw [hd]; exact List.mem_cons_self)
      rw [hd, List.cons_append, List.cons_beq_cons, beq_eq_false_iff_ne.2 (fun e => by subst e; simp at this)]
      rfl
    rw [hu, if_neg (by simp), splitL_join _ 44 [] sepC rfl (digs x) (xs.map digs) hj (digs_not 44 (by decide) x hx.1 hx.2) (fun p hp => by
      obtain ⟨y, hy, rfl⟩ := List.mem_map.1 hp
      have := ht y (List.mem_cons_of_mem _ hy)
      exact digs_not 44 (by decide) y this.1 this.2)]
    have := numsB_digs (x :: xs) ht
    rw [List.map_cons, List.map_cons] at this
    exact this
theorem tupsB_text : ∀ l : List (List Int), (∀ t ∈ l, tupOk t) → tupsB ((l.map tupT).map mkB) = some l
  | [], _ => rfl
  | t :: ts, h => by
    rw [List.map_cons, List.map_cons, tupsB, tupB_text t (h t List.mem_cons_self), tupsB_text ts (fun y hy => h y (List.mem_cons_of_mem _ hy))]
    rfl
def relOk (r : S52) : Prop := nameB r.f0 = true ∧ (0 ≤ r.f1 ∧ r.f1 < 100) ∧ ∀ t ∈ r.f2, tupOk t
theorem head_not (c : UInt8) (hc : c.toNat < 47 ∨ (57 < c.toNat ∧ c.toNat < 65)) (r : S52) (h : relOk r) : c ∉ r.f0.data.toList ++ (47 :: digs r.f1) := by
  intro hb
  rcases List.mem_append.1 hb with hb | hb
  · have := (name_mem r.f0 h.1).1 c hb; omega
  · rcases List.mem_cons.1 hb with rfl | hb
    · simp at hc
    · exact digs_not c (by omega) _ h.2.1.1 h.2.1.2 hb
theorem pieceR_not (r : S52) (h : relOk r) : (59 : UInt8) ∉ pieceR r := by
  intro hb
  rcases List.mem_append.1 hb with hb | hb
  · exact head_not 59 (by decide) r h hb
  · rw [tupsT_join] at hb
    rcases joinR_mem _ _ _ hb with hb | ⟨p, hp, hb⟩
    · simp at hb
    · obtain ⟨t, ht, rfl⟩ := List.mem_map.1 hp
      exact tupT_not 59 (by decide) t (h.2.2 t ht) hb
theorem cut_head (r : S52) (h : relOk r) : cutB (mkB (r.f0.data.toList ++ (47 :: digs r.f1))) = (r.f0, mkB (digs r.f1), true) := by
  have hi : Lib.index (r.f0.data.toList ++ (47 :: digs r.f1)) sepS.data.toList = r.f0.data.toList.length := index_hd 47 [] r.f0.data.toList (digs r.f1) (fun hb => by have := (name_mem r.f0 h.1).1 47 hb; simp at this)
  have e : Lib.cut (r.f0.data.toList ++ (47 :: digs r.f1)) sepS.data.toList = (r.f0.data.toList, digs r.f1, true) := by
    unfold Lib.cut
    rw [hi, if_pos (by omega), Int.toNat_natCast, List.take_left' rfl, List.drop_append, List.drop_eq_nil_of_le (by omega)]
    simp [sepS]
  unfold cutB
  rw [show (mkB (r.f0.data.toList ++ (47 :: digs r.f1))).data.toList = r.f0.data.toList ++ (47 :: digs r.f1) from rfl, e]
  simp only
  rw [show (⟨r.f0.data.toList.toArray⟩ : ByteArray) = r.f0 from mkB_data r.f0]
  rfl
theorem relB_text (r : S52) (h : relOk r) : relB (mkB (pieceR r)) = some r := by
  unfold relB
  rw [splitL_join _ 32 [] sepB rfl (r.f0.data.toList ++ (47 :: digs r.f1)) (r.f2.map tupT) (by rw [pieceR, tupsT_join]) (head_not 32 (by decide) r h) (fun p hp => by
    obtain ⟨t, ht, rfl⟩ := List.mem_map.1 hp
    exact tupT_not 32 (by decide) t (h.2.2 t ht))]
  simp only
  unfold relOf
  rw [cut_head r h, if_pos rfl]
  simp only
  rw [numB_digs _ h.2.1.1 h.2.1.2, tupsB_text _ h.2.2]
  rfl
theorem relsB_text : ∀ l : List S52, (∀ r ∈ l, relOk r) → relsB ((l.map pieceR).map mkB) = some l
  | [], _ => rfl
  | t :: ts, h => by
    rw [List.map_cons, List.map_cons, relsB, relB_text t (h t List.mem_cons_self), relsB_text ts (fun y hy => h y (List.mem_cons_of_mem _ hy))]
    rfl
theorem parse_text (n : Int) (hn0 : 0 ≤ n) (hn1 : n < 100) (l : List S52) (h : ∀ r ∈ l, relOk r) : parseB (mkB (textL n l)) = some (n, l) := by
  unfold parseB
  rw [splitL_join _ 59 [32] sepR rfl (digs n) (l.map pieceR) (by rw [textL, relsT_join]) (digs_not 59 (by decide) n hn0 hn1) (fun p hp => by
    obtain ⟨t, ht, rfl⟩ := List.mem_map.1 hp
    exact pieceR_not t (h t ht))]
  simp only
  rw [numB_digs n hn0 hn1, relsB_text l h]
  rfl
/-! ### how long a text is -/
theorem tupRest_len : ∀ l : List Int, tupOk l → (tupRest l).length ≤ 3 * l.length
  | [], _ => Nat.le_refl _
  | x :: xs, h => by
    have hx := h x List.mem_cons_self
    have := (digs_len x hx.1 hx.2).2
    have := tupRest_len xs (fun y hy => h y (List.mem_cons_of_mem _ hy))
    simp [tupRest]; omega
theorem tupT_len (t : List Int) (h : tupOk t) : (tupT t).length ≤ 2 + 3 * t.length := by
  cases t with
  | nil => simp [tupT, tupPre, tupJ]
  | cons x xs =>
    have hx := h x List.mem_cons_self
    have := (digs_len x hx.1 hx.2).2
    have := tupRest_len xs (fun y hy => h y (List.mem_cons_of_mem _ hy))
    simp [tupT, tupPre, tupJ]; omega
theorem tupsT_lenU : ∀ l : List (List Int), (∀ t ∈ l, tupOk t ∧ t.length ≤ 12) → (tupsT l).length ≤ 39 * l.length
  | [], _ => Nat.le_refl _
  | t :: ts, h => by
    have h1 := h t List.mem_cons_self
    have := tupT_len t h1.1
    have := tupsT_lenU ts (fun y hy => h y (List.mem_cons_of_mem _ hy))
    simp [tupsT]; omega
theorem relsT_lenU : ∀ l : List S52, (∀ r ∈ l, relOk r ∧ (∀ t ∈ r.f2, t.length ≤ 12) ∧ r.f2.length ≤ 4096) → (relsT l).length ≤ 200000 * l.length
  | [], _ => Nat.le_refl _
  | r :: rs, h => by
    obtain ⟨h1, h2, h3⟩ := h r List.mem_cons_self
    have := (name_mem r.f0 h1.1).2
    have := (digs_len r.f1 h1.2.1.1 h1.2.1.2).2
    have := tupsT_lenU r.f2 (fun t ht => ⟨h1.2.2 t ht, h2 t ht⟩)
    have := relsT_lenU rs (fun y hy => h y (List.mem_cons_of_mem _ hy))
    simp only [relsT, relT, relHd, List.length_append, List.length_cons, List.length_nil] at *
    omega
/-! ### what a valid structure is like -/
theorem tupsV_all (n a : Int) (l : List (List Int)) : ∀ (d i : Nat), tupsV n a l d i = true → i + d = l.length → ∀ j (hj : j < l.length), i ≤ j → tupV n a l[j] = true ∧ (0 < j → ∃ h : j - 1 < l.length, lexL l[j - 1] l[j] = true)
  | 0, i, _, h, j, hj, hi => by omega
  | d + 1, i, h, hl, j, hj, hi => by
    unfold tupsV at h
    simp only [Bool.and_eq_true, Bool.or_eq_true, decide_eq_true_eq] at h
    by_cases e : j = i
    · subst e
      have r1 : rd_L2 l (j : Int) = l[j] := by unfold rd_L2; rw [Int.toNat_natCast, List.getD_eq_getElem?_getD, List.getElem?_eq_getElem hj]; rfl
      rw [r1] at h
      refine ⟨h.1.1, fun h0 => ⟨by omega, ?_⟩⟩
      have h2 := h.1.2.resolve_left (by omega)
      have r2 : rd_L2 l ((j : Int) - 1) = l[j - 1]'(by omega) := by unfold rd_L2; rw [show ((j : Int) - 1).toNat = j - 1 by omega, List.getD_eq_getElem?_getD, List.getElem?_eq_getElem (by omega)]; rfl
      rw [r2] at h2
      exact h2
    · exact tupsV_all n a l d (i + 1) h.2 (by omega) j hj (by omega)
theorem tupV_in (n a : Int) (t : List Int) (h : tupV n a t = true) : (t.length : Int) = a ∧ ∀ x ∈ t, 0 ≤ x ∧ x < n := by
  unfold tupV at h
  simp only [Bool.and_eq_true, decide_eq_true_eq, Bool.not_eq_true', List.any_eq_false] at h
  refine ⟨h.1, fun x hx => ?_⟩
  have := h.2 x hx
  simp only [outB, Bool.or_eq_true, decide_eq_true_eq] at this
  omega
theorem rel_facts (n : Int) (hn1 : 1 ≤ n) (hn2 : n ≤ 64) (r : S52) (h : relV n r = true) : relOk r ∧ (0 ≤ r.f1 ∧ r.f1 ≤ 12) ∧ (∀ t ∈ r.f2, (t.length : Int) = r.f1 ∧ ∀ x ∈ t, 0 ≤ x ∧ x < n) ∧ r.f2.length ≤ 4096 := by
  unfold relV at h
  simp only [Bool.and_eq_true, decide_eq_true_eq] at h
  obtain ⟨⟨⟨⟨h1, h2⟩, h3⟩, h4⟩, h5⟩ := h
  have hA := tupsV_all n r.f1 r.f2 r.f2.length 0 h5 (by omega)
  have hT : ∀ t ∈ r.f2, (t.length : Int) = r.f1 ∧ ∀ x ∈ t, 0 ≤ x ∧ x < n := fun t ht => by
    obtain ⟨j, hj, rfl⟩ := List.getElem_of_mem ht
    exact tupV_in n r.f1 _ (hA j hj (by omega)).1
  have hV : ∀ (j : Nat) (hj : j < r.f2.length), (j : Int) ≤ val n 0 r.f2[j] := by
    intro j
    induction j with
    | zero => intro hj; exact (val_bound n hn1 _ (hT _ (List.getElem_mem hj)).2).1
    | succ j ih =>
      intro hj
      have h1 := ih (by omega)
      obtain ⟨_, h2⟩ := (hA (j + 1) hj (by omega)).2 (by omega)
      simp only [Nat.add_sub_cancel] at h2
      have t1 := hT _ (List.getElem_mem (show j < r.f2.length by omega))
      have t2 := hT _ (List.getElem_mem hj)
      have := (val_order n hn1 (r.f2[j]'(by omega)) r.f2[j + 1] (by omega) t1.2 t2.2).1
      rw [h2, decide_eq_true_eq] at this
      omega
  refine ⟨⟨h1, ⟨h2, by omega⟩, fun t ht x hx => ?_⟩, ⟨h2, h3⟩, hT, ?_⟩
  · have := (hT t ht).2 x hx; omega
  · obtain ⟨q, e1, _, hq1, e2⟩ := pow_ok n r.f1 hn1 hn2 h2 h3 14 (Nat.le_refl _)
    rw [e2, decide_eq_true_eq] at h4
    have hq := pow_exact n r.f1 hn1 hn2 h3 r.f1.toNat 1 0 14 q (by omega) (by omega) (by omega) (by omega) e1 h4
    by_cases hz : r.f2.length = 0
    · omega
    · have hj : r.f2.length - 1 < r.f2.length := by omega
      have b1 := hV _ hj
      have t1 := hT _ (List.getElem_mem hj)
      have b2 := (val_bound n hn1 _ t1.2).2
      rw [show (r.f2[r.f2.length - 1]'hj).length = r.f1.toNat by omega] at b2
      rw [Int.one_mul] at hq
      omega
theorem relsV_all (n : Int) (l : List S52) : ∀ (d i : Nat), relsV n l d i = true → i + d = l.length → ∀ j (hj : j < l.length), i ≤ j → relV n l[j] = true
  | 0, i, _, h, j, hj, hi => by omega
  | d + 1, i, h, hl, j, hj, hi => by
    unfold relsV at h
    simp only [Bool.and_eq_true] at h
    by_cases e : j = i
    · subst e
      rw [rdT_nat l j hj] at h
      exact h.1.1
    · exact relsV_all n l d (i + 1) h.2 (by omega) j hj (by omega)
theorem valid_facts (n : Int) (l : List S52) (h : validB n l = true) : 1 ≤ n ∧ n ≤ 64 ∧ l.length ≤ 8 ∧ ∀ r ∈ l, relOk r ∧ (0 ≤ r.f1 ∧ r.f1 ≤ 12) ∧ (∀ t ∈ r.f2, (t.length : Int) = r.f1 ∧ ∀ x ∈ t, 0 ≤ x ∧ x < n) ∧ r.f2.length ≤ 4096 := by
  unfold validB at h
  simp only [Bool.and_eq_true, decide_eq_true_eq] at h
  obtain ⟨⟨⟨h1, h2⟩, h3⟩, h4⟩ := h
  refine ⟨h1, h2, h3, fun r hr => ?_⟩
  obtain ⟨j, hj, rfl⟩ := List.getElem_of_mem hr
  exact rel_facts n h1 h2 _ (relsV_all n l l.length 0 h4 (by omega) j hj (by omega))
theorem okW_valid (n : Int) (l : List S52) (h : validB n l = true) : okW n l := by
  obtain ⟨h1, h2, h3, h4⟩ := valid_facts n l h
  refine ⟨⟨by omega, by omega⟩, fun r hr => ⟨(h4 r hr).1.2.1, fun t ht x hx => (h4 r hr).1.2.2 t ht x hx⟩, ?_⟩
  have b1 := relsT_lenU l (fun r hr => ⟨(h4 r hr).1, fun t ht => by have := ((h4 r hr).2.2.1 t ht).1; have := (h4 r hr).2.1; omega, (h4 r hr).2.2.2⟩)
  have b2 := (digs_len n (by omega) (by omega)).2
  rw [textL, List.length_append]
  omega
theorem write_valid (n : Int) (l : List S52) (h : validB n l = true) : shape_write.f n l = some (mkB (textL n l)) := by
  unfold shape_write.f
  rw [if_pos (okW_valid n l h)]; rfl
theorem parse_valid (n : Int) (l : List S52) (h : validB n l = true) : parseB (mkB (textL n l)) = some (n, l) := by
  obtain ⟨h1, h2, h3, h4⟩ := valid_facts n l h
  exact parse_text n (by omega) (by omega) l (fun r hr => (h4 r hr).1)
end Go.Proofs.YtfmpaofbnjlniaaGreatDoor.F
namespace Go.Proofs.YtfmpaofbnjlniaaGreatDoor.F
open Go.RowKit Go.Proofs.YtfmpaofbnjlniaaGreatDoorW.PrintWords Go.Proofs.YtfmpaofbnjlniaaGreatDoorW.PrintLast Go.Proofs.YtfmpaofbnjlniaaGreatDoorW.PrintMore
attribute [local go_sem] max2_int min2_int max_two min_two max_three min_three max_four min_four
set_option linter.unusedVariables false
set_option linter.unusedSimpArgs false
/-! ### paraphrastlaw01_Few: function 9 -/
mutual
def paraphrastlaw01_Few.l0 : Nat → List (S24) → Int → Int → Int → Option (Bool)
 | 0, _, _, _, _ => none
 | k + 1, x0, x3, x4, x5 => if x5 < (x0.length : Int) then (if 0 ≤ x5 then (if (((rd_T24 x0 x5).f1).length : Int) > 12 then (some false) else (paraphrastlaw01_Few.l1 k x0 x3 x4 x5 0)) else (none)) else (some (decide (x4 ≤ 20000)))
def paraphrastlaw01_Few.l1 : Nat → List (S24) → Int → Int → Int → Int → Option (Bool)
 | 0, _, _, _, _, _ => none
 | k + 1, x0, x3, x4, x5, x6 => if 0 ≤ x5 then (if x5 < (x0.length : Int) then (if x6 < (((rd_T24 x0 x5).f1).length : Int) then (if 0 ≤ x6 then (if (wrap64 (x3 + (((rd_T52 ((rd_T24 x0 x5).f1) x6).f2).length : Int))) > 1500 then (paraphrastlaw01_Few.j2 k x0 (wrap64 (x3 + (((rd_T52 ((rd_T24 x0 x5).f1) x6).f2).length : Int))) x4 x5 x6 true) else (paraphrastlaw01_Few.j2 k x0 (wrap64 (x3 + (((rd_T52 ((rd_T24 x0 x5).f1) x6).f2).length : Int))) x4 x5 x6 (decide ((((rd_T52 ((rd_T24 x0 x5).f1) x6).f0).size : Int) > 1000)))) else (none)) else (paraphrastlaw01_Few.l0 k x0 x3 x4 (wrap64 (x5 + 1)))) else (none)) else (none)
def paraphrastlaw01_Few.j2 : Nat → List (S24) → Int → Int → Int → Int → Bool → Option (Bool)
 | 0, _, _, _, _, _, _ => none
 | k + 1, x0, x3, x4, x5, x6, x57 => if x57 = true then (some false) else (paraphrastlaw01_Few.l2 k x0 x3 x4 x5 x6 0)
def paraphrastlaw01_Few.l2 : Nat → List (S24) → Int → Int → Int → Int → Int → Option (Bool)
 | 0, _, _, _, _, _, _ => none
 | k + 1, x0, x3, x4, x5, x6, x7 => if 0 ≤ x5 then (if x5 < (x0.length : Int) then (if 0 ≤ x6 then (if x6 < (((rd_T24 x0 x5).f1).length : Int) then (if x7 < (((rd_T52 ((rd_T24 x0 x5).f1) x6).f2).length : Int) then (if 0 ≤ x7 then (paraphrastlaw01_Few.l2 k x0 x3 (wrap64 (x4 + ((rd_L2 ((rd_T52 ((rd_T24 x0 x5).f1) x6).f2) x7).length : Int))) x5 x6 (wrap64 (x7 + 1))) else (none)) else (paraphrastlaw01_Few.l1 k x0 x3 x4 x5 (wrap64 (x6 + 1)))) else (none)) else (none)) else (none)) else (none)
end
def paraphrastlaw01_Few.f (k : Nat) (l0 : List (S24)) : Option (Bool) := paraphrastlaw01_Few.l0 k l0 0 0 0
theorem paraphrastlaw01_Few.mono_l : ∀ k, (∀ y0 y1 y2 y3, LeO (paraphrastlaw01_Few.l0 k y0 y1 y2 y3) (paraphrastlaw01_Few.l0 (k + 1) y0 y1 y2 y3)) ∧ (∀ y0 y1 y2 y3 y4, LeO (paraphrastlaw01_Few.l1 k y0 y1 y2 y3 y4) (paraphrastlaw01_Few.l1 (k + 1) y0 y1 y2 y3 y4)) ∧ (∀ y0 y1 y2 y3 y4 y5, LeO (paraphrastlaw01_Few.j2 k y0 y1 y2 y3 y4 y5) (paraphrastlaw01_Few.j2 (k + 1) y0 y1 y2 y3 y4 y5)) ∧ (∀ y0 y1 y2 y3 y4 y5, LeO (paraphrastlaw01_Few.l2 k y0 y1 y2 y3 y4 y5) (paraphrastlaw01_Few.l2 (k + 1) y0 y1 y2 y3 y4 y5))
 | 0 => ⟨fun _ _ _ _ r h => by simp [paraphrastlaw01_Few.l0] at h, fun _ _ _ _ _ r h => by simp [paraphrastlaw01_Few.l1] at h, fun _ _ _ _ _ _ r h => by simp [paraphrastlaw01_Few.j2] at h, fun _ _ _ _ _ _ r h => by simp [paraphrastlaw01_Few.l2] at h⟩
 | k + 1 => by
  obtain ⟨ih0, ih1, ih2, ih3⟩ := paraphrastlaw01_Few.mono_l k
  refine ⟨?_, ?_, ?_, ?_⟩
  ·intro y0 y1 y2 y3
   unfold paraphrastlaw01_Few.l0
   repeat' first
   | (with_reducible exact ih0 _ _ _ _)
   | (with_reducible exact ih1 _ _ _ _ _)
   | (with_reducible exact ih2 _ _ _ _ _ _)
   | (with_reducible exact ih3 _ _ _ _ _ _)
   | (with_reducible exact LeO.refl _)
   | (with_reducible exact LeO.none _)
   | (with_reducible refine LeO.ite ?_ ?_)
   | (with_reducible refine LeO.bind ?_ (fun _ => ?_))
   | exact ih0 _ _ _ _
   | exact ih1 _ _ _ _ _
   | exact ih2 _ _ _ _ _ _
   | exact ih3 _ _ _ _ _ _
   | exact LeO.none _
   | refine LeO.ite ?_ ?_
   | refine LeO.bind ?_ (fun _ => ?_)
  ·intro y0 y1 y2 y3 y4
   unfold paraphrastlaw01_Few.l1
   repeat' first
   | (with_reducible exact ih0 _ _ _ _)
   | (with_reducible exact ih1 _ _ _ _ _)
   | (with_reducible exact ih2 _ _ _ _ _ _)
   | (with_reducible exact ih3 _ _ _ _ _ _)
   | (with_reducible exact LeO.refl _)
   | (with_reducible exact LeO.none _)
   | (with_reducible refine LeO.ite ?_ ?_)
   | (with_reducible refine LeO.bind ?_ (fun _ => ?_))
   | exact ih0 _ _ _ _
   | exact ih1 _ _ _ _ _
   | exact ih2 _ _ _ _ _ _
   | exact ih3 _ _ _ _ _ _
   | exact LeO.none _
   | refine LeO.ite ?_ ?_
   | refine LeO.bind ?_ (fun _ => ?_)
  ·intro y0 y1 y2 y3 y4 y5
   unfold paraphrastlaw01_Few.j2
   repeat' first
   | (with_reducible exact ih0 _ _ _ _)
   | (with_reducible exact ih1 _ _ _ _ _)
   | (with_reducible exact ih2 _ _ _ _ _ _)
   | (with_reducible exact ih3 _ _ _ _ _ _)
   | (with_reducible exact LeO.refl _)
   | (with_reducible exact LeO.none _)
   | (with_reducible refine LeO.ite ?_ ?_)
   | (with_reducible refine LeO.bind ?_ (fun _ => ?_))
   | exact ih0 _ _ _ _
   | exact ih1 _ _ _ _ _
   | exact ih2 _ _ _ _ _ _
   | exact ih3 _ _ _ _ _ _
   | exact LeO.none _
   | refine LeO.ite ?_ ?_
   | refine LeO.bind ?_ (fun _ => ?_)
  ·intro y0 y1 y2 y3 y4 y5
   unfold paraphrastlaw01_Few.l2
   repeat' first
   | (with_reducible exact ih0 _ _ _ _)
   | (with_reducible exact ih1 _ _ _ _ _)
   | (with_reducible exact ih2 _ _ _ _ _ _)
   | (with_reducible exact ih3 _ _ _ _ _ _)
   | (with_reducible exact LeO.refl _)
   | (with_reducible exact LeO.none _)
   | (with_reducible refine LeO.ite ?_ ?_)
   | (with_reducible refine LeO.bind ?_ (fun _ => ?_))
   | exact ih0 _ _ _ _
   | exact ih1 _ _ _ _ _
   | exact ih2 _ _ _ _ _ _
   | exact ih3 _ _ _ _ _ _
   | exact LeO.none _
   | refine LeO.ite ?_ ?_
   | refine LeO.bind ?_ (fun _ => ?_)
theorem paraphrastlaw01_Few.mono : ∀ a0 k, LeO (paraphrastlaw01_Few.f k a0) (paraphrastlaw01_Few.f (k + 1) a0) := by
 intro a0 k
 obtain ⟨ih0, ih1, ih2, ih3⟩ := paraphrastlaw01_Few.mono_l k
 unfold paraphrastlaw01_Few.f
 repeat' first
   | (with_reducible exact ih0 _ _ _ _)
   | (with_reducible exact ih1 _ _ _ _ _)
   | (with_reducible exact ih2 _ _ _ _ _ _)
   | (with_reducible exact ih3 _ _ _ _ _ _)
   | (with_reducible exact LeO.refl _)
   | (with_reducible exact LeO.none _)
   | (with_reducible refine LeO.ite ?_ ?_)
   | (with_reducible refine LeO.bind ?_ (fun _ => ?_))
   | exact ih0 _ _ _ _
   | exact ih1 _ _ _ _ _
   | exact ih2 _ _ _ _ _ _
   | exact ih3 _ _ _ _ _ _
   | exact LeO.none _
   | refine LeO.ite ?_ ?_
   | refine LeO.bind ?_ (fun _ => ?_)
set_option maxHeartbeats 8000000 in
set_option maxRecDepth 100000 in
theorem paraphrastlaw01_Few.calls (k : Nat) (A0 : Option Addr) (c0 : Nat) (l0 : List (S24)) (r : Bool) (w : World) (hr0 : Kd.C k24 w A0 l0.length l0) (hc0 : l0.length ≤ c0) (h : paraphrastlaw01_Few.f k l0 = some r) :
  Calls Tryz.prog 9 #[.slice A0 l0.length c0] w fun e w' => e = .returned (.bool r) ∧ Drawn0 w w' := by
 have HR0 := Aside0.mk hr0
 have HC0 := Aside0.mk hc0
 clear hr0 hc0
 have H : (paraphrastlaw01_Few.l0 k l0 0 0 0) = some r := h
 clear h
 have H' := Aside0.mk H
 clear H
 go_enter Tryz.func9, Tryz.ntmps9
 go_wp2
 go_loopg [3, 4, 5] k (fun kq v3 v4 v5 w' => ∃ (x3_1 : Int) (x4_1 : Int) (x5_1 : Int), v3 = .int .i64 x3_1 ∧ v4 = .int .i64 x4_1 ∧ v5 = .int .i64 x5_1 ∧ Aside0 (paraphrastlaw01_Few.l0 kq l0 x3_1 x4_1 x5_1 = some r) ∧ Aside0 (kq ≤ k) ∧ Drawn0 w w')
 case atStart => exact ⟨(0), (0), (0), eS, eS, eS, H', ⟨Nat.le_refl _⟩, dr0⟩
 case round =>
  clear H'
  obtain ⟨x3_1, x4_1, x5_1, rfl, rfl, rfl, HA, HK1, ⟨m1, rfl⟩⟩ := hrel
  cases gk with
  | zero => exact absurd HA.out (by simp [paraphrastlaw01_Few.l0])
  | succ k1 =>
   have H := HA.out
   clear HA
   simp only [paraphrastlaw01_Few.l0] at H
   by_cases c2 : x5_1 < (l0.length : Int)
   ·rw [if_pos c2] at H
    have c2b0 : decide (x5_1 < (l0.length : Int)) = true := decide_eq_true c2
    clear c2
    by_cases c3 : 0 ≤ x5_1
    ·rw [if_pos c3] at H
     have c3b0 : decide (0 ≤ x5_1) = true := decide_eq_true c3
     clear c3
     by_cases c4 : (((rd_T24 l0 x5_1).f1).length : Int) > 12
     ·rw [if_pos c4] at H
      have c4b0 : decide (12 < (((rd_T24 l0 x5_1).f1).length : Int)) = true := decide_eq_true c4
      have c4b1 : decide (12 < ((rd_T24 l0 x5_1).f1).length) = true := decide_eq_true (by omega)
      clear c4
      obtain rfl := Option.some.inj H
      have p101 : 0 ≤ (x5_1 : Int) := dtr
      have q101 : x5_1 < (l0.length : Int) := dtr
      obtain ⟨ad101, A101_1, c101_1, e101, hx101_0, hx101_1, hl101_1, hi101_1⟩ := at_T24 HR0.out x5_1 p101 q101
      cases e101
      have HR101_1 := Aside0.mk hi101_1
      have HC101_1 := Aside0.mk hl101_1
      clear hi101_1 hl101_1
      replace p101 := eq_true p101
      replace q101 := eq_true q101
      go_wp2
      go_ret
      exact ⟨eS, dr0⟩
     ·rw [if_neg c4] at H
      have c4b0 : decide (12 < (((rd_T24 l0 x5_1).f1).length : Int)) = false := decide_eq_false c4
      have c4b1 : decide (12 < ((rd_T24 l0 x5_1).f1).length) = false := decide_eq_false (by omega)
      clear c4
      have H' := Aside0.mk H
      clear H
      have p101 : 0 ≤ (x5_1 : Int) := dtr
      have q101 : x5_1 < (l0.length : Int) := dtr
      obtain ⟨ad101, A101_1, c101_1, e101, hx101_0, hx101_1, hl101_1, hi101_1⟩ := at_T24 HR0.out x5_1 p101 q101
      cases e101
      have HR101_1 := Aside0.mk hi101_1
      have HC101_1 := Aside0.mk hl101_1
      clear hi101_1 hl101_1
      replace p101 := eq_true p101
      replace q101 := eq_true q101
      go_wp2
      go_loopg [3, 4, 6] k1 (fun kq v3 v4 v6 w' => ∃ (x3_2 : Int) (x4_2 : Int) (x6_2 : Int), v3 = .int .i64 x3_2 ∧ v4 = .int .i64 x4_2 ∧ v6 = .int .i64 x6_2 ∧ Aside0 (paraphrastlaw01_Few.l1 kq l0 x3_2 x4_2 x5_1 x6_2 = some r) ∧ Aside0 (kq ≤ k1) ∧ Drawn0 w w')
      case atStart => exact ⟨(x3_1), (x4_1), (0), eS, eS, eS, H', ⟨Nat.le_refl _⟩, dr0⟩
      case round =>
       clear H'
       (try clear c2); (try clear c2b0); (try clear c3); (try clear c3b0); (try clear c4); (try clear c4b0); (try clear c4b1); (try clear hx101_0); (try clear hx101_1); (try clear p101); (try clear q101)
       obtain ⟨x3_2, x4_2, x6_2, rfl, rfl, rfl, HA, HK2, ⟨m2, rfl⟩⟩ := hrel
       cases gk with
       | zero => exact absurd HA.out (by simp [paraphrastlaw01_Few.l1])
       | succ k2 =>
        have H := HA.out
        clear HA
        simp only [paraphrastlaw01_Few.l1] at H
        by_cases c5 : 0 ≤ x5_1
        ·rw [if_pos c5] at H
         have c5b0 : decide (0 ≤ x5_1) = true := decide_eq_true c5
         clear c5
         by_cases c6 : x5_1 < (l0.length : Int)
         ·rw [if_pos c6] at H
          have c6b0 : decide (x5_1 < (l0.length : Int)) = true := decide_eq_true c6
          clear c6
          by_cases c7 : x6_2 < (((rd_T24 l0 x5_1).f1).length : Int)
          ·rw [if_pos c7] at H
           have c7b0 : decide (x6_2 < (((rd_T24 l0 x5_1).f1).length : Int)) = true := decide_eq_true c7
           clear c7
           by_cases c8 : 0 ≤ x6_2
           ·rw [if_pos c8] at H
            have c8b0 : decide (0 ≤ x6_2) = true := decide_eq_true c8
            clear c8
            have HC9 := Aside0.mk H
            clear H
            have p102 : 0 ≤ (x5_1 : Int) := dtr
            have q102 : x5_1 < (l0.length : Int) := dtr
            obtain ⟨ad102, A102_1, c102_1, e102, hx102_0, hx102_1, hl102_1, hi102_1⟩ := at_T24 HR0.out x5_1 p102 q102
            obtain rfl : ad101 = ad102 := (by injection e102)
            have HR102_1 := Aside0.mk hi102_1
            have HC102_1 := Aside0.mk hl102_1
            clear hi102_1 hl102_1
            replace p102 := eq_true p102
            replace q102 := eq_true q102
            have p103 : 0 ≤ (x5_1 : Int) := dtr
            have q103 : x5_1 < (l0.length : Int) := dtr
            obtain ⟨ad103, A103_1, c103_1, e103, hx103_0, hx103_1, hl103_1, hi103_1⟩ := at_T24 HR0.out x5_1 p103 q103
            obtain rfl : ad101 = ad103 := (by injection e103)
            have HR103_1 := Aside0.mk hi103_1
            have HC103_1 := Aside0.mk hl103_1
            clear hi103_1 hl103_1
            replace p103 := eq_true p103
            replace q103 := eq_true q103
            have ea_ := Option.some.inj (hx102_1.symm.trans hx103_1)
            injection ea_ with ea_ en_ ec_
            subst ea_
            subst ec_
            clear en_
            have p104 : 0 ≤ (x6_2 : Int) := dtr
            have q104 : x6_2 < (((rd_T24 l0 x5_1).f1).length : Int) := dtr
            obtain ⟨ad104, A104_2, c104_2, e104, hx104_0, hx104_1, hx104_2, hl104_2, hi104_2⟩ := at_T52 HR103_1.out x6_2 p104 q104
            cases e104
            have HR104_2 := Aside0.mk hi104_2
            have HC104_2 := Aside0.mk hl104_2
            clear hi104_2 hl104_2
            replace p104 := eq_true p104
            replace q104 := eq_true q104
            go_upto_region 11 with (fail)
            go_cut [57] (fun v57 wc => ∃ (kq : Nat) (x57_8 : Bool), v57 = .bool x57_8 ∧ Aside0 (paraphrastlaw01_Few.j2 kq l0 (wrap64 (x3_2 + (((rd_T52 ((rd_T24 l0 x5_1).f1) x6_2).f2).length : Int))) x4_2 x5_1 x6_2 x57_8 = some r) ∧ Aside0 (kq ≤ k2) ∧ Drawn0 w wc)
            case first =>
             have H := HC9.out
             clear HC9
             by_cases c10 : (wrap64 (x3_2 + (((rd_T52 ((rd_T24 l0 x5_1).f1) x6_2).f2).length : Int))) > 1500
             ·rw [if_pos c10] at H
              have c10b0 : decide (1500 < (wrap64 (x3_2 + (((rd_T52 ((rd_T24 l0 x5_1).f1) x6_2).f2).length : Int)))) = true := decide_eq_true c10
              clear c10
              (first | rw [c10b0] | (simp only [i64_w, i32_w]; rw [c10b0]) | skip)
              have H' := Aside0.mk H
              clear H
              go_wp2
              go_meet
              case rel => exact ⟨_, (true), eS, H', ⟨by have := HK1.out; have := HK2.out; first | omega | exact Nat.le_refl _⟩, dr0⟩
             ·rw [if_neg c10] at H
              have c10b0 : decide (1500 < (wrap64 (x3_2 + (((rd_T52 ((rd_T24 l0 x5_1).f1) x6_2).f2).length : Int)))) = false := decide_eq_false c10
              clear c10
              (first | rw [c10b0] | (simp only [i64_w, i32_w]; rw [c10b0]) | skip)
              have H' := Aside0.mk H
              clear H
              have p105 : 0 ≤ (x5_1 : Int) := dtr
              have q105 : x5_1 < (l0.length : Int) := dtr
              obtain ⟨ad105, A105_1, c105_1, e105, hx105_0, hx105_1, hl105_1, hi105_1⟩ := at_T24 HR0.out x5_1 p105 q105
              obtain rfl : ad101 = ad105 := (by injection e105)
              have HR105_1 := Aside0.mk hi105_1
              have HC105_1 := Aside0.mk hl105_1
              clear hi105_1 hl105_1
              replace p105 := eq_true p105
              replace q105 := eq_true q105
              have p106 : 0 ≤ (x6_2 : Int) := dtr
              have q106 : x6_2 < (((rd_T24 l0 x5_1).f1).length : Int) := dtr
              obtain ⟨ad106, A106_2, c106_2, e106, hx106_0, hx106_1, hx106_2, hl106_2, hi106_2⟩ := at_T52 HR105_1.out x6_2 p106 q106
              cases e106
              have HR106_2 := Aside0.mk hi106_2
              have HC106_2 := Aside0.mk hl106_2
              clear hi106_2 hl106_2
              replace p106 := eq_true p106
              replace q106 := eq_true q106
              go_wp2
              go_meet
              case rel => exact ⟨_, (decide ((((rd_T52 ((rd_T24 l0 x5_1).f1) x6_2).f0).size : Int) > 1000)), eS, H', ⟨by have := HK1.out; have := HK2.out; first | omega | exact Nat.le_refl _⟩, dr0⟩
            case rest =>
             clear HC9
             (try clear c2); (try clear c2b0); (try clear c3); (try clear c3b0); (try clear c4); (try clear c4b0); (try clear c4b1); (try clear c5); (try clear c5b0); (try clear c6); (try clear c6b0); (try clear c7); (try clear c7b0); (try clear c8); (try clear c8b0); (try clear hx101_0); (try clear hx101_1); (try clear hx102_0); (try clear hx102_1); (try clear hx103_0); (try clear hx103_1); (try clear hx104_0); (try clear hx104_1); (try clear hx104_2); (try clear p101); (try clear p102); (try clear p103); (try clear p104); (try clear q101); (try clear q102); (try clear q103); (try clear q104)
             obtain ⟨kq, x57_8, rfl, HA, HJ8, ⟨mc8, rfl⟩⟩ := hcut
             cases kq with
             | zero => exact absurd HA.out (by simp [paraphrastlaw01_Few.j2])
             | succ kj8 =>
              have H := HA.out
              clear HA
              simp only [paraphrastlaw01_Few.j2] at H
              by_cases c11 : x57_8 = true
              ·subst c11
               have H1 : (some false) = some r := by rw [if_pos rfl] at H; exact H
               clear H
               have H := H1
               clear H1
               obtain rfl := Option.some.inj H
               go_wp2
               go_ret
               exact ⟨eS, dr0⟩
              ·replace c11 := Bool.eq_false_iff.mpr c11
               subst c11
               have H1 : (paraphrastlaw01_Few.l2 kj8 l0 (wrap64 (x3_2 + (((rd_T52 ((rd_T24 l0 x5_1).f1) x6_2).f2).length : Int))) x4_2 x5_1 x6_2 0) = some r := by rw [if_neg (show ¬ (false = true) by decide)] at H; exact H
               clear H
               have H := H1
               clear H1
               have H' := Aside0.mk H
               clear H
               go_wp2
               go_loopg [4, 7] kj8 (fun kq v4 v7 w' => ∃ (x4_4 : Int) (x7_4 : Int), v4 = .int .i64 x4_4 ∧ v7 = .int .i64 x7_4 ∧ Aside0 (paraphrastlaw01_Few.l2 kq l0 (wrap64 (x3_2 + (((rd_T52 ((rd_T24 l0 x5_1).f1) x6_2).f2).length : Int))) x4_4 x5_1 x6_2 x7_4 = some r) ∧ Aside0 (kq ≤ kj8) ∧ Drawn0 w w')
               case atStart => exact ⟨(x4_2), (0), eS, eS, H', ⟨Nat.le_refl _⟩, dr0⟩
               case round =>
                clear H'
                (try clear c2); (try clear c2b0); (try clear c3); (try clear c3b0); (try clear c4); (try clear c4b0); (try clear c4b1); (try clear c5); (try clear c5b0); (try clear c6); (try clear c6b0); (try clear c7); (try clear c7b0); (try clear c8); (try clear c8b0); (try clear c11); (try clear hx101_0); (try clear hx101_1); (try clear hx102_0); (try clear hx102_1); (try clear hx103_0); (try clear hx103_1); (try clear hx104_0); (try clear hx104_1); (try clear hx104_2); (try clear p101); (try clear p102); (try clear p103); (try clear p104); (try clear q101); (try clear q102); (try clear q103); (try clear q104)
                obtain ⟨x4_4, x7_4, rfl, rfl, HA, HK4, ⟨m4, rfl⟩⟩ := hrel
                cases gk with
                | zero => exact absurd HA.out (by simp [paraphrastlaw01_Few.l2])
                | succ k4 =>
                 have H := HA.out
                 clear HA
                 simp only [paraphrastlaw01_Few.l2] at H
                 by_cases c12 : 0 ≤ x5_1
                 ·rw [if_pos c12] at H
                  have c12b0 : decide (0 ≤ x5_1) = true := decide_eq_true c12
                  clear c12
                  by_cases c13 : x5_1 < (l0.length : Int)
                  ·rw [if_pos c13] at H
                   have c13b0 : decide (x5_1 < (l0.length : Int)) = true := decide_eq_true c13
                   clear c13
                   by_cases c14 : 0 ≤ x6_2
                   ·rw [if_pos c14] at H
                    have c14b0 : decide (0 ≤ x6_2) = true := decide_eq_true c14
                    clear c14
                    by_cases c15 : x6_2 < (((rd_T24 l0 x5_1).f1).length : Int)
                    ·rw [if_pos c15] at H
                     have c15b0 : decide (x6_2 < (((rd_T24 l0 x5_1).f1).length : Int)) = true := decide_eq_true c15
                     clear c15
                     by_cases c16 : x7_4 < (((rd_T52 ((rd_T24 l0 x5_1).f1) x6_2).f2).length : Int)
                     ·rw [if_pos c16] at H
                      have c16b0 : decide (x7_4 < (((rd_T52 ((rd_T24 l0 x5_1).f1) x6_2).f2).length : Int)) = true := decide_eq_true c16
                      clear c16
                      by_cases c17 : 0 ≤ x7_4
                      ·rw [if_pos c17] at H
                       have c17b0 : decide (0 ≤ x7_4) = true := decide_eq_true c17
                       clear c17
                       have H' := Aside0.mk H
                       clear H
                       have p107 : 0 ≤ (x5_1 : Int) := dtr
                       have q107 : x5_1 < (l0.length : Int) := dtr
                       obtain ⟨ad107, A107_1, c107_1, e107, hx107_0, hx107_1, hl107_1, hi107_1⟩ := at_T24 HR0.out x5_1 p107 q107
                       obtain rfl : ad101 = ad107 := (by injection e107)
                       have HR107_1 := Aside0.mk hi107_1
                       have HC107_1 := Aside0.mk hl107_1
                       clear hi107_1 hl107_1
                       replace p107 := eq_true p107
                       replace q107 := eq_true q107
                       have p108 : 0 ≤ (x6_2 : Int) := dtr
                       have q108 : x6_2 < (((rd_T24 l0 x5_1).f1).length : Int) := dtr
                       obtain ⟨ad108, A108_2, c108_2, e108, hx108_0, hx108_1, hx108_2, hl108_2, hi108_2⟩ := at_T52 HR107_1.out x6_2 p108 q108
                       cases e108
                       have HR108_2 := Aside0.mk hi108_2
                       have HC108_2 := Aside0.mk hl108_2
                       clear hi108_2 hl108_2
                       replace p108 := eq_true p108
                       replace q108 := eq_true q108
                       have p109 : 0 ≤ (x5_1 : Int) := dtr
                       have q109 : x5_1 < (l0.length : Int) := dtr
                       obtain ⟨ad109, A109_1, c109_1, e109, hx109_0, hx109_1, hl109_1, hi109_1⟩ := at_T24 HR0.out x5_1 p109 q109
                       obtain rfl : ad101 = ad109 := (by injection e109)
                       have HR109_1 := Aside0.mk hi109_1
                       have HC109_1 := Aside0.mk hl109_1
                       clear hi109_1 hl109_1
                       replace p109 := eq_true p109
                       replace q109 := eq_true q109
                       have ea_ := Option.some.inj (hx107_1.symm.trans hx109_1)
                       injection ea_ with ea_ en_ ec_
                       subst ea_
                       subst ec_
                       clear en_
                       have p110 : 0 ≤ (x6_2 : Int) := dtr
                       have q110 : x6_2 < (((rd_T24 l0 x5_1).f1).length : Int) := dtr
                       obtain ⟨ad110, A110_2, c110_2, e110, hx110_0, hx110_1, hx110_2, hl110_2, hi110_2⟩ := at_T52 HR109_1.out x6_2 p110 q110
                       cases e110
                       have HR110_2 := Aside0.mk hi110_2
                       have HC110_2 := Aside0.mk hl110_2
                       clear hi110_2 hl110_2
                       replace p110 := eq_true p110
                       replace q110 := eq_true q110
                       have ea_ := Option.some.inj (hx108_2.symm.trans hx110_2)
                       injection ea_ with ea_ en_ ec_
                       subst ea_
                       subst ec_
                       clear en_
                       have p111 : 0 ≤ (x7_4 : Int) := dtr
                       have q111 : x7_4 < (((rd_T52 ((rd_T24 l0 x5_1).f1) x6_2).f2).length : Int) := dtr
                       obtain ⟨ad111, A111_0, c111_0, e111, hx111_0, hl111_0, hi111_0⟩ := at_L2 HR110_2.out x7_4 p111 q111
                       cases e111
                       have HR111_0 := Aside0.mk hi111_0
                       have HC111_0 := Aside0.mk hl111_0
                       clear hi111_0 hl111_0
                       replace p111 := eq_true p111
                       replace q111 := eq_true q111
                       go_wp2
                       go_roundg k4
                       case measure => have := HK1.out; have := HK2.out; have := HJ8.out; have := HK4.out; omega
                       case rel => exact ⟨(wrap64 (x4_4 + ((rd_L2 ((rd_T52 ((rd_T24 l0 x5_1).f1) x6_2).f2) x7_4).length : Int))), (wrap64 (x7_4 + 1)), eS, eS, H', ⟨by have := HK1.out; have := HK2.out; have := HJ8.out; have := HK4.out; omega⟩, dr0⟩
                      ·rw [if_neg c17] at H
                       exact absurd H (by simp)
                     ·rw [if_neg c16] at H
                      have c16b0 : decide (x7_4 < (((rd_T52 ((rd_T24 l0 x5_1).f1) x6_2).f2).length : Int)) = false := decide_eq_false c16
                      clear c16
                      have H' := Aside0.mk H
                      clear H
                      have p107 : 0 ≤ (x5_1 : Int) := dtr
                      have q107 : x5_1 < (l0.length : Int) := dtr
                      obtain ⟨ad107, A107_1, c107_1, e107, hx107_0, hx107_1, hl107_1, hi107_1⟩ := at_T24 HR0.out x5_1 p107 q107
                      obtain rfl : ad101 = ad107 := (by injection e107)
                      have HR107_1 := Aside0.mk hi107_1
                      have HC107_1 := Aside0.mk hl107_1
                      clear hi107_1 hl107_1
                      replace p107 := eq_true p107
                      replace q107 := eq_true q107
                      have p108 : 0 ≤ (x6_2 : Int) := dtr
                      have q108 : x6_2 < (((rd_T24 l0 x5_1).f1).length : Int) := dtr
                      obtain ⟨ad108, A108_2, c108_2, e108, hx108_0, hx108_1, hx108_2, hl108_2, hi108_2⟩ := at_T52 HR107_1.out x6_2 p108 q108
                      cases e108
                      have HR108_2 := Aside0.mk hi108_2
                      have HC108_2 := Aside0.mk hl108_2
                      clear hi108_2 hl108_2
                      replace p108 := eq_true p108
                      replace q108 := eq_true q108
                      go_wp2
                      go_roundg k4
                      case measure => have := HK1.out; have := HK2.out; have := HJ8.out; have := HK4.out; omega
                      case rel => exact ⟨((wrap64 (x3_2 + (((rd_T52 ((rd_T24 l0 x5_1).f1) x6_2).f2).length : Int)))), (x4_4), (wrap64 (x6_2 + 1)), eS, eS, eS, H', ⟨by have := HK1.out; have := HK2.out; have := HJ8.out; have := HK4.out; omega⟩, dr0⟩
                    ·rw [if_neg c15] at H
                     exact absurd H (by simp)
                   ·rw [if_neg c14] at H
                    exact absurd H (by simp)
                  ·rw [if_neg c13] at H
                   exact absurd H (by simp)
                 ·rw [if_neg c12] at H
                  exact absurd H (by simp)
           ·rw [if_neg c8] at H
            exact absurd H (by simp)
          ·rw [if_neg c7] at H
           have c7b0 : decide (x6_2 < (((rd_T24 l0 x5_1).f1).length : Int)) = false := decide_eq_false c7
           clear c7
           have H' := Aside0.mk H
           clear H
           have p102 : 0 ≤ (x5_1 : Int) := dtr
           have q102 : x5_1 < (l0.length : Int) := dtr
           obtain ⟨ad102, A102_1, c102_1, e102, hx102_0, hx102_1, hl102_1, hi102_1⟩ := at_T24 HR0.out x5_1 p102 q102
           obtain rfl : ad101 = ad102 := (by injection e102)
           have HR102_1 := Aside0.mk hi102_1
           have HC102_1 := Aside0.mk hl102_1
           clear hi102_1 hl102_1
           replace p102 := eq_true p102
           replace q102 := eq_true q102
           go_wp2
           go_roundg k2
           case measure => have := HK1.out; have := HK2.out; omega
           case rel => exact ⟨(x3_2), (x4_2), (wrap64 (x5_1 + 1)), eS, eS, eS, H', ⟨by have := HK1.out; have := HK2.out; omega⟩, dr0⟩
         ·rw [if_neg c6] at H
          exact absurd H (by simp)
        ·rw [if_neg c5] at H
         exact absurd H (by simp)
    ·rw [if_neg c3] at H
     exact absurd H (by simp)
   ·rw [if_neg c2] at H
    have c2b0 : decide (x5_1 < (l0.length : Int)) = false := decide_eq_false c2
    clear c2
    obtain rfl := Option.some.inj H
    go_wp2
    go_ret
    exact ⟨eS, dr0⟩
end Go.Proofs.YtfmpaofbnjlniaaGreatDoor.F
/- Few always answers. -/
namespace Go.Proofs.YtfmpaofbnjlniaaGreatDoor.F
open Go.RowKit Go.Proofs.YtfmpaofbnjlniaaGreatDoorW.PrintWords Go.Proofs.YtfmpaofbnjlniaaGreatDoorW.PrintLast Go.Proofs.YtfmpaofbnjlniaaGreatDoorW.PrintMore
set_option linter.unusedVariables false
theorem few_l2 (n : Int) (l : List S52) (i : Nat) (hi : i < l.length) (h8 : l.length ≤ 12) (x3 : Int) (hM : (rd_T52 l (i : Int)).f2.length ≤ 9223372036854775807) (H : ∀ x4, ∃ k b, paraphrastlaw01_Few.l1 k [⟨n, l⟩] x3 x4 0 ((i : Int) + 1) = some b) :
    ∀ (m j : Nat) (x4 : Int), j + m = (rd_T52 l (i : Int)).f2.length → ∃ k b, paraphrastlaw01_Few.l2 k [⟨n, l⟩] x3 x4 0 (i : Int) (j : Int) = some b
  | 0, j, x4, h => by
    obtain ⟨k, b, hk⟩ := H x4
    refine ⟨k + 1, b, ?_⟩
    unfold paraphrastlaw01_Few.l2
    rw [if_pos (by omega), if_pos (by simp), if_pos (by omega), if_pos (show (i : Int) < ((rd_T24 [⟨n, l⟩] 0).f1.length : Int) from by show (i : Int) < (l.length : Int); omega), if_neg (show ¬ (j : Int) < ((rd_T52 (rd_T24 [⟨n, l⟩] 0).f1 (i : Int)).f2.length : Int) from by show ¬ (j : Int) < ((rd_T52 l (i : Int)).f2.length : Int); omega), w64 (by omega) (by omega)]
    exact hk
  | m + 1, j, x4, h => by
    obtain ⟨k, b, hk⟩ := few_l2 n l i hi h8 x3 hM H m (j + 1) (wrap64 (x4 + ((rd_L2 (rd_T52 l (i : Int)).f2 (j : Int)).length : Int))) (by omega)
    refine ⟨k + 1, b, ?_⟩
    unfold paraphrastlaw01_Few.l2
    rw [if_pos (by omega), if_pos (by simp), if_pos (by omega), if_pos (show (i : Int) < ((rd_T24 [⟨n, l⟩] 0).f1.length : Int) from by show (i : Int) < (l.length : Int); omega), if_pos (show (j : Int) < ((rd_T52 (rd_T24 [⟨n, l⟩] 0).f1 (i : Int)).f2.length : Int) from by show (j : Int) < ((rd_T52 l (i : Int)).f2.length : Int); omega), if_pos (by omega), w64 (x := (j : Int) + 1) (by omega) (by omega)]
    exact hk
theorem few_l1 (n : Int) (l : List S52) (h8 : l.length ≤ 12) (hM : ∀ r ∈ l, r.f2.length ≤ 9223372036854775807) : ∀ (d i : Nat) (x3 x4 : Int), i + d = l.length → ∃ k b, paraphrastlaw01_Few.l1 k [⟨n, l⟩] x3 x4 0 (i : Int) = some b
  | 0, i, x3, x4, h => by
    refine ⟨2, decide (x4 ≤ 20000), ?_⟩
    unfold paraphrastlaw01_Few.l1
    rw [if_pos (by omega), if_pos (by simp), if_neg (show ¬ (i : Int) < ((rd_T24 [⟨n, l⟩] 0).f1.length : Int) from by show ¬ (i : Int) < (l.length : Int); omega), show wrap64 (0 + 1) = 1 from by unfold wrap64; omega]
    unfold paraphrastlaw01_Few.l0
    rw [if_neg (by simp)]
  | d + 1, i, x3, x4, h => by
    have hi : i < l.length := by omega
    have hr := hM _ (List.getElem_mem hi)
    rw [← rdT_nat l i hi] at hr
    generalize hX : wrap64 (x3 + ((rd_T52 l (i : Int)).f2.length : Int)) = X
    have step : ∀ k, paraphrastlaw01_Few.l1 (k + 1) [⟨n, l⟩] x3 x4 0 (i : Int) = if X > 1500 then paraphrastlaw01_Few.j2 k [⟨n, l⟩] X x4 0 (i : Int) true else paraphrastlaw01_Few.j2 k [⟨n, l⟩] X x4 0 (i : Int) (decide (((rd_T52 l (i : Int)).f0.size : Int) > 1000)) := fun k => by
      conv => lhs; unfold paraphrastlaw01_Few.l1
      rw [if_pos (by omega), if_pos (by simp), if_pos (show (i : Int) < ((rd_T24 [⟨n, l⟩] 0).f1.length : Int) from by show (i : Int) < (l.length : Int); omega), if_pos (by omega)]
      show (if wrap64 (x3 + ((rd_T52 l (i : Int)).f2.length : Int)) > 1500 then paraphrastlaw01_Few.j2 k [⟨n, l⟩] (wrap64 (x3 + ((rd_T52 l (i : Int)).f2.length : Int))) x4 0 (i : Int) true else paraphrastlaw01_Few.j2 k [⟨n, l⟩] (wrap64 (x3 + ((rd_T52 l (i : Int)).f2.length : Int))) x4 0 (i : Int) (decide (((rd_T52 l (i : Int)).f0.size : Int) > 1000))) = _
      rw [hX]
    by_cases h1 : X > 1500
    · exact ⟨2, false, by rw [step, if_pos h1]; rfl⟩
    · by_cases h2 : ((rd_T52 l (i : Int)).f0.size : Int) > 1000
      · exact ⟨2, false, by rw [step, if_neg h1, decide_eq_true h2]; rfl⟩
      · obtain ⟨k, b, hk⟩ := few_l2 n l i hi h8 X hr (fun x4' => by have := few_l1 n l h8 hM d (i + 1) X x4' (by omega); rwa [show ((i + 1 : Nat) : Int) = (i : Int) + 1 by omega] at this) (rd_T52 l (i : Int)).f2.length 0 x4 (by omega)
        exact ⟨k + 2, b, by rw [step, if_neg h1, decide_eq_false h2]; exact hk⟩
theorem few_ex (n : Int) (l : List S52) (hM : ∀ r ∈ l, r.f2.length ≤ 9223372036854775807) : ∃ k b, paraphrastlaw01_Few.f k [⟨n, l⟩] = some b := by
  by_cases h : (l.length : Int) > 12
  · exact ⟨1, false, by
      unfold paraphrastlaw01_Few.f paraphrastlaw01_Few.l0
      rw [if_pos (by simp), if_pos (by omega)]
      exact if_pos h⟩
  · obtain ⟨k, b, hk⟩ := few_l1 n l (by omega) hM l.length 0 0 0 (by omega)
    exact ⟨k + 1, b, by
      unfold paraphrastlaw01_Few.f paraphrastlaw01_Few.l0
      rw [if_pos (by simp), if_pos (by omega)]
      exact (if_neg h).trans hk⟩
theorem rels_max {w : World} {A : Option Addr} {n : Nat} {l : List S52} (h : Kd.C k52 w A n l) : ∀ r ∈ l, r.f2.length ≤ 9223372036854775807 := by
  intro r hr
  obtain ⟨i, hi, rfl⟩ := List.getElem_of_mem hr
  have hn : 0 < n := by have := h.1; omega
  obtain ⟨ad, _, hc⟩ := h.2.2 hn
  obtain ⟨c, _, hK, _⟩ := hc i _ (List.getElem?_eq_getElem hi)
  obtain ⟨A2, c2, _, _, g⟩ := k52_open hK
  exact g.2.1
end Go.Proofs.YtfmpaofbnjlniaaGreatDoor.F
namespace Go.Proofs.YtfmpaofbnjlniaaGreatDoor.F
open Go.RowKit Go.Proofs.YtfmpaofbnjlniaaGreatDoorW.PrintWords Go.Proofs.YtfmpaofbnjlniaaGreatDoorW.PrintLast Go.Proofs.YtfmpaofbnjlniaaGreatDoorW.PrintMore
attribute [local go_sem] max2_int min2_int max_two min_two max_three min_three max_four min_four
set_option linter.unusedVariables false
set_option linter.unusedSimpArgs false
/-! ### paraphrastref01_SameTuples: function 69 -/
def paraphrastref01_SameTuples.l0 : Nat → List (List Int) → List (List Int) → Int → Option (Bool)
 | 0, _, _, _ => none
 | k + 1, x0, x1, x5 => if x5 < (x0.length : Int) then (if 0 ≤ x5 then (if x5 < (x1.length : Int) then ((paraphrastref01_Equal.f k (rd_L2 x0 x5) (rd_L2 x1 x5)).bind fun t253 => (if t253 = true then (paraphrastref01_SameTuples.l0 k x0 x1 (wrap64 (x5 + 1))) else (some false))) else (none)) else (none)) else (some true)
def paraphrastref01_SameTuples.f (k : Nat) (l0 : List (List Int)) (l1 : List (List Int)) : Option (Bool) := if (l0.length : Int) = (l1.length : Int) then (paraphrastref01_SameTuples.l0 k l0 l1 0) else (some false)
set_option maxHeartbeats 8000000 in
set_option maxRecDepth 100000 in
theorem paraphrastref01_SameTuples.calls (k : Nat) (A0 : Option Addr) (c0 : Nat) (l0 : List (List Int)) (A1 : Option Addr) (c1 : Nat) (l1 : List (List Int)) (r : Bool) (w : World) (hr0 : Kd.C (Kd.slice 3 (Kd.int .i64)) w A0 l0.length l0) (hc0 : l0.length ≤ c0) (hr1 : Kd.C (Kd.slice 3 (Kd.int .i64)) w A1 l1.length l1) (hc1 : l1.length ≤ c1) (h : paraphrastref01_SameTuples.f k l0 l1 = some r) :
  Calls Tryz.prog 69 #[.slice A0 l0.length c0, .slice A1 l1.length c1] w fun e w' => e = .returned (.bool r) ∧ Drawn0 w w' := by
 have HR0 := Aside0.mk hr0
 have HC0 := Aside0.mk hc0
 clear hr0 hc0
 have HR1 := Aside0.mk hr1
 have HC1 := Aside0.mk hc1
 clear hr1 hc1
 have H : (if (l0.length : Int) = (l1.length : Int) then (paraphrastref01_SameTuples.l0 k l0 l1 0) else (some false)) = some r := h
 clear h
 by_cases c3 : (l0.length : Int) = (l1.length : Int)
 ·rw [if_pos c3] at H
  have c3b0 : ((l0.length : Int) == (l1.length : Int)) = true := beq_iff_eq.mpr c3
  have c3b1 : ((l0.length : Int) != (l1.length : Int)) = false := bne_eq_false_iff_eq.mpr c3
  have c3b2 : (l0.length == l1.length) = true := by first | simpa using c3 | (simp at c3 ⊢; omega)
  clear c3
  have H' := Aside0.mk H
  clear H
  go_enter Tryz.func69, Tryz.ntmps69
  go_wp2
  repeat (go_quiet (fail); try go_wp2)
  go_loopg [5] k (fun kq v5 w' => ∃ (x5_1 : Int), v5 = .int .i64 x5_1 ∧ Aside0 (paraphrastref01_SameTuples.l0 kq l0 l1 x5_1 = some r) ∧ Aside0 (kq ≤ k) ∧ Drawn0 w w')
  case atStart => exact ⟨(0), eS, H', ⟨Nat.le_refl _⟩, dr0⟩
  case round =>
   clear H'
   (try clear c1); (try clear c3); (try clear c3b0); (try clear c3b1); (try clear c3b2)
   obtain ⟨x5_1, rfl, HA, HK1, ⟨m1, rfl⟩⟩ := hrel
   cases gk with
   | zero => exact absurd HA.out (by simp [paraphrastref01_SameTuples.l0])
   | succ k1 =>
    have H := HA.out
    clear HA
    simp only [paraphrastref01_SameTuples.l0] at H
    by_cases c4 : x5_1 < (l0.length : Int)
    ·rw [if_pos c4] at H
     have c4b0 : decide (x5_1 < (l0.length : Int)) = true := decide_eq_true c4
     clear c4
     by_cases c5 : 0 ≤ x5_1
     ·rw [if_pos c5] at H
      have c5b0 : decide (0 ≤ x5_1) = true := decide_eq_true c5
      clear c5
      by_cases c6 : x5_1 < (l1.length : Int)
      ·rw [if_pos c6] at H
       have c6b0 : decide (x5_1 < (l1.length : Int)) = true := decide_eq_true c6
       clear c6
       replace H := Option.bind_eq_some_iff.mp H
       obtain ⟨t253, A70, H⟩ := H
       replace H : (if t253 = true then (paraphrastref01_SameTuples.l0 k1 l0 l1 (wrap64 (x5_1 + 1))) else (some false)) = some r := H
       have A7 := Aside0.mk A70
       clear A70
       by_cases c8 : t253 = true
       ·subst c8
        have H1 : (paraphrastref01_SameTuples.l0 k1 l0 l1 (wrap64 (x5_1 + 1))) = some r := by rw [if_pos rfl] at H; exact H
        clear H
        have H := H1
        clear H1
        have H' := Aside0.mk H
        clear H
        have p251 : 0 ≤ (x5_1 : Int) := dtr
        have q251 : x5_1 < (l0.length : Int) := dtr
        obtain ⟨ad251, A251_0, c251_0, e251, hx251_0, hl251_0, hi251_0⟩ := at_L2 HR0.out x5_1 p251 q251
        cases e251
        have HR251_0 := Aside0.mk hi251_0
        have HC251_0 := Aside0.mk hl251_0
        clear hi251_0 hl251_0
        replace p251 := eq_true p251
        replace q251 := eq_true q251
        have p252 : 0 ≤ (x5_1 : Int) := dtr
        have q252 : x5_1 < (l1.length : Int) := dtr
        obtain ⟨ad252, A252_0, c252_0, e252, hx252_0, hl252_0, hi252_0⟩ := at_L2 HR1.out x5_1 p252 q252
        cases e252
        have HR252_0 := Aside0.mk hi252_0
        have HC252_0 := Aside0.mk hl252_0
        clear hi252_0 hl252_0
        replace p252 := eq_true p252
        replace q252 := eq_true q252
        go_wp2_with (first | (go_at_call 41; (with_reducible refine (paraphrastref01_Equal.calls k1 _ _ (rd_L2 l0 x5_1) _ _ (rd_L2 l1 x5_1) true _ ?side1 ?side2 ?side3 ?side4 A7.out).mono ?_); (case side1 => exact cS HR251_0.out); (case side2 => exact HC251_0.out); (case side3 => exact cS HR252_0.out); (case side4 => exact HC252_0.out); rintro e w' ⟨rfl, ⟨nd, rfl⟩⟩; (try first | exact ⟨rfl, _, World.drewN_drewN _ _ _⟩ | exact ⟨rfl, _, Eq.trans (World.drewN_drewN _ _ _) (congrArg (World.drewN _) (Nat.add_assoc _ _ _))⟩)))
        repeat (go_quiet (first | (go_at_call 41; (with_reducible refine (paraphrastref01_Equal.calls k1 _ _ (rd_L2 l0 x5_1) _ _ (rd_L2 l1 x5_1) true _ ?side1 ?side2 ?side3 ?side4 A7.out).mono ?_); (case side1 => exact cS HR251_0.out); (case side2 => exact HC251_0.out); (case side3 => exact cS HR252_0.out); (case side4 => exact HC252_0.out); rintro e w' ⟨rfl, ⟨nd, rfl⟩⟩; (try first | exact ⟨rfl, _, World.drewN_drewN _ _ _⟩ | exact ⟨rfl, _, Eq.trans (World.drewN_drewN _ _ _) (congrArg (World.drewN _) (Nat.add_assoc _ _ _))⟩))); try go_wp2_with (first | (go_at_call 41; (with_reducible refine (paraphrastref01_Equal.calls k1 _ _ (rd_L2 l0 x5_1) _ _ (rd_L2 l1 x5_1) true _ ?side1 ?side2 ?side3 ?side4 A7.out).mono ?_); (case side1 => exact cS HR251_0.out); (case side2 => exact HC251_0.out); (case side3 => exact cS HR252_0.out); (case side4 => exact HC252_0.out); rintro e w' ⟨rfl, ⟨nd, rfl⟩⟩; (try first | exact ⟨rfl, _, World.drewN_drewN _ _ _⟩ | exact ⟨rfl, _, Eq.trans (World.drewN_drewN _ _ _) (congrArg (World.drewN _) (Nat.add_assoc _ _ _))⟩))))
        go_roundg k1
        case measure => have := HK1.out; omega
        case rel => exact ⟨(wrap64 (x5_1 + 1)), eS, H', ⟨by have := HK1.out; omega⟩, dr0⟩
       ·replace c8 := Bool.eq_false_iff.mpr c8
        subst c8
        have H1 : (some false) = some r := by rw [if_neg (show ¬ (false = true) by decide)] at H; exact H
        clear H
        have H := H1
        clear H1
        obtain rfl := Option.some.inj H
        have p251 : 0 ≤ (x5_1 : Int) := dtr
        have q251 : x5_1 < (l0.length : Int) := dtr
        obtain ⟨ad251, A251_0, c251_0, e251, hx251_0, hl251_0, hi251_0⟩ := at_L2 HR0.out x5_1 p251 q251
        cases e251
        have HR251_0 := Aside0.mk hi251_0
        have HC251_0 := Aside0.mk hl251_0
        clear hi251_0 hl251_0
        replace p251 := eq_true p251
        replace q251 := eq_true q251
        have p252 : 0 ≤ (x5_1 : Int) := dtr
        have q252 : x5_1 < (l1.length : Int) := dtr
        obtain ⟨ad252, A252_0, c252_0, e252, hx252_0, hl252_0, hi252_0⟩ := at_L2 HR1.out x5_1 p252 q252
        cases e252
        have HR252_0 := Aside0.mk hi252_0
        have HC252_0 := Aside0.mk hl252_0
        clear hi252_0 hl252_0
        replace p252 := eq_true p252
        replace q252 := eq_true q252
        go_wp2_with (first | (go_at_call 41; (with_reducible refine (paraphrastref01_Equal.calls k1 _ _ (rd_L2 l0 x5_1) _ _ (rd_L2 l1 x5_1) false _ ?side1 ?side2 ?side3 ?side4 A7.out).mono ?_); (case side1 => exact cS HR251_0.out); (case side2 => exact HC251_0.out); (case side3 => exact cS HR252_0.out); (case side4 => exact HC252_0.out); rintro e w' ⟨rfl, ⟨nd, rfl⟩⟩; (try first | exact ⟨rfl, _, World.drewN_drewN _ _ _⟩ | exact ⟨rfl, _, Eq.trans (World.drewN_drewN _ _ _) (congrArg (World.drewN _) (Nat.add_assoc _ _ _))⟩)))
        repeat (go_quiet (first | (go_at_call 41; (with_reducible refine (paraphrastref01_Equal.calls k1 _ _ (rd_L2 l0 x5_1) _ _ (rd_L2 l1 x5_1) false _ ?side1 ?side2 ?side3 ?side4 A7.out).mono ?_); (case side1 => exact cS HR251_0.out); (case side2 => exact HC251_0.out); (case side3 => exact cS HR252_0.out); (case side4 => exact HC252_0.out); rintro e w' ⟨rfl, ⟨nd, rfl⟩⟩; (try first | exact ⟨rfl, _, World.drewN_drewN _ _ _⟩ | exact ⟨rfl, _, Eq.trans (World.drewN_drewN _ _ _) (congrArg (World.drewN _) (Nat.add_assoc _ _ _))⟩))); try go_wp2_with (first | (go_at_call 41; (with_reducible refine (paraphrastref01_Equal.calls k1 _ _ (rd_L2 l0 x5_1) _ _ (rd_L2 l1 x5_1) false _ ?side1 ?side2 ?side3 ?side4 A7.out).mono ?_); (case side1 => exact cS HR251_0.out); (case side2 => exact HC251_0.out); (case side3 => exact cS HR252_0.out); (case side4 => exact HC252_0.out); rintro e w' ⟨rfl, ⟨nd, rfl⟩⟩; (try first | exact ⟨rfl, _, World.drewN_drewN _ _ _⟩ | exact ⟨rfl, _, Eq.trans (World.drewN_drewN _ _ _) (congrArg (World.drewN _) (Nat.add_assoc _ _ _))⟩))))
        go_ret
        exact ⟨eS, dr0⟩
      ·rw [if_neg c6] at H
       exact absurd H (by simp)
     ·rw [if_neg c5] at H
      exact absurd H (by simp)
    ·rw [if_neg c4] at H
     have c4b0 : decide (x5_1 < (l0.length : Int)) = false := decide_eq_false c4
     clear c4
     obtain rfl := Option.some.inj H
     go_wp2
     repeat (go_quiet (fail); try go_wp2)
     go_ret
     exact ⟨eS, dr0⟩
 ·rw [if_neg c3] at H
  have c3b0 : ((l0.length : Int) == (l1.length : Int)) = false := beq_eq_false_iff_ne.mpr c3
  have c3b1 : ((l0.length : Int) != (l1.length : Int)) = true := bne_iff_ne.mpr c3
  have c3b2 : (l0.length == l1.length) = false := by first | simpa using c3 | (simp at c3 ⊢; omega)
  obtain rfl := Option.some.inj H
  go_enter Tryz.func69, Tryz.ntmps69
  go_wp2
  repeat (go_quiet (fail); try go_wp2)
  go_ret
  exact ⟨eS, dr0⟩
end Go.Proofs.YtfmpaofbnjlniaaGreatDoor.F
namespace Go.Proofs.YtfmpaofbnjlniaaGreatDoor.F
open Go.RowKit Go.Proofs.YtfmpaofbnjlniaaGreatDoorW.PrintWords Go.Proofs.YtfmpaofbnjlniaaGreatDoorW.PrintLast Go.Proofs.YtfmpaofbnjlniaaGreatDoorW.PrintMore
attribute [local go_sem] max2_int min2_int max_two min_two max_three min_three max_four min_four
set_option linter.unusedVariables false
set_option linter.unusedSimpArgs false
theorem far_ne34 {W : World} {p : Addr} {v : Value} {g : Nat} (h : W.cell? p = some v) (hg : W.heap.size ≤ g) : p.block ≠ g := Nat.ne_of_lt (Nat.lt_of_lt_of_le (World.block_lt_of_cell? _ _ h) hg)
/-! ### paraphrastref01_Same: function 34 -/
mutual
def paraphrastref01_Same.j0 : Nat → Bool → Int → List (S52) → Int → List (S52) → Option (Bool)
 | 0, _, _, _, _, _ => none
 | k + 1, x21, x255000, x255001, x256000, x256001 => if x21 = true then (some false) else (paraphrastref01_Same.l0 k 0 x255000 x255001 x256000 x256001)
def paraphrastref01_Same.l0 : Nat → Int → Int → List (S52) → Int → List (S52) → Option (Bool)
 | 0, _, _, _, _, _ => none
 | k + 1, x5, x255000, x255001, x256000, x256001 => if x5 < (x255001.length : Int) then (if 0 ≤ x5 then (if x5 < (x256001.length : Int) then (if ((rd_T52 x255001 x5).f0).toList = ((rd_T52 x256001 x5).f0).toList then (if ((rd_T52 x255001 x5).f1) = ((rd_T52 x256001 x5).f1) then ((paraphrastref01_SameTuples.f k ((rd_T52 x255001 x5).f2) ((rd_T52 x256001 x5).f2)).bind fun t260 => (if t260 = true then (paraphrastref01_Same.l0 k (wrap64 (x5 + 1)) x255000 x255001 x256000 x256001) else (some false))) else (some false)) else (some false)) else (none)) else (none)) else (some true)
end
def paraphrastref01_Same.f (k : Nat) (a0_0 : Int) (l0_1 : List (S52)) (a1_0 : Int) (l1_1 : List (S52)) : Option (Bool) := if a0_0 = a1_0 then (paraphrastref01_Same.j0 k ((l0_1.length : Int) != (l1_1.length : Int)) a0_0 l0_1 a1_0 l1_1) else (paraphrastref01_Same.j0 k true a0_0 l0_1 a1_0 l1_1)
def paraphrastref01_Same.T6 : Bool × List (List Nat × List Nat) := (true, [([], []), ([0], [0]), ([], []), ([1, 2], [1, 2]), ([3], [3]), ([], []), ([5], [5]), ([], []), ([6, 7], [6, 7]), ([8], [8]), ([], []), ([], []), ([10, 4, 0, 1, 2, 3, 4, 10, 11], [4, 10]), ([11, 9, 12, 0, 1, 2, 3, 4, 5, 6, 7, 8, 9, 10, 11, 12], [9, 11])])
def paraphrastref01_Same.B6 : List Nat := [0, 1, 0, 7, 15, 0, 32, 0, 224, 480, 0, 0, 3103, 8191]
theorem paraphrastref01_Same.tab6 : rtab .any (opsOf Tryz.f34 6) = paraphrastref01_Same.T6 := by kernel_rfl
theorem paraphrastref01_Same.bits6 : waitsOk paraphrastref01_Same.T6.2 paraphrastref01_Same.B6 = true := by kernel_rfl
set_option maxHeartbeats 8000000 in
set_option maxRecDepth 100000 in
theorem paraphrastref01_Same.calls (k : Nat) (a0_0 : Int) (A0_1 : Option Addr) (c0_1 : Nat) (l0_1 : List (S52)) (a1_0 : Int) (A1_1 : Option Addr) (c1_1 : Nat) (l1_1 : List (S52)) (r : Bool) (w : World) (hr0_1 : Kd.C k52 w A0_1 l0_1.length l0_1) (hc0_1 : l0_1.length ≤ c0_1) (hr1_1 : Kd.C k52 w A1_1 l1_1.length l1_1) (hc1_1 : l1_1.length ≤ c1_1) (h : paraphrastref01_Same.f k a0_0 l0_1 a1_0 l1_1 = some r) :
  Calls Tryz.prog 34 #[.agg #[.int .i64 a0_0, .slice A0_1 l0_1.length c0_1], .agg #[.int .i64 a1_0, .slice A1_1 l1_1.length c1_1]] w fun e w' => e = .returned (.bool r) ∧ Below w.heap.size w w' := by
 have hu24 := Tryz.underlying24
 have hu52 := Tryz.underlying52
 have HR0_1 := Aside0.mk hr0_1
 have HC0_1 := Aside0.mk hc0_1
 clear hr0_1 hc0_1
 have HR1_1 := Aside0.mk hr1_1
 have HC1_1 := Aside0.mk hc1_1
 clear hr1_1 hc1_1
 have HB := Aside0.mk (Below.refl w.heap.size w)
 have H : (if a0_0 = a1_0 then (paraphrastref01_Same.j0 k ((l0_1.length : Int) != (l1_1.length : Int)) a0_0 l0_1 a1_0 l1_1) else (paraphrastref01_Same.j0 k true a0_0 l0_1 a1_0 l1_1)) = some r := h
 clear h
 have HC3 := Aside0.mk H
 clear H
 go_enter Tryz.func34, Tryz.ntmps34
 go_upto_region 1 with (first | ((with_reducible refine gate_dst (N := 2) rfl ?_); (try (refine gate_guard (by rfl) ?_; dsimp only)); refine box_event ?hg (N := 2) ?hd (cs := #[.int .i64 a0_0, .slice A0_1 l0_1.length c0_1]) (t := 24) ?hr ?_; (case hd => rfl); (case hg => rfl); (case hr => first | (go_simp; done) | (go_simp; rfl)); intro gb254 hg w4 hbox hb; have BK254 := Aside0.mk (hbox); have GW254 := geB w hg; have GE254 := geB w hg; replace HB := Aside0.mk (below_step bel hb); clear hb hbox hg) | ((with_reducible refine gate_dst (N := 3) rfl ?_); (try (refine gate_guard (by rfl) ?_; dsimp only)); refine box_event ?hg (N := 3) ?hd (cs := #[.int .i64 a1_0, .slice A1_1 l1_1.length c1_1]) (t := 24) ?hr ?_; (case hd => rfl); (case hg => rfl); (case hr => first | (go_simp; done) | (go_simp; rfl)); intro gb255 hg w5 hbox hb; have BK255 := Aside0.mk (hbox); have GW255 := geB w hg; have GE255 := geB w hg; have NB254_255 := neL BK254 hg; have NB255_254 := neG BK254 hg; replace BK254 := blB BK254 hb; replace HB := Aside0.mk (below_step bel hb); clear hb hbox hg))
 (try simp only [Act.put, List.setIfInBounds_toArray, List.set_cons_zero, List.set_cons_succ])
 go_cut [21] (fun v21 wc => ∃ (kq : Nat) (x21_2 : Bool), v21 = .bool x21_2 ∧ Aside0 (paraphrastref01_Same.j0 kq x21_2 a0_0 l0_1 a1_0 l1_1 = some r) ∧ Aside0 (kq ≤ k) ∧ Aside0 (wc.heap[gb254]? = some (.cells #[.int .i64 a0_0, (.slice A0_1 l0_1.length c0_1)] 24 (0, 0))) ∧ Aside0 (wc.heap[gb255]? = some (.cells #[.int .i64 a1_0, (.slice A1_1 l1_1.length c1_1)] 24 (0, 0))) ∧ Aside0 (Below w.heap.size w wc))
 case first =>
  have H := HC3.out
  clear HC3
  by_cases c6 : a0_0 = a1_0
  ·rw [if_pos c6] at H
   have c6b0 : (a0_0 == a1_0) = true := beq_iff_eq.mpr c6
   have c6b1 : (a0_0 != a1_0) = false := bne_eq_false_iff_eq.mpr c6
   clear c6
   (first | rw [c6b0] | (simp only [i64_w, i32_w]; rw [c6b0]) | skip)
   have H' := Aside0.mk H
   clear H
   have hnb7 := NB254_255.out
   have hnc7 := NB255_254.out
   obtain ⟨hcz8_0, hcz8_1, hfz8_0, hfz8_1⟩ := bq2 BK254
   obtain ⟨hcz9_0, hcz9_1, hfz9_0, hfz9_1⟩ := bq2 BK255
   go_wp2
   go_meet
   case rel => exact ⟨_, (((l0_1.length : Int) != (l1_1.length : Int))), eS, H', ⟨kle⟩, ⟨bk BK254⟩, ⟨bk BK255⟩, ⟨bel⟩⟩
  ·rw [if_neg c6] at H
   have c6b0 : (a0_0 == a1_0) = false := beq_eq_false_iff_ne.mpr c6
   have c6b1 : (a0_0 != a1_0) = true := bne_iff_ne.mpr c6
   (first | rw [c6b0] | (simp only [i64_w, i32_w]; rw [c6b0]) | skip)
   have H' := Aside0.mk H
   clear H
   have hnb10 := NB254_255.out
   have hnc10 := NB255_254.out
   obtain ⟨hcz11_0, hcz11_1, hfz11_0, hfz11_1⟩ := bq2 BK254
   obtain ⟨hcz12_0, hcz12_1, hfz12_0, hfz12_1⟩ := bq2 BK255
   go_wp2
   go_meet
   case rel => exact ⟨_, (true), eS, H', ⟨kle⟩, ⟨bk BK254⟩, ⟨bk BK255⟩, ⟨bel⟩⟩
 case rest =>
  clear HC3
  obtain ⟨kq, x21_2, rfl, HA, HJ2, BK254, BK255, HB⟩ := hcut
  cases kq with
  | zero => exact absurd HA.out (by simp [paraphrastref01_Same.j0])
  | succ kj2 =>
   have H := HA.out
   clear HA
   simp only [paraphrastref01_Same.j0] at H
   by_cases c13 : x21_2 = true
   ·subst c13
    have H1 : (some false) = some r := by rw [if_pos rfl] at H; exact H
    clear H
    have H := H1
    clear H1
    obtain rfl := Option.some.inj H
    go_wp2
    go_ret
    exact ⟨eN, bel⟩
   ·replace c13 := Bool.eq_false_iff.mpr c13
    subst c13
    have H1 : (paraphrastref01_Same.l0 kj2 0 a0_0 l0_1 a1_0 l1_1) = some r := by rw [if_neg (show ¬ (false = true) by decide)] at H; exact H
    clear H
    have H := H1
    clear H1
    have H' := Aside0.mk H
    clear H
    go_wp2
    go_loopg [5] kj2 (fun kq v5 w' => ∃ (x5_2 : Int), v5 = .int .i64 x5_2 ∧ Aside0 (paraphrastref01_Same.l0 kq x5_2 a0_0 l0_1 a1_0 l1_1 = some r) ∧ Aside0 (kq ≤ kj2) ∧ Aside0 (w'.heap[gb254]? = some (.cells #[.int .i64 a0_0, (.slice A0_1 l0_1.length c0_1)] 24 (0, 0))) ∧ Aside0 (w'.heap[gb255]? = some (.cells #[.int .i64 a1_0, (.slice A1_1 l1_1.length c1_1)] 24 (0, 0))) ∧ Aside0 (Below w.heap.size w w'))
    case atStart => exact ⟨(0), eS, H', ⟨Nat.le_refl _⟩, ⟨bk BK254⟩, ⟨bk BK255⟩, ⟨bel⟩⟩
    case round =>
     clear H'
     (try clear c13)
     obtain ⟨x5_2, rfl, HA, HK2, BK254, BK255, HB⟩ := hrel
     cases gk with
     | zero => exact absurd HA.out (by simp [paraphrastref01_Same.l0])
     | succ k2 =>
      have H := HA.out
      clear HA
      simp only [paraphrastref01_Same.l0] at H
      by_cases c14 : x5_2 < (l0_1.length : Int)
      ·rw [if_pos c14] at H
       have c14b0 : decide (x5_2 < (l0_1.length : Int)) = true := decide_eq_true c14
       clear c14
       by_cases c15 : 0 ≤ x5_2
       ·rw [if_pos c15] at H
        have c15b0 : decide (0 ≤ x5_2) = true := decide_eq_true c15
        clear c15
        by_cases c16 : x5_2 < (l1_1.length : Int)
        ·rw [if_pos c16] at H
         have c16b0 : decide (x5_2 < (l1_1.length : Int)) = true := decide_eq_true c16
         clear c16
         by_cases c17 : ((rd_T52 l0_1 x5_2).f0).toList = ((rd_T52 l1_1 x5_2).f0).toList
         ·rw [if_pos c17] at H
          have c17b0 : (((rd_T52 l0_1 x5_2).f0).toList == ((rd_T52 l1_1 x5_2).f0).toList) = true := beq_iff_eq.mpr c17
          have c17b1 : (((rd_T52 l0_1 x5_2).f0).toList != ((rd_T52 l1_1 x5_2).f0).toList) = false := bne_eq_false_iff_eq.mpr c17
          clear c17
          by_cases c18 : ((rd_T52 l0_1 x5_2).f1) = ((rd_T52 l1_1 x5_2).f1)
          ·rw [if_pos c18] at H
           have c18b0 : (((rd_T52 l0_1 x5_2).f1) == ((rd_T52 l1_1 x5_2).f1)) = true := beq_iff_eq.mpr c18
           have c18b1 : (((rd_T52 l0_1 x5_2).f1) != ((rd_T52 l1_1 x5_2).f1)) = false := bne_eq_false_iff_eq.mpr c18
           clear c18
           replace H := Option.bind_eq_some_iff.mp H
           obtain ⟨t260, A190, H⟩ := H
           replace H : (if t260 = true then (paraphrastref01_Same.l0 k2 (wrap64 (x5_2 + 1)) a0_0 l0_1 a1_0 l1_1) else (some false)) = some r := H
           have A19 := Aside0.mk A190
           clear A190
           by_cases c20 : t260 = true
           ·subst c20
            have H1 : (paraphrastref01_Same.l0 k2 (wrap64 (x5_2 + 1)) a0_0 l0_1 a1_0 l1_1) = some r := by rw [if_pos rfl] at H; exact H
            clear H
            have H := H1
            clear H1
            have H' := Aside0.mk H
            clear H
            have hnb21 := NB254_255.out
            have hnc21 := NB255_254.out
            obtain ⟨hcz22_0, hcz22_1, hfz22_0, hfz22_1⟩ := bq2 BK254
            try go_wp2
            replace BK254 := Aside0.mk (blk_drew BK254.out)
            replace BK255 := Aside0.mk (blk_drew BK255.out)
            replace HB := Aside0.mk (below_drew1 HB.out)
            have p256 : 0 ≤ (x5_2 : Int) := dtr
            have q256 : x5_2 < (l0_1.length : Int) := dtr
            obtain ⟨ad256, A256_2, c256_2, e256, hx256_0, hx256_1, hx256_2, hl256_2, hi256_2⟩ := at_T52 HR0_1.out x5_2 p256 q256
            have hw256_2 := hx256_2
            have hw256_1 := hx256_1
            have hw256_0 := hx256_0
            cases e256
            replace hx256_0 := oc hx256_0
            replace hx256_1 := oc hx256_1
            replace hx256_2 := oc hx256_2
            have HR256_2 := Aside0.mk hi256_2
            have HC256_2 := Aside0.mk hl256_2
            clear hi256_2 hl256_2
            replace p256 := eq_true p256
            replace q256 := eq_true q256
            have p257 : 0 ≤ (x5_2 : Int) := dtr
            have q257 : x5_2 < (l1_1.length : Int) := dtr
            obtain ⟨ad257, A257_2, c257_2, e257, hx257_0, hx257_1, hx257_2, hl257_2, hi257_2⟩ := at_T52 HR1_1.out x5_2 p257 q257
            have hw257_2 := hx257_2
            have hw257_1 := hx257_1
            have hw257_0 := hx257_0
            cases e257
            replace hx257_0 := oc hx257_0
            replace hx257_1 := oc hx257_1
            replace hx257_2 := oc hx257_2
            have HR257_2 := Aside0.mk hi257_2
            have HC257_2 := Aside0.mk hl257_2
            clear hi257_2 hl257_2
            replace p257 := eq_true p257
            replace q257 := eq_true q257
            refine start_ (n := 14) (S := fun w' => w'.cell? ⟨gb254, 0, none⟩ = some (.int .i64 a0_0) ∧ w'.cell? ⟨gb254, 1, none⟩ = some (.slice (some ad256) l0_1.length c0_1) ∧ w'.cell? ⟨gb255, 0, none⟩ = some (.int .i64 a1_0) ∧ w'.cell? ⟨gb255, 1, none⟩ = some (.slice (some ad257) l1_1.length c1_1) ∧ w'.cell? (ad256.add ((x5_2).toNat * 3)) = some (.string ((rd_T52 l0_1 x5_2).f0)) ∧ w'.cell? ⟨(ad256.add ((x5_2).toNat * 3)).block, (ad256.add ((x5_2).toNat * 3)).off + 1, none⟩ = some (.int .i64 ((rd_T52 l0_1 x5_2).f1)) ∧ w'.cell? ⟨(ad256.add ((x5_2).toNat * 3)).block, (ad256.add ((x5_2).toNat * 3)).off + 2, none⟩ = some (.slice A256_2 ((rd_T52 l0_1 x5_2).f2).length c256_2) ∧ w'.cell? (ad257.add ((x5_2).toNat * 3)) = some (.string ((rd_T52 l1_1 x5_2).f0)) ∧ w'.cell? ⟨(ad257.add ((x5_2).toNat * 3)).block, (ad257.add ((x5_2).toNat * 3)).off + 1, none⟩ = some (.int .i64 ((rd_T52 l1_1 x5_2).f1)) ∧ w'.cell? ⟨(ad257.add ((x5_2).toNat * 3)).block, (ad257.add ((x5_2).toNat * 3)).off + 2, none⟩ = some (.slice A257_2 ((rd_T52 l1_1 x5_2).f2).length c257_2)) (ds := []) #[false, false, false, false, false, false, false, false, false, false, false, false, false, false] (by kernel_rfl) rfl rfl ⟨(blk_cell BK254.out 0).trans rfl, (blk_cell BK254.out 1).trans rfl, (blk_cell BK255.out 0).trans rfl, (blk_cell BK255.out 1).trans rfl, (oc hw256_0), (oc hw256_1), (oc hw256_2), (oc hw257_0), (oc hw257_1), (oc hw257_2)⟩ (fun hHeld => ?_); refine with_tabW paraphrastref01_Same.tab6 paraphrastref01_Same.bits6 (fun HT_ HW_ => ?_)
            generalize wr.drew = w23 at BK254 BK255 HB HR256_2 HR257_2 hx256_0 hx256_1 hx256_2 hx257_0 hx257_1 hx257_2 hHeld ⊢
            refine sPu 0 (some 29) ?_
            refine sPu 2 (some 31) ?_
            refine sPu 5 (some 34) ?_
            refine sPu 7 (some 36) ?_
            refine sTk 1 (some 30) ?_
            refine sPu 3 (some 32) ?_
            refine sTk 4 (some 33) ?_
            refine sTk 6 (some 35) ?_
            refine sPu 8 (some 37) ?_
            refine sTk 9 (some 38) ?_
            refine join_ (σ := Nat × Nat) 2 #[true, true, true, true, true, true, true, true, true, true, true, true, false, false] (fun s_ => [(6, .pointer (some ⟨s_.1, 0, none⟩)), (7, .pointer (some ⟨s_.2, 0, none⟩))]) (fun s_ w' => (w'.cell? ⟨gb254, 0, none⟩ = some (.int .i64 a0_0) ∧ w'.cell? ⟨gb254, 1, none⟩ = some (.slice (some ad256) l0_1.length c0_1) ∧ w'.cell? ⟨gb255, 0, none⟩ = some (.int .i64 a1_0) ∧ w'.cell? ⟨gb255, 1, none⟩ = some (.slice (some ad257) l1_1.length c1_1) ∧ w'.cell? (ad256.add ((x5_2).toNat * 3)) = some (.string ((rd_T52 l0_1 x5_2).f0)) ∧ w'.cell? ⟨(ad256.add ((x5_2).toNat * 3)).block, (ad256.add ((x5_2).toNat * 3)).off + 1, none⟩ = some (.int .i64 ((rd_T52 l0_1 x5_2).f1)) ∧ w'.cell? ⟨(ad256.add ((x5_2).toNat * 3)).block, (ad256.add ((x5_2).toNat * 3)).off + 2, none⟩ = some (.slice A256_2 ((rd_T52 l0_1 x5_2).f2).length c256_2) ∧ w'.cell? (ad257.add ((x5_2).toNat * 3)) = some (.string ((rd_T52 l1_1 x5_2).f0)) ∧ w'.cell? ⟨(ad257.add ((x5_2).toNat * 3)).block, (ad257.add ((x5_2).toNat * 3)).off + 1, none⟩ = some (.int .i64 ((rd_T52 l1_1 x5_2).f1)) ∧ w'.cell? ⟨(ad257.add ((x5_2).toNat * 3)).block, (ad257.add ((x5_2).toNat * 3)).off + 2, none⟩ = some (.slice A257_2 ((rd_T52 l1_1 x5_2).f2).length c257_2)) ∧ (w'.heap[gb254]? = some (.cells #[.int .i64 a0_0, .slice (some ad256) l0_1.length c0_1] 24 (0, 0))) ∧ (w'.heap[gb255]? = some (.cells #[.int .i64 a1_0, .slice (some ad257) l1_1.length c1_1] 24 (0, 0))) ∧ (w'.heap[s_.1]? = some (.cells #[.string (⟨#[]⟩ : ByteArray), .int .i64 0, .slice none 0 0] 52 (0, 0))) ∧ (w'.heap[s_.2]? = some (.cells #[.string (⟨#[]⟩ : ByteArray), .int .i64 0, .slice none 0 0] 52 (0, 0))) ∧ (w.heap.size ≤ s_.1) ∧ (w.heap.size ≤ s_.1) ∧ (gb254 ≠ s_.1) ∧ (s_.1 ≠ gb254) ∧ (gb255 ≠ s_.1) ∧ (s_.1 ≠ gb255) ∧ (s_.2 ≠ s_.1) ∧ (s_.1 ≠ s_.2) ∧ (w.heap.size ≤ s_.2) ∧ (w.heap.size ≤ s_.2) ∧ (gb254 ≠ s_.2) ∧ (s_.2 ≠ gb254) ∧ (gb255 ≠ s_.2) ∧ (s_.2 ≠ gb255) ∧ (Below w.heap.size w w')) ?_ ?_
            rotate_left
            ·intro hCont
             refine two_ (i := 10) (j := 11) (Ni := some 6) (Nj := some 7) #[true, true, true, true, true, true, true, true, true, true, true, false, false, false] #[true, true, true, true, true, true, true, true, true, true, false, true, false, false] rfl rfl rfl rfl (two_of HT_.out (by kernel_rfl)) (by decide) (by decide) (fun K hK => ?_) (fun K hK => ?_)
             ·skip
              refine box_step ?hg (N := 6) ?hd (cs := #[.string (⟨#[]⟩ : ByteArray), .int .i64 0, .slice none 0 0]) (t := 52) ?hr ?_; (case hd => rfl); (case hg => rfl); (case hr => first | (go_simp; done) | (go_simp; rfl))
              intro gb258 hg w24 hbox hb
              have BK258 := Aside0.mk (hbox)
              have GW258 := geB w hg
              have GE258 := geB w hg
              have NB254_258 := neL BK254 hg
              have NB258_254 := neG BK254 hg
              have NB255_258 := neL BK255 hg
              have NB258_255 := neG BK255 hg
              replace BK254 := blB BK254 hb
              replace BK255 := blB BK255 hb
              replace HB := Aside0.mk (below_step bel hb)
              clear hb hbox hg
              refine hK.out _ _ ⟨(blk_cell BK254.out 0).trans rfl, (blk_cell BK254.out 1).trans rfl, (blk_cell BK255.out 0).trans rfl, (blk_cell BK255.out 1).trans rfl, (oc hw256_0), (oc hw256_1), (oc hw256_2), (oc hw257_0), (oc hw257_1), (oc hw257_2)⟩ (fun hHeld => ?_)
              clear hK K
              refine norm_ (a' := ?_) ?_ ?_
              rotate_left
              ·show Act.put _ (some 6) _ = _
               simp only [Act.put, List.setIfInBounds_toArray, List.set_cons_zero, List.set_cons_succ, i64_w, i32_w]
               rfl
              refine sOn 11 (some 7) (fun K hK => ?_)
              refine box_step ?hg (N := 7) ?hd (cs := #[.string (⟨#[]⟩ : ByteArray), .int .i64 0, .slice none 0 0]) (t := 52) ?hr ?_; (case hd => rfl); (case hg => rfl); (case hr => first | (go_simp; done) | (go_simp; rfl))
              intro gb259 hg w25 hbox hb
              have BK259 := Aside0.mk (hbox)
              have GW259 := geB w hg
              have GE259 := geB w hg
              have NB254_259 := neL BK254 hg
              have NB259_254 := neG BK254 hg
              have NB255_259 := neL BK255 hg
              have NB259_255 := neG BK255 hg
              have NB258_259 := neL BK258 hg
              have NB259_258 := neG BK258 hg
              replace BK254 := blB BK254 hb
              replace BK255 := blB BK255 hb
              replace BK258 := blB BK258 hb
              replace HB := Aside0.mk (below_step bel hb)
              clear hb hbox hg
              refine hK.out _ _ ⟨(blk_cell BK254.out 0).trans rfl, (blk_cell BK254.out 1).trans rfl, (blk_cell BK255.out 0).trans rfl, (blk_cell BK255.out 1).trans rfl, (oc hw256_0), (oc hw256_1), (oc hw256_2), (oc hw257_0), (oc hw257_1), (oc hw257_2)⟩ (fun hHeld => ?_)
              clear hK K
              refine norm_ (a' := ?_) ?_ ?_
              rotate_left
              ·show Act.put _ (some 7) _ = _
               simp only [Act.put, List.setIfInBounds_toArray, List.set_cons_zero, List.set_cons_succ, i64_w, i32_w]
               rfl
              exact norm_ (by simp only [putAll, Act.put, List.setIfInBounds_toArray, List.set_cons_zero, List.set_cons_succ]) (hCont (gb258, gb259) _ ⟨hHeld, (bk BK254), (bk BK255), (bk BK258), (bk BK259), GW258.out, GE258.out, NB254_258.out, NB258_254.out, NB255_258.out, NB258_255.out, NB259_258.out, NB258_259.out, GW259.out, GE259.out, NB254_259.out, NB259_254.out, NB255_259.out, NB259_255.out, bel⟩)
             ·skip
              refine box_step ?hg (N := 7) ?hd (cs := #[.string (⟨#[]⟩ : ByteArray), .int .i64 0, .slice none 0 0]) (t := 52) ?hr ?_; (case hd => rfl); (case hg => rfl); (case hr => first | (go_simp; done) | (go_simp; rfl))
              intro gb259 hg w24 hbox hb
              have BK259 := Aside0.mk (hbox)
              have GW259 := geB w hg
              have GE259 := geB w hg
              have NB254_259 := neL BK254 hg
              have NB259_254 := neG BK254 hg
              have NB255_259 := neL BK255 hg
              have NB259_255 := neG BK255 hg
              replace BK254 := blB BK254 hb
              replace BK255 := blB BK255 hb
              replace HB := Aside0.mk (below_step bel hb)
              clear hb hbox hg
              refine hK.out _ _ ⟨(blk_cell BK254.out 0).trans rfl, (blk_cell BK254.out 1).trans rfl, (blk_cell BK255.out 0).trans rfl, (blk_cell BK255.out 1).trans rfl, (oc hw256_0), (oc hw256_1), (oc hw256_2), (oc hw257_0), (oc hw257_1), (oc hw257_2)⟩ (fun hHeld => ?_)
              clear hK K
              refine norm_ (a' := ?_) ?_ ?_
              rotate_left
              ·show Act.put _ (some 7) _ = _
               simp only [Act.put, List.setIfInBounds_toArray, List.set_cons_zero, List.set_cons_succ, i64_w, i32_w]
               rfl
              refine sOn 10 (some 6) (fun K hK => ?_)
              refine box_step ?hg (N := 6) ?hd (cs := #[.string (⟨#[]⟩ : ByteArray), .int .i64 0, .slice none 0 0]) (t := 52) ?hr ?_; (case hd => rfl); (case hg => rfl); (case hr => first | (go_simp; done) | (go_simp; rfl))
              intro gb258 hg w25 hbox hb
              have BK258 := Aside0.mk (hbox)
              have GW258 := geB w hg
              have GE258 := geB w hg
              have NB254_258 := neL BK254 hg
              have NB258_254 := neG BK254 hg
              have NB255_258 := neL BK255 hg
              have NB258_255 := neG BK255 hg
              have NB259_258 := neL BK259 hg
              have NB258_259 := neG BK259 hg
              replace BK254 := blB BK254 hb
              replace BK255 := blB BK255 hb
              replace BK259 := blB BK259 hb
              replace HB := Aside0.mk (below_step bel hb)
              clear hb hbox hg
              refine hK.out _ _ ⟨(blk_cell BK254.out 0).trans rfl, (blk_cell BK254.out 1).trans rfl, (blk_cell BK255.out 0).trans rfl, (blk_cell BK255.out 1).trans rfl, (oc hw256_0), (oc hw256_1), (oc hw256_2), (oc hw257_0), (oc hw257_1), (oc hw257_2)⟩ (fun hHeld => ?_)
              clear hK K
              refine norm_ (a' := ?_) ?_ ?_
              rotate_left
              ·show Act.put _ (some 6) _ = _
               simp only [Act.put, List.setIfInBounds_toArray, List.set_cons_zero, List.set_cons_succ, i64_w, i32_w]
               rfl
              exact norm_ (by simp only [putAll, Act.put, List.setIfInBounds_toArray, List.set_cons_zero, List.set_cons_succ]) (hCont (gb258, gb259) _ ⟨hHeld, (bk BK254), (bk BK255), (bk BK258), (bk BK259), GW258.out, GE258.out, NB254_258.out, NB258_254.out, NB255_258.out, NB258_255.out, NB259_258.out, NB258_259.out, GW259.out, GE259.out, NB254_259.out, NB259_254.out, NB255_259.out, NB259_255.out, bel⟩)
            rintro ⟨gb258, gb259⟩ w26 ⟨hS_, h0_, h1_, h2_, h3_, h4_, h5_, h6_, h7_, h8_, h9_, h10_, h11_, h12_, h13_, h14_, h15_, h16_, h17_, h18_⟩
            have n0_ : Aside0 (w26.heap[gb254]? = some (.cells #[.int .i64 a0_0, .slice (some ad256) l0_1.length c0_1] 24 (0, 0))) := ⟨h0_⟩
            have n1_ : Aside0 (w26.heap[gb255]? = some (.cells #[.int .i64 a1_0, .slice (some ad257) l1_1.length c1_1] 24 (0, 0))) := ⟨h1_⟩
            have n2_ : Aside0 (w26.heap[gb258]? = some (.cells #[.string (⟨#[]⟩ : ByteArray), .int .i64 0, .slice none 0 0] 52 (0, 0))) := ⟨h2_⟩
            have n3_ : Aside0 (w26.heap[gb259]? = some (.cells #[.string (⟨#[]⟩ : ByteArray), .int .i64 0, .slice none 0 0] 52 (0, 0))) := ⟨h3_⟩
            have n4_ : Aside0 (w.heap.size ≤ gb258) := ⟨h4_⟩
            have n5_ : Aside0 (w.heap.size ≤ gb258) := ⟨h5_⟩
            have n6_ : Aside0 (gb254 ≠ gb258) := ⟨h6_⟩
            have n7_ : Aside0 (gb258 ≠ gb254) := ⟨h7_⟩
            have n8_ : Aside0 (gb255 ≠ gb258) := ⟨h8_⟩
            have n9_ : Aside0 (gb258 ≠ gb255) := ⟨h9_⟩
            have n10_ : Aside0 (gb259 ≠ gb258) := ⟨h10_⟩
            have n11_ : Aside0 (gb258 ≠ gb259) := ⟨h11_⟩
            have n12_ : Aside0 (w.heap.size ≤ gb259) := ⟨h12_⟩
            have n13_ : Aside0 (w.heap.size ≤ gb259) := ⟨h13_⟩
            have n14_ : Aside0 (gb254 ≠ gb259) := ⟨h14_⟩
            have n15_ : Aside0 (gb259 ≠ gb254) := ⟨h15_⟩
            have n16_ : Aside0 (gb255 ≠ gb259) := ⟨h16_⟩
            have n17_ : Aside0 (gb259 ≠ gb255) := ⟨h17_⟩
            have n18_ : Aside0 (Below w.heap.size w w26) := ⟨h18_⟩
            clear BK254
            clear BK255
            clear HB
            clear h0_ h1_ h2_ h3_ h4_ h5_ h6_ h7_ h8_ h9_ h10_ h11_ h12_ h13_ h14_ h15_ h16_ h17_ h18_
            have BK254 := n0_
            have BK255 := n1_
            have BK258 := n2_
            have BK259 := n3_
            have GW258 := n4_
            have GE258 := n5_
            have NB254_258 := n6_
            have NB258_254 := n7_
            have NB255_258 := n8_
            have NB258_255 := n9_
            have NB259_258 := n10_
            have NB258_259 := n11_
            have GW259 := n12_
            have GE259 := n13_
            have NB254_259 := n14_
            have NB259_254 := n15_
            have NB255_259 := n16_
            have NB259_255 := n17_
            have HB := n18_
            clear n0_ n1_ n2_ n3_ n4_ n5_ n6_ n7_ n8_ n9_ n10_ n11_ n12_ n13_ n14_ n15_ n16_ n17_ n18_
            have hHeld : w26.cell? ⟨gb254, 0, none⟩ = some (.int .i64 a0_0) ∧ w26.cell? ⟨gb254, 1, none⟩ = some (.slice (some ad256) l0_1.length c0_1) ∧ w26.cell? ⟨gb255, 0, none⟩ = some (.int .i64 a1_0) ∧ w26.cell? ⟨gb255, 1, none⟩ = some (.slice (some ad257) l1_1.length c1_1) ∧ w26.cell? (ad256.add ((x5_2).toNat * 3)) = some (.string ((rd_T52 l0_1 x5_2).f0)) ∧ w26.cell? ⟨(ad256.add ((x5_2).toNat * 3)).block, (ad256.add ((x5_2).toNat * 3)).off + 1, none⟩ = some (.int .i64 ((rd_T52 l0_1 x5_2).f1)) ∧ w26.cell? ⟨(ad256.add ((x5_2).toNat * 3)).block, (ad256.add ((x5_2).toNat * 3)).off + 2, none⟩ = some (.slice A256_2 ((rd_T52 l0_1 x5_2).f2).length c256_2) ∧ w26.cell? (ad257.add ((x5_2).toNat * 3)) = some (.string ((rd_T52 l1_1 x5_2).f0)) ∧ w26.cell? ⟨(ad257.add ((x5_2).toNat * 3)).block, (ad257.add ((x5_2).toNat * 3)).off + 1, none⟩ = some (.int .i64 ((rd_T52 l1_1 x5_2).f1)) ∧ w26.cell? ⟨(ad257.add ((x5_2).toNat * 3)).block, (ad257.add ((x5_2).toNat * 3)).off + 2, none⟩ = some (.slice A257_2 ((rd_T52 l1_1 x5_2).f2).length c257_2) := hS_
            refine norm_ (a' := ?_) ?_ ?_
            rotate_left
            ·simp only [putAll, Act.put, List.setIfInBounds_toArray, List.set_cons_zero, List.set_cons_succ]
             rfl
            refine sOn 12 none (fun K hK => ?_)
            have hs27 : w26.cell? ⟨gb258, 0, none⟩ = some (.string (⟨#[]⟩ : ByteArray)) := (blk_cell BK258.out 0).trans rfl
            have hfs27 := blk_frozen BK258.out 0
            have hns27_0 := NB254_258.out
            have hns27_1 := NB255_258.out
            have hns27_3 := NB259_258.out
            have hms27_0 := NB258_254.out
            have hms27_1 := NB258_255.out
            have hms27_3 := NB258_259.out
            have hs28 : w26.cell? ⟨gb258, 1, none⟩ = some (.int .i64 0) := (blk_cell BK258.out 1).trans rfl
            have hfs28 := blk_frozen BK258.out 1
            have hns28_0 := NB254_258.out
            have hns28_1 := NB255_258.out
            have hns28_3 := NB259_258.out
            have hms28_0 := NB258_254.out
            have hms28_1 := NB258_255.out
            have hms28_3 := NB258_259.out
            have hs29 : w26.cell? ⟨gb258, 2, none⟩ = some (.slice none 0 0) := (blk_cell BK258.out 2).trans rfl
            have hfs29 := blk_frozen BK258.out 2
            have hns29_0 := NB254_258.out
            have hns29_1 := NB255_258.out
            have hns29_3 := NB259_258.out
            have hms29_0 := NB258_254.out
            have hms29_1 := NB258_255.out
            have hms29_3 := NB258_259.out
            refine skip_ (w1 := ?_) (by rfl) rfl ?_ ?_
            rotate_left
            ·go_simp
             rfl
            refine hK.out _ _ ⟨((cell_far (p := ⟨gb258, _, none⟩) NB254_258.out _).trans (((cell_far (p := ⟨gb258, _, none⟩) NB254_258.out _).trans (((cell_far (p := ⟨gb258, _, none⟩) NB254_258.out _).trans (hHeld.1)))))), ((cell_far (p := ⟨gb258, _, none⟩) NB254_258.out _).trans (((cell_far (p := ⟨gb258, _, none⟩) NB254_258.out _).trans (((cell_far (p := ⟨gb258, _, none⟩) NB254_258.out _).trans (hHeld.2.1)))))), ((cell_far (p := ⟨gb258, _, none⟩) NB255_258.out _).trans (((cell_far (p := ⟨gb258, _, none⟩) NB255_258.out _).trans (((cell_far (p := ⟨gb258, _, none⟩) NB255_258.out _).trans (hHeld.2.2.1)))))), ((cell_far (p := ⟨gb258, _, none⟩) NB255_258.out _).trans (((cell_far (p := ⟨gb258, _, none⟩) NB255_258.out _).trans (((cell_far (p := ⟨gb258, _, none⟩) NB255_258.out _).trans (hHeld.2.2.2.1)))))), ((cell_far (p := ⟨gb258, _, none⟩) (far_ne34 hw256_0 GW258.out) _).trans (((cell_far (p := ⟨gb258, _, none⟩) (far_ne34 hw256_0 GW258.out) _).trans (((cell_far (p := ⟨gb258, _, none⟩) (far_ne34 hw256_0 GW258.out) _).trans (hHeld.2.2.2.2.1)))))), ((cell_far (p := ⟨gb258, _, none⟩) (far_ne34 hw256_1 GW258.out) _).trans (((cell_far (p := ⟨gb258, _, none⟩) (far_ne34 hw256_1 GW258.out) _).trans (((cell_far (p := ⟨gb258, _, none⟩) (far_ne34 hw256_1 GW258.out) _).trans (hHeld.2.2.2.2.2.1)))))), ((cell_far (p := ⟨gb258, _, none⟩) (far_ne34 hw256_2 GW258.out) _).trans (((cell_far (p := ⟨gb258, _, none⟩) (far_ne34 hw256_2 GW258.out) _).trans (((cell_far (p := ⟨gb258, _, none⟩) (far_ne34 hw256_2 GW258.out) _).trans (hHeld.2.2.2.2.2.2.1)))))), ((cell_far (p := ⟨gb258, _, none⟩) (far_ne34 hw257_0 GW258.out) _).trans (((cell_far (p := ⟨gb258, _, none⟩) (far_ne34 hw257_0 GW258.out) _).trans (((cell_far (p := ⟨gb258, _, none⟩) (far_ne34 hw257_0 GW258.out) _).trans (hHeld.2.2.2.2.2.2.2.1)))))), ((cell_far (p := ⟨gb258, _, none⟩) (far_ne34 hw257_1 GW258.out) _).trans (((cell_far (p := ⟨gb258, _, none⟩) (far_ne34 hw257_1 GW258.out) _).trans (((cell_far (p := ⟨gb258, _, none⟩) (far_ne34 hw257_1 GW258.out) _).trans (hHeld.2.2.2.2.2.2.2.2.1)))))), ((cell_far (p := ⟨gb258, _, none⟩) (far_ne34 hw257_2 GW258.out) _).trans (((cell_far (p := ⟨gb258, _, none⟩) (far_ne34 hw257_2 GW258.out) _).trans (((cell_far (p := ⟨gb258, _, none⟩) (far_ne34 hw257_2 GW258.out) _).trans (hHeld.2.2.2.2.2.2.2.2.2))))))⟩ (fun hHeld => ?_)
            clear hK K
            refine sOn 13 none (fun K hK => ?_)
            have hs30 : w26.cell? ⟨gb259, 0, none⟩ = some (.string (⟨#[]⟩ : ByteArray)) := (blk_cell BK259.out 0).trans rfl
            have hfs30 := blk_frozen BK259.out 0
            have hns30_0 := NB254_259.out
            have hns30_1 := NB255_259.out
            have hns30_2 := NB258_259.out
            have hms30_0 := NB259_254.out
            have hms30_1 := NB259_255.out
            have hms30_2 := NB259_258.out
            have hs31 : w26.cell? ⟨gb259, 1, none⟩ = some (.int .i64 0) := (blk_cell BK259.out 1).trans rfl
            have hfs31 := blk_frozen BK259.out 1
            have hns31_0 := NB254_259.out
            have hns31_1 := NB255_259.out
            have hns31_2 := NB258_259.out
            have hms31_0 := NB259_254.out
            have hms31_1 := NB259_255.out
            have hms31_2 := NB259_258.out
            have hs32 : w26.cell? ⟨gb259, 2, none⟩ = some (.slice none 0 0) := (blk_cell BK259.out 2).trans rfl
            have hfs32 := blk_frozen BK259.out 2
            have hns32_0 := NB254_259.out
            have hns32_1 := NB255_259.out
            have hns32_2 := NB258_259.out
            have hms32_0 := NB259_254.out
            have hms32_1 := NB259_255.out
            have hms32_2 := NB259_258.out
            refine skip_ (w1 := ?_) (by rfl) rfl ?_ ?_
            rotate_left
            ·go_simp
             rfl
            refine hK.out _ _ ⟨((cell_far (p := ⟨gb259, _, none⟩) NB254_259.out _).trans (((cell_far (p := ⟨gb259, _, none⟩) NB254_259.out _).trans (((cell_far (p := ⟨gb259, _, none⟩) NB254_259.out _).trans (hHeld.1)))))), ((cell_far (p := ⟨gb259, _, none⟩) NB254_259.out _).trans (((cell_far (p := ⟨gb259, _, none⟩) NB254_259.out _).trans (((cell_far (p := ⟨gb259, _, none⟩) NB254_259.out _).trans (hHeld.2.1)))))), ((cell_far (p := ⟨gb259, _, none⟩) NB255_259.out _).trans (((cell_far (p := ⟨gb259, _, none⟩) NB255_259.out _).trans (((cell_far (p := ⟨gb259, _, none⟩) NB255_259.out _).trans (hHeld.2.2.1)))))), ((cell_far (p := ⟨gb259, _, none⟩) NB255_259.out _).trans (((cell_far (p := ⟨gb259, _, none⟩) NB255_259.out _).trans (((cell_far (p := ⟨gb259, _, none⟩) NB255_259.out _).trans (hHeld.2.2.2.1)))))), ((cell_far (p := ⟨gb259, _, none⟩) (far_ne34 hw256_0 GW259.out) _).trans (((cell_far (p := ⟨gb259, _, none⟩) (far_ne34 hw256_0 GW259.out) _).trans (((cell_far (p := ⟨gb259, _, none⟩) (far_ne34 hw256_0 GW259.out) _).trans (hHeld.2.2.2.2.1)))))), ((cell_far (p := ⟨gb259, _, none⟩) (far_ne34 hw256_1 GW259.out) _).trans (((cell_far (p := ⟨gb259, _, none⟩) (far_ne34 hw256_1 GW259.out) _).trans (((cell_far (p := ⟨gb259, _, none⟩) (far_ne34 hw256_1 GW259.out) _).trans (hHeld.2.2.2.2.2.1)))))), ((cell_far (p := ⟨gb259, _, none⟩) (far_ne34 hw256_2 GW259.out) _).trans (((cell_far (p := ⟨gb259, _, none⟩) (far_ne34 hw256_2 GW259.out) _).trans (((cell_far (p := ⟨gb259, _, none⟩) (far_ne34 hw256_2 GW259.out) _).trans (hHeld.2.2.2.2.2.2.1)))))), ((cell_far (p := ⟨gb259, _, none⟩) (far_ne34 hw257_0 GW259.out) _).trans (((cell_far (p := ⟨gb259, _, none⟩) (far_ne34 hw257_0 GW259.out) _).trans (((cell_far (p := ⟨gb259, _, none⟩) (far_ne34 hw257_0 GW259.out) _).trans (hHeld.2.2.2.2.2.2.2.1)))))), ((cell_far (p := ⟨gb259, _, none⟩) (far_ne34 hw257_1 GW259.out) _).trans (((cell_far (p := ⟨gb259, _, none⟩) (far_ne34 hw257_1 GW259.out) _).trans (((cell_far (p := ⟨gb259, _, none⟩) (far_ne34 hw257_1 GW259.out) _).trans (hHeld.2.2.2.2.2.2.2.2.1)))))), ((cell_far (p := ⟨gb259, _, none⟩) (far_ne34 hw257_2 GW259.out) _).trans (((cell_far (p := ⟨gb259, _, none⟩) (far_ne34 hw257_2 GW259.out) _).trans (((cell_far (p := ⟨gb259, _, none⟩) (far_ne34 hw257_2 GW259.out) _).trans (hHeld.2.2.2.2.2.2.2.2.2))))))⟩ (fun hHeld => ?_)
            clear hK K
            refine done_ (done_of HT_.out (by kernel_rfl)) ?_
            have hnb33 := NB258_254.out
            have hnc33 := NB254_258.out
            have hnb34 := NB258_255.out
            have hnc34 := NB255_258.out
            have hnb35 := NB258_259.out
            have hnc35 := NB259_258.out
            obtain ⟨hcz36_0, hcz36_1, hcz36_2, hfz36_0, hfz36_1, hfz36_2⟩ := bq3 BK258
            have hnb37 := NB259_254.out
            have hnc37 := NB254_259.out
            have hnb38 := NB259_255.out
            have hnc38 := NB255_259.out
            obtain ⟨hcz39_0, hcz39_1, hcz39_2, hfz39_0, hfz39_1, hfz39_2⟩ := bq3 BK259
            try go_wp2_with (first | (go_at_call 69; (with_reducible refine (paraphrastref01_SameTuples.calls k2 _ _ ((rd_T52 l0_1 x5_2).f2) _ _ ((rd_T52 l1_1 x5_2).f2) true _ ?side1 ?side2 ?side3 ?side4 A19.out).mono ?_); (case side1 => exact Kd.C_below HR256_2.out bel); (case side2 => exact HC256_2.out); (case side3 => exact Kd.C_below HR257_2.out bel); (case side4 => exact HC257_2.out); rintro e w' ⟨rfl, ⟨nd, rfl⟩⟩))
            go_roundg k2
            case measure => have := HJ2.out; have := HK2.out; omega
            case rel => exact ⟨(wrap64 (x5_2 + 1)), eS, H', ⟨by have := HJ2.out; have := HK2.out; omega⟩, ⟨by (with_reducible repeat (first | refine blk_drewN ?_ _ | refine blk_drew ?_ | refine blk_alloc ?_ _)); refine blk_far ?_ NB254_259.out _; (with_reducible repeat (first | refine blk_drewN ?_ _ | refine blk_drew ?_ | refine blk_alloc ?_ _)); refine blk_far ?_ NB254_259.out _; (with_reducible repeat (first | refine blk_drewN ?_ _ | refine blk_drew ?_ | refine blk_alloc ?_ _)); refine blk_far ?_ NB254_259.out _; (with_reducible repeat (first | refine blk_drewN ?_ _ | refine blk_drew ?_ | refine blk_alloc ?_ _)); refine blk_far ?_ NB254_258.out _; (with_reducible repeat (first | refine blk_drewN ?_ _ | refine blk_drew ?_ | refine blk_alloc ?_ _)); refine blk_far ?_ NB254_258.out _; (with_reducible repeat (first | refine blk_drewN ?_ _ | refine blk_drew ?_ | refine blk_alloc ?_ _)); refine blk_far ?_ NB254_258.out _; (with_reducible repeat (first | refine blk_drewN ?_ _ | refine blk_drew ?_ | refine blk_alloc ?_ _)); exact BK254.out⟩, ⟨by (with_reducible repeat (first | refine blk_drewN ?_ _ | refine blk_drew ?_ | refine blk_alloc ?_ _)); refine blk_far ?_ NB255_259.out _; (with_reducible repeat (first | refine blk_drewN ?_ _ | refine blk_drew ?_ | refine blk_alloc ?_ _)); refine blk_far ?_ NB255_259.out _; (with_reducible repeat (first | refine blk_drewN ?_ _ | refine blk_drew ?_ | refine blk_alloc ?_ _)); refine blk_far ?_ NB255_259.out _; (with_reducible repeat (first | refine blk_drewN ?_ _ | refine blk_drew ?_ | refine blk_alloc ?_ _)); refine blk_far ?_ NB255_258.out _; (with_reducible repeat (first | refine blk_drewN ?_ _ | refine blk_drew ?_ | refine blk_alloc ?_ _)); refine blk_far ?_ NB255_258.out _; (with_reducible repeat (first | refine blk_drewN ?_ _ | refine blk_drew ?_ | refine blk_alloc ?_ _)); refine blk_far ?_ NB255_258.out _; (with_reducible repeat (first | refine blk_drewN ?_ _ | refine blk_drew ?_ | refine blk_alloc ?_ _)); exact BK255.out⟩, ⟨bel⟩⟩
           ·replace c20 := Bool.eq_false_iff.mpr c20
            subst c20
            have H1 : (some false) = some r := by rw [if_neg (show ¬ (false = true) by decide)] at H; exact H
            clear H
            have H := H1
            clear H1
            obtain rfl := Option.some.inj H
            have hnb40 := NB254_255.out
            have hnc40 := NB255_254.out
            obtain ⟨hcz41_0, hcz41_1, hfz41_0, hfz41_1⟩ := bq2 BK254
            try go_wp2
            replace BK254 := Aside0.mk (blk_drew BK254.out)
            replace BK255 := Aside0.mk (blk_drew BK255.out)
            replace HB := Aside0.mk (below_drew1 HB.out)
            have p256 : 0 ≤ (x5_2 : Int) := dtr
            have q256 : x5_2 < (l0_1.length : Int) := dtr
            obtain ⟨ad256, A256_2, c256_2, e256, hx256_0, hx256_1, hx256_2, hl256_2, hi256_2⟩ := at_T52 HR0_1.out x5_2 p256 q256
            have hw256_2 := hx256_2
            have hw256_1 := hx256_1
            have hw256_0 := hx256_0
            cases e256
            replace hx256_0 := oc hx256_0
            replace hx256_1 := oc hx256_1
            replace hx256_2 := oc hx256_2
            have HR256_2 := Aside0.mk hi256_2
            have HC256_2 := Aside0.mk hl256_2
            clear hi256_2 hl256_2
            replace p256 := eq_true p256
            replace q256 := eq_true q256
            have p257 : 0 ≤ (x5_2 : Int) := dtr
            have q257 : x5_2 < (l1_1.length : Int) := dtr
            obtain ⟨ad257, A257_2, c257_2, e257, hx257_0, hx257_1, hx257_2, hl257_2, hi257_2⟩ := at_T52 HR1_1.out x5_2 p257 q257
            have hw257_2 := hx257_2
            have hw257_1 := hx257_1
            have hw257_0 := hx257_0
            cases e257
            replace hx257_0 := oc hx257_0
            replace hx257_1 := oc hx257_1
            replace hx257_2 := oc hx257_2
            have HR257_2 := Aside0.mk hi257_2
            have HC257_2 := Aside0.mk hl257_2
            clear hi257_2 hl257_2
            replace p257 := eq_true p257
            replace q257 := eq_true q257
            refine start_ (n := 14) (S := fun w' => w'.cell? ⟨gb254, 0, none⟩ = some (.int .i64 a0_0) ∧ w'.cell? ⟨gb254, 1, none⟩ = some (.slice (some ad256) l0_1.length c0_1) ∧ w'.cell? ⟨gb255, 0, none⟩ = some (.int .i64 a1_0) ∧ w'.cell? ⟨gb255, 1, none⟩ = some (.slice (some ad257) l1_1.length c1_1) ∧ w'.cell? (ad256.add ((x5_2).toNat * 3)) = some (.string ((rd_T52 l0_1 x5_2).f0)) ∧ w'.cell? ⟨(ad256.add ((x5_2).toNat * 3)).block, (ad256.add ((x5_2).toNat * 3)).off + 1, none⟩ = some (.int .i64 ((rd_T52 l0_1 x5_2).f1)) ∧ w'.cell? ⟨(ad256.add ((x5_2).toNat * 3)).block, (ad256.add ((x5_2).toNat * 3)).off + 2, none⟩ = some (.slice A256_2 ((rd_T52 l0_1 x5_2).f2).length c256_2) ∧ w'.cell? (ad257.add ((x5_2).toNat * 3)) = some (.string ((rd_T52 l1_1 x5_2).f0)) ∧ w'.cell? ⟨(ad257.add ((x5_2).toNat * 3)).block, (ad257.add ((x5_2).toNat * 3)).off + 1, none⟩ = some (.int .i64 ((rd_T52 l1_1 x5_2).f1)) ∧ w'.cell? ⟨(ad257.add ((x5_2).toNat * 3)).block, (ad257.add ((x5_2).toNat * 3)).off + 2, none⟩ = some (.slice A257_2 ((rd_T52 l1_1 x5_2).f2).length c257_2)) (ds := []) #[false, false, false, false, false, false, false, false, false, false, false, false, false, false] (by kernel_rfl) rfl rfl ⟨(blk_cell BK254.out 0).trans rfl, (blk_cell BK254.out 1).trans rfl, (blk_cell BK255.out 0).trans rfl, (blk_cell BK255.out 1).trans rfl, (oc hw256_0), (oc hw256_1), (oc hw256_2), (oc hw257_0), (oc hw257_1), (oc hw257_2)⟩ (fun hHeld => ?_); refine with_tabW paraphrastref01_Same.tab6 paraphrastref01_Same.bits6 (fun HT_ HW_ => ?_)
            generalize wr.drew = w42 at BK254 BK255 HB HR256_2 HR257_2 hx256_0 hx256_1 hx256_2 hx257_0 hx257_1 hx257_2 hHeld ⊢
            refine sPu 0 (some 29) ?_
            refine sPu 2 (some 31) ?_
            refine sPu 5 (some 34) ?_
            refine sPu 7 (some 36) ?_
            refine sTk 1 (some 30) ?_
            refine sPu 3 (some 32) ?_
            refine sTk 4 (some 33) ?_
            refine sTk 6 (some 35) ?_
            refine sPu 8 (some 37) ?_
            refine sTk 9 (some 38) ?_
            refine join_ (σ := Nat × Nat) 2 #[true, true, true, true, true, true, true, true, true, true, true, true, false, false] (fun s_ => [(6, .pointer (some ⟨s_.1, 0, none⟩)), (7, .pointer (some ⟨s_.2, 0, none⟩))]) (fun s_ w' => (w'.cell? ⟨gb254, 0, none⟩ = some (.int .i64 a0_0) ∧ w'.cell? ⟨gb254, 1, none⟩ = some (.slice (some ad256) l0_1.length c0_1) ∧ w'.cell? ⟨gb255, 0, none⟩ = some (.int .i64 a1_0) ∧ w'.cell? ⟨gb255, 1, none⟩ = some (.slice (some ad257) l1_1.length c1_1) ∧ w'.cell? (ad256.add ((x5_2).toNat * 3)) = some (.string ((rd_T52 l0_1 x5_2).f0)) ∧ w'.cell? ⟨(ad256.add ((x5_2).toNat * 3)).block, (ad256.add ((x5_2).toNat * 3)).off + 1, none⟩ = some (.int .i64 ((rd_T52 l0_1 x5_2).f1)) ∧ w'.cell? ⟨(ad256.add ((x5_2).toNat * 3)).block, (ad256.add ((x5_2).toNat * 3)).off + 2, none⟩ = some (.slice A256_2 ((rd_T52 l0_1 x5_2).f2).length c256_2) ∧ w'.cell? (ad257.add ((x5_2).toNat * 3)) = some (.string ((rd_T52 l1_1 x5_2).f0)) ∧ w'.cell? ⟨(ad257.add ((x5_2).toNat * 3)).block, (ad257.add ((x5_2).toNat * 3)).off + 1, none⟩ = some (.int .i64 ((rd_T52 l1_1 x5_2).f1)) ∧ w'.cell? ⟨(ad257.add ((x5_2).toNat * 3)).block, (ad257.add ((x5_2).toNat * 3)).off + 2, none⟩ = some (.slice A257_2 ((rd_T52 l1_1 x5_2).f2).length c257_2)) ∧ (w'.heap[gb254]? = some (.cells #[.int .i64 a0_0, .slice (some ad256) l0_1.length c0_1] 24 (0, 0))) ∧ (w'.heap[gb255]? = some (.cells #[.int .i64 a1_0, .slice (some ad257) l1_1.length c1_1] 24 (0, 0))) ∧ (w'.heap[s_.1]? = some (.cells #[.string (⟨#[]⟩ : ByteArray), .int .i64 0, .slice none 0 0] 52 (0, 0))) ∧ (w'.heap[s_.2]? = some (.cells #[.string (⟨#[]⟩ : ByteArray), .int .i64 0, .slice none 0 0] 52 (0, 0))) ∧ (w.heap.size ≤ s_.1) ∧ (w.heap.size ≤ s_.1) ∧ (gb254 ≠ s_.1) ∧ (s_.1 ≠ gb254) ∧ (gb255 ≠ s_.1) ∧ (s_.1 ≠ gb255) ∧ (s_.2 ≠ s_.1) ∧ (s_.1 ≠ s_.2) ∧ (w.heap.size ≤ s_.2) ∧ (w.heap.size ≤ s_.2) ∧ (gb254 ≠ s_.2) ∧ (s_.2 ≠ gb254) ∧ (gb255 ≠ s_.2) ∧ (s_.2 ≠ gb255) ∧ (Below w.heap.size w w')) ?_ ?_
            rotate_left
            ·intro hCont
             refine two_ (i := 10) (j := 11) (Ni := some 6) (Nj := some 7) #[true, true, true, true, true, true, true, true, true, true, true, false, false, false] #[true, true, true, true, true, true, true, true, true, true, false, true, false, false] rfl rfl rfl rfl (two_of HT_.out (by kernel_rfl)) (by decide) (by decide) (fun K hK => ?_) (fun K hK => ?_)
             ·skip
              refine box_step ?hg (N := 6) ?hd (cs := #[.string (⟨#[]⟩ : ByteArray), .int .i64 0, .slice none 0 0]) (t := 52) ?hr ?_; (case hd => rfl); (case hg => rfl); (case hr => first | (go_simp; done) | (go_simp; rfl))
              intro gb258 hg w43 hbox hb
              have BK258 := Aside0.mk (hbox)
              have GW258 := geB w hg
              have GE258 := geB w hg
              have NB254_258 := neL BK254 hg
              have NB258_254 := neG BK254 hg
              have NB255_258 := neL BK255 hg
              have NB258_255 := neG BK255 hg
              replace BK254 := blB BK254 hb
              replace BK255 := blB BK255 hb
              replace HB := Aside0.mk (below_step bel hb)
              clear hb hbox hg
              refine hK.out _ _ ⟨(blk_cell BK254.out 0).trans rfl, (blk_cell BK254.out 1).trans rfl, (blk_cell BK255.out 0).trans rfl, (blk_cell BK255.out 1).trans rfl, (oc hw256_0), (oc hw256_1), (oc hw256_2), (oc hw257_0), (oc hw257_1), (oc hw257_2)⟩ (fun hHeld => ?_)
              clear hK K
              refine norm_ (a' := ?_) ?_ ?_
              rotate_left
              ·show Act.put _ (some 6) _ = _
               simp only [Act.put, List.setIfInBounds_toArray, List.set_cons_zero, List.set_cons_succ, i64_w, i32_w]
               rfl
              refine sOn 11 (some 7) (fun K hK => ?_)
              refine box_step ?hg (N := 7) ?hd (cs := #[.string (⟨#[]⟩ : ByteArray), .int .i64 0, .slice none 0 0]) (t := 52) ?hr ?_; (case hd => rfl); (case hg => rfl); (case hr => first | (go_simp; done) | (go_simp; rfl))
              intro gb259 hg w44 hbox hb
              have BK259 := Aside0.mk (hbox)
              have GW259 := geB w hg
              have GE259 := geB w hg
              have NB254_259 := neL BK254 hg
              have NB259_254 := neG BK254 hg
              have NB255_259 := neL BK255 hg
              have NB259_255 := neG BK255 hg
              have NB258_259 := neL BK258 hg
              have NB259_258 := neG BK258 hg
              replace BK254 := blB BK254 hb
              replace BK255 := blB BK255 hb
              replace BK258 := blB BK258 hb
              replace HB := Aside0.mk (below_step bel hb)
              clear hb hbox hg
              refine hK.out _ _ ⟨(blk_cell BK254.out 0).trans rfl, (blk_cell BK254.out 1).trans rfl, (blk_cell BK255.out 0).trans rfl, (blk_cell BK255.out 1).trans rfl, (oc hw256_0), (oc hw256_1), (oc hw256_2), (oc hw257_0), (oc hw257_1), (oc hw257_2)⟩ (fun hHeld => ?_)
              clear hK K
              refine norm_ (a' := ?_) ?_ ?_
              rotate_left
              ·show Act.put _ (some 7) _ = _
               simp only [Act.put, List.setIfInBounds_toArray, List.set_cons_zero, List.set_cons_succ, i64_w, i32_w]
               rfl
              exact norm_ (by simp only [putAll, Act.put, List.setIfInBounds_toArray, List.set_cons_zero, List.set_cons_succ]) (hCont (gb258, gb259) _ ⟨hHeld, (bk BK254), (bk BK255), (bk BK258), (bk BK259), GW258.out, GE258.out, NB254_258.out, NB258_254.out, NB255_258.out, NB258_255.out, NB259_258.out, NB258_259.out, GW259.out, GE259.out, NB254_259.out, NB259_254.out, NB255_259.out, NB259_255.out, bel⟩)
             ·skip
              refine box_step ?hg (N := 7) ?hd (cs := #[.string (⟨#[]⟩ : ByteArray), .int .i64 0, .slice none 0 0]) (t := 52) ?hr ?_; (case hd => rfl); (case hg => rfl); (case hr => first | (go_simp; done) | (go_simp; rfl))
              intro gb259 hg w43 hbox hb
              have BK259 := Aside0.mk (hbox)
              have GW259 := geB w hg
              have GE259 := geB w hg
              have NB254_259 := neL BK254 hg
              have NB259_254 := neG BK254 hg
              have NB255_259 := neL BK255 hg
              have NB259_255 := neG BK255 hg
              replace BK254 := blB BK254 hb
              replace BK255 := blB BK255 hb
              replace HB := Aside0.mk (below_step bel hb)
              clear hb hbox hg
              refine hK.out _ _ ⟨(blk_cell BK254.out 0).trans rfl, (blk_cell BK254.out 1).trans rfl, (blk_cell BK255.out 0).trans rfl, (blk_cell BK255.out 1).trans rfl, (oc hw256_0), (oc hw256_1), (oc hw256_2), (oc hw257_0), (oc hw257_1), (oc hw257_2)⟩ (fun hHeld => ?_)
              clear hK K
              refine norm_ (a' := ?_) ?_ ?_
              rotate_left
              ·show Act.put _ (some 7) _ = _
               simp only [Act.put, List.setIfInBounds_toArray, List.set_cons_zero, List.set_cons_succ, i64_w, i32_w]
               rfl
              refine sOn 10 (some 6) (fun K hK => ?_)
              refine box_step ?hg (N := 6) ?hd (cs := #[.string (⟨#[]⟩ : ByteArray), .int .i64 0, .slice none 0 0]) (t := 52) ?hr ?_; (case hd => rfl); (case hg => rfl); (case hr => first | (go_simp; done) | (go_simp; rfl))
              intro gb258 hg w44 hbox hb
              have BK258 := Aside0.mk (hbox)
              have GW258 := geB w hg
              have GE258 := geB w hg
              have NB254_258 := neL BK254 hg
              have NB258_254 := neG BK254 hg
              have NB255_258 := neL BK255 hg
              have NB258_255 := neG BK255 hg
              have NB259_258 := neL BK259 hg
              have NB258_259 := neG BK259 hg
              replace BK254 := blB BK254 hb
              replace BK255 := blB BK255 hb
              replace BK259 := blB BK259 hb
              replace HB := Aside0.mk (below_step bel hb)
              clear hb hbox hg
              refine hK.out _ _ ⟨(blk_cell BK254.out 0).trans rfl, (blk_cell BK254.out 1).trans rfl, (blk_cell BK255.out 0).trans rfl, (blk_cell BK255.out 1).trans rfl, (oc hw256_0), (oc hw256_1), (oc hw256_2), (oc hw257_0), (oc hw257_1), (oc hw257_2)⟩ (fun hHeld => ?_)
              clear hK K
              refine norm_ (a' := ?_) ?_ ?_
              rotate_left
              ·show Act.put _ (some 6) _ = _
               simp only [Act.put, List.setIfInBounds_toArray, List.set_cons_zero, List.set_cons_succ, i64_w, i32_w]
               rfl
              exact norm_ (by simp only [putAll, Act.put, List.setIfInBounds_toArray, List.set_cons_zero, List.set_cons_succ]) (hCont (gb258, gb259) _ ⟨hHeld, (bk BK254), (bk BK255), (bk BK258), (bk BK259), GW258.out, GE258.out, NB254_258.out, NB258_254.out, NB255_258.out, NB258_255.out, NB259_258.out, NB258_259.out, GW259.out, GE259.out, NB254_259.out, NB259_254.out, NB255_259.out, NB259_255.out, bel⟩)
            rintro ⟨gb258, gb259⟩ w45 ⟨hS_, h0_, h1_, h2_, h3_, h4_, h5_, h6_, h7_, h8_, h9_, h10_, h11_, h12_, h13_, h14_, h15_, h16_, h17_, h18_⟩
            have n0_ : Aside0 (w45.heap[gb254]? = some (.cells #[.int .i64 a0_0, .slice (some ad256) l0_1.length c0_1] 24 (0, 0))) := ⟨h0_⟩
            have n1_ : Aside0 (w45.heap[gb255]? = some (.cells #[.int .i64 a1_0, .slice (some ad257) l1_1.length c1_1] 24 (0, 0))) := ⟨h1_⟩
            have n2_ : Aside0 (w45.heap[gb258]? = some (.cells #[.string (⟨#[]⟩ : ByteArray), .int .i64 0, .slice none 0 0] 52 (0, 0))) := ⟨h2_⟩
            have n3_ : Aside0 (w45.heap[gb259]? = some (.cells #[.string (⟨#[]⟩ : ByteArray), .int .i64 0, .slice none 0 0] 52 (0, 0))) := ⟨h3_⟩
            have n4_ : Aside0 (w.heap.size ≤ gb258) := ⟨h4_⟩
            have n5_ : Aside0 (w.heap.size ≤ gb258) := ⟨h5_⟩
            have n6_ : Aside0 (gb254 ≠ gb258) := ⟨h6_⟩
            have n7_ : Aside0 (gb258 ≠ gb254) := ⟨h7_⟩
            have n8_ : Aside0 (gb255 ≠ gb258) := ⟨h8_⟩
            have n9_ : Aside0 (gb258 ≠ gb255) := ⟨h9_⟩
            have n10_ : Aside0 (gb259 ≠ gb258) := ⟨h10_⟩
            have n11_ : Aside0 (gb258 ≠ gb259) := ⟨h11_⟩
            have n12_ : Aside0 (w.heap.size ≤ gb259) := ⟨h12_⟩
            have n13_ : Aside0 (w.heap.size ≤ gb259) := ⟨h13_⟩
            have n14_ : Aside0 (gb254 ≠ gb259) := ⟨h14_⟩
            have n15_ : Aside0 (gb259 ≠ gb254) := ⟨h15_⟩
            have n16_ : Aside0 (gb255 ≠ gb259) := ⟨h16_⟩
            have n17_ : Aside0 (gb259 ≠ gb255) := ⟨h17_⟩
            have n18_ : Aside0 (Below w.heap.size w w45) := ⟨h18_⟩
            clear BK254
            clear BK255
            clear HB
            clear h0_ h1_ h2_ h3_ h4_ h5_ h6_ h7_ h8_ h9_ h10_ h11_ h12_ h13_ h14_ h15_ h16_ h17_ h18_
            have BK254 := n0_
            have BK255 := n1_
            have BK258 := n2_
            have BK259 := n3_
            have GW258 := n4_
            have GE258 := n5_
            have NB254_258 := n6_
            have NB258_254 := n7_
            have NB255_258 := n8_
            have NB258_255 := n9_
            have NB259_258 := n10_
            have NB258_259 := n11_
            have GW259 := n12_
            have GE259 := n13_
            have NB254_259 := n14_
            have NB259_254 := n15_
            have NB255_259 := n16_
            have NB259_255 := n17_
            have HB := n18_
            clear n0_ n1_ n2_ n3_ n4_ n5_ n6_ n7_ n8_ n9_ n10_ n11_ n12_ n13_ n14_ n15_ n16_ n17_ n18_
            have hHeld : w45.cell? ⟨gb254, 0, none⟩ = some (.int .i64 a0_0) ∧ w45.cell? ⟨gb254, 1, none⟩ = some (.slice (some ad256) l0_1.length c0_1) ∧ w45.cell? ⟨gb255, 0, none⟩ = some (.int .i64 a1_0) ∧ w45.cell? ⟨gb255, 1, none⟩ = some (.slice (some ad257) l1_1.length c1_1) ∧ w45.cell? (ad256.add ((x5_2).toNat * 3)) = some (.string ((rd_T52 l0_1 x5_2).f0)) ∧ w45.cell? ⟨(ad256.add ((x5_2).toNat * 3)).block, (ad256.add ((x5_2).toNat * 3)).off + 1, none⟩ = some (.int .i64 ((rd_T52 l0_1 x5_2).f1)) ∧ w45.cell? ⟨(ad256.add ((x5_2).toNat * 3)).block, (ad256.add ((x5_2).toNat * 3)).off + 2, none⟩ = some (.slice A256_2 ((rd_T52 l0_1 x5_2).f2).length c256_2) ∧ w45.cell? (ad257.add ((x5_2).toNat * 3)) = some (.string ((rd_T52 l1_1 x5_2).f0)) ∧ w45.cell? ⟨(ad257.add ((x5_2).toNat * 3)).block, (ad257.add ((x5_2).toNat * 3)).off + 1, none⟩ = some (.int .i64 ((rd_T52 l1_1 x5_2).f1)) ∧ w45.cell? ⟨(ad257.add ((x5_2).toNat * 3)).block, (ad257.add ((x5_2).toNat * 3)).off + 2, none⟩ = some (.slice A257_2 ((rd_T52 l1_1 x5_2).f2).length c257_2) := hS_
            refine norm_ (a' := ?_) ?_ ?_
            rotate_left
            ·simp only [putAll, Act.put, List.setIfInBounds_toArray, List.set_cons_zero, List.set_cons_succ]
             rfl
            refine sOn 12 none (fun K hK => ?_)
            have hs46 : w45.cell? ⟨gb258, 0, none⟩ = some (.string (⟨#[]⟩ : ByteArray)) := (blk_cell BK258.out 0).trans rfl
            have hfs46 := blk_frozen BK258.out 0
            have hns46_0 := NB254_258.out
            have hns46_1 := NB255_258.out
            have hns46_3 := NB259_258.out
            have hms46_0 := NB258_254.out
            have hms46_1 := NB258_255.out
            have hms46_3 := NB258_259.out
            have hs47 : w45.cell? ⟨gb258, 1, none⟩ = some (.int .i64 0) := (blk_cell BK258.out 1).trans rfl
            have hfs47 := blk_frozen BK258.out 1
            have hns47_0 := NB254_258.out
            have hns47_1 := NB255_258.out
            have hns47_3 := NB259_258.out
            have hms47_0 := NB258_254.out
            have hms47_1 := NB258_255.out
            have hms47_3 := NB258_259.out
            have hs48 : w45.cell? ⟨gb258, 2, none⟩ = some (.slice none 0 0) := (blk_cell BK258.out 2).trans rfl
            have hfs48 := blk_frozen BK258.out 2
            have hns48_0 := NB254_258.out
            have hns48_1 := NB255_258.out
            have hns48_3 := NB259_258.out
            have hms48_0 := NB258_254.out
            have hms48_1 := NB258_255.out
            have hms48_3 := NB258_259.out
            refine skip_ (w1 := ?_) (by rfl) rfl ?_ ?_
            rotate_left
            ·go_simp
             rfl
            refine hK.out _ _ ⟨((cell_far (p := ⟨gb258, _, none⟩) NB254_258.out _).trans (((cell_far (p := ⟨gb258, _, none⟩) NB254_258.out _).trans (((cell_far (p := ⟨gb258, _, none⟩) NB254_258.out _).trans (hHeld.1)))))), ((cell_far (p := ⟨gb258, _, none⟩) NB254_258.out _).trans (((cell_far (p := ⟨gb258, _, none⟩) NB254_258.out _).trans (((cell_far (p := ⟨gb258, _, none⟩) NB254_258.out _).trans (hHeld.2.1)))))), ((cell_far (p := ⟨gb258, _, none⟩) NB255_258.out _).trans (((cell_far (p := ⟨gb258, _, none⟩) NB255_258.out _).trans (((cell_far (p := ⟨gb258, _, none⟩) NB255_258.out _).trans (hHeld.2.2.1)))))), ((cell_far (p := ⟨gb258, _, none⟩) NB255_258.out _).trans (((cell_far (p := ⟨gb258, _, none⟩) NB255_258.out _).trans (((cell_far (p := ⟨gb258, _, none⟩) NB255_258.out _).trans (hHeld.2.2.2.1)))))), ((cell_far (p := ⟨gb258, _, none⟩) (far_ne34 hw256_0 GW258.out) _).trans (((cell_far (p := ⟨gb258, _, none⟩) (far_ne34 hw256_0 GW258.out) _).trans (((cell_far (p := ⟨gb258, _, none⟩) (far_ne34 hw256_0 GW258.out) _).trans (hHeld.2.2.2.2.1)))))), ((cell_far (p := ⟨gb258, _, none⟩) (far_ne34 hw256_1 GW258.out) _).trans (((cell_far (p := ⟨gb258, _, none⟩) (far_ne34 hw256_1 GW258.out) _).trans (((cell_far (p := ⟨gb258, _, none⟩) (far_ne34 hw256_1 GW258.out) _).trans (hHeld.2.2.2.2.2.1)))))), ((cell_far (p := ⟨gb258, _, none⟩) (far_ne34 hw256_2 GW258.out) _).trans (((cell_far (p := ⟨gb258, _, none⟩) (far_ne34 hw256_2 GW258.out) _).trans (((cell_far (p := ⟨gb258, _, none⟩) (far_ne34 hw256_2 GW258.out) _).trans (hHeld.2.2.2.2.2.2.1)))))), ((cell_far (p := ⟨gb258, _, none⟩) (far_ne34 hw257_0 GW258.out) _).trans (((cell_far (p := ⟨gb258, _, none⟩) (far_ne34 hw257_0 GW258.out) _).trans (((cell_far (p := ⟨gb258, _, none⟩) (far_ne34 hw257_0 GW258.out) _).trans (hHeld.2.2.2.2.2.2.2.1)))))), ((cell_far (p := ⟨gb258, _, none⟩) (far_ne34 hw257_1 GW258.out) _).trans (((cell_far (p := ⟨gb258, _, none⟩) (far_ne34 hw257_1 GW258.out) _).trans (((cell_far (p := ⟨gb258, _, none⟩) (far_ne34 hw257_1 GW258.out) _).trans (hHeld.2.2.2.2.2.2.2.2.1)))))), ((cell_far (p := ⟨gb258, _, none⟩) (far_ne34 hw257_2 GW258.out) _).trans (((cell_far (p := ⟨gb258, _, none⟩) (far_ne34 hw257_2 GW258.out) _).trans (((cell_far (p := ⟨gb258, _, none⟩) (far_ne34 hw257_2 GW258.out) _).trans (hHeld.2.2.2.2.2.2.2.2.2))))))⟩ (fun hHeld => ?_)
            clear hK K
            refine sOn 13 none (fun K hK => ?_)
            have hs49 : w45.cell? ⟨gb259, 0, none⟩ = some (.string (⟨#[]⟩ : ByteArray)) := (blk_cell BK259.out 0).trans rfl
            have hfs49 := blk_frozen BK259.out 0
            have hns49_0 := NB254_259.out
            have hns49_1 := NB255_259.out
            have hns49_2 := NB258_259.out
            have hms49_0 := NB259_254.out
            have hms49_1 := NB259_255.out
            have hms49_2 := NB259_258.out
            have hs50 : w45.cell? ⟨gb259, 1, none⟩ = some (.int .i64 0) := (blk_cell BK259.out 1).trans rfl
            have hfs50 := blk_frozen BK259.out 1
            have hns50_0 := NB254_259.out
            have hns50_1 := NB255_259.out
            have hns50_2 := NB258_259.out
            have hms50_0 := NB259_254.out
            have hms50_1 := NB259_255.out
            have hms50_2 := NB259_258.out
            have hs51 : w45.cell? ⟨gb259, 2, none⟩ = some (.slice none 0 0) := (blk_cell BK259.out 2).trans rfl
            have hfs51 := blk_frozen BK259.out 2
            have hns51_0 := NB254_259.out
            have hns51_1 := NB255_259.out
            have hns51_2 := NB258_259.out
            have hms51_0 := NB259_254.out
            have hms51_1 := NB259_255.out
            have hms51_2 := NB259_258.out
            refine skip_ (w1 := ?_) (by rfl) rfl ?_ ?_
            rotate_left
            ·go_simp
             rfl
            refine hK.out _ _ ⟨((cell_far (p := ⟨gb259, _, none⟩) NB254_259.out _).trans (((cell_far (p := ⟨gb259, _, none⟩) NB254_259.out _).trans (((cell_far (p := ⟨gb259, _, none⟩) NB254_259.out _).trans (hHeld.1)))))), ((cell_far (p := ⟨gb259, _, none⟩) NB254_259.out _).trans (((cell_far (p := ⟨gb259, _, none⟩) NB254_259.out _).trans (((cell_far (p := ⟨gb259, _, none⟩) NB254_259.out _).trans (hHeld.2.1)))))), ((cell_far (p := ⟨gb259, _, none⟩) NB255_259.out _).trans (((cell_far (p := ⟨gb259, _, none⟩) NB255_259.out _).trans (((cell_far (p := ⟨gb259, _, none⟩) NB255_259.out _).trans (hHeld.2.2.1)))))), ((cell_far (p := ⟨gb259, _, none⟩) NB255_259.out _).trans (((cell_far (p := ⟨gb259, _, none⟩) NB255_259.out _).trans (((cell_far (p := ⟨gb259, _, none⟩) NB255_259.out _).trans (hHeld.2.2.2.1)))))), ((cell_far (p := ⟨gb259, _, none⟩) (far_ne34 hw256_0 GW259.out) _).trans (((cell_far (p := ⟨gb259, _, none⟩) (far_ne34 hw256_0 GW259.out) _).trans (((cell_far (p := ⟨gb259, _, none⟩) (far_ne34 hw256_0 GW259.out) _).trans (hHeld.2.2.2.2.1)))))), ((cell_far (p := ⟨gb259, _, none⟩) (far_ne34 hw256_1 GW259.out) _).trans (((cell_far (p := ⟨gb259, _, none⟩) (far_ne34 hw256_1 GW259.out) _).trans (((cell_far (p := ⟨gb259, _, none⟩) (far_ne34 hw256_1 GW259.out) _).trans (hHeld.2.2.2.2.2.1)))))), ((cell_far (p := ⟨gb259, _, none⟩) (far_ne34 hw256_2 GW259.out) _).trans (((cell_far (p := ⟨gb259, _, none⟩) (far_ne34 hw256_2 GW259.out) _).trans (((cell_far (p := ⟨gb259, _, none⟩) (far_ne34 hw256_2 GW259.out) _).trans (hHeld.2.2.2.2.2.2.1)))))), ((cell_far (p := ⟨gb259, _, none⟩) (far_ne34 hw257_0 GW259.out) _).trans (((cell_far (p := ⟨gb259, _, none⟩) (far_ne34 hw257_0 GW259.out) _).trans (((cell_far (p := ⟨gb259, _, none⟩) (far_ne34 hw257_0 GW259.out) _).trans (hHeld.2.2.2.2.2.2.2.1)))))), ((cell_far (p := ⟨gb259, _, none⟩) (far_ne34 hw257_1 GW259.out) _).trans (((cell_far (p := ⟨gb259, _, none⟩) (far_ne34 hw257_1 GW259.out) _).trans (((cell_far (p := ⟨gb259, _, none⟩) (far_ne34 hw257_1 GW259.out) _).trans (hHeld.2.2.2.2.2.2.2.2.1)))))), ((cell_far (p := ⟨gb259, _, none⟩) (far_ne34 hw257_2 GW259.out) _).trans (((cell_far (p := ⟨gb259, _, none⟩) (far_ne34 hw257_2 GW259.out) _).trans (((cell_far (p := ⟨gb259, _, none⟩) (far_ne34 hw257_2 GW259.out) _).trans (hHeld.2.2.2.2.2.2.2.2.2))))))⟩ (fun hHeld => ?_)
            clear hK K
            refine done_ (done_of HT_.out (by kernel_rfl)) ?_
            have hnb52 := NB258_254.out
            have hnc52 := NB254_258.out
            have hnb53 := NB258_255.out
            have hnc53 := NB255_258.out
            have hnb54 := NB258_259.out
            have hnc54 := NB259_258.out
            obtain ⟨hcz55_0, hcz55_1, hcz55_2, hfz55_0, hfz55_1, hfz55_2⟩ := bq3 BK258
            have hnb56 := NB259_254.out
            have hnc56 := NB254_259.out
            have hnb57 := NB259_255.out
            have hnc57 := NB255_259.out
            obtain ⟨hcz58_0, hcz58_1, hcz58_2, hfz58_0, hfz58_1, hfz58_2⟩ := bq3 BK259
            try go_wp2_with (first | (go_at_call 69; (with_reducible refine (paraphrastref01_SameTuples.calls k2 _ _ ((rd_T52 l0_1 x5_2).f2) _ _ ((rd_T52 l1_1 x5_2).f2) false _ ?side1 ?side2 ?side3 ?side4 A19.out).mono ?_); (case side1 => exact Kd.C_below HR256_2.out bel); (case side2 => exact HC256_2.out); (case side3 => exact Kd.C_below HR257_2.out bel); (case side4 => exact HC257_2.out); rintro e w' ⟨rfl, ⟨nd, rfl⟩⟩))
            go_ret
            exact ⟨eN, bel⟩
          ·rw [if_neg c18] at H
           have c18b0 : (((rd_T52 l0_1 x5_2).f1) == ((rd_T52 l1_1 x5_2).f1)) = false := beq_eq_false_iff_ne.mpr c18
           have c18b1 : (((rd_T52 l0_1 x5_2).f1) != ((rd_T52 l1_1 x5_2).f1)) = true := bne_iff_ne.mpr c18
           obtain rfl := Option.some.inj H
           have hnb59 := NB254_255.out
           have hnc59 := NB255_254.out
           obtain ⟨hcz60_0, hcz60_1, hfz60_0, hfz60_1⟩ := bq2 BK254
           try go_wp2
           replace BK254 := Aside0.mk (blk_drew BK254.out)
           replace BK255 := Aside0.mk (blk_drew BK255.out)
           replace HB := Aside0.mk (below_drew1 HB.out)
           have p256 : 0 ≤ (x5_2 : Int) := dtr
           have q256 : x5_2 < (l0_1.length : Int) := dtr
           obtain ⟨ad256, A256_2, c256_2, e256, hx256_0, hx256_1, hx256_2, hl256_2, hi256_2⟩ := at_T52 HR0_1.out x5_2 p256 q256
           have hw256_2 := hx256_2
           have hw256_1 := hx256_1
           have hw256_0 := hx256_0
           cases e256
           replace hx256_0 := oc hx256_0
           replace hx256_1 := oc hx256_1
           replace hx256_2 := oc hx256_2
           have HR256_2 := Aside0.mk hi256_2
           have HC256_2 := Aside0.mk hl256_2
           clear hi256_2 hl256_2
           replace p256 := eq_true p256
           replace q256 := eq_true q256
           have p257 : 0 ≤ (x5_2 : Int) := dtr
           have q257 : x5_2 < (l1_1.length : Int) := dtr
           obtain ⟨ad257, A257_2, c257_2, e257, hx257_0, hx257_1, hx257_2, hl257_2, hi257_2⟩ := at_T52 HR1_1.out x5_2 p257 q257
           have hw257_2 := hx257_2
           have hw257_1 := hx257_1
           have hw257_0 := hx257_0
           cases e257
           replace hx257_0 := oc hx257_0
           replace hx257_1 := oc hx257_1
           replace hx257_2 := oc hx257_2
           have HR257_2 := Aside0.mk hi257_2
           have HC257_2 := Aside0.mk hl257_2
           clear hi257_2 hl257_2
           replace p257 := eq_true p257
           replace q257 := eq_true q257
           refine start_ (n := 14) (S := fun w' => w'.cell? ⟨gb254, 0, none⟩ = some (.int .i64 a0_0) ∧ w'.cell? ⟨gb254, 1, none⟩ = some (.slice (some ad256) l0_1.length c0_1) ∧ w'.cell? ⟨gb255, 0, none⟩ = some (.int .i64 a1_0) ∧ w'.cell? ⟨gb255, 1, none⟩ = some (.slice (some ad257) l1_1.length c1_1) ∧ w'.cell? (ad256.add ((x5_2).toNat * 3)) = some (.string ((rd_T52 l0_1 x5_2).f0)) ∧ w'.cell? ⟨(ad256.add ((x5_2).toNat * 3)).block, (ad256.add ((x5_2).toNat * 3)).off + 1, none⟩ = some (.int .i64 ((rd_T52 l0_1 x5_2).f1)) ∧ w'.cell? ⟨(ad256.add ((x5_2).toNat * 3)).block, (ad256.add ((x5_2).toNat * 3)).off + 2, none⟩ = some (.slice A256_2 ((rd_T52 l0_1 x5_2).f2).length c256_2) ∧ w'.cell? (ad257.add ((x5_2).toNat * 3)) = some (.string ((rd_T52 l1_1 x5_2).f0)) ∧ w'.cell? ⟨(ad257.add ((x5_2).toNat * 3)).block, (ad257.add ((x5_2).toNat * 3)).off + 1, none⟩ = some (.int .i64 ((rd_T52 l1_1 x5_2).f1)) ∧ w'.cell? ⟨(ad257.add ((x5_2).toNat * 3)).block, (ad257.add ((x5_2).toNat * 3)).off + 2, none⟩ = some (.slice A257_2 ((rd_T52 l1_1 x5_2).f2).length c257_2)) (ds := []) #[false, false, false, false, false, false, false, false, false, false, false, false, false, false] (by kernel_rfl) rfl rfl ⟨(blk_cell BK254.out 0).trans rfl, (blk_cell BK254.out 1).trans rfl, (blk_cell BK255.out 0).trans rfl, (blk_cell BK255.out 1).trans rfl, (oc hw256_0), (oc hw256_1), (oc hw256_2), (oc hw257_0), (oc hw257_1), (oc hw257_2)⟩ (fun hHeld => ?_); refine with_tabW paraphrastref01_Same.tab6 paraphrastref01_Same.bits6 (fun HT_ HW_ => ?_)
           generalize wr.drew = w61 at BK254 BK255 HB HR256_2 HR257_2 hx256_0 hx256_1 hx256_2 hx257_0 hx257_1 hx257_2 hHeld ⊢
           refine sPu 0 (some 29) ?_
           refine sPu 2 (some 31) ?_
           refine sPu 5 (some 34) ?_
           refine sPu 7 (some 36) ?_
           refine sTk 1 (some 30) ?_
           refine sPu 3 (some 32) ?_
           refine sTk 4 (some 33) ?_
           refine sTk 6 (some 35) ?_
           refine sPu 8 (some 37) ?_
           refine sTk 9 (some 38) ?_
           refine join_ (σ := Nat × Nat) 2 #[true, true, true, true, true, true, true, true, true, true, true, true, false, false] (fun s_ => [(6, .pointer (some ⟨s_.1, 0, none⟩)), (7, .pointer (some ⟨s_.2, 0, none⟩))]) (fun s_ w' => (w'.cell? ⟨gb254, 0, none⟩ = some (.int .i64 a0_0) ∧ w'.cell? ⟨gb254, 1, none⟩ = some (.slice (some ad256) l0_1.length c0_1) ∧ w'.cell? ⟨gb255, 0, none⟩ = some (.int .i64 a1_0) ∧ w'.cell? ⟨gb255, 1, none⟩ = some (.slice (some ad257) l1_1.length c1_1) ∧ w'.cell? (ad256.add ((x5_2).toNat * 3)) = some (.string ((rd_T52 l0_1 x5_2).f0)) ∧ w'.cell? ⟨(ad256.add ((x5_2).toNat * 3)).block, (ad256.add ((x5_2).toNat * 3)).off + 1, none⟩ = some (.int .i64 ((rd_T52 l0_1 x5_2).f1)) ∧ w'.cell? ⟨(ad256.add ((x5_2).toNat * 3)).block, (ad256.add ((x5_2).toNat * 3)).off + 2, none⟩ = some (.slice A256_2 ((rd_T52 l0_1 x5_2).f2).length c256_2) ∧ w'.cell? (ad257.add ((x5_2).toNat * 3)) = some (.string ((rd_T52 l1_1 x5_2).f0)) ∧ w'.cell? ⟨(ad257.add ((x5_2).toNat * 3)).block, (ad257.add ((x5_2).toNat * 3)).off + 1, none⟩ = some (.int .i64 ((rd_T52 l1_1 x5_2).f1)) ∧ w'.cell? ⟨(ad257.add ((x5_2).toNat * 3)).block, (ad257.add ((x5_2).toNat * 3)).off + 2, none⟩ = some (.slice A257_2 ((rd_T52 l1_1 x5_2).f2).length c257_2)) ∧ (w'.heap[gb254]? = some (.cells #[.int .i64 a0_0, .slice (some ad256) l0_1.length c0_1] 24 (0, 0))) ∧ (w'.heap[gb255]? = some (.cells #[.int .i64 a1_0, .slice (some ad257) l1_1.length c1_1] 24 (0, 0))) ∧ (w'.heap[s_.1]? = some (.cells #[.string (⟨#[]⟩ : ByteArray), .int .i64 0, .slice none 0 0] 52 (0, 0))) ∧ (w'.heap[s_.2]? = some (.cells #[.string (⟨#[]⟩ : ByteArray), .int .i64 0, .slice none 0 0] 52 (0, 0))) ∧ (w.heap.size ≤ s_.1) ∧ (w.heap.size ≤ s_.1) ∧ (gb254 ≠ s_.1) ∧ (s_.1 ≠ gb254) ∧ (gb255 ≠ s_.1) ∧ (s_.1 ≠ gb255) ∧ (s_.2 ≠ s_.1) ∧ (s_.1 ≠ s_.2) ∧ (w.heap.size ≤ s_.2) ∧ (w.heap.size ≤ s_.2) ∧ (gb254 ≠ s_.2) ∧ (s_.2 ≠ gb254) ∧ (gb255 ≠ s_.2) ∧ (s_.2 ≠ gb255) ∧ (Below w.heap.size w w')) ?_ ?_
           rotate_left
           ·intro hCont
            refine two_ (i := 10) (j := 11) (Ni := some 6) (Nj := some 7) #[true, true, true, true, true, true, true, true, true, true, true, false, false, false] #[true, true, true, true, true, true, true, true, true, true, false, true, false, false] rfl rfl rfl rfl (two_of HT_.out (by kernel_rfl)) (by decide) (by decide) (fun K hK => ?_) (fun K hK => ?_)
            ·skip
             refine box_step ?hg (N := 6) ?hd (cs := #[.string (⟨#[]⟩ : ByteArray), .int .i64 0, .slice none 0 0]) (t := 52) ?hr ?_; (case hd => rfl); (case hg => rfl); (case hr => first | (go_simp; done) | (go_simp; rfl))
             intro gb258 hg w62 hbox hb
             have BK258 := Aside0.mk (hbox)
             have GW258 := geB w hg
             have GE258 := geB w hg
             have NB254_258 := neL BK254 hg
             have NB258_254 := neG BK254 hg
             have NB255_258 := neL BK255 hg
             have NB258_255 := neG BK255 hg
             replace BK254 := blB BK254 hb
             replace BK255 := blB BK255 hb
             replace HB := Aside0.mk (below_step bel hb)
             clear hb hbox hg
             refine hK.out _ _ ⟨(blk_cell BK254.out 0).trans rfl, (blk_cell BK254.out 1).trans rfl, (blk_cell BK255.out 0).trans rfl, (blk_cell BK255.out 1).trans rfl, (oc hw256_0), (oc hw256_1), (oc hw256_2), (oc hw257_0), (oc hw257_1), (oc hw257_2)⟩ (fun hHeld => ?_)
             clear hK K
             refine norm_ (a' := ?_) ?_ ?_
             rotate_left
             ·show Act.put _ (some 6) _ = _
              simp only [Act.put, List.setIfInBounds_toArray, List.set_cons_zero, List.set_cons_succ, i64_w, i32_w]
              rfl
             refine sOn 11 (some 7) (fun K hK => ?_)
             refine box_step ?hg (N := 7) ?hd (cs := #[.string (⟨#[]⟩ : ByteArray), .int .i64 0, .slice none 0 0]) (t := 52) ?hr ?_; (case hd => rfl); (case hg => rfl); (case hr => first | (go_simp; done) | (go_simp; rfl))
             intro gb259 hg w63 hbox hb
             have BK259 := Aside0.mk (hbox)
             have GW259 := geB w hg
             have GE259 := geB w hg
             have NB254_259 := neL BK254 hg
             have NB259_254 := neG BK254 hg
             have NB255_259 := neL BK255 hg
             have NB259_255 := neG BK255 hg
             have NB258_259 := neL BK258 hg
             have NB259_258 := neG BK258 hg
             replace BK254 := blB BK254 hb
             replace BK255 := blB BK255 hb
             replace BK258 := blB BK258 hb
             replace HB := Aside0.mk (below_step bel hb)
             clear hb hbox hg
             refine hK.out _ _ ⟨(blk_cell BK254.out 0).trans rfl, (blk_cell BK254.out 1).trans rfl, (blk_cell BK255.out 0).trans rfl, (blk_cell BK255.out 1).trans rfl, (oc hw256_0), (oc hw256_1), (oc hw256_2), (oc hw257_0), (oc hw257_1), (oc hw257_2)⟩ (fun hHeld => ?_)
             clear hK K
             refine norm_ (a' := ?_) ?_ ?_
             rotate_left
             ·show Act.put _ (some 7) _ = _
              simp only [Act.put, List.setIfInBounds_toArray, List.set_cons_zero, List.set_cons_succ, i64_w, i32_w]
              rfl
             exact norm_ (by simp only [putAll, Act.put, List.setIfInBounds_toArray, List.set_cons_zero, List.set_cons_succ]) (hCont (gb258, gb259) _ ⟨hHeld, (bk BK254), (bk BK255), (bk BK258), (bk BK259), GW258.out, GE258.out, NB254_258.out, NB258_254.out, NB255_258.out, NB258_255.out, NB259_258.out, NB258_259.out, GW259.out, GE259.out, NB254_259.out, NB259_254.out, NB255_259.out, NB259_255.out, bel⟩)
            ·skip
             refine box_step ?hg (N := 7) ?hd (cs := #[.string (⟨#[]⟩ : ByteArray), .int .i64 0, .slice none 0 0]) (t := 52) ?hr ?_; (case hd => rfl); (case hg => rfl); (case hr => first | (go_simp; done) | (go_simp; rfl))
             intro gb259 hg w62 hbox hb
             have BK259 := Aside0.mk (hbox)
             have GW259 := geB w hg
             have GE259 := geB w hg
             have NB254_259 := neL BK254 hg
             have NB259_254 := neG BK254 hg
             have NB255_259 := neL BK255 hg
             have NB259_255 := neG BK255 hg
             replace BK254 := blB BK254 hb
             replace BK255 := blB BK255 hb
             replace HB := Aside0.mk (below_step bel hb)
             clear hb hbox hg
             refine hK.out _ _ ⟨(blk_cell BK254.out 0).trans rfl, (blk_cell BK254.out 1).trans rfl, (blk_cell BK255.out 0).trans rfl, (blk_cell BK255.out 1).trans rfl, (oc hw256_0), (oc hw256_1), (oc hw256_2), (oc hw257_0), (oc hw257_1), (oc hw257_2)⟩ (fun hHeld => ?_)
             clear hK K
             refine norm_ (a' := ?_) ?_ ?_
             rotate_left
             ·show Act.put _ (some 7) _ = _
              simp only [Act.put, List.setIfInBounds_toArray, List.set_cons_zero, List.set_cons_succ, i64_w, i32_w]
              rfl
             refine sOn 10 (some 6) (fun K hK => ?_)
             refine box_step ?hg (N := 6) ?hd (cs := #[.string (⟨#[]⟩ : ByteArray), .int .i64 0, .slice none 0 0]) (t := 52) ?hr ?_; (case hd => rfl); (case hg => rfl); (case hr => first | (go_simp; done) | (go_simp; rfl))
             intro gb258 hg w63 hbox hb
             have BK258 := Aside0.mk (hbox)
             have GW258 := geB w hg
             have GE258 := geB w hg
             have NB254_258 := neL BK254 hg
             have NB258_254 := neG BK254 hg
             have NB255_258 := neL BK255 hg
             have NB258_255 := neG BK255 hg
             have NB259_258 := neL BK259 hg
             have NB258_259 := neG BK259 hg
             replace BK254 := blB BK254 hb
             replace BK255 := blB BK255 hb
             replace BK259 := blB BK259 hb
             replace HB := Aside0.mk (below_step bel hb)
             clear hb hbox hg
             refine hK.out _ _ ⟨(blk_cell BK254.out 0).trans rfl, (blk_cell BK254.out 1).trans rfl, (blk_cell BK255.out 0).trans rfl, (blk_cell BK255.out 1).trans rfl, (oc hw256_0), (oc hw256_1), (oc hw256_2), (oc hw257_0), (oc hw257_1), (oc hw257_2)⟩ (fun hHeld => ?_)
             clear hK K
             refine norm_ (a' := ?_) ?_ ?_
             rotate_left
             ·show Act.put _ (some 6) _ = _
              simp only [Act.put, List.setIfInBounds_toArray, List.set_cons_zero, List.set_cons_succ, i64_w, i32_w]
              rfl
             exact norm_ (by simp only [putAll, Act.put, List.setIfInBounds_toArray, List.set_cons_zero, List.set_cons_succ]) (hCont (gb258, gb259) _ ⟨hHeld, (bk BK254), (bk BK255), (bk BK258), (bk BK259), GW258.out, GE258.out, NB254_258.out, NB258_254.out, NB255_258.out, NB258_255.out, NB259_258.out, NB258_259.out, GW259.out, GE259.out, NB254_259.out, NB259_254.out, NB255_259.out, NB259_255.out, bel⟩)
           rintro ⟨gb258, gb259⟩ w64 ⟨hS_, h0_, h1_, h2_, h3_, h4_, h5_, h6_, h7_, h8_, h9_, h10_, h11_, h12_, h13_, h14_, h15_, h16_, h17_, h18_⟩
           have n0_ : Aside0 (w64.heap[gb254]? = some (.cells #[.int .i64 a0_0, .slice (some ad256) l0_1.length c0_1] 24 (0, 0))) := ⟨h0_⟩
           have n1_ : Aside0 (w64.heap[gb255]? = some (.cells #[.int .i64 a1_0, .slice (some ad257) l1_1.length c1_1] 24 (0, 0))) := ⟨h1_⟩
           have n2_ : Aside0 (w64.heap[gb258]? = some (.cells #[.string (⟨#[]⟩ : ByteArray), .int .i64 0, .slice none 0 0] 52 (0, 0))) := ⟨h2_⟩
           have n3_ : Aside0 (w64.heap[gb259]? = some (.cells #[.string (⟨#[]⟩ : ByteArray), .int .i64 0, .slice none 0 0] 52 (0, 0))) := ⟨h3_⟩
           have n4_ : Aside0 (w.heap.size ≤ gb258) := ⟨h4_⟩
           have n5_ : Aside0 (w.heap.size ≤ gb258) := ⟨h5_⟩
           have n6_ : Aside0 (gb254 ≠ gb258) := ⟨h6_⟩
           have n7_ : Aside0 (gb258 ≠ gb254) := ⟨h7_⟩
           have n8_ : Aside0 (gb255 ≠ gb258) := ⟨h8_⟩
           have n9_ : Aside0 (gb258 ≠ gb255) := ⟨h9_⟩
           have n10_ : Aside0 (gb259 ≠ gb258) := ⟨h10_⟩
           have n11_ : Aside0 (gb258 ≠ gb259) := ⟨h11_⟩
           have n12_ : Aside0 (w.heap.size ≤ gb259) := ⟨h12_⟩
           have n13_ : Aside0 (w.heap.size ≤ gb259) := ⟨h13_⟩
           have n14_ : Aside0 (gb254 ≠ gb259) := ⟨h14_⟩
           have n15_ : Aside0 (gb259 ≠ gb254) := ⟨h15_⟩
           have n16_ : Aside0 (gb255 ≠ gb259) := ⟨h16_⟩
           have n17_ : Aside0 (gb259 ≠ gb255) := ⟨h17_⟩
           have n18_ : Aside0 (Below w.heap.size w w64) := ⟨h18_⟩
           clear BK254
           clear BK255
           clear HB
           clear h0_ h1_ h2_ h3_ h4_ h5_ h6_ h7_ h8_ h9_ h10_ h11_ h12_ h13_ h14_ h15_ h16_ h17_ h18_
           have BK254 := n0_
           have BK255 := n1_
           have BK258 := n2_
           have BK259 := n3_
           have GW258 := n4_
           have GE258 := n5_
           have NB254_258 := n6_
           have NB258_254 := n7_
           have NB255_258 := n8_
           have NB258_255 := n9_
           have NB259_258 := n10_
           have NB258_259 := n11_
           have GW259 := n12_
           have GE259 := n13_
           have NB254_259 := n14_
           have NB259_254 := n15_
           have NB255_259 := n16_
           have NB259_255 := n17_
           have HB := n18_
           clear n0_ n1_ n2_ n3_ n4_ n5_ n6_ n7_ n8_ n9_ n10_ n11_ n12_ n13_ n14_ n15_ n16_ n17_ n18_
           have hHeld : w64.cell? ⟨gb254, 0, none⟩ = some (.int .i64 a0_0) ∧ w64.cell? ⟨gb254, 1, none⟩ = some (.slice (some ad256) l0_1.length c0_1) ∧ w64.cell? ⟨gb255, 0, none⟩ = some (.int .i64 a1_0) ∧ w64.cell? ⟨gb255, 1, none⟩ = some (.slice (some ad257) l1_1.length c1_1) ∧ w64.cell? (ad256.add ((x5_2).toNat * 3)) = some (.string ((rd_T52 l0_1 x5_2).f0)) ∧ w64.cell? ⟨(ad256.add ((x5_2).toNat * 3)).block, (ad256.add ((x5_2).toNat * 3)).off + 1, none⟩ = some (.int .i64 ((rd_T52 l0_1 x5_2).f1)) ∧ w64.cell? ⟨(ad256.add ((x5_2).toNat * 3)).block, (ad256.add ((x5_2).toNat * 3)).off + 2, none⟩ = some (.slice A256_2 ((rd_T52 l0_1 x5_2).f2).length c256_2) ∧ w64.cell? (ad257.add ((x5_2).toNat * 3)) = some (.string ((rd_T52 l1_1 x5_2).f0)) ∧ w64.cell? ⟨(ad257.add ((x5_2).toNat * 3)).block, (ad257.add ((x5_2).toNat * 3)).off + 1, none⟩ = some (.int .i64 ((rd_T52 l1_1 x5_2).f1)) ∧ w64.cell? ⟨(ad257.add ((x5_2).toNat * 3)).block, (ad257.add ((x5_2).toNat * 3)).off + 2, none⟩ = some (.slice A257_2 ((rd_T52 l1_1 x5_2).f2).length c257_2) := hS_
           refine norm_ (a' := ?_) ?_ ?_
           rotate_left
           ·simp only [putAll, Act.put, List.setIfInBounds_toArray, List.set_cons_zero, List.set_cons_succ]
            rfl
           refine sOn 12 none (fun K hK => ?_)
           have hs65 : w64.cell? ⟨gb258, 0, none⟩ = some (.string (⟨#[]⟩ : ByteArray)) := (blk_cell BK258.out 0).trans rfl
           have hfs65 := blk_frozen BK258.out 0
           have hns65_0 := NB254_258.out
           have hns65_1 := NB255_258.out
           have hns65_3 := NB259_258.out
           have hms65_0 := NB258_254.out
           have hms65_1 := NB258_255.out
           have hms65_3 := NB258_259.out
           have hs66 : w64.cell? ⟨gb258, 1, none⟩ = some (.int .i64 0) := (blk_cell BK258.out 1).trans rfl
           have hfs66 := blk_frozen BK258.out 1
           have hns66_0 := NB254_258.out
           have hns66_1 := NB255_258.out
           have hns66_3 := NB259_258.out
           have hms66_0 := NB258_254.out
           have hms66_1 := NB258_255.out
           have hms66_3 := NB258_259.out
           have hs67 : w64.cell? ⟨gb258, 2, none⟩ = some (.slice none 0 0) := (blk_cell BK258.out 2).trans rfl
           have hfs67 := blk_frozen BK258.out 2
           have hns67_0 := NB254_258.out
           have hns67_1 := NB255_258.out
           have hns67_3 := NB259_258.out
           have hms67_0 := NB258_254.out
           have hms67_1 := NB258_255.out
           have hms67_3 := NB258_259.out
           refine skip_ (w1 := ?_) (by rfl) rfl ?_ ?_
           rotate_left
           ·go_simp
            rfl
           refine hK.out _ _ ⟨((cell_far (p := ⟨gb258, _, none⟩) NB254_258.out _).trans (((cell_far (p := ⟨gb258, _, none⟩) NB254_258.out _).trans (((cell_far (p := ⟨gb258, _, none⟩) NB254_258.out _).trans (hHeld.1)))))), ((cell_far (p := ⟨gb258, _, none⟩) NB254_258.out _).trans (((cell_far (p := ⟨gb258, _, none⟩) NB254_258.out _).trans (((cell_far (p := ⟨gb258, _, none⟩) NB254_258.out _).trans (hHeld.2.1)))))), ((cell_far (p := ⟨gb258, _, none⟩) NB255_258.out _).trans (((cell_far (p := ⟨gb258, _, none⟩) NB255_258.out _).trans (((cell_far (p := ⟨gb258, _, none⟩) NB255_258.out _).trans (hHeld.2.2.1)))))), ((cell_far (p := ⟨gb258, _, none⟩) NB255_258.out _).trans (((cell_far (p := ⟨gb258, _, none⟩) NB255_258.out _).trans (((cell_far (p := ⟨gb258, _, none⟩) NB255_258.out _).trans (hHeld.2.2.2.1)))))), ((cell_far (p := ⟨gb258, _, none⟩) (far_ne34 hw256_0 GW258.out) _).trans (((cell_far (p := ⟨gb258, _, none⟩) (far_ne34 hw256_0 GW258.out) _).trans (((cell_far (p := ⟨gb258, _, none⟩) (far_ne34 hw256_0 GW258.out) _).trans (hHeld.2.2.2.2.1)))))), ((cell_far (p := ⟨gb258, _, none⟩) (far_ne34 hw256_1 GW258.out) _).trans (((cell_far (p := ⟨gb258, _, none⟩) (far_ne34 hw256_1 GW258.out) _).trans (((cell_far (p := ⟨gb258, _, none⟩) (far_ne34 hw256_1 GW258.out) _).trans (hHeld.2.2.2.2.2.1)))))), ((cell_far (p := ⟨gb258, _, none⟩) (far_ne34 hw256_2 GW258.out) _).trans (((cell_far (p := ⟨gb258, _, none⟩) (far_ne34 hw256_2 GW258.out) _).trans (((cell_far (p := ⟨gb258, _, none⟩) (far_ne34 hw256_2 GW258.out) _).trans (hHeld.2.2.2.2.2.2.1)))))), ((cell_far (p := ⟨gb258, _, none⟩) (far_ne34 hw257_0 GW258.out) _).trans (((cell_far (p := ⟨gb258, _, none⟩) (far_ne34 hw257_0 GW258.out) _).trans (((cell_far (p := ⟨gb258, _, none⟩) (far_ne34 hw257_0 GW258.out) _).trans (hHeld.2.2.2.2.2.2.2.1)))))), ((cell_far (p := ⟨gb258, _, none⟩) (far_ne34 hw257_1 GW258.out) _).trans (((cell_far (p := ⟨gb258, _, none⟩) (far_ne34 hw257_1 GW258.out) _).trans (((cell_far (p := ⟨gb258, _, none⟩) (far_ne34 hw257_1 GW258.out) _).trans (hHeld.2.2.2.2.2.2.2.2.1)))))), ((cell_far (p := ⟨gb258, _, none⟩) (far_ne34 hw257_2 GW258.out) _).trans (((cell_far (p := ⟨gb258, _, none⟩) (far_ne34 hw257_2 GW258.out) _).trans (((cell_far (p := ⟨gb258, _, none⟩) (far_ne34 hw257_2 GW258.out) _).trans (hHeld.2.2.2.2.2.2.2.2.2))))))⟩ (fun hHeld => ?_)
           clear hK K
           refine sOn 13 none (fun K hK => ?_)
           have hs68 : w64.cell? ⟨gb259, 0, none⟩ = some (.string (⟨#[]⟩ : ByteArray)) := (blk_cell BK259.out 0).trans rfl
           have hfs68 := blk_frozen BK259.out 0
           have hns68_0 := NB254_259.out
           have hns68_1 := NB255_259.out
           have hns68_2 := NB258_259.out
           have hms68_0 := NB259_254.out
           have hms68_1 := NB259_255.out
           have hms68_2 := NB259_258.out
           have hs69 : w64.cell? ⟨gb259, 1, none⟩ = some (.int .i64 0) := (blk_cell BK259.out 1).trans rfl
           have hfs69 := blk_frozen BK259.out 1
           have hns69_0 := NB254_259.out
           have hns69_1 := NB255_259.out
           have hns69_2 := NB258_259.out
           have hms69_0 := NB259_254.out
           have hms69_1 := NB259_255.out
           have hms69_2 := NB259_258.out
           have hs70 : w64.cell? ⟨gb259, 2, none⟩ = some (.slice none 0 0) := (blk_cell BK259.out 2).trans rfl
           have hfs70 := blk_frozen BK259.out 2
           have hns70_0 := NB254_259.out
           have hns70_1 := NB255_259.out
           have hns70_2 := NB258_259.out
           have hms70_0 := NB259_254.out
           have hms70_1 := NB259_255.out
           have hms70_2 := NB259_258.out
           refine skip_ (w1 := ?_) (by rfl) rfl ?_ ?_
           rotate_left
           ·go_simp
            rfl
           refine hK.out _ _ ⟨((cell_far (p := ⟨gb259, _, none⟩) NB254_259.out _).trans (((cell_far (p := ⟨gb259, _, none⟩) NB254_259.out _).trans (((cell_far (p := ⟨gb259, _, none⟩) NB254_259.out _).trans (hHeld.1)))))), ((cell_far (p := ⟨gb259, _, none⟩) NB254_259.out _).trans (((cell_far (p := ⟨gb259, _, none⟩) NB254_259.out _).trans (((cell_far (p := ⟨gb259, _, none⟩) NB254_259.out _).trans (hHeld.2.1)))))), ((cell_far (p := ⟨gb259, _, none⟩) NB255_259.out _).trans (((cell_far (p := ⟨gb259, _, none⟩) NB255_259.out _).trans (((cell_far (p := ⟨gb259, _, none⟩) NB255_259.out _).trans (hHeld.2.2.1)))))), ((cell_far (p := ⟨gb259, _, none⟩) NB255_259.out _).trans (((cell_far (p := ⟨gb259, _, none⟩) NB255_259.out _).trans (((cell_far (p := ⟨gb259, _, none⟩) NB255_259.out _).trans (hHeld.2.2.2.1)))))), ((cell_far (p := ⟨gb259, _, none⟩) (far_ne34 hw256_0 GW259.out) _).trans (((cell_far (p := ⟨gb259, _, none⟩) (far_ne34 hw256_0 GW259.out) _).trans (((cell_far (p := ⟨gb259, _, none⟩) (far_ne34 hw256_0 GW259.out) _).trans (hHeld.2.2.2.2.1)))))), ((cell_far (p := ⟨gb259, _, none⟩) (far_ne34 hw256_1 GW259.out) _).trans (((cell_far (p := ⟨gb259, _, none⟩) (far_ne34 hw256_1 GW259.out) _).trans (((cell_far (p := ⟨gb259, _, none⟩) (far_ne34 hw256_1 GW259.out) _).trans (hHeld.2.2.2.2.2.1)))))), ((cell_far (p := ⟨gb259, _, none⟩) (far_ne34 hw256_2 GW259.out) _).trans (((cell_far (p := ⟨gb259, _, none⟩) (far_ne34 hw256_2 GW259.out) _).trans (((cell_far (p := ⟨gb259, _, none⟩) (far_ne34 hw256_2 GW259.out) _).trans (hHeld.2.2.2.2.2.2.1)))))), ((cell_far (p := ⟨gb259, _, none⟩) (far_ne34 hw257_0 GW259.out) _).trans (((cell_far (p := ⟨gb259, _, none⟩) (far_ne34 hw257_0 GW259.out) _).trans (((cell_far (p := ⟨gb259, _, none⟩) (far_ne34 hw257_0 GW259.out) _).trans (hHeld.2.2.2.2.2.2.2.1)))))), ((cell_far (p := ⟨gb259, _, none⟩) (far_ne34 hw257_1 GW259.out) _).trans (((cell_far (p := ⟨gb259, _, none⟩) (far_ne34 hw257_1 GW259.out) _).trans (((cell_far (p := ⟨gb259, _, none⟩) (far_ne34 hw257_1 GW259.out) _).trans (hHeld.2.2.2.2.2.2.2.2.1)))))), ((cell_far (p := ⟨gb259, _, none⟩) (far_ne34 hw257_2 GW259.out) _).trans (((cell_far (p := ⟨gb259, _, none⟩) (far_ne34 hw257_2 GW259.out) _).trans (((cell_far (p := ⟨gb259, _, none⟩) (far_ne34 hw257_2 GW259.out) _).trans (hHeld.2.2.2.2.2.2.2.2.2))))))⟩ (fun hHeld => ?_)
           clear hK K
           refine done_ (done_of HT_.out (by kernel_rfl)) ?_
           have hnb71 := NB258_254.out
           have hnc71 := NB254_258.out
           have hnb72 := NB258_255.out
           have hnc72 := NB255_258.out
           have hnb73 := NB258_259.out
           have hnc73 := NB259_258.out
           obtain ⟨hcz74_0, hcz74_1, hcz74_2, hfz74_0, hfz74_1, hfz74_2⟩ := bq3 BK258
           have hnb75 := NB259_254.out
           have hnc75 := NB254_259.out
           have hnb76 := NB259_255.out
           have hnc76 := NB255_259.out
           obtain ⟨hcz77_0, hcz77_1, hcz77_2, hfz77_0, hfz77_1, hfz77_2⟩ := bq3 BK259
           try go_wp2
           go_ret
           exact ⟨eN, bel⟩
         ·rw [if_neg c17] at H
          have c17b0 : (((rd_T52 l0_1 x5_2).f0).toList == ((rd_T52 l1_1 x5_2).f0).toList) = false := beq_eq_false_iff_ne.mpr c17
          have c17b1 : (((rd_T52 l0_1 x5_2).f0).toList != ((rd_T52 l1_1 x5_2).f0).toList) = true := bne_iff_ne.mpr c17
          obtain rfl := Option.some.inj H
          have hnb78 := NB254_255.out
          have hnc78 := NB255_254.out
          obtain ⟨hcz79_0, hcz79_1, hfz79_0, hfz79_1⟩ := bq2 BK254
          try go_wp2
          replace BK254 := Aside0.mk (blk_drew BK254.out)
          replace BK255 := Aside0.mk (blk_drew BK255.out)
          replace HB := Aside0.mk (below_drew1 HB.out)
          have p256 : 0 ≤ (x5_2 : Int) := dtr
          have q256 : x5_2 < (l0_1.length : Int) := dtr
          obtain ⟨ad256, A256_2, c256_2, e256, hx256_0, hx256_1, hx256_2, hl256_2, hi256_2⟩ := at_T52 HR0_1.out x5_2 p256 q256
          have hw256_2 := hx256_2
          have hw256_1 := hx256_1
          have hw256_0 := hx256_0
          cases e256
          replace hx256_0 := oc hx256_0
          replace hx256_1 := oc hx256_1
          replace hx256_2 := oc hx256_2
          have HR256_2 := Aside0.mk hi256_2
          have HC256_2 := Aside0.mk hl256_2
          clear hi256_2 hl256_2
          replace p256 := eq_true p256
          replace q256 := eq_true q256
          have p257 : 0 ≤ (x5_2 : Int) := dtr
          have q257 : x5_2 < (l1_1.length : Int) := dtr
          obtain ⟨ad257, A257_2, c257_2, e257, hx257_0, hx257_1, hx257_2, hl257_2, hi257_2⟩ := at_T52 HR1_1.out x5_2 p257 q257
          have hw257_2 := hx257_2
          have hw257_1 := hx257_1
          have hw257_0 := hx257_0
          cases e257
          replace hx257_0 := oc hx257_0
          replace hx257_1 := oc hx257_1
          replace hx257_2 := oc hx257_2
          have HR257_2 := Aside0.mk hi257_2
          have HC257_2 := Aside0.mk hl257_2
          clear hi257_2 hl257_2
          replace p257 := eq_true p257
          replace q257 := eq_true q257
          refine start_ (n := 14) (S := fun w' => w'.cell? ⟨gb254, 0, none⟩ = some (.int .i64 a0_0) ∧ w'.cell? ⟨gb254, 1, none⟩ = some (.slice (some ad256) l0_1.length c0_1) ∧ w'.cell? ⟨gb255, 0, none⟩ = some (.int .i64 a1_0) ∧ w'.cell? ⟨gb255, 1, none⟩ = some (.slice (some ad257) l1_1.length c1_1) ∧ w'.cell? (ad256.add ((x5_2).toNat * 3)) = some (.string ((rd_T52 l0_1 x5_2).f0)) ∧ w'.cell? ⟨(ad256.add ((x5_2).toNat * 3)).block, (ad256.add ((x5_2).toNat * 3)).off + 1, none⟩ = some (.int .i64 ((rd_T52 l0_1 x5_2).f1)) ∧ w'.cell? ⟨(ad256.add ((x5_2).toNat * 3)).block, (ad256.add ((x5_2).toNat * 3)).off + 2, none⟩ = some (.slice A256_2 ((rd_T52 l0_1 x5_2).f2).length c256_2) ∧ w'.cell? (ad257.add ((x5_2).toNat * 3)) = some (.string ((rd_T52 l1_1 x5_2).f0)) ∧ w'.cell? ⟨(ad257.add ((x5_2).toNat * 3)).block, (ad257.add ((x5_2).toNat * 3)).off + 1, none⟩ = some (.int .i64 ((rd_T52 l1_1 x5_2).f1)) ∧ w'.cell? ⟨(ad257.add ((x5_2).toNat * 3)).block, (ad257.add ((x5_2).toNat * 3)).off + 2, none⟩ = some (.slice A257_2 ((rd_T52 l1_1 x5_2).f2).length c257_2)) (ds := []) #[false, false, false, false, false, false, false, false, false, false, false, false, false, false] (by kernel_rfl) rfl rfl ⟨(blk_cell BK254.out 0).trans rfl, (blk_cell BK254.out 1).trans rfl, (blk_cell BK255.out 0).trans rfl, (blk_cell BK255.out 1).trans rfl, (oc hw256_0), (oc hw256_1), (oc hw256_2), (oc hw257_0), (oc hw257_1), (oc hw257_2)⟩ (fun hHeld => ?_); refine with_tabW paraphrastref01_Same.tab6 paraphrastref01_Same.bits6 (fun HT_ HW_ => ?_)
          generalize wr.drew = w80 at BK254 BK255 HB HR256_2 HR257_2 hx256_0 hx256_1 hx256_2 hx257_0 hx257_1 hx257_2 hHeld ⊢
          refine sPu 0 (some 29) ?_
          refine sPu 2 (some 31) ?_
          refine sPu 5 (some 34) ?_
          refine sPu 7 (some 36) ?_
          refine sTk 1 (some 30) ?_
          refine sPu 3 (some 32) ?_
          refine sTk 4 (some 33) ?_
          refine sTk 6 (some 35) ?_
          refine sPu 8 (some 37) ?_
          refine sTk 9 (some 38) ?_
          refine join_ (σ := Nat × Nat) 2 #[true, true, true, true, true, true, true, true, true, true, true, true, false, false] (fun s_ => [(6, .pointer (some ⟨s_.1, 0, none⟩)), (7, .pointer (some ⟨s_.2, 0, none⟩))]) (fun s_ w' => (w'.cell? ⟨gb254, 0, none⟩ = some (.int .i64 a0_0) ∧ w'.cell? ⟨gb254, 1, none⟩ = some (.slice (some ad256) l0_1.length c0_1) ∧ w'.cell? ⟨gb255, 0, none⟩ = some (.int .i64 a1_0) ∧ w'.cell? ⟨gb255, 1, none⟩ = some (.slice (some ad257) l1_1.length c1_1) ∧ w'.cell? (ad256.add ((x5_2).toNat * 3)) = some (.string ((rd_T52 l0_1 x5_2).f0)) ∧ w'.cell? ⟨(ad256.add ((x5_2).toNat * 3)).block, (ad256.add ((x5_2).toNat * 3)).off + 1, none⟩ = some (.int .i64 ((rd_T52 l0_1 x5_2).f1)) ∧ w'.cell? ⟨(ad256.add ((x5_2).toNat * 3)).block, (ad256.add ((x5_2).toNat * 3)).off + 2, none⟩ = some (.slice A256_2 ((rd_T52 l0_1 x5_2).f2).length c256_2) ∧ w'.cell? (ad257.add ((x5_2).toNat * 3)) = some (.string ((rd_T52 l1_1 x5_2).f0)) ∧ w'.cell? ⟨(ad257.add ((x5_2).toNat * 3)).block, (ad257.add ((x5_2).toNat * 3)).off + 1, none⟩ = some (.int .i64 ((rd_T52 l1_1 x5_2).f1)) ∧ w'.cell? ⟨(ad257.add ((x5_2).toNat * 3)).block, (ad257.add ((x5_2).toNat * 3)).off + 2, none⟩ = some (.slice A257_2 ((rd_T52 l1_1 x5_2).f2).length c257_2)) ∧ (w'.heap[gb254]? = some (.cells #[.int .i64 a0_0, .slice (some ad256) l0_1.length c0_1] 24 (0, 0))) ∧ (w'.heap[gb255]? = some (.cells #[.int .i64 a1_0, .slice (some ad257) l1_1.length c1_1] 24 (0, 0))) ∧ (w'.heap[s_.1]? = some (.cells #[.string (⟨#[]⟩ : ByteArray), .int .i64 0, .slice none 0 0] 52 (0, 0))) ∧ (w'.heap[s_.2]? = some (.cells #[.string (⟨#[]⟩ : ByteArray), .int .i64 0, .slice none 0 0] 52 (0, 0))) ∧ (w.heap.size ≤ s_.1) ∧ (w.heap.size ≤ s_.1) ∧ (gb254 ≠ s_.1) ∧ (s_.1 ≠ gb254) ∧ (gb255 ≠ s_.1) ∧ (s_.1 ≠ gb255) ∧ (s_.2 ≠ s_.1) ∧ (s_.1 ≠ s_.2) ∧ (w.heap.size ≤ s_.2) ∧ (w.heap.size ≤ s_.2) ∧ (gb254 ≠ s_.2) ∧ (s_.2 ≠ gb254) ∧ (gb255 ≠ s_.2) ∧ (s_.2 ≠ gb255) ∧ (Below w.heap.size w w')) ?_ ?_
          rotate_left
          ·intro hCont
           refine two_ (i := 10) (j := 11) (Ni := some 6) (Nj := some 7) #[true, true, true, true, true, true, true, true, true, true, true, false, false, false] #[true, true, true, true, true, true, true, true, true, true, false, true, false, false] rfl rfl rfl rfl (two_of HT_.out (by kernel_rfl)) (by decide) (by decide) (fun K hK => ?_) (fun K hK => ?_)
           ·skip
            refine box_step ?hg (N := 6) ?hd (cs := #[.string (⟨#[]⟩ : ByteArray), .int .i64 0, .slice none 0 0]) (t := 52) ?hr ?_; (case hd => rfl); (case hg => rfl); (case hr => first | (go_simp; done) | (go_simp; rfl))
            intro gb258 hg w81 hbox hb
            have BK258 := Aside0.mk (hbox)
            have GW258 := geB w hg
            have GE258 := geB w hg
            have NB254_258 := neL BK254 hg
            have NB258_254 := neG BK254 hg
            have NB255_258 := neL BK255 hg
            have NB258_255 := neG BK255 hg
            replace BK254 := blB BK254 hb
            replace BK255 := blB BK255 hb
            replace HB := Aside0.mk (below_step bel hb)
            clear hb hbox hg
            refine hK.out _ _ ⟨(blk_cell BK254.out 0).trans rfl, (blk_cell BK254.out 1).trans rfl, (blk_cell BK255.out 0).trans rfl, (blk_cell BK255.out 1).trans rfl, (oc hw256_0), (oc hw256_1), (oc hw256_2), (oc hw257_0), (oc hw257_1), (oc hw257_2)⟩ (fun hHeld => ?_)
            clear hK K
            refine norm_ (a' := ?_) ?_ ?_
            rotate_left
            ·show Act.put _ (some 6) _ = _
             simp only [Act.put, List.setIfInBounds_toArray, List.set_cons_zero, List.set_cons_succ, i64_w, i32_w]
             rfl
            refine sOn 11 (some 7) (fun K hK => ?_)
            refine box_step ?hg (N := 7) ?hd (cs := #[.string (⟨#[]⟩ : ByteArray), .int .i64 0, .slice none 0 0]) (t := 52) ?hr ?_; (case hd => rfl); (case hg => rfl); (case hr => first | (go_simp; done) | (go_simp; rfl))
            intro gb259 hg w82 hbox hb
            have BK259 := Aside0.mk (hbox)
            have GW259 := geB w hg
            have GE259 := geB w hg
            have NB254_259 := neL BK254 hg
            have NB259_254 := neG BK254 hg
            have NB255_259 := neL BK255 hg
            have NB259_255 := neG BK255 hg
            have NB258_259 := neL BK258 hg
            have NB259_258 := neG BK258 hg
            replace BK254 := blB BK254 hb
            replace BK255 := blB BK255 hb
            replace BK258 := blB BK258 hb
            replace HB := Aside0.mk (below_step bel hb)
            clear hb hbox hg
            refine hK.out _ _ ⟨(blk_cell BK254.out 0).trans rfl, (blk_cell BK254.out 1).trans rfl, (blk_cell BK255.out 0).trans rfl, (blk_cell BK255.out 1).trans rfl, (oc hw256_0), (oc hw256_1), (oc hw256_2), (oc hw257_0), (oc hw257_1), (oc hw257_2)⟩ (fun hHeld => ?_)
            clear hK K
            refine norm_ (a' := ?_) ?_ ?_
            rotate_left
            ·show Act.put _ (some 7) _ = _
             simp only [Act.put, List.setIfInBounds_toArray, List.set_cons_zero, List.set_cons_succ, i64_w, i32_w]
             rfl
            exact norm_ (by simp only [putAll, Act.put, List.setIfInBounds_toArray, List.set_cons_zero, List.set_cons_succ]) (hCont (gb258, gb259) _ ⟨hHeld, (bk BK254), (bk BK255), (bk BK258), (bk BK259), GW258.out, GE258.out, NB254_258.out, NB258_254.out, NB255_258.out, NB258_255.out, NB259_258.out, NB258_259.out, GW259.out, GE259.out, NB254_259.out, NB259_254.out, NB255_259.out, NB259_255.out, bel⟩)
           ·skip
            refine box_step ?hg (N := 7) ?hd (cs := #[.string (⟨#[]⟩ : ByteArray), .int .i64 0, .slice none 0 0]) (t := 52) ?hr ?_; (case hd => rfl); (case hg => rfl); (case hr => first | (go_simp; done) | (go_simp; rfl))
            intro gb259 hg w81 hbox hb
            have BK259 := Aside0.mk (hbox)
            have GW259 := geB w hg
            have GE259 := geB w hg
            have NB254_259 := neL BK254 hg
            have NB259_254 := neG BK254 hg
            have NB255_259 := neL BK255 hg
            have NB259_255 := neG BK255 hg
            replace BK254 := blB BK254 hb
            replace BK255 := blB BK255 hb
            replace HB := Aside0.mk (below_step bel hb)
            clear hb hbox hg
            refine hK.out _ _ ⟨(blk_cell BK254.out 0).trans rfl, (blk_cell BK254.out 1).trans rfl, (blk_cell BK255.out 0).trans rfl, (blk_cell BK255.out 1).trans rfl, (oc hw256_0), (oc hw256_1), (oc hw256_2), (oc hw257_0), (oc hw257_1), (oc hw257_2)⟩ (fun hHeld => ?_)
            clear hK K
            refine norm_ (a' := ?_) ?_ ?_
            rotate_left
            ·show Act.put _ (some 7) _ = _
             simp only [Act.put, List.setIfInBounds_toArray, List.set_cons_zero, List.set_cons_succ, i64_w, i32_w]
             rfl
            refine sOn 10 (some 6) (fun K hK => ?_)
            refine box_step ?hg (N := 6) ?hd (cs := #[.string (⟨#[]⟩ : ByteArray), .int .i64 0, .slice none 0 0]) (t := 52) ?hr ?_; (case hd => rfl); (case hg => rfl); (case hr => first | (go_simp; done) | (go_simp; rfl))
            intro gb258 hg w82 hbox hb
            have BK258 := Aside0.mk (hbox)
            have GW258 := geB w hg
            have GE258 := geB w hg
            have NB254_258 := neL BK254 hg
            have NB258_254 := neG BK254 hg
            have NB255_258 := neL BK255 hg
            have NB258_255 := neG BK255 hg
            have NB259_258 := neL BK259 hg
            have NB258_259 := neG BK259 hg
            replace BK254 := blB BK254 hb
            replace BK255 := blB BK255 hb
            replace BK259 := blB BK259 hb
            replace HB := Aside0.mk (below_step bel hb)
            clear hb hbox hg
            refine hK.out _ _ ⟨(blk_cell BK254.out 0).trans rfl, (blk_cell BK254.out 1).trans rfl, (blk_cell BK255.out 0).trans rfl, (blk_cell BK255.out 1).trans rfl, (oc hw256_0), (oc hw256_1), (oc hw256_2), (oc hw257_0), (oc hw257_1), (oc hw257_2)⟩ (fun hHeld => ?_)
            clear hK K
            refine norm_ (a' := ?_) ?_ ?_
            rotate_left
            ·show Act.put _ (some 6) _ = _
             simp only [Act.put, List.setIfInBounds_toArray, List.set_cons_zero, List.set_cons_succ, i64_w, i32_w]
             rfl
            exact norm_ (by simp only [putAll, Act.put, List.setIfInBounds_toArray, List.set_cons_zero, List.set_cons_succ]) (hCont (gb258, gb259) _ ⟨hHeld, (bk BK254), (bk BK255), (bk BK258), (bk BK259), GW258.out, GE258.out, NB254_258.out, NB258_254.out, NB255_258.out, NB258_255.out, NB259_258.out, NB258_259.out, GW259.out, GE259.out, NB254_259.out, NB259_254.out, NB255_259.out, NB259_255.out, bel⟩)
          rintro ⟨gb258, gb259⟩ w83 ⟨hS_, h0_, h1_, h2_, h3_, h4_, h5_, h6_, h7_, h8_, h9_, h10_, h11_, h12_, h13_, h14_, h15_, h16_, h17_, h18_⟩
          have n0_ : Aside0 (w83.heap[gb254]? = some (.cells #[.int .i64 a0_0, .slice (some ad256) l0_1.length c0_1] 24 (0, 0))) := ⟨h0_⟩
          have n1_ : Aside0 (w83.heap[gb255]? = some (.cells #[.int .i64 a1_0, .slice (some ad257) l1_1.length c1_1] 24 (0, 0))) := ⟨h1_⟩
          have n2_ : Aside0 (w83.heap[gb258]? = some (.cells #[.string (⟨#[]⟩ : ByteArray), .int .i64 0, .slice none 0 0] 52 (0, 0))) := ⟨h2_⟩
          have n3_ : Aside0 (w83.heap[gb259]? = some (.cells #[.string (⟨#[]⟩ : ByteArray), .int .i64 0, .slice none 0 0] 52 (0, 0))) := ⟨h3_⟩
          have n4_ : Aside0 (w.heap.size ≤ gb258) := ⟨h4_⟩
          have n5_ : Aside0 (w.heap.size ≤ gb258) := ⟨h5_⟩
          have n6_ : Aside0 (gb254 ≠ gb258) := ⟨h6_⟩
          have n7_ : Aside0 (gb258 ≠ gb254) := ⟨h7_⟩
          have n8_ : Aside0 (gb255 ≠ gb258) := ⟨h8_⟩
          have n9_ : Aside0 (gb258 ≠ gb255) := ⟨h9_⟩
          have n10_ : Aside0 (gb259 ≠ gb258) := ⟨h10_⟩
          have n11_ : Aside0 (gb258 ≠ gb259) := ⟨h11_⟩
          have n12_ : Aside0 (w.heap.size ≤ gb259) := ⟨h12_⟩
          have n13_ : Aside0 (w.heap.size ≤ gb259) := ⟨h13_⟩
          have n14_ : Aside0 (gb254 ≠ gb259) := ⟨h14_⟩
          have n15_ : Aside0 (gb259 ≠ gb254) := ⟨h15_⟩
          have n16_ : Aside0 (gb255 ≠ gb259) := ⟨h16_⟩
          have n17_ : Aside0 (gb259 ≠ gb255) := ⟨h17_⟩
          have n18_ : Aside0 (Below w.heap.size w w83) := ⟨h18_⟩
          clear BK254
          clear BK255
          clear HB
          clear h0_ h1_ h2_ h3_ h4_ h5_ h6_ h7_ h8_ h9_ h10_ h11_ h12_ h13_ h14_ h15_ h16_ h17_ h18_
          have BK254 := n0_
          have BK255 := n1_
          have BK258 := n2_
          have BK259 := n3_
          have GW258 := n4_
          have GE258 := n5_
          have NB254_258 := n6_
          have NB258_254 := n7_
          have NB255_258 := n8_
          have NB258_255 := n9_
          have NB259_258 := n10_
          have NB258_259 := n11_
          have GW259 := n12_
          have GE259 := n13_
          have NB254_259 := n14_
          have NB259_254 := n15_
          have NB255_259 := n16_
          have NB259_255 := n17_
          have HB := n18_
          clear n0_ n1_ n2_ n3_ n4_ n5_ n6_ n7_ n8_ n9_ n10_ n11_ n12_ n13_ n14_ n15_ n16_ n17_ n18_
          have hHeld : w83.cell? ⟨gb254, 0, none⟩ = some (.int .i64 a0_0) ∧ w83.cell? ⟨gb254, 1, none⟩ = some (.slice (some ad256) l0_1.length c0_1) ∧ w83.cell? ⟨gb255, 0, none⟩ = some (.int .i64 a1_0) ∧ w83.cell? ⟨gb255, 1, none⟩ = some (.slice (some ad257) l1_1.length c1_1) ∧ w83.cell? (ad256.add ((x5_2).toNat * 3)) = some (.string ((rd_T52 l0_1 x5_2).f0)) ∧ w83.cell? ⟨(ad256.add ((x5_2).toNat * 3)).block, (ad256.add ((x5_2).toNat * 3)).off + 1, none⟩ = some (.int .i64 ((rd_T52 l0_1 x5_2).f1)) ∧ w83.cell? ⟨(ad256.add ((x5_2).toNat * 3)).block, (ad256.add ((x5_2).toNat * 3)).off + 2, none⟩ = some (.slice A256_2 ((rd_T52 l0_1 x5_2).f2).length c256_2) ∧ w83.cell? (ad257.add ((x5_2).toNat * 3)) = some (.string ((rd_T52 l1_1 x5_2).f0)) ∧ w83.cell? ⟨(ad257.add ((x5_2).toNat * 3)).block, (ad257.add ((x5_2).toNat * 3)).off + 1, none⟩ = some (.int .i64 ((rd_T52 l1_1 x5_2).f1)) ∧ w83.cell? ⟨(ad257.add ((x5_2).toNat * 3)).block, (ad257.add ((x5_2).toNat * 3)).off + 2, none⟩ = some (.slice A257_2 ((rd_T52 l1_1 x5_2).f2).length c257_2) := hS_
          refine norm_ (a' := ?_) ?_ ?_
          rotate_left
          ·simp only [putAll, Act.put, List.setIfInBounds_toArray, List.set_cons_zero, List.set_cons_succ]
           rfl
          refine sOn 12 none (fun K hK => ?_)
          have hs84 : w83.cell? ⟨gb258, 0, none⟩ = some (.string (⟨#[]⟩ : ByteArray)) := (blk_cell BK258.out 0).trans rfl
          have hfs84 := blk_frozen BK258.out 0
          have hns84_0 := NB254_258.out
          have hns84_1 := NB255_258.out
          have hns84_3 := NB259_258.out
          have hms84_0 := NB258_254.out
          have hms84_1 := NB258_255.out
          have hms84_3 := NB258_259.out
          have hs85 : w83.cell? ⟨gb258, 1, none⟩ = some (.int .i64 0) := (blk_cell BK258.out 1).trans rfl
          have hfs85 := blk_frozen BK258.out 1
          have hns85_0 := NB254_258.out
          have hns85_1 := NB255_258.out
          have hns85_3 := NB259_258.out
          have hms85_0 := NB258_254.out
          have hms85_1 := NB258_255.out
          have hms85_3 := NB258_259.out
          have hs86 : w83.cell? ⟨gb258, 2, none⟩ = some (.slice none 0 0) := (blk_cell BK258.out 2).trans rfl
          have hfs86 := blk_frozen BK258.out 2
          have hns86_0 := NB254_258.out
          have hns86_1 := NB255_258.out
          have hns86_3 := NB259_258.out
          have hms86_0 := NB258_254.out
          have hms86_1 := NB258_255.out
          have hms86_3 := NB258_259.out
          refine skip_ (w1 := ?_) (by rfl) rfl ?_ ?_
          rotate_left
          ·go_simp
           rfl
          refine hK.out _ _ ⟨((cell_far (p := ⟨gb258, _, none⟩) NB254_258.out _).trans (((cell_far (p := ⟨gb258, _, none⟩) NB254_258.out _).trans (((cell_far (p := ⟨gb258, _, none⟩) NB254_258.out _).trans (hHeld.1)))))), ((cell_far (p := ⟨gb258, _, none⟩) NB254_258.out _).trans (((cell_far (p := ⟨gb258, _, none⟩) NB254_258.out _).trans (((cell_far (p := ⟨gb258, _, none⟩) NB254_258.out _).trans (hHeld.2.1)))))), ((cell_far (p := ⟨gb258, _, none⟩) NB255_258.out _).trans (((cell_far (p := ⟨gb258, _, none⟩) NB255_258.out _).trans (((cell_far (p := ⟨gb258, _, none⟩) NB255_258.out _).trans (hHeld.2.2.1)))))), ((cell_far (p := ⟨gb258, _, none⟩) NB255_258.out _).trans (((cell_far (p := ⟨gb258, _, none⟩) NB255_258.out _).trans (((cell_far (p := ⟨gb258, _, none⟩) NB255_258.out _).trans (hHeld.2.2.2.1)))))), ((cell_far (p := ⟨gb258, _, none⟩) (far_ne34 hw256_0 GW258.out) _).trans (((cell_far (p := ⟨gb258, _, none⟩) (far_ne34 hw256_0 GW258.out) _).trans (((cell_far (p := ⟨gb258, _, none⟩) (far_ne34 hw256_0 GW258.out) _).trans (hHeld.2.2.2.2.1)))))), ((cell_far (p := ⟨gb258, _, none⟩) (far_ne34 hw256_1 GW258.out) _).trans (((cell_far (p := ⟨gb258, _, none⟩) (far_ne34 hw256_1 GW258.out) _).trans (((cell_far (p := ⟨gb258, _, none⟩) (far_ne34 hw256_1 GW258.out) _).trans (hHeld.2.2.2.2.2.1)))))), ((cell_far (p := ⟨gb258, _, none⟩) (far_ne34 hw256_2 GW258.out) _).trans (((cell_far (p := ⟨gb258, _, none⟩) (far_ne34 hw256_2 GW258.out) _).trans (((cell_far (p := ⟨gb258, _, none⟩) (far_ne34 hw256_2 GW258.out) _).trans (hHeld.2.2.2.2.2.2.1)))))), ((cell_far (p := ⟨gb258, _, none⟩) (far_ne34 hw257_0 GW258.out) _).trans (((cell_far (p := ⟨gb258, _, none⟩) (far_ne34 hw257_0 GW258.out) _).trans (((cell_far (p := ⟨gb258, _, none⟩) (far_ne34 hw257_0 GW258.out) _).trans (hHeld.2.2.2.2.2.2.2.1)))))), ((cell_far (p := ⟨gb258, _, none⟩) (far_ne34 hw257_1 GW258.out) _).trans (((cell_far (p := ⟨gb258, _, none⟩) (far_ne34 hw257_1 GW258.out) _).trans (((cell_far (p := ⟨gb258, _, none⟩) (far_ne34 hw257_1 GW258.out) _).trans (hHeld.2.2.2.2.2.2.2.2.1)))))), ((cell_far (p := ⟨gb258, _, none⟩) (far_ne34 hw257_2 GW258.out) _).trans (((cell_far (p := ⟨gb258, _, none⟩) (far_ne34 hw257_2 GW258.out) _).trans (((cell_far (p := ⟨gb258, _, none⟩) (far_ne34 hw257_2 GW258.out) _).trans (hHeld.2.2.2.2.2.2.2.2.2))))))⟩ (fun hHeld => ?_)
          clear hK K
          refine sOn 13 none (fun K hK => ?_)
          have hs87 : w83.cell? ⟨gb259, 0, none⟩ = some (.string (⟨#[]⟩ : ByteArray)) := (blk_cell BK259.out 0).trans rfl
          have hfs87 := blk_frozen BK259.out 0
          have hns87_0 := NB254_259.out
          have hns87_1 := NB255_259.out
          have hns87_2 := NB258_259.out
          have hms87_0 := NB259_254.out
          have hms87_1 := NB259_255.out
          have hms87_2 := NB259_258.out
          have hs88 : w83.cell? ⟨gb259, 1, none⟩ = some (.int .i64 0) := (blk_cell BK259.out 1).trans rfl
          have hfs88 := blk_frozen BK259.out 1
          have hns88_0 := NB254_259.out
          have hns88_1 := NB255_259.out
          have hns88_2 := NB258_259.out
          have hms88_0 := NB259_254.out
          have hms88_1 := NB259_255.out
          have hms88_2 := NB259_258.out
          have hs89 : w83.cell? ⟨gb259, 2, none⟩ = some (.slice none 0 0) := (blk_cell BK259.out 2).trans rfl
          have hfs89 := blk_frozen BK259.out 2
          have hns89_0 := NB254_259.out
          have hns89_1 := NB255_259.out
          have hns89_2 := NB258_259.out
          have hms89_0 := NB259_254.out
          have hms89_1 := NB259_255.out
          have hms89_2 := NB259_258.out
          refine skip_ (w1 := ?_) (by rfl) rfl ?_ ?_
          rotate_left
          ·go_simp
           rfl
          refine hK.out _ _ ⟨((cell_far (p := ⟨gb259, _, none⟩) NB254_259.out _).trans (((cell_far (p := ⟨gb259, _, none⟩) NB254_259.out _).trans (((cell_far (p := ⟨gb259, _, none⟩) NB254_259.out _).trans (hHeld.1)))))), ((cell_far (p := ⟨gb259, _, none⟩) NB254_259.out _).trans (((cell_far (p := ⟨gb259, _, none⟩) NB254_259.out _).trans (((cell_far (p := ⟨gb259, _, none⟩) NB254_259.out _).trans (hHeld.2.1)))))), ((cell_far (p := ⟨gb259, _, none⟩) NB255_259.out _).trans (((cell_far (p := ⟨gb259, _, none⟩) NB255_259.out _).trans (((cell_far (p := ⟨gb259, _, none⟩) NB255_259.out _).trans (hHeld.2.2.1)))))), ((cell_far (p := ⟨gb259, _, none⟩) NB255_259.out _).trans (((cell_far (p := ⟨gb259, _, none⟩) NB255_259.out _).trans (((cell_far (p := ⟨gb259, _, none⟩) NB255_259.out _).trans (hHeld.2.2.2.1)))))), ((cell_far (p := ⟨gb259, _, none⟩) (far_ne34 hw256_0 GW259.out) _).trans (((cell_far (p := ⟨gb259, _, none⟩) (far_ne34 hw256_0 GW259.out) _).trans (((cell_far (p := ⟨gb259, _, none⟩) (far_ne34 hw256_0 GW259.out) _).trans (hHeld.2.2.2.2.1)))))), ((cell_far (p := ⟨gb259, _, none⟩) (far_ne34 hw256_1 GW259.out) _).trans (((cell_far (p := ⟨gb259, _, none⟩) (far_ne34 hw256_1 GW259.out) _).trans (((cell_far (p := ⟨gb259, _, none⟩) (far_ne34 hw256_1 GW259.out) _).trans (hHeld.2.2.2.2.2.1)))))), ((cell_far (p := ⟨gb259, _, none⟩) (far_ne34 hw256_2 GW259.out) _).trans (((cell_far (p := ⟨gb259, _, none⟩) (far_ne34 hw256_2 GW259.out) _).trans (((cell_far (p := ⟨gb259, _, none⟩) (far_ne34 hw256_2 GW259.out) _).trans (hHeld.2.2.2.2.2.2.1)))))), ((cell_far (p := ⟨gb259, _, none⟩) (far_ne34 hw257_0 GW259.out) _).trans (((cell_far (p := ⟨gb259, _, none⟩) (far_ne34 hw257_0 GW259.out) _).trans (((cell_far (p := ⟨gb259, _, none⟩) (far_ne34 hw257_0 GW259.out) _).trans (hHeld.2.2.2.2.2.2.2.1)))))), ((cell_far (p := ⟨gb259, _, none⟩) (far_ne34 hw257_1 GW259.out) _).trans (((cell_far (p := ⟨gb259, _, none⟩) (far_ne34 hw257_1 GW259.out) _).trans (((cell_far (p := ⟨gb259, _, none⟩) (far_ne34 hw257_1 GW259.out) _).trans (hHeld.2.2.2.2.2.2.2.2.1)))))), ((cell_far (p := ⟨gb259, _, none⟩) (far_ne34 hw257_2 GW259.out) _).trans (((cell_far (p := ⟨gb259, _, none⟩) (far_ne34 hw257_2 GW259.out) _).trans (((cell_far (p := ⟨gb259, _, none⟩) (far_ne34 hw257_2 GW259.out) _).trans (hHeld.2.2.2.2.2.2.2.2.2))))))⟩ (fun hHeld => ?_)
          clear hK K
          refine done_ (done_of HT_.out (by kernel_rfl)) ?_
          have hnb90 := NB258_254.out
          have hnc90 := NB254_258.out
          have hnb91 := NB258_255.out
          have hnc91 := NB255_258.out
          have hnb92 := NB258_259.out
          have hnc92 := NB259_258.out
          obtain ⟨hcz93_0, hcz93_1, hcz93_2, hfz93_0, hfz93_1, hfz93_2⟩ := bq3 BK258
          have hnb94 := NB259_254.out
          have hnc94 := NB254_259.out
          have hnb95 := NB259_255.out
          have hnc95 := NB255_259.out
          obtain ⟨hcz96_0, hcz96_1, hcz96_2, hfz96_0, hfz96_1, hfz96_2⟩ := bq3 BK259
          try go_wp2
          go_ret
          exact ⟨eN, bel⟩
        ·rw [if_neg c16] at H
         exact absurd H (by simp)
       ·rw [if_neg c15] at H
        exact absurd H (by simp)
      ·rw [if_neg c14] at H
       have c14b0 : decide (x5_2 < (l0_1.length : Int)) = false := decide_eq_false c14
       clear c14
       obtain rfl := Option.some.inj H
       have hnb97 := NB254_255.out
       have hnc97 := NB255_254.out
       obtain ⟨hcz98_0, hcz98_1, hfz98_0, hfz98_1⟩ := bq2 BK254
       go_wp2
       go_ret
       exact ⟨eN, bel⟩
end Go.Proofs.YtfmpaofbnjlniaaGreatDoor.F
namespace Go.Proofs.YtfmpaofbnjlniaaGreatDoor.F
open Go.RowKit Go.Proofs.YtfmpaofbnjlniaaGreatDoorW.PrintWords Go.Proofs.YtfmpaofbnjlniaaGreatDoorW.PrintLast Go.Proofs.YtfmpaofbnjlniaaGreatDoorW.PrintMore
attribute [local go_sem] max2_int min2_int max_two min_two max_three min_three max_four min_four
set_option linter.unusedVariables false
set_option linter.unusedSimpArgs false
/-! ### shape_Text: function 11 -/
noncomputable def shape_Text.f (k : Nat) (a0_0 : Int) (l0_1 : List (S52)) : Option (ByteArray × Int) := (shape_Valid.f k a0_0 l0_1).bind fun t191 => (if t191 = true then ((shape_write.f a0_0 l0_1).bind fun t192 => (if (t192.size : Int) > 40000 then (some ((⟨#[]⟩ : ByteArray), 5)) else (some (t192, 0)))) else (some ((⟨#[]⟩ : ByteArray), 1)))
set_option maxHeartbeats 8000000 in
set_option maxRecDepth 100000 in
theorem shape_Text.calls (k : Nat) (a0_0 : Int) (A0_1 : Option Addr) (c0_1 : Nat) (l0_1 : List (S52)) (r1 : ByteArray) (r2 : Int) (w : World) (hr0_1 : Kd.C k52 w A0_1 l0_1.length l0_1) (hc0_1 : l0_1.length ≤ c0_1) (h : shape_Text.f k a0_0 l0_1 = some (r1, r2)) :
  Calls Tryz.prog 11 #[.agg #[.int .i64 a0_0, .slice A0_1 l0_1.length c0_1]] w fun e w' => e = .returned (.tuple #[.string r1, .int .i64 r2]) ∧ Below w.heap.size w w' := by
 have hu24 := Tryz.underlying24
 have HR0_1 := Aside0.mk hr0_1
 have HC0_1 := Aside0.mk hc0_1
 clear hr0_1 hc0_1
 have HB := Aside0.mk (Below.refl w.heap.size w)
 have H : ((shape_Valid.f k a0_0 l0_1).bind fun t191 => (if t191 = true then ((shape_write.f a0_0 l0_1).bind fun t192 => (if (t192.size : Int) > 40000 then (some ((⟨#[]⟩ : ByteArray), 5)) else (some (t192, 0)))) else (some ((⟨#[]⟩ : ByteArray), 1)))) = some (r1, r2) := h
 clear h
 replace H := Option.bind_eq_some_iff.mp H
 obtain ⟨t191, A20, H⟩ := H
 replace H : (if t191 = true then ((shape_write.f a0_0 l0_1).bind fun t192 => (if (t192.size : Int) > 40000 then (some ((⟨#[]⟩ : ByteArray), 5)) else (some (t192, 0)))) else (some ((⟨#[]⟩ : ByteArray), 1))) = some (r1, r2) := H
 have A2 := Aside0.mk A20
 clear A20
 by_cases c3 : t191 = true
 ·subst c3
  have H1 : ((shape_write.f a0_0 l0_1).bind fun t192 => (if (t192.size : Int) > 40000 then (some ((⟨#[]⟩ : ByteArray), 5)) else (some (t192, 0)))) = some (r1, r2) := by rw [if_pos rfl] at H; exact H
  clear H
  have H := H1
  clear H1
  replace H := Option.bind_eq_some_iff.mp H
  obtain ⟨t192, A40, H⟩ := H
  replace H : (if (t192.size : Int) > 40000 then (some ((⟨#[]⟩ : ByteArray), 5)) else (some (t192, 0))) = some (r1, r2) := H
  have A4 := Aside0.mk A40
  clear A40
  by_cases c5 : (t192.size : Int) > 40000
  ·rw [if_pos c5] at H
   have c5b0 : decide (40000 < (t192.size : Int)) = true := decide_eq_true c5
   have c5b1 : decide (40000 < t192.size) = true := decide_eq_true (by omega)
   clear c5
   simp only [Option.some.injEq, Prod.mk.injEq] at H
   obtain ⟨rfl, rfl⟩ := H
   go_enter Tryz.func11, Tryz.ntmps11
   go_wp2_with (first | ((with_reducible refine gate_dst (N := 1) rfl ?_); refine box_event ?hg (N := 1) ?hd (cs := #[.int .i64 a0_0, .slice A0_1 l0_1.length c0_1]) (t := 24) ?hr ?_; (case hd => rfl); (case hg => rfl); (case hr => first | (go_simp; done) | (go_simp; rfl)); intro gb190 hg w6 hbox hb; have BK190 := Aside0.mk (hbox); have GW190 := geB w hg; have GE190 := geB w hg; replace HB := Aside0.mk (below_step bel hb); clear hb hbox hg; obtain ⟨hcz7_0, hcz7_1, hfz7_0, hfz7_1⟩ := bq2 BK190) | ((with_reducible refine gate_callee (f := 33) rfl ?_); refine gL (some 6) Tryz.func33 #[.agg #[.int .i64 a0_0, .slice A0_1 l0_1.length c0_1]] ?_; (with_reducible refine (shape_Valid.calls k a0_0 _ _ l0_1 true _ ?side1 ?side2 A2.out).mono ?_); (case side1 => exact cS (Kd.C_below HR0_1.out HB.out)); (case side2 => exact HC0_1.out); rintro e w8 ⟨rfl, hb⟩; refine ⟨_, rfl, ?_⟩; replace BK190 := blB BK190 hb; replace HB := Aside0.mk (below_step bel hb); (try clear hb); (try clear hb2); (try clear hk); (try clear hi); obtain ⟨hcz9_0, hcz9_1, hfz9_0, hfz9_1⟩ := bq2 BK190) | ((with_reducible refine gate_callee (f := 44) rfl ?_); refine gL (some 9) Tryz.func44 #[.agg #[.int .i64 a0_0, .slice A0_1 l0_1.length c0_1]] ?_; (with_reducible refine (shape_write.calls a0_0 _ _ l0_1 t192 _ ?side1 ?side2 A4.out).mono ?_); (case side1 => exact cS (Kd.C_below HR0_1.out HB.out)); (case side2 => exact HC0_1.out); rintro e w10 ⟨rfl, hb⟩; refine ⟨_, rfl, ?_⟩; replace BK190 := blB BK190 hb; replace HB := Aside0.mk (below_step bel hb); (try clear hb); (try clear hb2); (try clear hk); (try clear hi)))
   go_ret2
   exact ⟨eN, bel⟩
  ·rw [if_neg c5] at H
   have c5b0 : decide (40000 < (t192.size : Int)) = false := decide_eq_false c5
   have c5b1 : decide (40000 < t192.size) = false := decide_eq_false (by omega)
   clear c5
   simp only [Option.some.injEq, Prod.mk.injEq] at H
   obtain ⟨rfl, rfl⟩ := H
   go_enter Tryz.func11, Tryz.ntmps11
   go_wp2_with (first | ((with_reducible refine gate_dst (N := 1) rfl ?_); refine box_event ?hg (N := 1) ?hd (cs := #[.int .i64 a0_0, .slice A0_1 l0_1.length c0_1]) (t := 24) ?hr ?_; (case hd => rfl); (case hg => rfl); (case hr => first | (go_simp; done) | (go_simp; rfl)); intro gb190 hg w11 hbox hb; have BK190 := Aside0.mk (hbox); have GW190 := geB w hg; have GE190 := geB w hg; replace HB := Aside0.mk (below_step bel hb); clear hb hbox hg; obtain ⟨hcz12_0, hcz12_1, hfz12_0, hfz12_1⟩ := bq2 BK190) | ((with_reducible refine gate_callee (f := 33) rfl ?_); refine gL (some 6) Tryz.func33 #[.agg #[.int .i64 a0_0, .slice A0_1 l0_1.length c0_1]] ?_; (with_reducible refine (shape_Valid.calls k a0_0 _ _ l0_1 true _ ?side1 ?side2 A2.out).mono ?_); (case side1 => exact cS (Kd.C_below HR0_1.out HB.out)); (case side2 => exact HC0_1.out); rintro e w13 ⟨rfl, hb⟩; refine ⟨_, rfl, ?_⟩; replace BK190 := blB BK190 hb; replace HB := Aside0.mk (below_step bel hb); (try clear hb); (try clear hb2); (try clear hk); (try clear hi); obtain ⟨hcz14_0, hcz14_1, hfz14_0, hfz14_1⟩ := bq2 BK190) | ((with_reducible refine gate_callee (f := 44) rfl ?_); refine gL (some 9) Tryz.func44 #[.agg #[.int .i64 a0_0, .slice A0_1 l0_1.length c0_1]] ?_; (with_reducible refine (shape_write.calls a0_0 _ _ l0_1 t192 _ ?side1 ?side2 A4.out).mono ?_); (case side1 => exact cS (Kd.C_below HR0_1.out HB.out)); (case side2 => exact HC0_1.out); rintro e w15 ⟨rfl, hb⟩; refine ⟨_, rfl, ?_⟩; replace BK190 := blB BK190 hb; replace HB := Aside0.mk (below_step bel hb); (try clear hb); (try clear hb2); (try clear hk); (try clear hi)))
   go_ret2
   exact ⟨eN, bel⟩
 ·replace c3 := Bool.eq_false_iff.mpr c3
  subst c3
  have H1 : (some ((⟨#[]⟩ : ByteArray), 1)) = some (r1, r2) := by rw [if_neg (show ¬ (false = true) by decide)] at H; exact H
  clear H
  have H := H1
  clear H1
  simp only [Option.some.injEq, Prod.mk.injEq] at H
  obtain ⟨rfl, rfl⟩ := H
  go_enter Tryz.func11, Tryz.ntmps11
  go_wp2_with (first | ((with_reducible refine gate_dst (N := 1) rfl ?_); refine box_event ?hg (N := 1) ?hd (cs := #[.int .i64 a0_0, .slice A0_1 l0_1.length c0_1]) (t := 24) ?hr ?_; (case hd => rfl); (case hg => rfl); (case hr => first | (go_simp; done) | (go_simp; rfl)); intro gb190 hg w16 hbox hb; have BK190 := Aside0.mk (hbox); have GW190 := geB w hg; have GE190 := geB w hg; replace HB := Aside0.mk (below_step bel hb); clear hb hbox hg; obtain ⟨hcz17_0, hcz17_1, hfz17_0, hfz17_1⟩ := bq2 BK190) | ((with_reducible refine gate_callee (f := 33) rfl ?_); refine gL (some 6) Tryz.func33 #[.agg #[.int .i64 a0_0, .slice A0_1 l0_1.length c0_1]] ?_; (with_reducible refine (shape_Valid.calls k a0_0 _ _ l0_1 false _ ?side1 ?side2 A2.out).mono ?_); (case side1 => exact cS (Kd.C_below HR0_1.out HB.out)); (case side2 => exact HC0_1.out); rintro e w18 ⟨rfl, hb⟩; refine ⟨_, rfl, ?_⟩; replace BK190 := blB BK190 hb; replace HB := Aside0.mk (below_step bel hb); (try clear hb); (try clear hb2); (try clear hk); (try clear hi)))
  go_ret2
  exact ⟨eN, bel⟩
end Go.Proofs.YtfmpaofbnjlniaaGreatDoor.F
/- Same, Text and Parse at structures: what they answer. -/
namespace Go.Proofs.YtfmpaofbnjlniaaGreatDoor.F
open Go.RowKit Go.Proofs.YtfmpaofbnjlniaaGreatDoorW.PrintWords Go.Proofs.YtfmpaofbnjlniaaGreatDoorW.PrintLast Go.Proofs.YtfmpaofbnjlniaaGreatDoorW.PrintMore
set_option linter.unusedVariables false
theorem rdL2_nat (l : List (List Int)) (i : Nat) (h : i < l.length) : rd_L2 l (i : Int) = l[i] := by unfold rd_L2; rw [Int.toNat_natCast, List.getD_eq_getElem?_getD, List.getElem?_eq_getElem h]; rfl
theorem sameTuples_loop (l : List (List Int)) (hl : l.length ≤ 100000) (ht : ∀ t ∈ l, t.length ≤ 1000) : ∀ (d i k : Nat), i + d = l.length → d + 1101 ≤ k → paraphrastref01_SameTuples.l0 k l l (i : Int) = some true
  | 0, i, k + 1, h, hk => by unfold paraphrastref01_SameTuples.l0; rw [if_neg (by omega)]
  | d + 1, i, k + 1, h, hk => by
    have hi : i < l.length := by omega
    unfold paraphrastref01_SameTuples.l0
    rw [if_pos (by omega), if_pos (by omega), if_pos (by omega), rdL2_nat l i hi, equal_same _ (ht _ (List.getElem_mem hi)) k (by omega), w64 (by omega) (by omega), show (i : Int) + 1 = ((i + 1 : Nat) : Int) by omega, sameTuples_loop l hl ht d (i + 1) k (by omega) (by omega)]
    simp
theorem sameTuples_refl (l : List (List Int)) (hl : l.length ≤ 100000) (ht : ∀ t ∈ l, t.length ≤ 1000) (k : Nat) (hk : 101200 ≤ k) : paraphrastref01_SameTuples.f k l l = some true := by
  unfold paraphrastref01_SameTuples.f
  rw [if_pos rfl]
  exact sameTuples_loop l hl ht l.length 0 k (by omega) (by omega)
theorem same_loop (n : Int) (l : List S52) (hl : l.length ≤ 1000) (hr : ∀ r ∈ l, r.f2.length ≤ 100000 ∧ ∀ t ∈ r.f2, t.length ≤ 1000) : ∀ (d i k : Nat), i + d = l.length → d + 101201 ≤ k → paraphrastref01_Same.l0 k (i : Int) n l n l = some true
  | 0, i, k + 1, h, hk => by unfold paraphrastref01_Same.l0; rw [if_neg (by omega)]
  | d + 1, i, k + 1, h, hk => by
    have hi : i < l.length := by omega
    obtain ⟨h1, h2⟩ := hr _ (List.getElem_mem hi)
    unfold paraphrastref01_Same.l0
    rw [if_pos (by omega), if_pos (by omega), if_pos (by omega), if_pos rfl, if_pos rfl, rdT_nat l i hi, sameTuples_refl _ h1 h2 k (by omega), w64 (by omega) (by omega), show (i : Int) + 1 = ((i + 1 : Nat) : Int) by omega, same_loop n l hl hr d (i + 1) k (by omega) (by omega)]
    simp
theorem same_refl (n : Int) (l : List S52) (hl : l.length ≤ 1000) (hr : ∀ r ∈ l, r.f2.length ≤ 100000 ∧ ∀ t ∈ r.f2, t.length ≤ 1000) (k : Nat) (hk : 102300 ≤ k) : paraphrastref01_Same.f k n l n l = some true := by
  obtain ⟨k, rfl⟩ : ∃ k', k = k' + 1 := ⟨k - 1, by omega⟩
  unfold paraphrastref01_Same.f
  rw [if_pos rfl, bne_self_eq_false]
  unfold paraphrastref01_Same.j0
  dsimp only
  rw [if_neg (by simp)]
  exact same_loop n l hl hr l.length 0 k (by omega) (by omega)
theorem same_valid (n : Int) (l : List S52) (h : validB n l = true) (k : Nat) (hk : 102300 ≤ k) : paraphrastref01_Same.f k n l n l = some true := by
  obtain ⟨h1, h2, h3, h4⟩ := valid_facts n l h
  refine same_refl n l (by omega) (fun r hr => ?_) k hk
  obtain ⟨_, g1, g2, g3⟩ := h4 r hr
  exact ⟨by omega, fun t ht => by have := (g2 t ht).1; omega⟩
theorem mkB_size (l : List UInt8) : (mkB l).size = l.length := by show l.toArray.size = _; simp
theorem text_eq (n : Int) (l : List S52) (T : Nat) (hT : T ≤ 9223372036854775807) (hall : ∀ r ∈ l, r.f2.length ≤ T) (k : Nat) (hk : T + 300 ≤ k) :
    shape_Text.f k n l = some (if validB n l = true then if 40000 < (textL n l).length then (⟨#[]⟩, 5) else (mkB (textL n l), 0) else (⟨#[]⟩, 1)) := by
  unfold shape_Text.f
  rw [valid_eq n l T hT hall k hk, Option.bind_some]
  cases hv : validB n l with
  | false => rfl
  | true =>
    rw [if_pos rfl, if_pos rfl, write_valid n l hv, Option.bind_some, mkB_size]
    by_cases h : 40000 < (textL n l).length
    · rw [if_pos (by omega), if_pos h]
    · rw [if_neg (by omega), if_neg h]
theorem parse_back (n : Int) (l : List S52) (T : Nat) (hT : T ≤ 9223372036854775807) (hall : ∀ r ∈ l, r.f2.length ≤ T) (hv : validB n l = true) (hs : (textL n l).length ≤ 40000) (k : Nat) (hk : T + 300 ≤ k) :
    shape_Parse.f k (mkB (textL n l)) = some (n, l, 0) := by
  unfold shape_Parse.f
  rw [if_neg (by rw [mkB_size]; omega), parse_valid n l hv]
  unfold parseEnd
  simp only
  rw [valid_eq n l T hT hall k hk, hv, write_valid n l hv]
  simp
theorem relB_bound (x : ByteArray) (r : S52) (h : relB x = some r) : r.f2.length ≤ x.size := by
  unfold relB at h
  have hm := splitL_many x sepB (by decide)
  cases hs : splitL x sepB with
  | nil => rw [hs] at h; cases h
  | cons p0 ps =>
    rw [hs] at h hm
    simp only at h
    unfold relOf at h
    split at h
    · obtain ⟨a, _, h⟩ := Option.bind_eq_some_iff.1 h
      obtain ⟨ts, hts, rfl⟩ := Option.map_eq_some_iff.1 h
      have := tupsB_len hts
      simp only [List.length_cons] at hm
      simp only
      omega
    · cases h
theorem relsB_mem : ∀ (ps : List ByteArray) (l : List S52), relsB ps = some l → ∀ r ∈ l, ∃ x ∈ ps, relB x = some r
  | [], l, h, r, hr => by
    obtain rfl := Option.some.inj h
    cases hr
  | p :: ps, l, h, r, hr => by
    simp only [relsB] at h
    obtain ⟨t, ht, h⟩ := Option.bind_eq_some_iff.1 h
    obtain ⟨b, hb, rfl⟩ := Option.map_eq_some_iff.1 h
    rcases List.mem_cons.1 hr with rfl | hr
    · exact ⟨p, List.mem_cons_self, ht⟩
    · obtain ⟨x, hx, e⟩ := relsB_mem ps b hb r hr
      exact ⟨x, List.mem_cons_of_mem _ hx, e⟩
theorem parseB_bound (s : ByteArray) (n : Int) (l : List S52) (h : parseB s = some (n, l)) : ∀ r ∈ l, r.f2.length ≤ s.size := by
  unfold parseB at h
  cases hs : splitL s sepR with
  | nil => rw [hs] at h; cases h
  | cons p0 ps =>
    rw [hs] at h
    simp only at h
    obtain ⟨a, _, h⟩ := Option.bind_eq_some_iff.1 h
    obtain ⟨ts, hts, h⟩ := Option.map_eq_some_iff.1 h
    obtain ⟨rfl, rfl⟩ := Prod.mk.inj h
    intro r hr
    obtain ⟨x, hx, e⟩ := relsB_mem ps ts hts r hr
    exact Nat.le_trans (relB_bound x r e) (splitL_mem (by rw [hs]; exact List.mem_cons_of_mem _ hx))
/-- What Parse answers: the zero structure and ErrParse, or the valid structure whose text this is, and OK. -/
theorem parse_cases (s : ByteArray) : (∀ k, 50000 ≤ k → shape_Parse.f k s = some (0, [], 3)) ∨ ∃ n l, validB n l = true ∧ (textL n l).length ≤ 40000 ∧ s = mkB (textL n l) ∧ (∀ r ∈ l, r.f2.length ≤ 40000) ∧ ∀ k, 50000 ≤ k → shape_Parse.f k s = some (n, l, 0) := by
  by_cases c1 : (s.size : Int) > 40000
  · exact Or.inl fun k _ => by unfold shape_Parse.f; rw [if_pos c1]
  · cases hp : parseB s with
    | none => exact Or.inl fun k _ => by unfold shape_Parse.f; rw [if_neg c1, hp]; rfl
    | some p =>
      obtain ⟨n, l⟩ := p
      have hb : ∀ r ∈ l, r.f2.length ≤ 40000 := fun r hr => Nat.le_trans (parseB_bound s n l hp r hr) (by omega)
      have e : ∀ k, 50000 ≤ k → shape_Parse.f k s = if validB n l = true then (shape_write.f n l).bind fun t => if t.toList = s.toList then some (n, l, 0) else some (0, [], 3) else some (0, [], 3) := fun k hk => by
        unfold shape_Parse.f
        rw [if_neg c1, hp]
        unfold parseEnd
        simp only
        rw [valid_eq n l 40000 (by omega) hb k (by omega), Option.bind_some]
      cases hv : validB n l with
      | false => exact Or.inl fun k hk => by rw [e k hk, hv]; rfl
      | true =>
        rw [hv, write_valid n l hv] at e
        simp only [if_true, Option.bind_some] at e
        by_cases ht : (mkB (textL n l)).toList = s.toList
        · have hs := toList_inj ht
          refine Or.inr ⟨n, l, hv, ?_, hs.symm, hb, fun k hk => by rw [e k hk, if_pos ht]⟩
          rw [← mkB_size, hs]; omega
        · exact Or.inl fun k hk => by rw [e k hk, if_neg ht]
end Go.Proofs.YtfmpaofbnjlniaaGreatDoor.F
namespace Go.Proofs.YtfmpaofbnjlniaaGreatDoor.F
open Go.RowKit Go.Proofs.YtfmpaofbnjlniaaGreatDoorW.PrintWords Go.Proofs.YtfmpaofbnjlniaaGreatDoorW.PrintLast Go.Proofs.YtfmpaofbnjlniaaGreatDoorW.PrintMore
attribute [local go_sem] max2_int min2_int max_two min_two max_three min_three max_four min_four
set_option linter.unusedVariables false
set_option linter.unusedSimpArgs false
/-! ### paraphrastref01_number: function 51 -/
def paraphrastref01_number.j0 : Nat → ByteArray → Bool → Option (Int × ByteArray)
 | 0, _, _ => none
 | k + 1, x0, x4 => if x4 = true then (if 0 < (x0.size : Int) then (if 1 < (x0.size : Int) then (if 2 ≤ (x0.size : Int) then (some (((((bt x0 0) - 48) % 256) * 10) + (((bt x0 1) - 48) % 256), x0.extract 2 x0.size)) else (none)) else (none)) else (none)) else (if (x0.size : Int) > 0 then (if 0 < (x0.size : Int) then ((paraphrastref01_digit.f (bt x0 0)).bind fun t218 => (if t218 = true then (if 1 ≤ (x0.size : Int) then (some (((bt x0 0) - 48) % 256, x0.extract 1 x0.size)) else (none)) else (some ((-1), x0)))) else (none)) else (some ((-1), x0)))
def paraphrastref01_number.f (k : Nat) (a0 : ByteArray) : Option (Int × ByteArray) := if (a0.size : Int) > 1 then (if 0 < (a0.size : Int) then (if (bt a0 0) ≥ 49 then (if (bt a0 0) ≤ 57 then (if 1 < (a0.size : Int) then ((paraphrastref01_digit.f (bt a0 1)).bind fun t217 => (paraphrastref01_number.j0 k a0 t217)) else (none)) else (paraphrastref01_number.j0 k a0 false)) else (paraphrastref01_number.j0 k a0 false)) else (none)) else (paraphrastref01_number.j0 k a0 false)
set_option maxHeartbeats 8000000 in
set_option maxRecDepth 100000 in
theorem paraphrastref01_number.calls (k : Nat) (a0 : ByteArray) (r1 : Int) (r2 : ByteArray) (w : World) (h : paraphrastref01_number.f k a0 = some (r1, r2)) :
  Calls Tryz.prog 51 #[.string a0] w fun e w' => e = .returned (.tuple #[.int .i64 r1, .string r2]) ∧ Drawn0 w w' := by
 have H : (if (a0.size : Int) > 1 then (if 0 < (a0.size : Int) then (if (bt a0 0) ≥ 49 then (if (bt a0 0) ≤ 57 then (if 1 < (a0.size : Int) then ((paraphrastref01_digit.f (bt a0 1)).bind fun t217 => (paraphrastref01_number.j0 k a0 t217)) else (none)) else (paraphrastref01_number.j0 k a0 false)) else (paraphrastref01_number.j0 k a0 false)) else (none)) else (paraphrastref01_number.j0 k a0 false)) = some (r1, r2) := h
 clear h
 have HC2 := Aside0.mk H
 clear H
 go_enter Tryz.func51, Tryz.ntmps51
 go_upto_region 1 with (fail)
 repeat (go_quiet (fail); go_upto_region 1 with (fail))
 go_cut [4] (fun v4 wc => ∃ (kq : Nat) (x4_1 : Bool), v4 = .bool x4_1 ∧ Aside0 (paraphrastref01_number.j0 kq a0 x4_1 = some (r1, r2)) ∧ Aside0 (kq ≤ k) ∧ Drawn0 w wc)
 case first =>
  have H := HC2.out
  clear HC2
  by_cases c3 : (a0.size : Int) > 1
  ·rw [if_pos c3] at H
   have c3b0 : decide (1 < (a0.size : Int)) = true := decide_eq_true c3
   have c3b1 : decide (1 < a0.size) = true := decide_eq_true (by omega)
   clear c3
   (first | rw [c3b0] | (simp only [i64_w, i32_w]; rw [c3b0]) | skip)
   by_cases c4 : 0 < (a0.size : Int)
   ·rw [if_pos c4] at H
    have c4b0 : decide (0 < (a0.size : Int)) = true := decide_eq_true c4
    have c4b1 : decide (0 < a0.size) = true := decide_eq_true (by omega)
    clear c4
    by_cases c6 : (bt a0 0) ≥ 49
    ·rw [if_pos c6] at H
     have c6b0 : decide (49 ≤ (bt a0 0)) = true := decide_eq_true c6
     clear c6
     by_cases c8 : (bt a0 0) ≤ 57
     ·rw [if_pos c8] at H
      have c8b0 : decide ((bt a0 0) ≤ 57) = true := decide_eq_true c8
      clear c8
      by_cases c9 : 1 < (a0.size : Int)
      ·rw [if_pos c9] at H
       have c9b0 : decide (1 < (a0.size : Int)) = true := decide_eq_true c9
       have c9b1 : decide (1 < a0.size) = true := decide_eq_true (by omega)
       clear c9
       replace H := Option.bind_eq_some_iff.mp H
       obtain ⟨t217, A110, H⟩ := H
       replace H : (paraphrastref01_number.j0 k a0 t217) = some (r1, r2) := H
       have A11 := Aside0.mk A110
       clear A110
       have H' := Aside0.mk H
       clear H
       have p5 : 0 ≤ (0 : Int) := (by omega)
       have q5 : 0 < a0.size := (by have : (0 : Int) < (a0.size : Int) := dtr; omega)
       have hx5 : ∀ h : 0 < a0.size, ((a0[0]'h).toNat : Int) = bt a0 0 := bt_at a0 0
       clear p5
       have qi5 : (0 < (a0.size : Int)) = True := eq_true (dtr)
       replace q5 := eq_true q5
       have p7 : 0 ≤ (0 : Int) := (by omega)
       have q7 : 0 < a0.size := (by have : (0 : Int) < (a0.size : Int) := dtr; omega)
       have hx7 : ∀ h : 0 < a0.size, ((a0[0]'h).toNat : Int) = bt a0 0 := bt_at a0 0
       clear p7
       have qi7 : (0 < (a0.size : Int)) = True := eq_true (dtr)
       replace q7 := eq_true q7
       have p10 : 0 ≤ (1 : Int) := (by omega)
       have q10 : 1 < a0.size := (by have : (1 : Int) < (a0.size : Int) := dtr; omega)
       have hx10 : ∀ h : 1 < a0.size, ((a0[1]'h).toNat : Int) = bt a0 1 := bt_at a0 1
       clear p10
       have qi10 : (1 < (a0.size : Int)) = True := eq_true (dtr)
       replace q10 := eq_true q10
       go_wp2_with (first | (go_at_call 82; (with_reducible refine (paraphrastref01_digit.calls (bt a0 1) t217 _ A11.out).mono ?_); rintro e w' ⟨rfl, ⟨nd, rfl⟩⟩; (try first | exact ⟨rfl, _, World.drewN_drewN _ _ _⟩ | exact ⟨rfl, _, Eq.trans (World.drewN_drewN _ _ _) (congrArg (World.drewN _) (Nat.add_assoc _ _ _))⟩)))
       repeat (go_quiet (first | (go_at_call 82; (with_reducible refine (paraphrastref01_digit.calls (bt a0 1) t217 _ A11.out).mono ?_); rintro e w' ⟨rfl, ⟨nd, rfl⟩⟩; (try first | exact ⟨rfl, _, World.drewN_drewN _ _ _⟩ | exact ⟨rfl, _, Eq.trans (World.drewN_drewN _ _ _) (congrArg (World.drewN _) (Nat.add_assoc _ _ _))⟩))); try go_wp2_with (first | (go_at_call 82; (with_reducible refine (paraphrastref01_digit.calls (bt a0 1) t217 _ A11.out).mono ?_); rintro e w' ⟨rfl, ⟨nd, rfl⟩⟩; (try first | exact ⟨rfl, _, World.drewN_drewN _ _ _⟩ | exact ⟨rfl, _, Eq.trans (World.drewN_drewN _ _ _) (congrArg (World.drewN _) (Nat.add_assoc _ _ _))⟩))))
       go_meet
       case rel => exact ⟨_, (t217), eS, H', ⟨kle⟩, dr0⟩
      ·rw [if_neg c9] at H
       exact absurd H (by simp)
     ·rw [if_neg c8] at H
      have c8b0 : decide ((bt a0 0) ≤ 57) = false := decide_eq_false c8
      clear c8
      have H' := Aside0.mk H
      clear H
      have p5 : 0 ≤ (0 : Int) := (by omega)
      have q5 : 0 < a0.size := (by have : (0 : Int) < (a0.size : Int) := dtr; omega)
      have hx5 : ∀ h : 0 < a0.size, ((a0[0]'h).toNat : Int) = bt a0 0 := bt_at a0 0
      clear p5
      have qi5 : (0 < (a0.size : Int)) = True := eq_true (dtr)
      replace q5 := eq_true q5
      have p7 : 0 ≤ (0 : Int) := (by omega)
      have q7 : 0 < a0.size := (by have : (0 : Int) < (a0.size : Int) := dtr; omega)
      have hx7 : ∀ h : 0 < a0.size, ((a0[0]'h).toNat : Int) = bt a0 0 := bt_at a0 0
      clear p7
      have qi7 : (0 < (a0.size : Int)) = True := eq_true (dtr)
      replace q7 := eq_true q7
      go_wp2
      repeat (go_quiet (fail); try go_wp2)
      go_meet
      case rel => exact ⟨_, (false), eS, H', ⟨kle⟩, dr0⟩
    ·rw [if_neg c6] at H
     have c6b0 : decide (49 ≤ (bt a0 0)) = false := decide_eq_false c6
     clear c6
     have H' := Aside0.mk H
     clear H
     have p5 : 0 ≤ (0 : Int) := (by omega)
     have q5 : 0 < a0.size := (by have : (0 : Int) < (a0.size : Int) := dtr; omega)
     have hx5 : ∀ h : 0 < a0.size, ((a0[0]'h).toNat : Int) = bt a0 0 := bt_at a0 0
     clear p5
     have qi5 : (0 < (a0.size : Int)) = True := eq_true (dtr)
     replace q5 := eq_true q5
     go_wp2
     repeat (go_quiet (fail); try go_wp2)
     go_meet
     case rel => exact ⟨_, (false), eS, H', ⟨kle⟩, dr0⟩
   ·rw [if_neg c4] at H
    exact absurd H (by simp)
  ·rw [if_neg c3] at H
   have c3b0 : decide (1 < (a0.size : Int)) = false := decide_eq_false c3
   have c3b1 : decide (1 < a0.size) = false := decide_eq_false (by omega)
   clear c3
   (first | rw [c3b0] | (simp only [i64_w, i32_w]; rw [c3b0]) | skip)
   have H' := Aside0.mk H
   clear H
   go_wp2
   repeat (go_quiet (fail); try go_wp2)
   go_meet
   case rel => exact ⟨_, (false), eS, H', ⟨kle⟩, dr0⟩
 case rest =>
  clear HC2
  obtain ⟨kq, x4_1, rfl, HA, HJ1, ⟨mc1, rfl⟩⟩ := hcut
  cases kq with
  | zero => exact absurd HA.out (by simp [paraphrastref01_number.j0])
  | succ kj1 =>
   have H := HA.out
   clear HA
   simp only [paraphrastref01_number.j0] at H
   by_cases c12 : x4_1 = true
   ·subst c12
    have H1 : (if 0 < (a0.size : Int) then (if 1 < (a0.size : Int) then (if 2 ≤ (a0.size : Int) then (some (((((bt a0 0) - 48) % 256) * 10) + (((bt a0 1) - 48) % 256), a0.extract 2 a0.size)) else (none)) else (none)) else (none)) = some (r1, r2) := by rw [if_pos rfl] at H; exact H
    clear H
    have H := H1
    clear H1
    by_cases c13 : 0 < (a0.size : Int)
    ·rw [if_pos c13] at H
     have c13b0 : decide (0 < (a0.size : Int)) = true := decide_eq_true c13
     have c13b1 : decide (0 < a0.size) = true := decide_eq_true (by omega)
     clear c13
     by_cases c15 : 1 < (a0.size : Int)
     ·rw [if_pos c15] at H
      have c15b0 : decide (1 < (a0.size : Int)) = true := decide_eq_true c15
      have c15b1 : decide (1 < a0.size) = true := decide_eq_true (by omega)
      clear c15
      by_cases c17 : 2 ≤ (a0.size : Int)
      ·rw [if_pos c17] at H
       have c17b0 := eq_true c17
       have c17b1 : decide (2 ≤ (a0.size : Int)) = true := decide_eq_true c17
       clear c17
       simp only [Option.some.injEq, Prod.mk.injEq] at H
       obtain ⟨rfl, rfl⟩ := H
       have p14 : 0 ≤ (0 : Int) := (by omega)
       have q14 : 0 < a0.size := (by have : (0 : Int) < (a0.size : Int) := dtr; omega)
       have hx14 : ∀ h : 0 < a0.size, ((a0[0]'h).toNat : Int) = bt a0 0 := bt_at a0 0
       clear p14
       have qi14 : (0 < (a0.size : Int)) = True := eq_true (dtr)
       replace q14 := eq_true q14
       have p16 : 0 ≤ (1 : Int) := (by omega)
       have q16 : 1 < a0.size := (by have : (1 : Int) < (a0.size : Int) := dtr; omega)
       have hx16 : ∀ h : 1 < a0.size, ((a0[1]'h).toNat : Int) = bt a0 1 := bt_at a0 1
       clear p16
       have qi16 : (1 < (a0.size : Int)) = True := eq_true (dtr)
       replace q16 := eq_true q16
       go_wp2
       repeat (go_quiet (fail); try go_wp2)
       go_ret2
       exact ⟨eS, dr0⟩
      ·rw [if_neg c17] at H
       exact absurd H (by simp)
     ·rw [if_neg c15] at H
      exact absurd H (by simp)
    ·rw [if_neg c13] at H
     exact absurd H (by simp)
   ·replace c12 := Bool.eq_false_iff.mpr c12
    subst c12
    have H1 : (if (a0.size : Int) > 0 then (if 0 < (a0.size : Int) then ((paraphrastref01_digit.f (bt a0 0)).bind fun t218 => (if t218 = true then (if 1 ≤ (a0.size : Int) then (some (((bt a0 0) - 48) % 256, a0.extract 1 a0.size)) else (none)) else (some ((-1), a0)))) else (none)) else (some ((-1), a0))) = some (r1, r2) := by rw [if_neg (show ¬ (false = true) by decide)] at H; exact H
    clear H
    have H := H1
    clear H1
    by_cases c18 : (a0.size : Int) > 0
    ·rw [if_pos c18] at H
     have c18b0 : decide (0 < (a0.size : Int)) = true := decide_eq_true c18
     have c18b1 : decide (0 < a0.size) = true := decide_eq_true (by omega)
     clear c18
     by_cases c19 : 0 < (a0.size : Int)
     ·rw [if_pos c19] at H
      have c19b0 : decide (0 < (a0.size : Int)) = true := decide_eq_true c19
      have c19b1 : decide (0 < a0.size) = true := decide_eq_true (by omega)
      clear c19
      replace H := Option.bind_eq_some_iff.mp H
      obtain ⟨t218, A210, H⟩ := H
      replace H : (if t218 = true then (if 1 ≤ (a0.size : Int) then (some (((bt a0 0) - 48) % 256, a0.extract 1 a0.size)) else (none)) else (some ((-1), a0))) = some (r1, r2) := H
      have A21 := Aside0.mk A210
      clear A210
      by_cases c22 : t218 = true
      ·subst c22
       have H1 : (if 1 ≤ (a0.size : Int) then (some (((bt a0 0) - 48) % 256, a0.extract 1 a0.size)) else (none)) = some (r1, r2) := by rw [if_pos rfl] at H; exact H
       clear H
       have H := H1
       clear H1
       by_cases c24 : 1 ≤ (a0.size : Int)
       ·rw [if_pos c24] at H
        have c24b0 := eq_true c24
        have c24b1 : decide (1 ≤ (a0.size : Int)) = true := decide_eq_true c24
        clear c24
        simp only [Option.some.injEq, Prod.mk.injEq] at H
        obtain ⟨rfl, rfl⟩ := H
        have p20 : 0 ≤ (0 : Int) := (by omega)
        have q20 : 0 < a0.size := (by have : (0 : Int) < (a0.size : Int) := dtr; omega)
        have hx20 : ∀ h : 0 < a0.size, ((a0[0]'h).toNat : Int) = bt a0 0 := bt_at a0 0
        clear p20
        have qi20 : (0 < (a0.size : Int)) = True := eq_true (dtr)
        replace q20 := eq_true q20
        go_wp2_with (first | (go_at_call 82; (with_reducible refine (paraphrastref01_digit.calls (bt a0 0) true _ A21.out).mono ?_); rintro e w' ⟨rfl, ⟨nd, rfl⟩⟩; (try first | exact ⟨rfl, _, World.drewN_drewN _ _ _⟩ | exact ⟨rfl, _, Eq.trans (World.drewN_drewN _ _ _) (congrArg (World.drewN _) (Nat.add_assoc _ _ _))⟩); have p23 : 0 ≤ (0 : Int) := (by omega); have q23 : 0 < a0.size := (by have : (0 : Int) < (a0.size : Int) := dtr; omega); have hx23 : ∀ h : 0 < a0.size, ((a0[0]'h).toNat : Int) = bt a0 0 := bt_at a0 0; clear p23; have qi23 : (0 < (a0.size : Int)) = True := eq_true (dtr); replace q23 := eq_true q23))
        repeat (go_quiet (first | (go_at_call 82; (with_reducible refine (paraphrastref01_digit.calls (bt a0 0) true _ A21.out).mono ?_); rintro e w' ⟨rfl, ⟨nd, rfl⟩⟩; (try first | exact ⟨rfl, _, World.drewN_drewN _ _ _⟩ | exact ⟨rfl, _, Eq.trans (World.drewN_drewN _ _ _) (congrArg (World.drewN _) (Nat.add_assoc _ _ _))⟩); have p23 : 0 ≤ (0 : Int) := (by omega); have q23 : 0 < a0.size := (by have : (0 : Int) < (a0.size : Int) := dtr; omega); have hx23 : ∀ h : 0 < a0.size, ((a0[0]'h).toNat : Int) = bt a0 0 := bt_at a0 0; clear p23; have qi23 : (0 < (a0.size : Int)) = True := eq_true (dtr); replace q23 := eq_true q23)); try go_wp2_with (first | (go_at_call 82; (with_reducible refine (paraphrastref01_digit.calls (bt a0 0) true _ A21.out).mono ?_); rintro e w' ⟨rfl, ⟨nd, rfl⟩⟩; (try first | exact ⟨rfl, _, World.drewN_drewN _ _ _⟩ | exact ⟨rfl, _, Eq.trans (World.drewN_drewN _ _ _) (congrArg (World.drewN _) (Nat.add_assoc _ _ _))⟩); have p23 : 0 ≤ (0 : Int) := (by omega); have q23 : 0 < a0.size := (by have : (0 : Int) < (a0.size : Int) := dtr; omega); have hx23 : ∀ h : 0 < a0.size, ((a0[0]'h).toNat : Int) = bt a0 0 := bt_at a0 0; clear p23; have qi23 : (0 < (a0.size : Int)) = True := eq_true (dtr); replace q23 := eq_true q23)))
        go_ret2
        exact ⟨eS, dr0⟩
       ·rw [if_neg c24] at H
        exact absurd H (by simp)
      ·replace c22 := Bool.eq_false_iff.mpr c22
       subst c22
       have H1 : (some ((-1), a0)) = some (r1, r2) := by rw [if_neg (show ¬ (false = true) by decide)] at H; exact H
       clear H
       have H := H1
       clear H1
       simp only [Option.some.injEq, Prod.mk.injEq] at H
       obtain ⟨rfl, rfl⟩ := H
       have p20 : 0 ≤ (0 : Int) := (by omega)
       have q20 : 0 < a0.size := (by have : (0 : Int) < (a0.size : Int) := dtr; omega)
       have hx20 : ∀ h : 0 < a0.size, ((a0[0]'h).toNat : Int) = bt a0 0 := bt_at a0 0
       clear p20
       have qi20 : (0 < (a0.size : Int)) = True := eq_true (dtr)
       replace q20 := eq_true q20
       go_wp2_with (first | (go_at_call 82; (with_reducible refine (paraphrastref01_digit.calls (bt a0 0) false _ A21.out).mono ?_); rintro e w' ⟨rfl, ⟨nd, rfl⟩⟩; (try first | exact ⟨rfl, _, World.drewN_drewN _ _ _⟩ | exact ⟨rfl, _, Eq.trans (World.drewN_drewN _ _ _) (congrArg (World.drewN _) (Nat.add_assoc _ _ _))⟩)))
       repeat (go_quiet (first | (go_at_call 82; (with_reducible refine (paraphrastref01_digit.calls (bt a0 0) false _ A21.out).mono ?_); rintro e w' ⟨rfl, ⟨nd, rfl⟩⟩; (try first | exact ⟨rfl, _, World.drewN_drewN _ _ _⟩ | exact ⟨rfl, _, Eq.trans (World.drewN_drewN _ _ _) (congrArg (World.drewN _) (Nat.add_assoc _ _ _))⟩))); try go_wp2_with (first | (go_at_call 82; (with_reducible refine (paraphrastref01_digit.calls (bt a0 0) false _ A21.out).mono ?_); rintro e w' ⟨rfl, ⟨nd, rfl⟩⟩; (try first | exact ⟨rfl, _, World.drewN_drewN _ _ _⟩ | exact ⟨rfl, _, Eq.trans (World.drewN_drewN _ _ _) (congrArg (World.drewN _) (Nat.add_assoc _ _ _))⟩))))
       go_ret2
       exact ⟨eS, dr0⟩
     ·rw [if_neg c19] at H
      exact absurd H (by simp)
    ·rw [if_neg c18] at H
     have c18b0 : decide (0 < (a0.size : Int)) = false := decide_eq_false c18
     have c18b1 : decide (0 < a0.size) = false := decide_eq_false (by omega)
     clear c18
     simp only [Option.some.injEq, Prod.mk.injEq] at H
     obtain ⟨rfl, rfl⟩ := H
     go_wp2
     repeat (go_quiet (fail); try go_wp2)
     go_ret2
     exact ⟨eS, dr0⟩
end Go.Proofs.YtfmpaofbnjlniaaGreatDoor.F
namespace Go.Proofs.YtfmpaofbnjlniaaGreatDoor.F
open Go.RowKit Go.Proofs.YtfmpaofbnjlniaaGreatDoorW.PrintWords Go.Proofs.YtfmpaofbnjlniaaGreatDoorW.PrintLast Go.Proofs.YtfmpaofbnjlniaaGreatDoorW.PrintMore
attribute [local go_sem] max2_int min2_int max_two min_two max_three min_three max_four min_four
set_option linter.unusedVariables false
set_option linter.unusedSimpArgs false
/-! ### paraphrastref01_tuple: function 52 -/
mutual
def paraphrastref01_tuple.l0 : Nat → ByteArray → Int → List Int → Int → Option (List Int × ByteArray × Bool)
 | 0, _, _, _, _ => none
 | k + 1, x0, x1, x7, x8 => if x8 < x1 then (if x8 > 0 then (if x0.toList = ([] : List UInt8) then (paraphrastref01_tuple.j1 k x0 x1 x7 x8 true) else (if 0 < (x0.size : Int) then (paraphrastref01_tuple.j1 k x0 x1 x7 x8 ((bt x0 0) != 44)) else (none))) else ((paraphrastref01_number.f k x0).bind fun bt227 => (if bt227.1 < 0 then (some (([] : List Int), bt227.2, false)) else (if x7.length < 17592186044416 then (paraphrastref01_tuple.l0 k bt227.2 x1 (x7 ++ [bt227.1]) (wrap64 (x8 + 1))) else (none))))) else (some (x7, x0, true))
def paraphrastref01_tuple.j1 : Nat → ByteArray → Int → List Int → Int → Bool → Option (List Int × ByteArray × Bool)
 | 0, _, _, _, _, _ => none
 | k + 1, x0, x1, x7, x8, x37 => if x37 = true then (some (([] : List Int), x0, false)) else (if 1 ≤ (x0.size : Int) then ((paraphrastref01_number.f k (x0.extract 1 x0.size)).bind fun bt222 => (if bt222.1 < 0 then (some (([] : List Int), bt222.2, false)) else (if x7.length < 17592186044416 then (paraphrastref01_tuple.l0 k bt222.2 x1 (x7 ++ [bt222.1]) (wrap64 (x8 + 1))) else (none)))) else (none))
end
def paraphrastref01_tuple.f (k : Nat) (a0 : ByteArray) (a1 : Int) : Option (List Int × ByteArray × Bool) := if a1 = 0 then (if (a0.size : Int) < 2 then (some (([] : List Int), a0, false)) else (if 0 ≤ 2 then (if 2 ≤ (a0.size : Int) then (if (a0.extract 0 2).toList = ([40, 41] : List UInt8) then (some ((([] : List Int)), a0.extract 2 a0.size, true)) else (some (([] : List Int), a0, false))) else (none)) else (none))) else (paraphrastref01_tuple.l0 k a0 a1 ([] : List Int) 0)
set_option maxHeartbeats 8000000 in
set_option maxRecDepth 100000 in
theorem paraphrastref01_tuple.calls (k : Nat) (a0 : ByteArray) (a1 : Int) (r1 : List Int) (r2 : ByteArray) (r3 : Bool) (w : World) (h : paraphrastref01_tuple.f k a0 a1 = some (r1, r2, r3)) :
  Calls Tryz.prog 52 #[.string a0, .int .i64 a1] w fun e w' => ∃ v0_ : Value, e = .returned (.tuple #[v0_, .string r2, .bool r3]) ∧ Kd.R (Kd.int .i64) 3 w' w.heap.size (fun _ => True) v0_ r1 ∧ Below w.heap.size w w' := by
 have HB := Aside0.mk (Below.refl w.heap.size w)
 have H : (if a1 = 0 then (if (a0.size : Int) < 2 then (some (([] : List Int), a0, false)) else (if 0 ≤ 2 then (if 2 ≤ (a0.size : Int) then (if (a0.extract 0 2).toList = ([40, 41] : List UInt8) then (some ((([] : List Int)), a0.extract 2 a0.size, true)) else (some (([] : List Int), a0, false))) else (none)) else (none))) else (paraphrastref01_tuple.l0 k a0 a1 ([] : List Int) 0)) = some (r1, r2, r3) := h
 clear h
 by_cases c3 : a1 = 0
 ·rw [if_pos c3] at H
  have c3b0 : (a1 == 0) = true := beq_iff_eq.mpr c3
  have c3b1 : (a1 != 0) = false := bne_eq_false_iff_eq.mpr c3
  clear c3
  by_cases c4 : (a0.size : Int) < 2
  ·rw [if_pos c4] at H
   have c4b0 : decide ((a0.size : Int) < 2) = true := decide_eq_true c4
   have c4b1 : decide (a0.size < 2) = true := decide_eq_true (by omega)
   clear c4
   simp only [Option.some.injEq, Prod.mk.injEq] at H
   obtain ⟨rfl, rfl, rfl⟩ := H
   go_enter Tryz.func52, Tryz.ntmps52
   go_wp2
   go_ret3
   exact ⟨_, eN, by first | exact Kd.R_nil _ _ _ _ _ | exact Kd.N_nil _ _ _ _ _ | exact Kd.V_nil _ _ _ _ _ | exact Kd.Q_nil _ _ _ _ _ | exact Kd.S_nil _ _ _ _ _, bel⟩
  ·rw [if_neg c4] at H
   have c4b0 : decide ((a0.size : Int) < 2) = false := decide_eq_false c4
   have c4b1 : decide (a0.size < 2) = false := decide_eq_false (by omega)
   clear c4
   by_cases c5 : 0 ≤ 2
   ·rw [if_pos c5] at H
    have c5b0 := eq_true c5
    have c5b1 : decide (0 ≤ 2) = true := decide_eq_true c5
    clear c5
    by_cases c6 : 2 ≤ (a0.size : Int)
    ·rw [if_pos c6] at H
     have c6b0 := eq_true c6
     have c6b1 : decide (2 ≤ (a0.size : Int)) = true := decide_eq_true c6
     clear c6
     by_cases c7 : (a0.extract 0 2).toList = ([40, 41] : List UInt8)
     ·rw [if_pos c7] at H
      have c7b0 : ((a0.extract 0 2).toList == ([40, 41] : List UInt8)) = true := beq_iff_eq.mpr c7
      have c7b1 : ((a0.extract 0 2).toList != ([40, 41] : List UInt8)) = false := bne_eq_false_iff_eq.mpr c7
      clear c7
      obtain ⟨y219, hy219⟩ : ∃ y_ : List Int, y_ = (([] : List Int)) := ⟨_, rfl⟩
      replace H : (some (y219, a0.extract 2 a0.size, true)) = some (r1, r2, r3) := by first | (rw [hy219]; with_reducible exact H) | (have H2_ := (Option.bind_some _ _).symm.trans H; rw [hy219]; with_reducible exact H2_) | (have H2_ := (Option.bind_some _ _).symm.trans H; with_reducible exact H2_) | with_reducible exact H | (rw [hy219]; exact H) | exact H
      have Ny219 := Aside0.mk hy219
      clear hy219
      have c8b0 := eq_true (dtr : 2 ≤ (a0.size : Int))
      simp only [Option.some.injEq, Prod.mk.injEq] at H
      obtain ⟨rfl, rfl, rfl⟩ := H
      go_enter Tryz.func52, Tryz.ntmps52
      try go_wp2
      replace HB := Aside0.mk (below_drew1 HB.out)
      refine start_ (n := 6) (S := fun w' => True) (ds := []) #[false, false, false, false, false, false] (by kernel_rfl) rfl rfl trivial (fun hHeld => ?_)
      generalize w.drew = w9 at HB hHeld ⊢
      refine pure_ (i := 1) (N := some 22) (v := ?_) (a' := ?_) #[false, true, false, false, false, false] rfl rfl (by kernel_rfl) (fun _ _ _ h => h) (Or.inl ⟨by rfl, ?_⟩) ?_ ?_
      rotate_left
      ·intro w'
       go_simp
       with_reducible rfl
      rotate_left
      ·simp only [Act.put, List.setIfInBounds_toArray, List.set_cons_zero, List.set_cons_succ, i64_w, i32_w]
       rfl
      refine pure_ (i := 2) (N := some 23) (v := ?_) (a' := ?_) #[false, true, true, false, false, false] rfl rfl (by kernel_rfl) (fun _ _ _ h => h) (Or.inl ⟨by rfl, ?_⟩) ?_ ?_
      rotate_left
      ·intro w'
       go_simp
       with_reducible rfl
      rotate_left
      ·simp only [Act.put, List.setIfInBounds_toArray, List.set_cons_zero, List.set_cons_succ, i64_w, i32_w]
       rfl
      refine one_ (i := 0) (N := some 21) #[true, true, true, false, false, false] rfl rfl (by kernel_rfl) (by decide) (fun K hK => ?_)
      refine Kd.R_lit_step (Kd.int .i64) _ 3 ?hg (N := 21) ?hd (xs := ([] : List Int)) (inner := []) (ok := fun _ => True) (okp := fun _ => True) ?hr ?hp (fun _ hk => hk) trivial (Below.refl _ _) (Nat.le_refl _) (by simp) ?_; (case hd => rfl); (case hg => rfl); (case hr => first | (go_simp; done) | (go_simp; rfl)); (case hp => exact (Reps.none _ _))
      intro v220 w10 ho11 hb hg_ hnew_
      clear hg_ hnew_
      (first | rw [← Ny219.out] at ho11 | (simp only [Int.reduceToNat] at ho11; rw [← Ny219.out] at ho11))
      have HO221 := Aside0.mk (Kd.R_lower ho11 (below_size bel))
      replace HB := Aside0.mk (below_step bel hb)
      clear hb ho11
      refine hK.out _ _ trivial (fun hHeld => ?_)
      clear hK K
      refine norm_ (a' := ?_) ?_ ?_
      rotate_left
      ·show Act.put _ (some 21) _ = _
       simp only [Act.put, List.setIfInBounds_toArray, List.set_cons_zero, List.set_cons_succ, i64_w, i32_w]
       rfl
      refine pure_ (i := 3) (N := some 4) (v := ?_) (a' := ?_) #[true, true, true, true, false, false] rfl rfl (by kernel_rfl) (fun _ _ _ h => h) (Or.inl ⟨by rfl, ?_⟩) ?_ ?_
      rotate_left
      ·intro w'
       go_simp
       with_reducible rfl
      rotate_left
      ·simp only [Act.put, List.setIfInBounds_toArray, List.set_cons_zero, List.set_cons_succ, i64_w, i32_w]
       rfl
      refine pure_ (i := 4) (N := some 5) (v := ?_) (a' := ?_) #[true, true, true, true, true, false] rfl rfl (by kernel_rfl) (fun _ _ _ h => h) (Or.inl ⟨by rfl, ?_⟩) ?_ ?_
      rotate_left
      ·intro w'
       go_simp
       with_reducible rfl
      rotate_left
      ·simp only [Act.put, List.setIfInBounds_toArray, List.set_cons_zero, List.set_cons_succ, i64_w, i32_w]
       rfl
      refine pure_ (i := 5) (N := some 6) (v := ?_) (a' := ?_) #[true, true, true, true, true, true] rfl rfl (by kernel_rfl) (fun _ _ _ h => h) (Or.inl ⟨by rfl, ?_⟩) ?_ ?_
      rotate_left
      ·intro w'
       go_simp
       with_reducible rfl
      rotate_left
      ·simp only [Act.put, List.setIfInBounds_toArray, List.set_cons_zero, List.set_cons_succ, i64_w, i32_w]
       rfl
      refine done_ (by kernel_rfl) ?_
      try go_wp2
      go_ret3
      exact ⟨_, eN, by (with_reducible repeat (first | apply Kd.R_alloc | apply Kd.R_drewN | apply Kd.R_drew)); exact HO221.out, bel⟩
     ·rw [if_neg c7] at H
      have c7b0 : ((a0.extract 0 2).toList == ([40, 41] : List UInt8)) = false := beq_eq_false_iff_ne.mpr c7
      have c7b1 : ((a0.extract 0 2).toList != ([40, 41] : List UInt8)) = true := bne_iff_ne.mpr c7
      simp only [Option.some.injEq, Prod.mk.injEq] at H
      obtain ⟨rfl, rfl, rfl⟩ := H
      go_enter Tryz.func52, Tryz.ntmps52
      go_wp2
      go_ret3
      exact ⟨_, eN, by first | exact Kd.R_nil _ _ _ _ _ | exact Kd.N_nil _ _ _ _ _ | exact Kd.V_nil _ _ _ _ _ | exact Kd.Q_nil _ _ _ _ _ | exact Kd.S_nil _ _ _ _ _, bel⟩
    ·rw [if_neg c6] at H
     exact absurd H (by simp)
   ·rw [if_neg c5] at H
    exact absurd H (by simp)
 ·rw [if_neg c3] at H
  have c3b0 : (a1 == 0) = false := beq_eq_false_iff_ne.mpr c3
  have c3b1 : (a1 != 0) = true := bne_iff_ne.mpr c3
  have H' := Aside0.mk H
  clear H
  go_enter Tryz.func52, Tryz.ntmps52
  go_wp2
  go_loopg [0, 7, 8] k (fun kq v0 v7 v8 w' => ∃ (x0_1 : ByteArray) (x7_1 : List Int) (x8_1 : Int), v0 = .string x0_1 ∧ v8 = .int .i64 x8_1 ∧ Aside0 (paraphrastref01_tuple.l0 kq x0_1 a1 x7_1 x8_1 = some (r1, r2, r3)) ∧ Aside0 (kq ≤ k) ∧ Aside0 (Kd.R (Kd.int .i64) 3 w' w.heap.size (fun _ => True) v7 x7_1) ∧ Aside0 (Below w.heap.size w w'))
  case atStart => exact ⟨(a0), (([] : List Int)), (0), eS, eS, H', ⟨Nat.le_refl _⟩, ⟨by first | exact Kd.R_nil _ _ _ _ _ | exact Kd.N_nil _ _ _ _ _ | exact Kd.V_nil _ _ _ _ _ | exact Kd.Q_nil _ _ _ _ _ | exact Kd.S_nil _ _ _ _ _⟩, ⟨bel⟩⟩
  case round =>
   clear H'
   (try clear c3); (try clear c3b0); (try clear c3b1)
   obtain ⟨x0_1, x7_1, x8_1, rfl, rfl, HA, HK1, HO_7, HB⟩ := hrel
   cases gk with
   | zero => exact absurd HA.out (by simp [paraphrastref01_tuple.l0])
   | succ k1 =>
    have H := HA.out
    clear HA
    simp only [paraphrastref01_tuple.l0] at H
    by_cases c12 : x8_1 < a1
    ·rw [if_pos c12] at H
     have c12b0 : decide (x8_1 < a1) = true := decide_eq_true c12
     clear c12
     by_cases c13 : x8_1 > 0
     ·rw [if_pos c13] at H
      have c13b0 : decide (0 < x8_1) = true := decide_eq_true c13
      clear c13
      have HC14 := Aside0.mk H
      clear H
      go_upto_region 10 with (fail)
      go_cut [37] (fun v37 wc => ∃ (kq : Nat) (x37_13 : Bool), v37 = .bool x37_13 ∧ Aside0 (paraphrastref01_tuple.j1 kq x0_1 a1 x7_1 x8_1 x37_13 = some (r1, r2, r3)) ∧ Aside0 (kq ≤ k1) ∧ Aside0 (Kd.R (Kd.int .i64) 3 wc w.heap.size (fun _ => True) u7 x7_1) ∧ Aside0 (Below w.heap.size w wc))
      case first =>
       have H := HC14.out
       clear HC14
       by_cases c15 : x0_1.toList = ([] : List UInt8)
       ·rw [if_pos c15] at H
        have c15b0 : (x0_1.toList == ([] : List UInt8)) = true := beq_iff_eq.mpr c15
        have c15b1 : (x0_1.toList != ([] : List UInt8)) = false := bne_eq_false_iff_eq.mpr c15
        clear c15
        (first | rw [c15b0] | (simp only [i64_w, i32_w]; rw [c15b0]) | skip)
        have H' := Aside0.mk H
        clear H
        go_wp2
        go_meet
        case rel => exact ⟨_, (true), eS, H', ⟨by have := HK1.out; first | omega | exact Nat.le_refl _⟩, ⟨by (with_reducible repeat (first | apply Kd.R_alloc | apply Kd.R_drewN | apply Kd.R_drew)); exact HO_7.out⟩, ⟨bel⟩⟩
       ·rw [if_neg c15] at H
        have c15b0 : (x0_1.toList == ([] : List UInt8)) = false := beq_eq_false_iff_ne.mpr c15
        have c15b1 : (x0_1.toList != ([] : List UInt8)) = true := bne_iff_ne.mpr c15
        (first | rw [c15b0] | (simp only [i64_w, i32_w]; rw [c15b0]) | skip)
        by_cases c16 : 0 < (x0_1.size : Int)
        ·rw [if_pos c16] at H
         have c16b0 : decide (0 < (x0_1.size : Int)) = true := decide_eq_true c16
         have c16b1 : decide (0 < x0_1.size) = true := decide_eq_true (by omega)
         clear c16
         have H' := Aside0.mk H
         clear H
         have p17 : 0 ≤ (0 : Int) := (by omega)
         have q17 : 0 < x0_1.size := (by have : (0 : Int) < (x0_1.size : Int) := dtr; omega)
         have hx17 : ∀ h : 0 < x0_1.size, ((x0_1[0]'h).toNat : Int) = bt x0_1 0 := bt_at x0_1 0
         clear p17
         have qi17 : (0 < (x0_1.size : Int)) = True := eq_true (dtr)
         replace q17 := eq_true q17
         go_wp2
         go_meet
         case rel => exact ⟨_, (((bt x0_1 0) != 44)), eS, H', ⟨by have := HK1.out; first | omega | exact Nat.le_refl _⟩, ⟨by (with_reducible repeat (first | apply Kd.R_alloc | apply Kd.R_drewN | apply Kd.R_drew)); exact HO_7.out⟩, ⟨bel⟩⟩
        ·rw [if_neg c16] at H
         exact absurd H (by simp)
      case rest =>
       clear HC14
       (try clear c3); (try clear c3b0); (try clear c3b1); (try clear c12); (try clear c12b0); (try clear c13); (try clear c13b0)
       obtain ⟨kq, x37_13, rfl, HA, HJ13, HO_7, HB⟩ := hcut
       cases kq with
       | zero => exact absurd HA.out (by simp [paraphrastref01_tuple.j1])
       | succ kj13 =>
        have H := HA.out
        clear HA
        simp only [paraphrastref01_tuple.j1] at H
        by_cases c18 : x37_13 = true
        ·subst c18
         have H1 : (some (([] : List Int), x0_1, false)) = some (r1, r2, r3) := by rw [if_pos rfl] at H; exact H
         clear H
         have H := H1
         clear H1
         simp only [Option.some.injEq, Prod.mk.injEq] at H
         obtain ⟨rfl, rfl, rfl⟩ := H
         go_wp2
         go_ret3
         exact ⟨_, eN, by first | exact Kd.R_nil _ _ _ _ _ | exact Kd.N_nil _ _ _ _ _ | exact Kd.V_nil _ _ _ _ _ | exact Kd.Q_nil _ _ _ _ _ | exact Kd.S_nil _ _ _ _ _, bel⟩
        ·replace c18 := Bool.eq_false_iff.mpr c18
         subst c18
         have H1 : (if 1 ≤ (x0_1.size : Int) then ((paraphrastref01_number.f kj13 (x0_1.extract 1 x0_1.size)).bind fun bt222 => (if bt222.1 < 0 then (some (([] : List Int), bt222.2, false)) else (if x7_1.length < 17592186044416 then (paraphrastref01_tuple.l0 kj13 bt222.2 a1 (x7_1 ++ [bt222.1]) (wrap64 (x8_1 + 1))) else (none)))) else (none)) = some (r1, r2, r3) := by rw [if_neg (show ¬ (false = true) by decide)] at H; exact H
         clear H
         have H := H1
         clear H1
         by_cases c19 : 1 ≤ (x0_1.size : Int)
         ·rw [if_pos c19] at H
          have c19b0 := eq_true c19
          have c19b1 : decide (1 ≤ (x0_1.size : Int)) = true := decide_eq_true c19
          clear c19
          replace H := Option.bind_eq_some_iff.mp H
          obtain ⟨⟨t222, t223⟩, A200, H⟩ := H
          replace H : (if t222 < 0 then (some (([] : List Int), t223, false)) else (if x7_1.length < 17592186044416 then (paraphrastref01_tuple.l0 kj13 t223 a1 (x7_1 ++ [t222]) (wrap64 (x8_1 + 1))) else (none))) = some (r1, r2, r3) := H
          have A20 := Aside0.mk A200
          clear A200
          by_cases c21 : t222 < 0
          ·rw [if_pos c21] at H
           have c21b0 : decide (t222 < 0) = true := decide_eq_true c21
           clear c21
           simp only [Option.some.injEq, Prod.mk.injEq] at H
           obtain ⟨rfl, rfl, rfl⟩ := H
           go_wp2_with (first | ((with_reducible refine gate_callee (f := 51) rfl ?_); refine gL (some 43) Tryz.func51 #[.string (x0_1.extract 1 x0_1.size)] ?_; (with_reducible refine (paraphrastref01_number.calls kj13 (x0_1.extract 1 x0_1.size) t222 t223 _ A20.out).mono ?_); rintro e w' ⟨rfl, ⟨nd, rfl⟩⟩; refine ⟨_, rfl, ?_⟩))
           go_ret3
           exact ⟨_, eN, by first | exact Kd.R_nil _ _ _ _ _ | exact Kd.N_nil _ _ _ _ _ | exact Kd.V_nil _ _ _ _ _ | exact Kd.Q_nil _ _ _ _ _ | exact Kd.S_nil _ _ _ _ _, bel⟩
          ·rw [if_neg c21] at H
           have c21b0 : decide (t222 < 0) = false := decide_eq_false c21
           clear c21
           by_cases c22 : x7_1.length < 17592186044416
           ·rw [if_pos c22] at H
            have LMc22 := Aside0.mk c22
            clear c22
            obtain ⟨y224, hy224⟩ : ∃ y_ : List Int, y_ = (x7_1 ++ [t222]) := ⟨_, rfl⟩
            replace H : (paraphrastref01_tuple.l0 kj13 t223 a1 y224 (wrap64 (x8_1 + 1))) = some (r1, r2, r3) := by first | (rw [hy224]; with_reducible exact H) | (have H2_ := (Option.bind_some _ _).symm.trans H; rw [hy224]; with_reducible exact H2_) | (have H2_ := (Option.bind_some _ _).symm.trans H; with_reducible exact H2_) | with_reducible exact H | (rw [hy224]; exact H) | exact H
            have Ny224 := Aside0.mk hy224
            clear hy224
            have H' := Aside0.mk H
            clear H
            go_wp2_with (first | ((with_reducible refine gate_callee (f := 51) rfl ?_); refine gL (some 43) Tryz.func51 #[.string (x0_1.extract 1 x0_1.size)] ?_; (with_reducible refine (paraphrastref01_number.calls kj13 (x0_1.extract 1 x0_1.size) t222 t223 _ A20.out).mono ?_); rintro e w' ⟨rfl, ⟨nd, rfl⟩⟩; refine ⟨_, rfl, ?_⟩) | ((with_reducible refine gate_builtin (b := .append) (xs := #[.tmp 49, .tmp 51]) rfl ?_); at_builtin; refine Kd.R_append (Kd.int .i64) (w0 := w) w.heap.size rfl (.tmp 49) (.tmp 51) 46 3 (.int .i64 0) 8 rfl Tryz.underlying46 info3 rfl (by decide) (by omega) u7 x7_1 t222 [.int .i64 t222] (fun _ => True) (fun _ => False) rfl rfl ?aP (fun _ hk => hk.elim) ?aF ?aO ?aB ?aS ?aL ?_; (case aP => exact rfl); (case aB => exact bel); (case aF => exact (fun _ _ => trivial)); (case aO => exact (tw HO_7.out)); (case aS => exact (below_size bel)); (case aL => have := LMc22.out; omega); intro v225 w23 ho hb hg hat; rw [← Ny224.out] at ho; have HO226 := Aside0.mk (ho); replace HB := Aside0.mk (hb); clear HO_7; clear ho hb hg hat))
            go_roundg kj13
            case measure => have := HK1.out; have := HJ13.out; omega
            case rel => exact ⟨(t223), (y224), (wrap64 (x8_1 + 1)), eS, eS, H', ⟨by have := HK1.out; have := HJ13.out; omega⟩, ⟨by (with_reducible repeat (first | apply Kd.R_alloc | apply Kd.R_drewN | apply Kd.R_drew)); exact HO226.out⟩, ⟨bel⟩⟩
           ·rw [if_neg c22] at H
            exact absurd H (by simp)
         ·rw [if_neg c19] at H
          exact absurd H (by simp)
     ·rw [if_neg c13] at H
      have c13b0 : decide (0 < x8_1) = false := decide_eq_false c13
      clear c13
      replace H := Option.bind_eq_some_iff.mp H
      obtain ⟨⟨t227, t228⟩, A240, H⟩ := H
      replace H : (if t227 < 0 then (some (([] : List Int), t228, false)) else (if x7_1.length < 17592186044416 then (paraphrastref01_tuple.l0 k1 t228 a1 (x7_1 ++ [t227]) (wrap64 (x8_1 + 1))) else (none))) = some (r1, r2, r3) := H
      have A24 := Aside0.mk A240
      clear A240
      by_cases c25 : t227 < 0
      ·rw [if_pos c25] at H
       have c25b0 : decide (t227 < 0) = true := decide_eq_true c25
       clear c25
       simp only [Option.some.injEq, Prod.mk.injEq] at H
       obtain ⟨rfl, rfl, rfl⟩ := H
       go_wp2_with (first | ((with_reducible refine gate_callee (f := 51) rfl ?_); refine gL (some 43) Tryz.func51 #[.string x0_1] ?_; (with_reducible refine (paraphrastref01_number.calls k1 x0_1 t227 t228 _ A24.out).mono ?_); rintro e w' ⟨rfl, ⟨nd, rfl⟩⟩; refine ⟨_, rfl, ?_⟩))
       go_ret3
       exact ⟨_, eN, by first | exact Kd.R_nil _ _ _ _ _ | exact Kd.N_nil _ _ _ _ _ | exact Kd.V_nil _ _ _ _ _ | exact Kd.Q_nil _ _ _ _ _ | exact Kd.S_nil _ _ _ _ _, bel⟩
      ·rw [if_neg c25] at H
       have c25b0 : decide (t227 < 0) = false := decide_eq_false c25
       clear c25
       by_cases c26 : x7_1.length < 17592186044416
       ·rw [if_pos c26] at H
        have LMc26 := Aside0.mk c26
        clear c26
        obtain ⟨y229, hy229⟩ : ∃ y_ : List Int, y_ = (x7_1 ++ [t227]) := ⟨_, rfl⟩
        replace H : (paraphrastref01_tuple.l0 k1 t228 a1 y229 (wrap64 (x8_1 + 1))) = some (r1, r2, r3) := by first | (rw [hy229]; with_reducible exact H) | (have H2_ := (Option.bind_some _ _).symm.trans H; rw [hy229]; with_reducible exact H2_) | (have H2_ := (Option.bind_some _ _).symm.trans H; with_reducible exact H2_) | with_reducible exact H | (rw [hy229]; exact H) | exact H
        have Ny229 := Aside0.mk hy229
        clear hy229
        have H' := Aside0.mk H
        clear H
        go_wp2_with (first | ((with_reducible refine gate_callee (f := 51) rfl ?_); refine gL (some 43) Tryz.func51 #[.string x0_1] ?_; (with_reducible refine (paraphrastref01_number.calls k1 x0_1 t227 t228 _ A24.out).mono ?_); rintro e w' ⟨rfl, ⟨nd, rfl⟩⟩; refine ⟨_, rfl, ?_⟩) | ((with_reducible refine gate_builtin (b := .append) (xs := #[.tmp 49, .tmp 51]) rfl ?_); at_builtin; refine Kd.R_append (Kd.int .i64) (w0 := w) w.heap.size rfl (.tmp 49) (.tmp 51) 46 3 (.int .i64 0) 8 rfl Tryz.underlying46 info3 rfl (by decide) (by omega) u7 x7_1 t227 [.int .i64 t227] (fun _ => True) (fun _ => False) rfl rfl ?aP (fun _ hk => hk.elim) ?aF ?aO ?aB ?aS ?aL ?_; (case aP => exact rfl); (case aB => exact bel); (case aF => exact (fun _ _ => trivial)); (case aO => exact (tw HO_7.out)); (case aS => exact (below_size bel)); (case aL => have := LMc26.out; omega); intro v230 w27 ho hb hg hat; rw [← Ny229.out] at ho; have HO231 := Aside0.mk (ho); replace HB := Aside0.mk (hb); clear HO_7; clear ho hb hg hat))
        go_roundg k1
        case measure => have := HK1.out; omega
        case rel => exact ⟨(t228), (y229), (wrap64 (x8_1 + 1)), eS, eS, H', ⟨by have := HK1.out; omega⟩, ⟨by (with_reducible repeat (first | apply Kd.R_alloc | apply Kd.R_drewN | apply Kd.R_drew)); exact HO231.out⟩, ⟨bel⟩⟩
       ·rw [if_neg c26] at H
        exact absurd H (by simp)
    ·rw [if_neg c12] at H
     have c12b0 : decide (x8_1 < a1) = false := decide_eq_false c12
     clear c12
     simp only [Option.some.injEq, Prod.mk.injEq] at H
     obtain ⟨rfl, rfl, rfl⟩ := H
     go_wp2
     go_ret3
     exact ⟨_, eN, by (with_reducible repeat (first | apply Kd.R_alloc | apply Kd.R_drewN | apply Kd.R_drew)); exact HO_7.out, bel⟩
end Go.Proofs.YtfmpaofbnjlniaaGreatDoor.F
