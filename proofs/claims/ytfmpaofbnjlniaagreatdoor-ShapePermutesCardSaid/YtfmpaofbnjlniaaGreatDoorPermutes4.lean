/- Part 4 of the proof: ShapePermutes: Permute answers as the reference says, for all structures and lists. -/
import Derived.Test.YtfmpaofbnjlniaaGreatDoorPermutes3
import Derived.Lib.SplitLaws
import Derived.Lib.SliceRun
import Derived.Lib.Overlaps
import Derived.Lib.AppendZerosOnto
import Derived.Laws.NewBlocks
import Derived.Laws.IdiomCopy
import Derived.Laws.Externs
import Derived.Deep.RegionLaw
/- Names, tuples, relations, structures: what Name, tuples, rel and Valid answer, as plain Bools; the program's and the document's. -/
namespace Go.Proofs.YtfmpaofbnjlniaaGreatDoor.F
open Go.RowKit Go.Proofs.YtfmpaofbnjlniaaGreatDoorW.PrintWords Go.Proofs.YtfmpaofbnjlniaaGreatDoorW.PrintLast Go.Proofs.YtfmpaofbnjlniaaGreatDoorW.PrintMore
set_option linter.unusedVariables false
def letB (c : Int) : Bool := (decide (97 ≤ c) && decide (c ≤ 122)) || (decide (65 ≤ c) && decide (c ≤ 90))
def digB (c : Int) : Bool := decide (48 ≤ c) && decide (c ≤ 57)
theorem letter_eq (c : Int) : shape_letter.f c = some (letB c) := by
  unfold shape_letter.f letB
  simp only [ge_iff_le]
  by_cases h1 : 97 ≤ c <;> by_cases h2 : c ≤ 122 <;> by_cases h3 : 65 ≤ c <;> by_cases h4 : c ≤ 90 <;> simp [h1, h2, h3, h4]
theorem digit_eq (c : Int) : shape_digit.f c = some (digB c) := by
  unfold shape_digit.f digB
  split <;> simp <;> omega
def wordB (s : ByteArray) : Bool := (shape_word.f s).getD false
theorem word_eq (s : ByteArray) : shape_word.f s = some (wordB s) := by
  unfold wordB shape_word.f
  repeat' split
  all_goals rfl
/-- The d bytes from i on are letters or digits. -/
def restB (s : ByteArray) : Nat → Nat → Bool
  | 0, _ => true
  | d + 1, i => (letB (bt s i) || digB (bt s i)) && restB s d (i + 1)
def nameB (s : ByteArray) : Bool := decide (1 ≤ s.size) && decide (s.size ≤ 12) && letB (bt s 0) && !wordB s && restB s (s.size - 1) 1
theorem name_loop (s : ByteArray) (hs : s.size ≤ 12) : ∀ (d i k : Nat), i + d = s.size → d + 1 ≤ k → shape_Name.l0 k s (s.size : Int) (i : Int) = some (restB s d i)
  | 0, i, k + 1, h, hk => by unfold shape_Name.l0; rw [if_neg (by omega)]; rfl
  | d + 1, i, k + 1, h, hk => by
    unfold shape_Name.l0 restB
    have ih := name_loop s hs d (i + 1) k (by omega) (by omega)
    rw [show ((i + 1 : Nat) : Int) = (i : Int) + 1 by omega] at ih
    rw [if_pos (by omega), if_pos (by omega), if_pos (by omega), letter_eq, digit_eq, w64 (by omega) (by omega), ih]
    simp only [Option.bind_some]
    cases letB (bt s i) <;> cases digB (bt s i) <;> rfl
theorem toList_loop (bs : ByteArray) : ∀ (d i : Nat) (r : List UInt8), i + d = bs.size → ByteArray.toList.loop bs i r = r.reverse ++ bs.data.toList.drop i
  | 0, i, r, h => by
    have hl : bs.data.toList.length = bs.size := data_length bs
    unfold ByteArray.toList.loop
    rw [if_neg (by omega), List.drop_eq_nil_of_le (by omega), List.append_nil]
  | d + 1, i, r, h => by
    have hl : bs.data.toList.length = bs.size := data_length bs
    unfold ByteArray.toList.loop
    rw [if_pos (by omega), toList_loop bs d (i + 1) _ (by omega), List.drop_eq_getElem_cons (show i < bs.data.toList.length by omega), List.reverse_cons, List.append_assoc]
    have hi : i < bs.data.size := by rw [Array.length_toList] at hl; omega
    have : bs.get! i = bs.data.toList[i]'(by omega) := by
      show bs.data[i]! = _
      rw [getElem!_pos bs.data i hi]; simp
    rw [this]; rfl
theorem toList_data (s : ByteArray) : s.toList = s.data.toList := by
  unfold ByteArray.toList
  rw [toList_loop s s.size 0 [] (by omega)]; simp
theorem toList_nil (s : ByteArray) : s.toList = ([] : List UInt8) ↔ s.size = 0 := by
  rw [toList_data, ← data_length s]
  exact (List.length_eq_zero_iff (l := s.data.toList)).symm
theorem name_eq (s : ByteArray) (k : Nat) (hk : 20 ≤ k) : shape_Name.f k s = some (nameB s) := by
  obtain ⟨k, rfl⟩ : ∃ k', k = k' + 1 := ⟨k - 1, by omega⟩
  unfold shape_Name.f nameB
  by_cases h0 : s.size = 0
  · rw [if_pos ((toList_nil s).2 h0)]; simp [shape_Name.j0, h0]
  · rw [if_neg (fun h => h0 ((toList_nil s).1 h))]
    by_cases h1 : (s.size : Int) > 12
    · rw [if_pos h1]; simp [shape_Name.j0, show ¬ s.size ≤ 12 by omega]
    · rw [if_neg h1, if_pos (by omega), letter_eq]
      simp only [Option.bind_some]
      cases hl : letB (bt s 0) with
      | false => simp [shape_Name.j0]
      | true =>
        rw [if_pos rfl, word_eq]
        simp only [Option.bind_some]
        cases hw : wordB s with
        | true => simp [shape_Name.j0]
        | false =>
          unfold shape_Name.j0
          simp only [Bool.false_eq_true, if_false]
          have := name_loop s (by omega) s.size 0 k (by omega) (by omega)
          rw [show ((0 : Nat) : Int) = 0 from rfl] at this
          rw [this]
          obtain ⟨m, hm⟩ : ∃ m, s.size = m + 1 := ⟨s.size - 1, by omega⟩
          rw [hm, restB, show ((0 : Nat) : Int) = 0 from rfl, hl]
          simp; omega
theorem compare_loop (x y : List Int) (hl : x.length = y.length) (hx : x.length ≤ 100000) : ∀ (j i k : Nat), i + j = x.length → j + 1 ≤ k → ∃ c, slices_Compare_int_int.l0 k x y x (x.length : Int) (i : Int) = some c ∧ decide (c ≥ 0) = !lexL (x.drop i) (y.drop i)
  | 0, i, k + 1, h, hk => by
    refine ⟨0, ?_, ?_⟩
    · unfold slices_Compare_int_int.l0; rw [if_neg (by omega), if_neg (by omega)]
    · rw [List.drop_eq_nil_of_le (by omega)]; rfl
  | j + 1, i, k + 1, h, hk => by
    have hi : i < x.length := by omega
    have hi2 : i < y.length := by omega
    unfold slices_Compare_int_int.l0
    rw [if_pos (by omega), if_pos (by omega), if_pos (by omega), if_neg (by omega), if_pos (by omega), rd_nat x i hi, rd_nat y i hi2, List.drop_eq_getElem_cons hi, List.drop_eq_getElem_cons hi2, w64 (by omega) (by omega)]
    unfold cmp_Compare_int.f cmp_isNaN_int.f lexL
    simp only [bne_self_eq_false, Option.bind_some, Bool.false_eq_true, if_false]
    rcases Int.lt_trichotomy x[i] y[i] with h1 | h1 | h1
    · exact ⟨-1, by simp [h1], by rw [if_neg (by omega), decide_eq_true h1]; rfl⟩
    · obtain ⟨c, hc, hd⟩ := compare_loop x y hl hx j (i + 1) k (by omega) (by omega)
      rw [show ((i + 1 : Nat) : Int) = (i : Int) + 1 by omega] at hc
      exact ⟨c, by simp [h1, hc], by rw [if_pos h1]; exact hd⟩
    · exact ⟨1, by simp [h1, show ¬ x[i] < y[i] by omega], by rw [if_neg (by omega), decide_eq_false (by omega : ¬ x[i] < y[i])]; rfl⟩
def tupV (n a : Int) (t : List Int) : Bool := decide ((t.length : Int) = a) && !t.any (outB n)
/-- The d tuples from i on are of this arity, in range, and each is above the one before it. -/
def tupsV (n a : Int) (l : List (List Int)) : Nat → Nat → Bool
  | 0, _ => true
  | d + 1, i => tupV n a (rd_L2 l i) && (decide (i = 0) || lexL (rd_L2 l ((i : Int) - 1)) (rd_L2 l i)) && tupsV n a l d (i + 1)
theorem elements_eq (n : Int) (t : List Int) : shape_elements.f n t = some (!t.any (outB n)) := rfl
/-- shape.tuples' loop: from i on, the tuple ahead of i having this arity. -/
theorem tuples_loop (n a : Int) (nm : ByteArray) (a1 : Int) (l : List (List Int)) (hl : l.length ≤ 9223372036854775807) (ha : a ≤ 12) : ∀ (d i k : Nat), i + d = l.length → d + 100 ≤ k → (0 < i → ((rd_L2 l ((i : Int) - 1)).length : Int) = a) →
    shape_tuples.l0 k n l (l.length : Int) (i : Int) nm a l = some (tupsV n a l d i)
  | 0, i, k + 1, h, hk, hp => by unfold shape_tuples.l0; rw [if_neg (by omega)]; rfl
  | d + 1, i, k + 1, h, hk, hp => by
    unfold shape_tuples.l0 tupsV tupV
    rw [if_pos (by omega), if_pos (by omega), if_pos (by omega), w64 (x := (i : Int) + 1) (by omega) (by omega), w64 (x := (i : Int) - 1) (by omega) (by omega)]
    by_cases h1 : ((rd_L2 l (i : Int)).length : Int) = a
    · rw [if_pos h1, elements_eq, decide_eq_true h1]
      simp only [Option.bind_some, Bool.true_and]
      have ih := tuples_loop n a nm a1 l hl ha d (i + 1) k (by omega) (by omega) (fun _ => by rw [show (((i + 1 : Nat) : Int) - 1) = (i : Int) by omega]; exact h1)
      rw [show ((i + 1 : Nat) : Int) = (i : Int) + 1 by omega] at ih
      cases hb : (rd_L2 l (i : Int)).any (outB n) with
      | true => simp
      | false =>
        simp only [Bool.not_false, if_true, Bool.true_and]
        by_cases h2 : (i : Int) > 0
        · rw [if_pos h2, if_pos (by omega), if_pos (by omega), decide_eq_false (by omega), Bool.false_or]
          have hp' := hp (by omega)
          obtain ⟨c, hc, hd⟩ := compare_loop (rd_L2 l ((i : Int) - 1)) (rd_L2 l (i : Int)) (by omega) (by omega) (rd_L2 l ((i : Int) - 1)).length 0 k (by omega) (by omega)
          unfold slices_Compare_int_int.f
          rw [show ((0 : Nat) : Int) = 0 from rfl] at hc
          rw [hc]
          simp only [Option.bind_some, List.drop_zero] at hd ⊢
          by_cases h3 : c ≥ 0
          · rw [if_pos h3]
            rw [decide_eq_true h3] at hd
            rw [show lexL (rd_L2 l ((i : Int) - 1)) (rd_L2 l (i : Int)) = false from (Bool.not_eq_true' _).mp hd.symm]
            rfl
          · rw [if_neg h3, ih]
            rw [decide_eq_false h3] at hd
            rw [show lexL (rd_L2 l ((i : Int) - 1)) (rd_L2 l (i : Int)) = true from (Bool.not_eq_false' _).mp hd.symm]
            rfl
        · rw [if_neg h2, ih, decide_eq_true (by omega)]
          rfl
    · rw [if_neg h1, decide_eq_false h1]
      rfl
/-! ### the document's functions -/
theorem ref_letter_eq (c : Int) : paraphrastref01_letter.f c = some (letB c) := letter_eq c
theorem ref_digit_eq (c : Int) : paraphrastref01_digit.f c = some (digB c) := digit_eq c
theorem ref_word_eq (s : ByteArray) : paraphrastref01_Word.f s = some (wordB s) := word_eq s
theorem ref_name_loop (s : ByteArray) (hs : s.size ≤ 12) : ∀ (d i k : Nat), i + d = s.size → d + 1 ≤ k → paraphrastref01_Name.l0 k s (i : Int) = some (restB s d i)
  | 0, i, k + 1, h, hk => by unfold paraphrastref01_Name.l0; rw [if_neg (by omega)]; rfl
  | d + 1, i, k + 1, h, hk => by
    unfold paraphrastref01_Name.l0 restB
    have ih := ref_name_loop s hs d (i + 1) k (by omega) (by omega)
    rw [show ((i + 1 : Nat) : Int) = (i : Int) + 1 by omega] at ih
    rw [if_pos (by omega), if_pos (by omega), ref_letter_eq, ref_digit_eq, w64 (by omega) (by omega), ih]
    simp only [Option.bind_some]
    cases letB (bt s i) <;> cases digB (bt s i) <;> rfl
theorem ref_name_eq (s : ByteArray) (k : Nat) (hk : 20 ≤ k) : paraphrastref01_Name.f k s = some (nameB s) := by
  obtain ⟨k, rfl⟩ : ∃ k', k = k' + 1 := ⟨k - 1, by omega⟩
  unfold paraphrastref01_Name.f nameB
  by_cases h0 : s.size = 0
  · rw [if_pos (by omega)]; simp [paraphrastref01_Name.j0, h0]
  · rw [if_neg (by omega)]
    by_cases h1 : (s.size : Int) > 12
    · rw [if_pos h1]; simp [paraphrastref01_Name.j0, show ¬ s.size ≤ 12 by omega]
    · rw [if_neg h1, if_pos (by omega), ref_letter_eq]
      simp only [Option.bind_some]
      cases hl : letB (bt s 0) with
      | false => simp [paraphrastref01_Name.j0]
      | true =>
        rw [if_pos rfl, ref_word_eq]
        simp only [Option.bind_some]
        cases hw : wordB s with
        | true => simp [paraphrastref01_Name.j0]
        | false =>
          unfold paraphrastref01_Name.j0
          simp only [Bool.false_eq_true, if_false]
          have := ref_name_loop s (by omega) (s.size - 1) 1 k (by omega) (by omega)
          rw [show ((1 : Nat) : Int) = 1 from rfl] at this
          rw [this]
          simp; omega
theorem ref_tuples_loop (n a : Int) (nm : ByteArray) (l : List (List Int)) (hl : l.length ≤ 9223372036854775807) (ha : a ≤ 12) : ∀ (d i k : Nat), i + d = l.length → d + 100 ≤ k → (0 < i → ((rd_L2 l ((i : Int) - 1)).length : Int) = a) →
    paraphrastref01_rel.l0 k n (i : Int) nm a l = some (tupsV n a l d i)
  | 0, i, k + 1, h, hk, hp => by unfold paraphrastref01_rel.l0; rw [if_neg (by omega)]; rfl
  | d + 1, i, k + 1, h, hk, hp => by
    unfold paraphrastref01_rel.l0 tupsV tupV
    rw [if_pos (by omega), if_pos (by omega), w64 (x := (i : Int) + 1) (by omega) (by omega), w64 (x := (i : Int) - 1) (by omega) (by omega)]
    by_cases h1 : ((rd_L2 l (i : Int)).length : Int) = a
    · rw [if_pos h1, in_elements n (rd_L2 l (i : Int)) (by omega) k (by omega), elements_eq, decide_eq_true h1]
      simp only [Option.bind_some, Bool.true_and]
      have ih := ref_tuples_loop n a nm l hl ha d (i + 1) k (by omega) (by omega) (fun _ => by rw [show (((i + 1 : Nat) : Int) - 1) = (i : Int) by omega]; exact h1)
      rw [show ((i + 1 : Nat) : Int) = (i : Int) + 1 by omega] at ih
      cases hb : (rd_L2 l (i : Int)).any (outB n) with
      | true => simp
      | false =>
        simp only [Bool.not_false, if_true, Bool.true_and]
        by_cases h2 : (i : Int) > 0
        · rw [if_pos h2, if_pos (by omega), if_pos (by omega), decide_eq_false (by omega), Bool.false_or]
          have hp' := hp (by omega)
          have hL : paraphrastref01_Less.f k (rd_L2 l ((i : Int) - 1)) (rd_L2 l (i : Int)) = some (lexL (rd_L2 l ((i : Int) - 1)) (rd_L2 l (i : Int))) := less_all _ _ (by omega) (by omega) (rd_L2 l ((i : Int) - 1)).length 0 k (by omega) (by omega)
          rw [hL]
          simp only [Option.bind_some]
          cases lexL (rd_L2 l ((i : Int) - 1)) (rd_L2 l (i : Int)) with
          | false => rfl
          | true => rw [if_pos rfl, ih]; rfl
        · rw [if_neg h2, ih, decide_eq_true (by omega)]
          rfl
    · rw [if_neg h1, decide_eq_false h1]
      rfl
/-! ### relations and structures -/
def powOk (n a : Int) : Bool := match paraphrastref01_Pow.f 14 n a with | some q => decide (q ≤ 4096) | none => false
theorem pow_ok (n a : Int) (hn1 : 1 ≤ n) (hn2 : n ≤ 64) (h0 : 0 ≤ a) (h1 : a ≤ 12) (k : Nat) (hk : 14 ≤ k) : ∃ q, paraphrastref01_Pow.f k n a = some q ∧ shape_power.f k n a 4096 = some (if q > 4096 then -1 else q) ∧ 1 ≤ q ∧ powOk n a = decide (q ≤ 4096) := by
  obtain ⟨q, hq, e1, e2⟩ := pow_both n a hn1 hn2 h1 a.toNat 1 0 14 (by omega) (by omega) (by omega) (by omega) (by omega)
  have f1 : paraphrastref01_Pow.f 14 n a = some q := e1
  exact ⟨q, at_rounds (paraphrastref01_Pow.mono _ _) hk f1, at_rounds (shape_power.mono _ _ _) hk e2, hq, by unfold powOk; rw [f1]⟩
def relV (n : Int) (r : S52) : Bool := nameB r.f0 && decide (0 ≤ r.f1) && decide (r.f1 ≤ 12) && powOk n r.f1 && tupsV n r.f1 r.f2 r.f2.length 0
def relsV (n : Int) (l : List S52) : Nat → Nat → Bool
  | 0, _ => true
  | d + 1, i => relV n (rd_T52 l i) && !(l.take i).any (nameIs (rd_T52 l i).f0) && relsV n l d (i + 1)
def validB (n : Int) (l : List S52) : Bool := decide (1 ≤ n) && decide (n ≤ 64) && decide (l.length ≤ 8) && relsV n l l.length 0
theorem ref_rel_eq (T : Nat) (hT : T ≤ 9223372036854775807) (n : Int) (hn1 : 1 ≤ n) (hn2 : n ≤ 64) (r : S52) (hl : r.f2.length ≤ T) (k : Nat) (hk : T + 200 ≤ k) : paraphrastref01_rel.f k n r.f0 r.f1 r.f2 = some (relV n r) := by
  obtain ⟨k, rfl⟩ : ∃ k', k = k' + 1 := ⟨k - 1, by omega⟩
  have hj : paraphrastref01_rel.j0 (k + 1) n true r.f0 r.f1 r.f2 = some false := rfl
  unfold paraphrastref01_rel.f relV
  rw [ref_name_eq _ _ (by omega)]
  simp only [Option.bind_some]
  cases hn : nameB r.f0 with
  | false => simp [hj]
  | true =>
    rw [if_pos rfl]
    by_cases h0 : r.f1 < 0
    · rw [if_pos h0, hj, decide_eq_false (by omega)]; rfl
    · rw [if_neg h0]
      by_cases h1 : r.f1 > 12
      · rw [if_pos h1, hj, decide_eq_false (by omega : ¬ r.f1 ≤ 12)]; simp
      · obtain ⟨q, e1, _, _, e3⟩ := pow_ok n r.f1 hn1 hn2 (by omega) (by omega) (k + 1) (by omega)
        rw [if_neg h1, e1, e3, decide_eq_true (by omega : 0 ≤ r.f1), decide_eq_true (by omega : r.f1 ≤ 12)]
        simp only [Option.bind_some, Bool.true_and]
        by_cases h2 : q > 4096
        · rw [decide_eq_true h2, hj, decide_eq_false (by omega)]; rfl
        · rw [decide_eq_false h2, decide_eq_true (by omega : q ≤ 4096)]
          unfold paraphrastref01_rel.j0
          simp only [Bool.false_eq_true, if_false, Bool.true_and]
          exact ref_tuples_loop n r.f1 r.f0 r.f2 (by omega) (by omega) r.f2.length 0 k (by omega) (by omega) (by omega)
theorem rdT_nat (l : List S52) (i : Nat) (h : i < l.length) : rd_T52 l (i : Int) = l[i] := by unfold rd_T52; rw [Int.toNat_natCast, List.getD_eq_getElem?_getD, List.getElem?_eq_getElem h]; rfl
theorem valid_j2 (k : Nat) (n : Int) (l : List S52) (i : Nat) (b : Bool) (f0 : ByteArray) (f1 : Int) (f2 : List (List Int)) (hi : i < l.length) (hl : l.length ≤ 8) :
    shape_Valid.j2 (k + 1) (i : Int) l (l.length : Int) (i : Int) b n l f0 f1 f2 = if b = true then some false else if (l.take i).any (nameIs f0) = true then some false else shape_Valid.l0 k l (l.length : Int) ((i + 1 : Nat) : Int) n l := by
  conv => lhs; unfold shape_Valid.j2
  cases b with
  | true => rfl
  | false =>
    simp only [Bool.false_eq_true, if_false]
    rw [if_pos (by omega), if_pos (by omega), w64 (by omega) (by omega), Int.toNat_natCast, show ((i + 1 : Nat) : Int) = (i : Int) + 1 by omega]
    rfl
theorem valid_loop (n : Int) (hn1 : 1 ≤ n) (hn2 : n ≤ 64) (l : List S52) (hl : l.length ≤ 8) (T : Nat) (hT : T ≤ 9223372036854775807) (hall : ∀ r ∈ l, r.f2.length ≤ T) : ∀ (d i k : Nat), i + d = l.length → d * 2 + T + 200 ≤ k →
    shape_Valid.l0 k l (l.length : Int) (i : Int) n l = some (relsV n l d i)
  | 0, i, k + 1, h, hk => by unfold shape_Valid.l0; rw [if_neg (by omega)]; rfl
  | d + 1, i, k + 1, h, hk => by
    have hi : i < l.length := by omega
    have hr := hall _ (List.getElem_mem hi)
    rw [← rdT_nat l i hi] at hr
    obtain ⟨k, rfl⟩ : ∃ k', k = k' + 1 := ⟨k - 1, by omega⟩
    have ih := valid_loop n hn1 hn2 l hl T hT hall d (i + 1) k (by omega) (by omega)
    unfold shape_Valid.l0 relsV
    rw [if_pos (by omega), if_pos (by omega), if_pos (by omega), name_eq _ _ (by omega)]
    generalize rd_T52 l (i : Int) = r at hr ⊢
    simp only [Option.bind_some, valid_j2 k n l i _ r.f0 r.f1 r.f2 hi hl, ih, if_true]
    unfold relV
    cases hn : nameB r.f0 with
    | false => simp
    | true =>
      by_cases h0 : r.f1 < 0
      · rw [if_pos rfl, if_pos h0, decide_eq_false (by omega)]; simp
      · by_cases h1 : r.f1 > 12
        · rw [if_pos rfl, if_neg h0, if_pos h1, decide_eq_false (by omega : ¬ r.f1 ≤ 12)]; simp
        · obtain ⟨q, _, e2, hq, e3⟩ := pow_ok n r.f1 hn1 hn2 (by omega) (by omega) (k + 1) (by omega)
          rw [if_pos rfl, if_neg h0, if_neg h1, e2, e3, decide_eq_true (by omega : 0 ≤ r.f1), decide_eq_true (by omega : r.f1 ≤ 12)]
          simp only [Option.bind_some]
          by_cases h2 : q > 4096
          · rw [if_pos h2, if_pos (by omega), decide_eq_false (by omega)]; simp
          · rw [if_neg h2, if_neg (by omega), decide_eq_true (by omega : q ≤ 4096)]
            have ht : shape_tuples.f (k + 1) n r.f0 r.f1 r.f2 = some (tupsV n r.f1 r.f2 r.f2.length 0) := tuples_loop n r.f1 r.f0 0 r.f2 (by omega) (by omega) r.f2.length 0 (k + 1) (by omega) (by omega) (by omega)
            rw [ht]
            simp only [Option.bind_some, Bool.true_and]
            cases tupsV n r.f1 r.f2 r.f2.length 0 <;> cases (l.take i).any (nameIs r.f0) <;> rfl
theorem valid_eq (n : Int) (l : List S52) (T : Nat) (hT : T ≤ 9223372036854775807) (hall : ∀ r ∈ l, r.f2.length ≤ T) (k : Nat) (hk : T + 300 ≤ k) : shape_Valid.f k n l = some (validB n l) := by
  obtain ⟨k, rfl⟩ : ∃ k', k = k' + 1 := ⟨k - 1, by omega⟩
  have hj : shape_Valid.j0 (k + 1) true n l = some false := rfl
  unfold shape_Valid.f validB
  by_cases h1 : n < 1
  · rw [if_pos h1, hj, decide_eq_false (by omega)]; rfl
  · rw [if_neg h1]
    by_cases h2 : n > 64
    · rw [if_pos h2, hj, decide_eq_false (by omega : ¬ n ≤ 64)]; simp
    · rw [if_neg h2, decide_eq_true (by omega : 1 ≤ n), decide_eq_true (by omega : n ≤ 64)]
      by_cases h3 : (l.length : Int) > 8
      · rw [decide_eq_true h3, hj, decide_eq_false (by omega)]; rfl
      · rw [decide_eq_false h3, decide_eq_true (by omega : l.length ≤ 8)]
        unfold shape_Valid.j0
        simp only [Bool.false_eq_true, if_false, Bool.true_and]
        exact valid_loop n (by omega) (by omega) l (by omega) T hT hall l.length 0 k (by omega) (by omega)
theorem ref_names (n : Int) (l : List S52) (hl : l.length ≤ 8) (i : Nat) (hi : i < l.length) (R : Bool) (B : Nat) (hR : ∀ k, B ≤ k → paraphrastref01_Valid.l0 k ((i + 1 : Nat) : Int) n l = some R) : ∀ (m j k : Nat), j + m = i → m + B + 1 ≤ k →
    paraphrastref01_Valid.l1 k (i : Int) (j : Int) n l = some (!((l.take i).drop j).any (nameIs (rd_T52 l i).f0) && R)
  | 0, j, k + 1, h, hk => by
    unfold paraphrastref01_Valid.l1
    rw [if_neg (by omega), w64 (by omega) (by omega), show (i : Int) + 1 = ((i + 1 : Nat) : Int) by omega, hR k (by omega), List.drop_eq_nil_of_le (by simp; omega)]
    rfl
  | m + 1, j, k + 1, h, hk => by
    have ih := ref_names n l hl i hi R B hR m (j + 1) k (by omega) (by omega)
    unfold paraphrastref01_Valid.l1
    rw [if_pos (by omega), if_pos (by omega), if_pos (by omega), if_pos (by omega), if_pos (by omega), w64 (by omega) (by omega), show (j : Int) + 1 = ((j + 1 : Nat) : Int) by omega, ih, List.drop_eq_getElem_cons (show j < (l.take i).length by simp; omega), List.any_cons, List.getElem_take, rdT_nat l j (by omega)]
    unfold nameIs
    by_cases he : l[j].f0.toList = (rd_T52 l i).f0.toList
    · rw [if_pos he, beq_iff_eq.2 he]; rfl
    · rw [if_neg he, beq_eq_false_iff_ne.2 he]; rfl
theorem ref_valid_loop (n : Int) (hn1 : 1 ≤ n) (hn2 : n ≤ 64) (l : List S52) (hl : l.length ≤ 8) (T : Nat) (hT : T ≤ 9223372036854775807) (hall : ∀ r ∈ l, r.f2.length ≤ T) : ∀ (d i k : Nat), i + d = l.length → d * 12 + T + 200 ≤ k →
    paraphrastref01_Valid.l0 k (i : Int) n l = some (relsV n l d i)
  | 0, i, k + 1, h, hk => by unfold paraphrastref01_Valid.l0; rw [if_neg (by omega)]; rfl
  | d + 1, i, k + 1, h, hk => by
    have hi : i < l.length := by omega
    have hr := hall _ (List.getElem_mem hi)
    rw [← rdT_nat l i hi] at hr
    obtain ⟨B, hB⟩ : ∃ B : Nat, B = d * 12 + T + 200 := ⟨_, rfl⟩
    have IH : ∀ k', B ≤ k' → paraphrastref01_Valid.l0 k' ((i + 1 : Nat) : Int) n l = some (relsV n l d (i + 1)) := fun k' hk' => ref_valid_loop n hn1 hn2 l hl T hT hall d (i + 1) k' (by omega) (by omega)
    have hnm := ref_names n l hl i hi (relsV n l d (i + 1)) B IH i 0 k (by omega) (by omega)
    unfold paraphrastref01_Valid.l0 relsV
    rw [if_pos (by omega), if_pos (by omega), ref_rel_eq T hT n hn1 hn2 (rd_T52 l (i : Int)) hr k (by omega)]
    simp only [Option.bind_some]
    cases relV n (rd_T52 l (i : Int)) with
    | false => simp
    | true =>
      rw [if_pos rfl]
      rw [show ((0 : Nat) : Int) = 0 from rfl] at hnm
      rw [hnm, List.drop_zero, Bool.true_and]
theorem ref_valid_eq (n : Int) (l : List S52) (T : Nat) (hT : T ≤ 9223372036854775807) (hall : ∀ r ∈ l, r.f2.length ≤ T) (k : Nat) (hk : T + 400 ≤ k) : paraphrastref01_Valid.f k n l = some (validB n l) := by
  obtain ⟨k, rfl⟩ : ∃ k', k = k' + 1 := ⟨k - 1, by omega⟩
  have hj : paraphrastref01_Valid.j0 (k + 1) true n l = some false := rfl
  unfold paraphrastref01_Valid.f validB
  by_cases h1 : n < 1
  · rw [if_pos h1, hj, decide_eq_false (by omega)]; rfl
  · rw [if_neg h1]
    by_cases h2 : n > 64
    · rw [if_pos h2, hj, decide_eq_false (by omega : ¬ n ≤ 64)]; simp
    · rw [if_neg h2, decide_eq_true (by omega : 1 ≤ n), decide_eq_true (by omega : n ≤ 64)]
      by_cases h3 : (l.length : Int) > 8
      · rw [decide_eq_true h3, hj, decide_eq_false (by omega)]; rfl
      · rw [decide_eq_false h3, decide_eq_true (by omega : l.length ≤ 8)]
        unfold paraphrastref01_Valid.j0
        simp only [Bool.false_eq_true, if_false, Bool.true_and]
        exact ref_valid_loop n (by omega) (by omega) l (by omega) T hT hall l.length 0 k (by omega) (by omega)
end Go.Proofs.YtfmpaofbnjlniaaGreatDoor.F
/- Reading back what has been written: splitting a text whose parts do not hold the separator's first byte; the numbers 0 to 99; parseB of textL. -/
namespace Go.Proofs.YtfmpaofbnjlniaaGreatDoor.F
open Go.RowKit Go.Proofs.YtfmpaofbnjlniaaGreatDoorW.PrintWords
set_option linter.unusedVariables false
/-! ### numbers -/
/-! ### names -/
/-! ### tuples, relations, structures -/
/-- What a tuple of a valid structure is like, as far as its text goes. -/
def tupOk (t : List Int) : Prop := ∀ x ∈ t, 0 ≤ x ∧ x < 100
def relOk (r : S52) : Prop := nameB r.f0 = true ∧ (0 ≤ r.f1 ∧ r.f1 < 100) ∧ ∀ t ∈ r.f2, tupOk t
/-! ### how long a text is -/
/-! ### what a valid structure is like -/
theorem tupsV_all (n a : Int) (l : List (List Int)) : ∀ (d i : Nat), tupsV n a l d i = true → i + d = l.length → ∀ j (hj : j < l.length), i ≤ j → tupV n a l[j] = true ∧ (0 < j → ∃ h : j - 1 < l.length, lexL l[j - 1] l[j] = true)
  | 0, i, _, h, j, hj, hi => by omega
  | d + 1, i, h, hl, j, hj, hi => by
    unfold tupsV at h
    simp only [Bool.and_eq_true, Bool.or_eq_true, decide_eq_true_eq] at h
    by_cases e : j = i
    · subst e
      have r1 : rd_L2 l (j : Int) = l[j] := by unfold rd_L2; rw [Int.toNat_natCast, List.getD_eq_getElem?_getD, List.getElem?_eq_getElem hj]; rfl
      rw [r1] at h
      refine ⟨h.1.1, fun h0 => ⟨by omega, ?_⟩⟩
      have h2 := h.1.2.resolve_left (by omega)
      have r2 : rd_L2 l ((j : Int) - 1) = l[j - 1]'(by omega) := by unfold rd_L2; rw [show ((j : Int) - 1).toNat = j - 1 by omega, List.getD_eq_getElem?_getD, List.getElem?_eq_getElem (by omega)]; rfl
      rw [r2] at h2
      exact h2
    · exact tupsV_all n a l d (i + 1) h.2 (by omega) j hj (by omega)
theorem tupV_in (n a : Int) (t : List Int) (h : tupV n a t = true) : (t.length : Int) = a ∧ ∀ x ∈ t, 0 ≤ x ∧ x < n := by
  unfold tupV at h
  simp only [Bool.and_eq_true, decide_eq_true_eq, Bool.not_eq_true', List.any_eq_false] at h
  refine ⟨h.1, fun x hx => ?_⟩
  have := h.2 x hx
  simp only [outB, Bool.or_eq_true, decide_eq_true_eq] at this
  omega
theorem rel_facts (n : Int) (hn1 : 1 ≤ n) (hn2 : n ≤ 64) (r : S52) (h : relV n r = true) : relOk r ∧ (0 ≤ r.f1 ∧ r.f1 ≤ 12) ∧ (∀ t ∈ r.f2, (t.length : Int) = r.f1 ∧ ∀ x ∈ t, 0 ≤ x ∧ x < n) ∧ r.f2.length ≤ 4096 := by
  unfold relV at h
  simp only [Bool.and_eq_true, decide_eq_true_eq] at h
  obtain ⟨⟨⟨⟨h1, h2⟩, h3⟩, h4⟩, h5⟩ := h
  have hA := tupsV_all n r.f1 r.f2 r.f2.length 0 h5 (by omega)
  have hT : ∀ t ∈ r.f2, (t.length : Int) = r.f1 ∧ ∀ x ∈ t, 0 ≤ x ∧ x < n := fun t ht => by
    obtain ⟨j, hj, rfl⟩ := List.getElem_of_mem ht
    exact tupV_in n r.f1 _ (hA j hj (by omega)).1
  have hV : ∀ (j : Nat) (hj : j < r.f2.length), (j : Int) ≤ val n 0 r.f2[j] := by
    intro j
    induction j with
    | zero => intro hj; exact (val_bound n hn1 _ (hT _ (List.getElem_mem hj)).2).1
    | succ j ih =>
      intro hj
      have h1 := ih (by omega)
      obtain ⟨_, h2⟩ := (hA (j + 1) hj (by omega)).2 (by omega)
      simp only [Nat.add_sub_cancel] at h2
      have t1 := hT _ (List.getElem_mem (show j < r.f2.length by omega))
      have t2 := hT _ (List.getElem_mem hj)
      have := (val_order n hn1 (r.f2[j]'(by omega)) r.f2[j + 1] (by omega) t1.2 t2.2).1
      rw [h2, decide_eq_true_eq] at this
      omega
  refine ⟨⟨h1, ⟨h2, by omega⟩, fun t ht x hx => ?_⟩, ⟨h2, h3⟩, hT, ?_⟩
  · have := (hT t ht).2 x hx; omega
  · obtain ⟨q, e1, _, hq1, e2⟩ := pow_ok n r.f1 hn1 hn2 h2 h3 14 (Nat.le_refl _)
    rw [e2, decide_eq_true_eq] at h4
    have hq := pow_exact n r.f1 hn1 hn2 h3 r.f1.toNat 1 0 14 q (by omega) (by omega) (by omega) (by omega) e1 h4
    by_cases hz : r.f2.length = 0
    · omega
    · have hj : r.f2.length - 1 < r.f2.length := by omega
      have b1 := hV _ hj
      have t1 := hT _ (List.getElem_mem hj)
      have b2 := (val_bound n hn1 _ t1.2).2
      rw [show (r.f2[r.f2.length - 1]'hj).length = r.f1.toNat by omega] at b2
      rw [Int.one_mul] at hq
      omega
theorem relsV_all (n : Int) (l : List S52) : ∀ (d i : Nat), relsV n l d i = true → i + d = l.length → ∀ j (hj : j < l.length), i ≤ j → relV n l[j] = true
  | 0, i, _, h, j, hj, hi => by omega
  | d + 1, i, h, hl, j, hj, hi => by
    unfold relsV at h
    simp only [Bool.and_eq_true] at h
    by_cases e : j = i
    · subst e
      rw [rdT_nat l j hj] at h
      exact h.1.1
    · exact relsV_all n l d (i + 1) h.2 (by omega) j hj (by omega)
theorem valid_facts (n : Int) (l : List S52) (h : validB n l = true) : 1 ≤ n ∧ n ≤ 64 ∧ l.length ≤ 8 ∧ ∀ r ∈ l, relOk r ∧ (0 ≤ r.f1 ∧ r.f1 ≤ 12) ∧ (∀ t ∈ r.f2, (t.length : Int) = r.f1 ∧ ∀ x ∈ t, 0 ≤ x ∧ x < n) ∧ r.f2.length ≤ 4096 := by
  unfold validB at h
  simp only [Bool.and_eq_true, decide_eq_true_eq] at h
  obtain ⟨⟨⟨h1, h2⟩, h3⟩, h4⟩ := h
  refine ⟨h1, h2, h3, fun r hr => ?_⟩
  obtain ⟨j, hj, rfl⟩ := List.getElem_of_mem hr
  exact rel_facts n h1 h2 _ (relsV_all n l l.length 0 h4 (by omega) j hj (by omega))
end Go.Proofs.YtfmpaofbnjlniaaGreatDoor.F
namespace Go.Proofs.YtfmpaofbnjlniaaGreatDoor.F
open Go.RowKit Go.Proofs.YtfmpaofbnjlniaaGreatDoorW.PrintWords Go.Proofs.YtfmpaofbnjlniaaGreatDoorW.PrintLast Go.Proofs.YtfmpaofbnjlniaaGreatDoorW.PrintMore
attribute [local go_sem] max2_int min2_int max_two min_two max_three min_three max_four min_four
set_option linter.unusedVariables false
set_option linter.unusedSimpArgs false
/-! ### paraphrastlaw01_Few: function 9 -/
mutual
def paraphrastlaw01_Few.l0 : Nat → List (S24) → Int → Int → Int → Option (Bool)
 | 0, _, _, _, _ => none
 | k + 1, x0, x3, x4, x5 => if x5 < (x0.length : Int) then (if 0 ≤ x5 then (if (((rd_T24 x0 x5).f1).length : Int) > 12 then (some false) else (paraphrastlaw01_Few.l1 k x0 x3 x4 x5 0)) else (none)) else (some (decide (x4 ≤ 20000)))
def paraphrastlaw01_Few.l1 : Nat → List (S24) → Int → Int → Int → Int → Option (Bool)
 | 0, _, _, _, _, _ => none
 | k + 1, x0, x3, x4, x5, x6 => if 0 ≤ x5 then (if x5 < (x0.length : Int) then (if x6 < (((rd_T24 x0 x5).f1).length : Int) then (if 0 ≤ x6 then (if (wrap64 (x3 + (((rd_T52 ((rd_T24 x0 x5).f1) x6).f2).length : Int))) > 1500 then (paraphrastlaw01_Few.j2 k x0 (wrap64 (x3 + (((rd_T52 ((rd_T24 x0 x5).f1) x6).f2).length : Int))) x4 x5 x6 true) else (paraphrastlaw01_Few.j2 k x0 (wrap64 (x3 + (((rd_T52 ((rd_T24 x0 x5).f1) x6).f2).length : Int))) x4 x5 x6 (decide ((((rd_T52 ((rd_T24 x0 x5).f1) x6).f0).size : Int) > 1000)))) else (none)) else (paraphrastlaw01_Few.l0 k x0 x3 x4 (wrap64 (x5 + 1)))) else (none)) else (none)
def paraphrastlaw01_Few.j2 : Nat → List (S24) → Int → Int → Int → Int → Bool → Option (Bool)
 | 0, _, _, _, _, _, _ => none
 | k + 1, x0, x3, x4, x5, x6, x57 => if x57 = true then (some false) else (paraphrastlaw01_Few.l2 k x0 x3 x4 x5 x6 0)
def paraphrastlaw01_Few.l2 : Nat → List (S24) → Int → Int → Int → Int → Int → Option (Bool)
 | 0, _, _, _, _, _, _ => none
 | k + 1, x0, x3, x4, x5, x6, x7 => if 0 ≤ x5 then (if x5 < (x0.length : Int) then (if 0 ≤ x6 then (if x6 < (((rd_T24 x0 x5).f1).length : Int) then (if x7 < (((rd_T52 ((rd_T24 x0 x5).f1) x6).f2).length : Int) then (if 0 ≤ x7 then (paraphrastlaw01_Few.l2 k x0 x3 (wrap64 (x4 + ((rd_L2 ((rd_T52 ((rd_T24 x0 x5).f1) x6).f2) x7).length : Int))) x5 x6 (wrap64 (x7 + 1))) else (none)) else (paraphrastlaw01_Few.l1 k x0 x3 x4 x5 (wrap64 (x6 + 1)))) else (none)) else (none)) else (none)) else (none)
end
def paraphrastlaw01_Few.f (k : Nat) (l0 : List (S24)) : Option (Bool) := paraphrastlaw01_Few.l0 k l0 0 0 0
theorem paraphrastlaw01_Few.mono_l : ∀ k, (∀ y0 y1 y2 y3, LeO (paraphrastlaw01_Few.l0 k y0 y1 y2 y3) (paraphrastlaw01_Few.l0 (k + 1) y0 y1 y2 y3)) ∧ (∀ y0 y1 y2 y3 y4, LeO (paraphrastlaw01_Few.l1 k y0 y1 y2 y3 y4) (paraphrastlaw01_Few.l1 (k + 1) y0 y1 y2 y3 y4)) ∧ (∀ y0 y1 y2 y3 y4 y5, LeO (paraphrastlaw01_Few.j2 k y0 y1 y2 y3 y4 y5) (paraphrastlaw01_Few.j2 (k + 1) y0 y1 y2 y3 y4 y5)) ∧ (∀ y0 y1 y2 y3 y4 y5, LeO (paraphrastlaw01_Few.l2 k y0 y1 y2 y3 y4 y5) (paraphrastlaw01_Few.l2 (k + 1) y0 y1 y2 y3 y4 y5))
 | 0 => ⟨fun _ _ _ _ r h => by simp [paraphrastlaw01_Few.l0] at h, fun _ _ _ _ _ r h => by simp [paraphrastlaw01_Few.l1] at h, fun _ _ _ _ _ _ r h => by simp [paraphrastlaw01_Few.j2] at h, fun _ _ _ _ _ _ r h => by simp [paraphrastlaw01_Few.l2] at h⟩
 | k + 1 => by
  obtain ⟨ih0, ih1, ih2, ih3⟩ := paraphrastlaw01_Few.mono_l k
  refine ⟨?_, ?_, ?_, ?_⟩
  ·intro y0 y1 y2 y3
   unfold paraphrastlaw01_Few.l0
   repeat' first
   | (with_reducible exact ih0 _ _ _ _)
   | (with_reducible exact ih1 _ _ _ _ _)
   | (with_reducible exact ih2 _ _ _ _ _ _)
   | (with_reducible exact ih3 _ _ _ _ _ _)
   | (with_reducible exact LeO.refl _)
   | (with_reducible exact LeO.none _)
   | (with_reducible refine LeO.ite ?_ ?_)
   | (with_reducible refine LeO.bind ?_ (fun _ => ?_))
   | exact ih0 _ _ _ _
   | exact ih1 _ _ _ _ _
   | exact ih2 _ _ _ _ _ _
   | exact ih3 _ _ _ _ _ _
   | exact LeO.none _
   | refine LeO.ite ?_ ?_
   | refine LeO.bind ?_ (fun _ => ?_)
  ·intro y0 y1 y2 y3 y4
   unfold paraphrastlaw01_Few.l1
   repeat' first
   | (with_reducible exact ih0 _ _ _ _)
   | (with_reducible exact ih1 _ _ _ _ _)
   | (with_reducible exact ih2 _ _ _ _ _ _)
   | (with_reducible exact ih3 _ _ _ _ _ _)
   | (with_reducible exact LeO.refl _)
   | (with_reducible exact LeO.none _)
   | (with_reducible refine LeO.ite ?_ ?_)
   | (with_reducible refine LeO.bind ?_ (fun _ => ?_))
   | exact ih0 _ _ _ _
   | exact ih1 _ _ _ _ _
   | exact ih2 _ _ _ _ _ _
   | exact ih3 _ _ _ _ _ _
   | exact LeO.none _
   | refine LeO.ite ?_ ?_
   | refine LeO.bind ?_ (fun _ => ?_)
  ·intro y0 y1 y2 y3 y4 y5
   unfold paraphrastlaw01_Few.j2
   repeat' first
   | (with_reducible exact ih0 _ _ _ _)
   | (with_reducible exact ih1 _ _ _ _ _)
   | (with_reducible exact ih2 _ _ _ _ _ _)
   | (with_reducible exact ih3 _ _ _ _ _ _)
   | (with_reducible exact LeO.refl _)
   | (with_reducible exact LeO.none _)
   | (with_reducible refine LeO.ite ?_ ?_)
   | (with_reducible refine LeO.bind ?_ (fun _ => ?_))
   | exact ih0 _ _ _ _
   | exact ih1 _ _ _ _ _
   | exact ih2 _ _ _ _ _ _
   | exact ih3 _ _ _ _ _ _
   | exact LeO.none _
   | refine LeO.ite ?_ ?_
   | refine LeO.bind ?_ (fun _ => ?_)
  ·intro y0 y1 y2 y3 y4 y5
   unfold paraphrastlaw01_Few.l2
   repeat' first
   | (with_reducible exact ih0 _ _ _ _)
   | (with_reducible exact ih1 _ _ _ _ _)
   | (with_reducible exact ih2 _ _ _ _ _ _)
   | (with_reducible exact ih3 _ _ _ _ _ _)
   | (with_reducible exact LeO.refl _)
   | (with_reducible exact LeO.none _)
   | (with_reducible refine LeO.ite ?_ ?_)
   | (with_reducible refine LeO.bind ?_ (fun _ => ?_))
   | exact ih0 _ _ _ _
   | exact ih1 _ _ _ _ _
   | exact ih2 _ _ _ _ _ _
   | exact ih3 _ _ _ _ _ _
   | exact LeO.none _
   | refine LeO.ite ?_ ?_
   | refine LeO.bind ?_ (fun _ => ?_)
theorem paraphrastlaw01_Few.mono : ∀ a0 k, LeO (paraphrastlaw01_Few.f k a0) (paraphrastlaw01_Few.f (k + 1) a0) := by
 intro a0 k
 obtain ⟨ih0, ih1, ih2, ih3⟩ := paraphrastlaw01_Few.mono_l k
 unfold paraphrastlaw01_Few.f
 repeat' first
   | (with_reducible exact ih0 _ _ _ _)
   | (with_reducible exact ih1 _ _ _ _ _)
   | (with_reducible exact ih2 _ _ _ _ _ _)
   | (with_reducible exact ih3 _ _ _ _ _ _)
   | (with_reducible exact LeO.refl _)
   | (with_reducible exact LeO.none _)
   | (with_reducible refine LeO.ite ?_ ?_)
   | (with_reducible refine LeO.bind ?_ (fun _ => ?_))
   | exact ih0 _ _ _ _
   | exact ih1 _ _ _ _ _
   | exact ih2 _ _ _ _ _ _
   | exact ih3 _ _ _ _ _ _
   | exact LeO.none _
   | refine LeO.ite ?_ ?_
   | refine LeO.bind ?_ (fun _ => ?_)
set_option maxHeartbeats 8000000 in
set_option maxRecDepth 100000 in
theorem paraphrastlaw01_Few.calls (k : Nat) (A0 : Option Addr) (c0 : Nat) (l0 : List (S24)) (r : Bool) (w : World) (hr0 : Kd.C k24 w A0 l0.length l0) (hc0 : l0.length ≤ c0) (h : paraphrastlaw01_Few.f k l0 = some r) :
  Calls Tryz.prog 9 #[.slice A0 l0.length c0] w fun e w' => e = .returned (.bool r) ∧ Drawn0 w w' := by
 have HR0 := Aside0.mk hr0
 have HC0 := Aside0.mk hc0
 clear hr0 hc0
 have H : (paraphrastlaw01_Few.l0 k l0 0 0 0) = some r := h
 clear h
 have H' := Aside0.mk H
 clear H
 go_enter Tryz.func9, Tryz.ntmps9
 go_wp2
 go_loopg [3, 4, 5] k (fun kq v3 v4 v5 w' => ∃ (x3_1 : Int) (x4_1 : Int) (x5_1 : Int), v3 = .int .i64 x3_1 ∧ v4 = .int .i64 x4_1 ∧ v5 = .int .i64 x5_1 ∧ Aside0 (paraphrastlaw01_Few.l0 kq l0 x3_1 x4_1 x5_1 = some r) ∧ Aside0 (kq ≤ k) ∧ Drawn0 w w')
 case atStart => exact ⟨(0), (0), (0), eS, eS, eS, H', ⟨Nat.le_refl _⟩, dr0⟩
 case round =>
  clear H'
  obtain ⟨x3_1, x4_1, x5_1, rfl, rfl, rfl, HA, HK1, ⟨m1, rfl⟩⟩ := hrel
  cases gk with
  | zero => exact absurd HA.out (by simp [paraphrastlaw01_Few.l0])
  | succ k1 =>
   have H := HA.out
   clear HA
   simp only [paraphrastlaw01_Few.l0] at H
   by_cases c2 : x5_1 < (l0.length : Int)
   ·rw [if_pos c2] at H
    have c2b0 : decide (x5_1 < (l0.length : Int)) = true := decide_eq_true c2
    clear c2
    by_cases c3 : 0 ≤ x5_1
    ·rw [if_pos c3] at H
     have c3b0 : decide (0 ≤ x5_1) = true := decide_eq_true c3
     clear c3
     by_cases c4 : (((rd_T24 l0 x5_1).f1).length : Int) > 12
     ·rw [if_pos c4] at H
      have c4b0 : decide (12 < (((rd_T24 l0 x5_1).f1).length : Int)) = true := decide_eq_true c4
      have c4b1 : decide (12 < ((rd_T24 l0 x5_1).f1).length) = true := decide_eq_true (by omega)
      clear c4
      obtain rfl := Option.some.inj H
      have p101 : 0 ≤ (x5_1 : Int) := dtr
      have q101 : x5_1 < (l0.length : Int) := dtr
      obtain ⟨ad101, A101_1, c101_1, e101, hx101_0, hx101_1, hl101_1, hi101_1⟩ := at_T24 HR0.out x5_1 p101 q101
      cases e101
      have HR101_1 := Aside0.mk hi101_1
      have HC101_1 := Aside0.mk hl101_1
      clear hi101_1 hl101_1
      replace p101 := eq_true p101
      replace q101 := eq_true q101
      go_wp2
      go_ret
      exact ⟨eS, dr0⟩
     ·rw [if_neg c4] at H
      have c4b0 : decide (12 < (((rd_T24 l0 x5_1).f1).length : Int)) = false := decide_eq_false c4
      have c4b1 : decide (12 < ((rd_T24 l0 x5_1).f1).length) = false := decide_eq_false (by omega)
      clear c4
      have H' := Aside0.mk H
      clear H
      have p101 : 0 ≤ (x5_1 : Int) := dtr
      have q101 : x5_1 < (l0.length : Int) := dtr
      obtain ⟨ad101, A101_1, c101_1, e101, hx101_0, hx101_1, hl101_1, hi101_1⟩ := at_T24 HR0.out x5_1 p101 q101
      cases e101
      have HR101_1 := Aside0.mk hi101_1
      have HC101_1 := Aside0.mk hl101_1
      clear hi101_1 hl101_1
      replace p101 := eq_true p101
      replace q101 := eq_true q101
      go_wp2
      go_loopg [3, 4, 6] k1 (fun kq v3 v4 v6 w' => ∃ (x3_2 : Int) (x4_2 : Int) (x6_2 : Int), v3 = .int .i64 x3_2 ∧ v4 = .int .i64 x4_2 ∧ v6 = .int .i64 x6_2 ∧ Aside0 (paraphrastlaw01_Few.l1 kq l0 x3_2 x4_2 x5_1 x6_2 = some r) ∧ Aside0 (kq ≤ k1) ∧ Drawn0 w w')
      case atStart => exact ⟨(x3_1), (x4_1), (0), eS, eS, eS, H', ⟨Nat.le_refl _⟩, dr0⟩
      case round =>
       clear H'
       (try clear c2); (try clear c2b0); (try clear c3); (try clear c3b0); (try clear c4); (try clear c4b0); (try clear c4b1); (try clear hx101_0); (try clear hx101_1); (try clear p101); (try clear q101)
       obtain ⟨x3_2, x4_2, x6_2, rfl, rfl, rfl, HA, HK2, ⟨m2, rfl⟩⟩ := hrel
       cases gk with
       | zero => exact absurd HA.out (by simp [paraphrastlaw01_Few.l1])
       | succ k2 =>
        have H := HA.out
        clear HA
        simp only [paraphrastlaw01_Few.l1] at H
        by_cases c5 : 0 ≤ x5_1
        ·rw [if_pos c5] at H
         have c5b0 : decide (0 ≤ x5_1) = true := decide_eq_true c5
         clear c5
         by_cases c6 : x5_1 < (l0.length : Int)
         ·rw [if_pos c6] at H
          have c6b0 : decide (x5_1 < (l0.length : Int)) = true := decide_eq_true c6
          clear c6
          by_cases c7 : x6_2 < (((rd_T24 l0 x5_1).f1).length : Int)
          ·rw [if_pos c7] at H
           have c7b0 : decide (x6_2 < (((rd_T24 l0 x5_1).f1).length : Int)) = true := decide_eq_true c7
           clear c7
           by_cases c8 : 0 ≤ x6_2
           ·rw [if_pos c8] at H
            have c8b0 : decide (0 ≤ x6_2) = true := decide_eq_true c8
            clear c8
            have HC9 := Aside0.mk H
            clear H
            have p102 : 0 ≤ (x5_1 : Int) := dtr
            have q102 : x5_1 < (l0.length : Int) := dtr
            obtain ⟨ad102, A102_1, c102_1, e102, hx102_0, hx102_1, hl102_1, hi102_1⟩ := at_T24 HR0.out x5_1 p102 q102
            obtain rfl : ad101 = ad102 := (by injection e102)
            have HR102_1 := Aside0.mk hi102_1
            have HC102_1 := Aside0.mk hl102_1
            clear hi102_1 hl102_1
            replace p102 := eq_true p102
            replace q102 := eq_true q102
            have p103 : 0 ≤ (x5_1 : Int) := dtr
            have q103 : x5_1 < (l0.length : Int) := dtr
            obtain ⟨ad103, A103_1, c103_1, e103, hx103_0, hx103_1, hl103_1, hi103_1⟩ := at_T24 HR0.out x5_1 p103 q103
            obtain rfl : ad101 = ad103 := (by injection e103)
            have HR103_1 := Aside0.mk hi103_1
            have HC103_1 := Aside0.mk hl103_1
            clear hi103_1 hl103_1
            replace p103 := eq_true p103
            replace q103 := eq_true q103
            have ea_ := Option.some.inj (hx102_1.symm.trans hx103_1)
            injection ea_ with ea_ en_ ec_
            subst ea_
            subst ec_
            clear en_
            have p104 : 0 ≤ (x6_2 : Int) := dtr
            have q104 : x6_2 < (((rd_T24 l0 x5_1).f1).length : Int) := dtr
            obtain ⟨ad104, A104_2, c104_2, e104, hx104_0, hx104_1, hx104_2, hl104_2, hi104_2⟩ := at_T52 HR103_1.out x6_2 p104 q104
            cases e104
            have HR104_2 := Aside0.mk hi104_2
            have HC104_2 := Aside0.mk hl104_2
            clear hi104_2 hl104_2
            replace p104 := eq_true p104
            replace q104 := eq_true q104
            go_upto_region 11 with (fail)
            go_cut [57] (fun v57 wc => ∃ (kq : Nat) (x57_8 : Bool), v57 = .bool x57_8 ∧ Aside0 (paraphrastlaw01_Few.j2 kq l0 (wrap64 (x3_2 + (((rd_T52 ((rd_T24 l0 x5_1).f1) x6_2).f2).length : Int))) x4_2 x5_1 x6_2 x57_8 = some r) ∧ Aside0 (kq ≤ k2) ∧ Drawn0 w wc)
            case first =>
             have H := HC9.out
             clear HC9
             by_cases c10 : (wrap64 (x3_2 + (((rd_T52 ((rd_T24 l0 x5_1).f1) x6_2).f2).length : Int))) > 1500
             ·rw [if_pos c10] at H
              have c10b0 : decide (1500 < (wrap64 (x3_2 + (((rd_T52 ((rd_T24 l0 x5_1).f1) x6_2).f2).length : Int)))) = true := decide_eq_true c10
              clear c10
              (first | rw [c10b0] | (simp only [i64_w, i32_w]; rw [c10b0]) | skip)
              have H' := Aside0.mk H
              clear H
              go_wp2
              go_meet
              case rel => exact ⟨_, (true), eS, H', ⟨by have := HK1.out; have := HK2.out; first | omega | exact Nat.le_refl _⟩, dr0⟩
             ·rw [if_neg c10] at H
              have c10b0 : decide (1500 < (wrap64 (x3_2 + (((rd_T52 ((rd_T24 l0 x5_1).f1) x6_2).f2).length : Int)))) = false := decide_eq_false c10
              clear c10
              (first | rw [c10b0] | (simp only [i64_w, i32_w]; rw [c10b0]) | skip)
              have H' := Aside0.mk H
              clear H
              have p105 : 0 ≤ (x5_1 : Int) := dtr
              have q105 : x5_1 < (l0.length : Int) := dtr
              obtain ⟨ad105, A105_1, c105_1, e105, hx105_0, hx105_1, hl105_1, hi105_1⟩ := at_T24 HR0.out x5_1 p105 q105
              obtain rfl : ad101 = ad105 := (by injection e105)
              have HR105_1 := Aside0.mk hi105_1
              have HC105_1 := Aside0.mk hl105_1
              clear hi105_1 hl105_1
              replace p105 := eq_true p105
              replace q105 := eq_true q105
              have p106 : 0 ≤ (x6_2 : Int) := dtr
              have q106 : x6_2 < (((rd_T24 l0 x5_1).f1).length : Int) := dtr
              obtain ⟨ad106, A106_2, c106_2, e106, hx106_0, hx106_1, hx106_2, hl106_2, hi106_2⟩ := at_T52 HR105_1.out x6_2 p106 q106
              cases e106
              have HR106_2 := Aside0.mk hi106_2
              have HC106_2 := Aside0.mk hl106_2
              clear hi106_2 hl106_2
              replace p106 := eq_true p106
              replace q106 := eq_true q106
              go_wp2
              go_meet
              case rel => exact ⟨_, (decide ((((rd_T52 ((rd_T24 l0 x5_1).f1) x6_2).f0).size : Int) > 1000)), eS, H', ⟨by have := HK1.out; have := HK2.out; first | omega | exact Nat.le_refl _⟩, dr0⟩
            case rest =>
             clear HC9
             (try clear c2); (try clear c2b0); (try clear c3); (try clear c3b0); (try clear c4); (try clear c4b0); (try clear c4b1); (try clear c5); (try clear c5b0); (try clear c6); (try clear c6b0); (try clear c7); (try clear c7b0); (try clear c8); (try clear c8b0); (try clear hx101_0); (try clear hx101_1); (try clear hx102_0); (try clear hx102_1); (try clear hx103_0); (try clear hx103_1); (try clear hx104_0); (try clear hx104_1); (try clear hx104_2); (try clear p101); (try clear p102); (try clear p103); (try clear p104); (try clear q101); (try clear q102); (try clear q103); (try clear q104)
             obtain ⟨kq, x57_8, rfl, HA, HJ8, ⟨mc8, rfl⟩⟩ := hcut
             cases kq with
             | zero => exact absurd HA.out (by simp [paraphrastlaw01_Few.j2])
             | succ kj8 =>
              have H := HA.out
              clear HA
              simp only [paraphrastlaw01_Few.j2] at H
              by_cases c11 : x57_8 = true
              ·subst c11
               have H1 : (some false) = some r := by rw [if_pos rfl] at H; exact H
               clear H
               have H := H1
               clear H1
               obtain rfl := Option.some.inj H
               go_wp2
               go_ret
               exact ⟨eS, dr0⟩
              ·replace c11 := Bool.eq_false_iff.mpr c11
               subst c11
               have H1 : (paraphrastlaw01_Few.l2 kj8 l0 (wrap64 (x3_2 + (((rd_T52 ((rd_T24 l0 x5_1).f1) x6_2).f2).length : Int))) x4_2 x5_1 x6_2 0) = some r := by rw [if_neg (show ¬ (false = true) by decide)] at H; exact H
               clear H
               have H := H1
               clear H1
               have H' := Aside0.mk H
               clear H
               go_wp2
               go_loopg [4, 7] kj8 (fun kq v4 v7 w' => ∃ (x4_4 : Int) (x7_4 : Int), v4 = .int .i64 x4_4 ∧ v7 = .int .i64 x7_4 ∧ Aside0 (paraphrastlaw01_Few.l2 kq l0 (wrap64 (x3_2 + (((rd_T52 ((rd_T24 l0 x5_1).f1) x6_2).f2).length : Int))) x4_4 x5_1 x6_2 x7_4 = some r) ∧ Aside0 (kq ≤ kj8) ∧ Drawn0 w w')
               case atStart => exact ⟨(x4_2), (0), eS, eS, H', ⟨Nat.le_refl _⟩, dr0⟩
               case round =>
                clear H'
                (try clear c2); (try clear c2b0); (try clear c3); (try clear c3b0); (try clear c4); (try clear c4b0); (try clear c4b1); (try clear c5); (try clear c5b0); (try clear c6); (try clear c6b0); (try clear c7); (try clear c7b0); (try clear c8); (try clear c8b0); (try clear c11); (try clear hx101_0); (try clear hx101_1); (try clear hx102_0); (try clear hx102_1); (try clear hx103_0); (try clear hx103_1); (try clear hx104_0); (try clear hx104_1); (try clear hx104_2); (try clear p101); (try clear p102); (try clear p103); (try clear p104); (try clear q101); (try clear q102); (try clear q103); (try clear q104)
                obtain ⟨x4_4, x7_4, rfl, rfl, HA, HK4, ⟨m4, rfl⟩⟩ := hrel
                cases gk with
                | zero => exact absurd HA.out (by simp [paraphrastlaw01_Few.l2])
                | succ k4 =>
                 have H := HA.out
                 clear HA
                 simp only [paraphrastlaw01_Few.l2] at H
                 by_cases c12 : 0 ≤ x5_1
                 ·rw [if_pos c12] at H
                  have c12b0 : decide (0 ≤ x5_1) = true := decide_eq_true c12
                  clear c12
                  by_cases c13 : x5_1 < (l0.length : Int)
                  ·rw [if_pos c13] at H
                   have c13b0 : decide (x5_1 < (l0.length : Int)) = true := decide_eq_true c13
                   clear c13
                   by_cases c14 : 0 ≤ x6_2
                   ·rw [if_pos c14] at H
                    have c14b0 : decide (0 ≤ x6_2) = true := decide_eq_true c14
                    clear c14
                    by_cases c15 : x6_2 < (((rd_T24 l0 x5_1).f1).length : Int)
                    ·rw [if_pos c15] at H
                     have c15b0 : decide (x6_2 < (((rd_T24 l0 x5_1).f1).length : Int)) = true := decide_eq_true c15
                     clear c15
                     by_cases c16 : x7_4 < (((rd_T52 ((rd_T24 l0 x5_1).f1) x6_2).f2).length : Int)
                     ·rw [if_pos c16] at H
                      have c16b0 : decide (x7_4 < (((rd_T52 ((rd_T24 l0 x5_1).f1) x6_2).f2).length : Int)) = true := decide_eq_true c16
                      clear c16
                      by_cases c17 : 0 ≤ x7_4
                      ·rw [if_pos c17] at H
                       have c17b0 : decide (0 ≤ x7_4) = true := decide_eq_true c17
                       clear c17
                       have H' := Aside0.mk H
                       clear H
                       have p107 : 0 ≤ (x5_1 : Int) := dtr
                       have q107 : x5_1 < (l0.length : Int) := dtr
                       obtain ⟨ad107, A107_1, c107_1, e107, hx107_0, hx107_1, hl107_1, hi107_1⟩ := at_T24 HR0.out x5_1 p107 q107
                       obtain rfl : ad101 = ad107 := (by injection e107)
                       have HR107_1 := Aside0.mk hi107_1
                       have HC107_1 := Aside0.mk hl107_1
                       clear hi107_1 hl107_1
                       replace p107 := eq_true p107
                       replace q107 := eq_true q107
                       have p108 : 0 ≤ (x6_2 : Int) := dtr
                       have q108 : x6_2 < (((rd_T24 l0 x5_1).f1).length : Int) := dtr
                       obtain ⟨ad108, A108_2, c108_2, e108, hx108_0, hx108_1, hx108_2, hl108_2, hi108_2⟩ := at_T52 HR107_1.out x6_2 p108 q108
                       cases e108
                       have HR108_2 := Aside0.mk hi108_2
                       have HC108_2 := Aside0.mk hl108_2
                       clear hi108_2 hl108_2
                       replace p108 := eq_true p108
                       replace q108 := eq_true q108
                       have p109 : 0 ≤ (x5_1 : Int) := dtr
                       have q109 : x5_1 < (l0.length : Int) := dtr
                       obtain ⟨ad109, A109_1, c109_1, e109, hx109_0, hx109_1, hl109_1, hi109_1⟩ := at_T24 HR0.out x5_1 p109 q109
                       obtain rfl : ad101 = ad109 := (by injection e109)
                       have HR109_1 := Aside0.mk hi109_1
                       have HC109_1 := Aside0.mk hl109_1
                       clear hi109_1 hl109_1
                       replace p109 := eq_true p109
                       replace q109 := eq_true q109
                       have ea_ := Option.some.inj (hx107_1.symm.trans hx109_1)
                       injection ea_ with ea_ en_ ec_
                       subst ea_
                       subst ec_
                       clear en_
                       have p110 : 0 ≤ (x6_2 : Int) := dtr
                       have q110 : x6_2 < (((rd_T24 l0 x5_1).f1).length : Int) := dtr
                       obtain ⟨ad110, A110_2, c110_2, e110, hx110_0, hx110_1, hx110_2, hl110_2, hi110_2⟩ := at_T52 HR109_1.out x6_2 p110 q110
                       cases e110
                       have HR110_2 := Aside0.mk hi110_2
                       have HC110_2 := Aside0.mk hl110_2
                       clear hi110_2 hl110_2
                       replace p110 := eq_true p110
                       replace q110 := eq_true q110
                       have ea_ := Option.some.inj (hx108_2.symm.trans hx110_2)
                       injection ea_ with ea_ en_ ec_
                       subst ea_
                       subst ec_
                       clear en_
                       have p111 : 0 ≤ (x7_4 : Int) := dtr
                       have q111 : x7_4 < (((rd_T52 ((rd_T24 l0 x5_1).f1) x6_2).f2).length : Int) := dtr
                       obtain ⟨ad111, A111_0, c111_0, e111, hx111_0, hl111_0, hi111_0⟩ := at_L2 HR110_2.out x7_4 p111 q111
                       cases e111
                       have HR111_0 := Aside0.mk hi111_0
                       have HC111_0 := Aside0.mk hl111_0
                       clear hi111_0 hl111_0
                       replace p111 := eq_true p111
                       replace q111 := eq_true q111
                       go_wp2
                       go_roundg k4
                       case measure => have := HK1.out; have := HK2.out; have := HJ8.out; have := HK4.out; omega
                       case rel => exact ⟨(wrap64 (x4_4 + ((rd_L2 ((rd_T52 ((rd_T24 l0 x5_1).f1) x6_2).f2) x7_4).length : Int))), (wrap64 (x7_4 + 1)), eS, eS, H', ⟨by have := HK1.out; have := HK2.out; have := HJ8.out; have := HK4.out; omega⟩, dr0⟩
                      ·rw [if_neg c17] at H
                       exact absurd H (by simp)
                     ·rw [if_neg c16] at H
                      have c16b0 : decide (x7_4 < (((rd_T52 ((rd_T24 l0 x5_1).f1) x6_2).f2).length : Int)) = false := decide_eq_false c16
                      clear c16
                      have H' := Aside0.mk H
                      clear H
                      have p107 : 0 ≤ (x5_1 : Int) := dtr
                      have q107 : x5_1 < (l0.length : Int) := dtr
                      obtain ⟨ad107, A107_1, c107_1, e107, hx107_0, hx107_1, hl107_1, hi107_1⟩ := at_T24 HR0.out x5_1 p107 q107
                      obtain rfl : ad101 = ad107 := (by injection e107)
                      have HR107_1 := Aside0.mk hi107_1
                      have HC107_1 := Aside0.mk hl107_1
                      clear hi107_1 hl107_1
                      replace p107 := eq_true p107
                      replace q107 := eq_true q107
                      have p108 : 0 ≤ (x6_2 : Int) := dtr
                      have q108 : x6_2 < (((rd_T24 l0 x5_1).f1).length : Int) := dtr
                      obtain ⟨ad108, A108_2, c108_2, e108, hx108_0, hx108_1, hx108_2, hl108_2, hi108_2⟩ := at_T52 HR107_1.out x6_2 p108 q108
                      cases e108
                      have HR108_2 := Aside0.mk hi108_2
                      have HC108_2 := Aside0.mk hl108_2
                      clear hi108_2 hl108_2
                      replace p108 := eq_true p108
                      replace q108 := eq_true q108
                      go_wp2
                      go_roundg k4
                      case measure => have := HK1.out; have := HK2.out; have := HJ8.out; have := HK4.out; omega
                      case rel => exact ⟨((wrap64 (x3_2 + (((rd_T52 ((rd_T24 l0 x5_1).f1) x6_2).f2).length : Int)))), (x4_4), (wrap64 (x6_2 + 1)), eS, eS, eS, H', ⟨by have := HK1.out; have := HK2.out; have := HJ8.out; have := HK4.out; omega⟩, dr0⟩
                    ·rw [if_neg c15] at H
                     exact absurd H (by simp)
                   ·rw [if_neg c14] at H
                    exact absurd H (by simp)
                  ·rw [if_neg c13] at H
                   exact absurd H (by simp)
                 ·rw [if_neg c12] at H
                  exact absurd H (by simp)
           ·rw [if_neg c8] at H
            exact absurd H (by simp)
          ·rw [if_neg c7] at H
           have c7b0 : decide (x6_2 < (((rd_T24 l0 x5_1).f1).length : Int)) = false := decide_eq_false c7
           clear c7
           have H' := Aside0.mk H
           clear H
           have p102 : 0 ≤ (x5_1 : Int) := dtr
           have q102 : x5_1 < (l0.length : Int) := dtr
           obtain ⟨ad102, A102_1, c102_1, e102, hx102_0, hx102_1, hl102_1, hi102_1⟩ := at_T24 HR0.out x5_1 p102 q102
           obtain rfl : ad101 = ad102 := (by injection e102)
           have HR102_1 := Aside0.mk hi102_1
           have HC102_1 := Aside0.mk hl102_1
           clear hi102_1 hl102_1
           replace p102 := eq_true p102
           replace q102 := eq_true q102
           go_wp2
           go_roundg k2
           case measure => have := HK1.out; have := HK2.out; omega
           case rel => exact ⟨(x3_2), (x4_2), (wrap64 (x5_1 + 1)), eS, eS, eS, H', ⟨by have := HK1.out; have := HK2.out; omega⟩, dr0⟩
         ·rw [if_neg c6] at H
          exact absurd H (by simp)
        ·rw [if_neg c5] at H
         exact absurd H (by simp)
    ·rw [if_neg c3] at H
     exact absurd H (by simp)
   ·rw [if_neg c2] at H
    have c2b0 : decide (x5_1 < (l0.length : Int)) = false := decide_eq_false c2
    clear c2
    obtain rfl := Option.some.inj H
    go_wp2
    go_ret
    exact ⟨eS, dr0⟩
end Go.Proofs.YtfmpaofbnjlniaaGreatDoor.F
/- Few always answers. -/
namespace Go.Proofs.YtfmpaofbnjlniaaGreatDoor.F
open Go.RowKit Go.Proofs.YtfmpaofbnjlniaaGreatDoorW.PrintWords Go.Proofs.YtfmpaofbnjlniaaGreatDoorW.PrintLast Go.Proofs.YtfmpaofbnjlniaaGreatDoorW.PrintMore
set_option linter.unusedVariables false
theorem few_l2 (n : Int) (l : List S52) (i : Nat) (hi : i < l.length) (h8 : l.length ≤ 12) (x3 : Int) (hM : (rd_T52 l (i : Int)).f2.length ≤ 9223372036854775807) (H : ∀ x4, ∃ k b, paraphrastlaw01_Few.l1 k [⟨n, l⟩] x3 x4 0 ((i : Int) + 1) = some b) :
    ∀ (m j : Nat) (x4 : Int), j + m = (rd_T52 l (i : Int)).f2.length → ∃ k b, paraphrastlaw01_Few.l2 k [⟨n, l⟩] x3 x4 0 (i : Int) (j : Int) = some b
  | 0, j, x4, h => by
    obtain ⟨k, b, hk⟩ := H x4
    refine ⟨k + 1, b, ?_⟩
    unfold paraphrastlaw01_Few.l2
    rw [if_pos (by omega), if_pos (by simp), if_pos (by omega), if_pos (show (i : Int) < ((rd_T24 [⟨n, l⟩] 0).f1.length : Int) from by show (i : Int) < (l.length : Int); omega), if_neg (show ¬ (j : Int) < ((rd_T52 (rd_T24 [⟨n, l⟩] 0).f1 (i : Int)).f2.length : Int) from by show ¬ (j : Int) < ((rd_T52 l (i : Int)).f2.length : Int); omega), w64 (by omega) (by omega)]
    exact hk
  | m + 1, j, x4, h => by
    obtain ⟨k, b, hk⟩ := few_l2 n l i hi h8 x3 hM H m (j + 1) (wrap64 (x4 + ((rd_L2 (rd_T52 l (i : Int)).f2 (j : Int)).length : Int))) (by omega)
    refine ⟨k + 1, b, ?_⟩
    unfold paraphrastlaw01_Few.l2
    rw [if_pos (by omega), if_pos (by simp), if_pos (by omega), if_pos (show (i : Int) < ((rd_T24 [⟨n, l⟩] 0).f1.length : Int) from by show (i : Int) < (l.length : Int); omega), if_pos (show (j : Int) < ((rd_T52 (rd_T24 [⟨n, l⟩] 0).f1 (i : Int)).f2.length : Int) from by show (j : Int) < ((rd_T52 l (i : Int)).f2.length : Int); omega), if_pos (by omega), w64 (x := (j : Int) + 1) (by omega) (by omega)]
    exact hk
theorem few_l1 (n : Int) (l : List S52) (h8 : l.length ≤ 12) (hM : ∀ r ∈ l, r.f2.length ≤ 9223372036854775807) : ∀ (d i : Nat) (x3 x4 : Int), i + d = l.length → ∃ k b, paraphrastlaw01_Few.l1 k [⟨n, l⟩] x3 x4 0 (i : Int) = some b
  | 0, i, x3, x4, h => by
    refine ⟨2, decide (x4 ≤ 20000), ?_⟩
    unfold paraphrastlaw01_Few.l1
    rw [if_pos (by omega), if_pos (by simp), if_neg (show ¬ (i : Int) < ((rd_T24 [⟨n, l⟩] 0).f1.length : Int) from by show ¬ (i : Int) < (l.length : Int); omega), show wrap64 (0 + 1) = 1 from by unfold wrap64; omega]
    unfold paraphrastlaw01_Few.l0
    rw [if_neg (by simp)]
  | d + 1, i, x3, x4, h => by
    have hi : i < l.length := by omega
    have hr := hM _ (List.getElem_mem hi)
    rw [← rdT_nat l i hi] at hr
    generalize hX : wrap64 (x3 + ((rd_T52 l (i : Int)).f2.length : Int)) = X
    have step : ∀ k, paraphrastlaw01_Few.l1 (k + 1) [⟨n, l⟩] x3 x4 0 (i : Int) = if X > 1500 then paraphrastlaw01_Few.j2 k [⟨n, l⟩] X x4 0 (i : Int) true else paraphrastlaw01_Few.j2 k [⟨n, l⟩] X x4 0 (i : Int) (decide (((rd_T52 l (i : Int)).f0.size : Int) > 1000)) := fun k => by
      conv => lhs; unfold paraphrastlaw01_Few.l1
      rw [if_pos (by omega), if_pos (by simp), if_pos (show (i : Int) < ((rd_T24 [⟨n, l⟩] 0).f1.length : Int) from by show (i : Int) < (l.length : Int); omega), if_pos (by omega)]
      show (if wrap64 (x3 + ((rd_T52 l (i : Int)).f2.length : Int)) > 1500 then paraphrastlaw01_Few.j2 k [⟨n, l⟩] (wrap64 (x3 + ((rd_T52 l (i : Int)).f2.length : Int))) x4 0 (i : Int) true else paraphrastlaw01_Few.j2 k [⟨n, l⟩] (wrap64 (x3 + ((rd_T52 l (i : Int)).f2.length : Int))) x4 0 (i : Int) (decide (((rd_T52 l (i : Int)).f0.size : Int) > 1000))) = _
      rw [hX]
    by_cases h1 : X > 1500
    · exact ⟨2, false, by rw [step, if_pos h1]; rfl⟩
    · by_cases h2 : ((rd_T52 l (i : Int)).f0.size : Int) > 1000
      · exact ⟨2, false, by rw [step, if_neg h1, decide_eq_true h2]; rfl⟩
      · obtain ⟨k, b, hk⟩ := few_l2 n l i hi h8 X hr (fun x4' => by have := few_l1 n l h8 hM d (i + 1) X x4' (by omega); rwa [show ((i + 1 : Nat) : Int) = (i : Int) + 1 by omega] at this) (rd_T52 l (i : Int)).f2.length 0 x4 (by omega)
        exact ⟨k + 2, b, by rw [step, if_neg h1, decide_eq_false h2]; exact hk⟩
theorem few_ex (n : Int) (l : List S52) (hM : ∀ r ∈ l, r.f2.length ≤ 9223372036854775807) : ∃ k b, paraphrastlaw01_Few.f k [⟨n, l⟩] = some b := by
  by_cases h : (l.length : Int) > 12
  · exact ⟨1, false, by
      unfold paraphrastlaw01_Few.f paraphrastlaw01_Few.l0
      rw [if_pos (by simp), if_pos (by omega)]
      exact if_pos h⟩
  · obtain ⟨k, b, hk⟩ := few_l1 n l (by omega) hM l.length 0 0 0 (by omega)
    exact ⟨k + 1, b, by
      unfold paraphrastlaw01_Few.f paraphrastlaw01_Few.l0
      rw [if_pos (by simp), if_pos (by omega)]
      exact (if_neg h).trans hk⟩
theorem rels_max {w : World} {A : Option Addr} {n : Nat} {l : List S52} (h : Kd.C k52 w A n l) : ∀ r ∈ l, r.f2.length ≤ 9223372036854775807 := by
  intro r hr
  obtain ⟨i, hi, rfl⟩ := List.getElem_of_mem hr
  have hn : 0 < n := by have := h.1; omega
  obtain ⟨ad, _, hc⟩ := h.2.2 hn
  obtain ⟨c, _, hK, _⟩ := hc i _ (List.getElem?_eq_getElem hi)
  obtain ⟨A2, c2, _, _, g⟩ := k52_open hK
  exact g.2.1
end Go.Proofs.YtfmpaofbnjlniaaGreatDoor.F
namespace Go.Proofs.YtfmpaofbnjlniaaGreatDoor.F
open Go.RowKit Go.Proofs.YtfmpaofbnjlniaaGreatDoorW.PrintWords Go.Proofs.YtfmpaofbnjlniaaGreatDoorW.PrintLast Go.Proofs.YtfmpaofbnjlniaaGreatDoorW.PrintMore
attribute [local go_sem] max2_int min2_int max_two min_two max_three min_three max_four min_four
set_option linter.unusedVariables false
set_option linter.unusedSimpArgs false
/-! ### paraphrastref01_SameTuples: function 69 -/
def paraphrastref01_SameTuples.l0 : Nat → List (List Int) → List (List Int) → Int → Option (Bool)
 | 0, _, _, _ => none
 | k + 1, x0, x1, x5 => if x5 < (x0.length : Int) then (if 0 ≤ x5 then (if x5 < (x1.length : Int) then ((paraphrastref01_Equal.f k (rd_L2 x0 x5) (rd_L2 x1 x5)).bind fun t255 => (if t255 = true then (paraphrastref01_SameTuples.l0 k x0 x1 (wrap64 (x5 + 1))) else (some false))) else (none)) else (none)) else (some true)
def paraphrastref01_SameTuples.f (k : Nat) (l0 : List (List Int)) (l1 : List (List Int)) : Option (Bool) := if (l0.length : Int) = (l1.length : Int) then (paraphrastref01_SameTuples.l0 k l0 l1 0) else (some false)
set_option maxHeartbeats 8000000 in
set_option maxRecDepth 100000 in
theorem paraphrastref01_SameTuples.calls (k : Nat) (A0 : Option Addr) (c0 : Nat) (l0 : List (List Int)) (A1 : Option Addr) (c1 : Nat) (l1 : List (List Int)) (r : Bool) (w : World) (hr0 : Kd.C (Kd.slice 3 (Kd.int .i64)) w A0 l0.length l0) (hc0 : l0.length ≤ c0) (hr1 : Kd.C (Kd.slice 3 (Kd.int .i64)) w A1 l1.length l1) (hc1 : l1.length ≤ c1) (h : paraphrastref01_SameTuples.f k l0 l1 = some r) :
  Calls Tryz.prog 69 #[.slice A0 l0.length c0, .slice A1 l1.length c1] w fun e w' => e = .returned (.bool r) ∧ Drawn0 w w' := by
 have HR0 := Aside0.mk hr0
 have HC0 := Aside0.mk hc0
 clear hr0 hc0
 have HR1 := Aside0.mk hr1
 have HC1 := Aside0.mk hc1
 clear hr1 hc1
 have H : (if (l0.length : Int) = (l1.length : Int) then (paraphrastref01_SameTuples.l0 k l0 l1 0) else (some false)) = some r := h
 clear h
 by_cases c3 : (l0.length : Int) = (l1.length : Int)
 ·rw [if_pos c3] at H
  have c3b0 : ((l0.length : Int) == (l1.length : Int)) = true := beq_iff_eq.mpr c3
  have c3b1 : ((l0.length : Int) != (l1.length : Int)) = false := bne_eq_false_iff_eq.mpr c3
  have c3b2 : (l0.length == l1.length) = true := by first | simpa using c3 | (simp at c3 ⊢; omega)
  clear c3
  have H' := Aside0.mk H
  clear H
  go_enter Tryz.func69, Tryz.ntmps69
  go_wp2
  repeat (go_quiet (fail); try go_wp2)
  go_loopg [5] k (fun kq v5 w' => ∃ (x5_1 : Int), v5 = .int .i64 x5_1 ∧ Aside0 (paraphrastref01_SameTuples.l0 kq l0 l1 x5_1 = some r) ∧ Aside0 (kq ≤ k) ∧ Drawn0 w w')
  case atStart => exact ⟨(0), eS, H', ⟨Nat.le_refl _⟩, dr0⟩
  case round =>
   clear H'
   (try clear c1); (try clear c3); (try clear c3b0); (try clear c3b1); (try clear c3b2)
   obtain ⟨x5_1, rfl, HA, HK1, ⟨m1, rfl⟩⟩ := hrel
   cases gk with
   | zero => exact absurd HA.out (by simp [paraphrastref01_SameTuples.l0])
   | succ k1 =>
    have H := HA.out
    clear HA
    simp only [paraphrastref01_SameTuples.l0] at H
    by_cases c4 : x5_1 < (l0.length : Int)
    ·rw [if_pos c4] at H
     have c4b0 : decide (x5_1 < (l0.length : Int)) = true := decide_eq_true c4
     clear c4
     by_cases c5 : 0 ≤ x5_1
     ·rw [if_pos c5] at H
      have c5b0 : decide (0 ≤ x5_1) = true := decide_eq_true c5
      clear c5
      by_cases c6 : x5_1 < (l1.length : Int)
      ·rw [if_pos c6] at H
       have c6b0 : decide (x5_1 < (l1.length : Int)) = true := decide_eq_true c6
       clear c6
       replace H := Option.bind_eq_some_iff.mp H
       obtain ⟨t255, A70, H⟩ := H
       replace H : (if t255 = true then (paraphrastref01_SameTuples.l0 k1 l0 l1 (wrap64 (x5_1 + 1))) else (some false)) = some r := H
       have A7 := Aside0.mk A70
       clear A70
       by_cases c8 : t255 = true
       ·subst c8
        have H1 : (paraphrastref01_SameTuples.l0 k1 l0 l1 (wrap64 (x5_1 + 1))) = some r := by rw [if_pos rfl] at H; exact H
        clear H
        have H := H1
        clear H1
        have H' := Aside0.mk H
        clear H
        have p253 : 0 ≤ (x5_1 : Int) := dtr
        have q253 : x5_1 < (l0.length : Int) := dtr
        obtain ⟨ad253, A253_0, c253_0, e253, hx253_0, hl253_0, hi253_0⟩ := at_L2 HR0.out x5_1 p253 q253
        cases e253
        have HR253_0 := Aside0.mk hi253_0
        have HC253_0 := Aside0.mk hl253_0
        clear hi253_0 hl253_0
        replace p253 := eq_true p253
        replace q253 := eq_true q253
        have p254 : 0 ≤ (x5_1 : Int) := dtr
        have q254 : x5_1 < (l1.length : Int) := dtr
        obtain ⟨ad254, A254_0, c254_0, e254, hx254_0, hl254_0, hi254_0⟩ := at_L2 HR1.out x5_1 p254 q254
        cases e254
        have HR254_0 := Aside0.mk hi254_0
        have HC254_0 := Aside0.mk hl254_0
        clear hi254_0 hl254_0
        replace p254 := eq_true p254
        replace q254 := eq_true q254
        go_wp2_with (first | (go_at_call 41; (with_reducible refine (paraphrastref01_Equal.calls k1 _ _ (rd_L2 l0 x5_1) _ _ (rd_L2 l1 x5_1) true _ ?side1 ?side2 ?side3 ?side4 A7.out).mono ?_); (case side1 => exact cS HR253_0.out); (case side2 => exact HC253_0.out); (case side3 => exact cS HR254_0.out); (case side4 => exact HC254_0.out); rintro e w' ⟨rfl, ⟨nd, rfl⟩⟩; (try first | exact ⟨rfl, _, World.drewN_drewN _ _ _⟩ | exact ⟨rfl, _, Eq.trans (World.drewN_drewN _ _ _) (congrArg (World.drewN _) (Nat.add_assoc _ _ _))⟩)))
        repeat (go_quiet (first | (go_at_call 41; (with_reducible refine (paraphrastref01_Equal.calls k1 _ _ (rd_L2 l0 x5_1) _ _ (rd_L2 l1 x5_1) true _ ?side1 ?side2 ?side3 ?side4 A7.out).mono ?_); (case side1 => exact cS HR253_0.out); (case side2 => exact HC253_0.out); (case side3 => exact cS HR254_0.out); (case side4 => exact HC254_0.out); rintro e w' ⟨rfl, ⟨nd, rfl⟩⟩; (try first | exact ⟨rfl, _, World.drewN_drewN _ _ _⟩ | exact ⟨rfl, _, Eq.trans (World.drewN_drewN _ _ _) (congrArg (World.drewN _) (Nat.add_assoc _ _ _))⟩))); try go_wp2_with (first | (go_at_call 41; (with_reducible refine (paraphrastref01_Equal.calls k1 _ _ (rd_L2 l0 x5_1) _ _ (rd_L2 l1 x5_1) true _ ?side1 ?side2 ?side3 ?side4 A7.out).mono ?_); (case side1 => exact cS HR253_0.out); (case side2 => exact HC253_0.out); (case side3 => exact cS HR254_0.out); (case side4 => exact HC254_0.out); rintro e w' ⟨rfl, ⟨nd, rfl⟩⟩; (try first | exact ⟨rfl, _, World.drewN_drewN _ _ _⟩ | exact ⟨rfl, _, Eq.trans (World.drewN_drewN _ _ _) (congrArg (World.drewN _) (Nat.add_assoc _ _ _))⟩))))
        go_roundg k1
        case measure => have := HK1.out; omega
        case rel => exact ⟨(wrap64 (x5_1 + 1)), eS, H', ⟨by have := HK1.out; omega⟩, dr0⟩
       ·replace c8 := Bool.eq_false_iff.mpr c8
        subst c8
        have H1 : (some false) = some r := by rw [if_neg (show ¬ (false = true) by decide)] at H; exact H
        clear H
        have H := H1
        clear H1
        obtain rfl := Option.some.inj H
        have p253 : 0 ≤ (x5_1 : Int) := dtr
        have q253 : x5_1 < (l0.length : Int) := dtr
        obtain ⟨ad253, A253_0, c253_0, e253, hx253_0, hl253_0, hi253_0⟩ := at_L2 HR0.out x5_1 p253 q253
        cases e253
        have HR253_0 := Aside0.mk hi253_0
        have HC253_0 := Aside0.mk hl253_0
        clear hi253_0 hl253_0
        replace p253 := eq_true p253
        replace q253 := eq_true q253
        have p254 : 0 ≤ (x5_1 : Int) := dtr
        have q254 : x5_1 < (l1.length : Int) := dtr
        obtain ⟨ad254, A254_0, c254_0, e254, hx254_0, hl254_0, hi254_0⟩ := at_L2 HR1.out x5_1 p254 q254
        cases e254
        have HR254_0 := Aside0.mk hi254_0
        have HC254_0 := Aside0.mk hl254_0
        clear hi254_0 hl254_0
        replace p254 := eq_true p254
        replace q254 := eq_true q254
        go_wp2_with (first | (go_at_call 41; (with_reducible refine (paraphrastref01_Equal.calls k1 _ _ (rd_L2 l0 x5_1) _ _ (rd_L2 l1 x5_1) false _ ?side1 ?side2 ?side3 ?side4 A7.out).mono ?_); (case side1 => exact cS HR253_0.out); (case side2 => exact HC253_0.out); (case side3 => exact cS HR254_0.out); (case side4 => exact HC254_0.out); rintro e w' ⟨rfl, ⟨nd, rfl⟩⟩; (try first | exact ⟨rfl, _, World.drewN_drewN _ _ _⟩ | exact ⟨rfl, _, Eq.trans (World.drewN_drewN _ _ _) (congrArg (World.drewN _) (Nat.add_assoc _ _ _))⟩)))
        repeat (go_quiet (first | (go_at_call 41; (with_reducible refine (paraphrastref01_Equal.calls k1 _ _ (rd_L2 l0 x5_1) _ _ (rd_L2 l1 x5_1) false _ ?side1 ?side2 ?side3 ?side4 A7.out).mono ?_); (case side1 => exact cS HR253_0.out); (case side2 => exact HC253_0.out); (case side3 => exact cS HR254_0.out); (case side4 => exact HC254_0.out); rintro e w' ⟨rfl, ⟨nd, rfl⟩⟩; (try first | exact ⟨rfl, _, World.drewN_drewN _ _ _⟩ | exact ⟨rfl, _, Eq.trans (World.drewN_drewN _ _ _) (congrArg (World.drewN _) (Nat.add_assoc _ _ _))⟩))); try go_wp2_with (first | (go_at_call 41; (with_reducible refine (paraphrastref01_Equal.calls k1 _ _ (rd_L2 l0 x5_1) _ _ (rd_L2 l1 x5_1) false _ ?side1 ?side2 ?side3 ?side4 A7.out).mono ?_); (case side1 => exact cS HR253_0.out); (case side2 => exact HC253_0.out); (case side3 => exact cS HR254_0.out); (case side4 => exact HC254_0.out); rintro e w' ⟨rfl, ⟨nd, rfl⟩⟩; (try first | exact ⟨rfl, _, World.drewN_drewN _ _ _⟩ | exact ⟨rfl, _, Eq.trans (World.drewN_drewN _ _ _) (congrArg (World.drewN _) (Nat.add_assoc _ _ _))⟩))))
        go_ret
        exact ⟨eS, dr0⟩
      ·rw [if_neg c6] at H
       exact absurd H (by simp)
     ·rw [if_neg c5] at H
      exact absurd H (by simp)
    ·rw [if_neg c4] at H
     have c4b0 : decide (x5_1 < (l0.length : Int)) = false := decide_eq_false c4
     clear c4
     obtain rfl := Option.some.inj H
     go_wp2
     repeat (go_quiet (fail); try go_wp2)
     go_ret
     exact ⟨eS, dr0⟩
 ·rw [if_neg c3] at H
  have c3b0 : ((l0.length : Int) == (l1.length : Int)) = false := beq_eq_false_iff_ne.mpr c3
  have c3b1 : ((l0.length : Int) != (l1.length : Int)) = true := bne_iff_ne.mpr c3
  have c3b2 : (l0.length == l1.length) = false := by first | simpa using c3 | (simp at c3 ⊢; omega)
  obtain rfl := Option.some.inj H
  go_enter Tryz.func69, Tryz.ntmps69
  go_wp2
  repeat (go_quiet (fail); try go_wp2)
  go_ret
  exact ⟨eS, dr0⟩
end Go.Proofs.YtfmpaofbnjlniaaGreatDoor.F
namespace Go.Proofs.YtfmpaofbnjlniaaGreatDoor.F
open Go.RowKit Go.Proofs.YtfmpaofbnjlniaaGreatDoorW.PrintWords Go.Proofs.YtfmpaofbnjlniaaGreatDoorW.PrintLast Go.Proofs.YtfmpaofbnjlniaaGreatDoorW.PrintMore
attribute [local go_sem] max2_int min2_int max_two min_two max_three min_three max_four min_four
set_option linter.unusedVariables false
set_option linter.unusedSimpArgs false
theorem far_ne34 {W : World} {p : Addr} {v : Value} {g : Nat} (h : W.cell? p = some v) (hg : W.heap.size ≤ g) : p.block ≠ g := Nat.ne_of_lt (Nat.lt_of_lt_of_le (World.block_lt_of_cell? _ _ h) hg)
/-! ### paraphrastref01_Same: function 34 -/
mutual
def paraphrastref01_Same.j0 : Nat → Bool → Int → List (S52) → Int → List (S52) → Option (Bool)
 | 0, _, _, _, _, _ => none
 | k + 1, x21, x257000, x257001, x258000, x258001 => if x21 = true then (some false) else (paraphrastref01_Same.l0 k 0 x257000 x257001 x258000 x258001)
def paraphrastref01_Same.l0 : Nat → Int → Int → List (S52) → Int → List (S52) → Option (Bool)
 | 0, _, _, _, _, _ => none
 | k + 1, x5, x257000, x257001, x258000, x258001 => if x5 < (x257001.length : Int) then (if 0 ≤ x5 then (if x5 < (x258001.length : Int) then (if ((rd_T52 x257001 x5).f0).toList = ((rd_T52 x258001 x5).f0).toList then (if ((rd_T52 x257001 x5).f1) = ((rd_T52 x258001 x5).f1) then ((paraphrastref01_SameTuples.f k ((rd_T52 x257001 x5).f2) ((rd_T52 x258001 x5).f2)).bind fun t262 => (if t262 = true then (paraphrastref01_Same.l0 k (wrap64 (x5 + 1)) x257000 x257001 x258000 x258001) else (some false))) else (some false)) else (some false)) else (none)) else (none)) else (some true)
end
def paraphrastref01_Same.f (k : Nat) (a0_0 : Int) (l0_1 : List (S52)) (a1_0 : Int) (l1_1 : List (S52)) : Option (Bool) := if a0_0 = a1_0 then (paraphrastref01_Same.j0 k ((l0_1.length : Int) != (l1_1.length : Int)) a0_0 l0_1 a1_0 l1_1) else (paraphrastref01_Same.j0 k true a0_0 l0_1 a1_0 l1_1)
def paraphrastref01_Same.T6 : Bool × List (List Nat × List Nat) := (true, [([], []), ([0], [0]), ([], []), ([1, 2], [1, 2]), ([3], [3]), ([], []), ([5], [5]), ([], []), ([6, 7], [6, 7]), ([8], [8]), ([], []), ([], []), ([10, 4, 0, 1, 2, 3, 4, 10, 11], [4, 10]), ([11, 9, 12, 0, 1, 2, 3, 4, 5, 6, 7, 8, 9, 10, 11, 12], [9, 11])])
def paraphrastref01_Same.B6 : List Nat := [0, 1, 0, 7, 15, 0, 32, 0, 224, 480, 0, 0, 3103, 8191]
theorem paraphrastref01_Same.tab6 : rtab .any (opsOf Tryz.f34 6) = paraphrastref01_Same.T6 := by kernel_rfl
theorem paraphrastref01_Same.bits6 : waitsOk paraphrastref01_Same.T6.2 paraphrastref01_Same.B6 = true := by kernel_rfl
set_option maxHeartbeats 8000000 in
set_option maxRecDepth 100000 in
theorem paraphrastref01_Same.calls (k : Nat) (a0_0 : Int) (A0_1 : Option Addr) (c0_1 : Nat) (l0_1 : List (S52)) (a1_0 : Int) (A1_1 : Option Addr) (c1_1 : Nat) (l1_1 : List (S52)) (r : Bool) (w : World) (hr0_1 : Kd.C k52 w A0_1 l0_1.length l0_1) (hc0_1 : l0_1.length ≤ c0_1) (hr1_1 : Kd.C k52 w A1_1 l1_1.length l1_1) (hc1_1 : l1_1.length ≤ c1_1) (h : paraphrastref01_Same.f k a0_0 l0_1 a1_0 l1_1 = some r) :
  Calls Tryz.prog 34 #[.agg #[.int .i64 a0_0, .slice A0_1 l0_1.length c0_1], .agg #[.int .i64 a1_0, .slice A1_1 l1_1.length c1_1]] w fun e w' => e = .returned (.bool r) ∧ Below w.heap.size w w' := by
 have hu24 := Tryz.underlying24
 have hu52 := Tryz.underlying52
 have HR0_1 := Aside0.mk hr0_1
 have HC0_1 := Aside0.mk hc0_1
 clear hr0_1 hc0_1
 have HR1_1 := Aside0.mk hr1_1
 have HC1_1 := Aside0.mk hc1_1
 clear hr1_1 hc1_1
 have HB := Aside0.mk (Below.refl w.heap.size w)
 have H : (if a0_0 = a1_0 then (paraphrastref01_Same.j0 k ((l0_1.length : Int) != (l1_1.length : Int)) a0_0 l0_1 a1_0 l1_1) else (paraphrastref01_Same.j0 k true a0_0 l0_1 a1_0 l1_1)) = some r := h
 clear h
 have HC3 := Aside0.mk H
 clear H
 go_enter Tryz.func34, Tryz.ntmps34
 go_upto_region 1 with (first | ((with_reducible refine gate_dst (N := 2) rfl ?_); (try (refine gate_guard (by rfl) ?_; dsimp only)); refine box_event ?hg (N := 2) ?hd (cs := #[.int .i64 a0_0, .slice A0_1 l0_1.length c0_1]) (t := 24) ?hr ?_; (case hd => rfl); (case hg => rfl); (case hr => first | (go_simp; done) | (go_simp; rfl)); intro gb256 hg w4 hbox hb; have BK256 := Aside0.mk (hbox); have GW256 := geB w hg; have GE256 := geB w hg; replace HB := Aside0.mk (below_step bel hb); clear hb hbox hg) | ((with_reducible refine gate_dst (N := 3) rfl ?_); (try (refine gate_guard (by rfl) ?_; dsimp only)); refine box_event ?hg (N := 3) ?hd (cs := #[.int .i64 a1_0, .slice A1_1 l1_1.length c1_1]) (t := 24) ?hr ?_; (case hd => rfl); (case hg => rfl); (case hr => first | (go_simp; done) | (go_simp; rfl)); intro gb257 hg w5 hbox hb; have BK257 := Aside0.mk (hbox); have GW257 := geB w hg; have GE257 := geB w hg; have NB256_257 := neL BK256 hg; have NB257_256 := neG BK256 hg; replace BK256 := blB BK256 hb; replace HB := Aside0.mk (below_step bel hb); clear hb hbox hg))
 (try simp only [Act.put, List.setIfInBounds_toArray, List.set_cons_zero, List.set_cons_succ])
 go_cut [21] (fun v21 wc => ∃ (kq : Nat) (x21_2 : Bool), v21 = .bool x21_2 ∧ Aside0 (paraphrastref01_Same.j0 kq x21_2 a0_0 l0_1 a1_0 l1_1 = some r) ∧ Aside0 (kq ≤ k) ∧ Aside0 (wc.heap[gb256]? = some (.cells #[.int .i64 a0_0, (.slice A0_1 l0_1.length c0_1)] 24 (0, 0))) ∧ Aside0 (wc.heap[gb257]? = some (.cells #[.int .i64 a1_0, (.slice A1_1 l1_1.length c1_1)] 24 (0, 0))) ∧ Aside0 (Below w.heap.size w wc))
 case first =>
  have H := HC3.out
  clear HC3
  by_cases c6 : a0_0 = a1_0
  ·rw [if_pos c6] at H
   have c6b0 : (a0_0 == a1_0) = true := beq_iff_eq.mpr c6
   have c6b1 : (a0_0 != a1_0) = false := bne_eq_false_iff_eq.mpr c6
   clear c6
   (first | rw [c6b0] | (simp only [i64_w, i32_w]; rw [c6b0]) | skip)
   have H' := Aside0.mk H
   clear H
   have hnb7 := NB256_257.out
   have hnc7 := NB257_256.out
   obtain ⟨hcz8_0, hcz8_1, hfz8_0, hfz8_1⟩ := bq2 BK256
   obtain ⟨hcz9_0, hcz9_1, hfz9_0, hfz9_1⟩ := bq2 BK257
   go_wp2
   go_meet
   case rel => exact ⟨_, (((l0_1.length : Int) != (l1_1.length : Int))), eS, H', ⟨kle⟩, ⟨bk BK256⟩, ⟨bk BK257⟩, ⟨bel⟩⟩
  ·rw [if_neg c6] at H
   have c6b0 : (a0_0 == a1_0) = false := beq_eq_false_iff_ne.mpr c6
   have c6b1 : (a0_0 != a1_0) = true := bne_iff_ne.mpr c6
   (first | rw [c6b0] | (simp only [i64_w, i32_w]; rw [c6b0]) | skip)
   have H' := Aside0.mk H
   clear H
   have hnb10 := NB256_257.out
   have hnc10 := NB257_256.out
   obtain ⟨hcz11_0, hcz11_1, hfz11_0, hfz11_1⟩ := bq2 BK256
   obtain ⟨hcz12_0, hcz12_1, hfz12_0, hfz12_1⟩ := bq2 BK257
   go_wp2
   go_meet
   case rel => exact ⟨_, (true), eS, H', ⟨kle⟩, ⟨bk BK256⟩, ⟨bk BK257⟩, ⟨bel⟩⟩
 case rest =>
  clear HC3
  obtain ⟨kq, x21_2, rfl, HA, HJ2, BK256, BK257, HB⟩ := hcut
  cases kq with
  | zero => exact absurd HA.out (by simp [paraphrastref01_Same.j0])
  | succ kj2 =>
   have H := HA.out
   clear HA
   simp only [paraphrastref01_Same.j0] at H
   by_cases c13 : x21_2 = true
   ·subst c13
    have H1 : (some false) = some r := by rw [if_pos rfl] at H; exact H
    clear H
    have H := H1
    clear H1
    obtain rfl := Option.some.inj H
    go_wp2
    go_ret
    exact ⟨eN, bel⟩
   ·replace c13 := Bool.eq_false_iff.mpr c13
    subst c13
    have H1 : (paraphrastref01_Same.l0 kj2 0 a0_0 l0_1 a1_0 l1_1) = some r := by rw [if_neg (show ¬ (false = true) by decide)] at H; exact H
    clear H
    have H := H1
    clear H1
    have H' := Aside0.mk H
    clear H
    go_wp2
    go_loopg [5] kj2 (fun kq v5 w' => ∃ (x5_2 : Int), v5 = .int .i64 x5_2 ∧ Aside0 (paraphrastref01_Same.l0 kq x5_2 a0_0 l0_1 a1_0 l1_1 = some r) ∧ Aside0 (kq ≤ kj2) ∧ Aside0 (w'.heap[gb256]? = some (.cells #[.int .i64 a0_0, (.slice A0_1 l0_1.length c0_1)] 24 (0, 0))) ∧ Aside0 (w'.heap[gb257]? = some (.cells #[.int .i64 a1_0, (.slice A1_1 l1_1.length c1_1)] 24 (0, 0))) ∧ Aside0 (Below w.heap.size w w'))
    case atStart => exact ⟨(0), eS, H', ⟨Nat.le_refl _⟩, ⟨bk BK256⟩, ⟨bk BK257⟩, ⟨bel⟩⟩
    case round =>
     clear H'
     (try clear c13)
     obtain ⟨x5_2, rfl, HA, HK2, BK256, BK257, HB⟩ := hrel
     cases gk with
     | zero => exact absurd HA.out (by simp [paraphrastref01_Same.l0])
     | succ k2 =>
      have H := HA.out
      clear HA
      simp only [paraphrastref01_Same.l0] at H
      by_cases c14 : x5_2 < (l0_1.length : Int)
      ·rw [if_pos c14] at H
       have c14b0 : decide (x5_2 < (l0_1.length : Int)) = true := decide_eq_true c14
       clear c14
       by_cases c15 : 0 ≤ x5_2
       ·rw [if_pos c15] at H
        have c15b0 : decide (0 ≤ x5_2) = true := decide_eq_true c15
        clear c15
        by_cases c16 : x5_2 < (l1_1.length : Int)
        ·rw [if_pos c16] at H
         have c16b0 : decide (x5_2 < (l1_1.length : Int)) = true := decide_eq_true c16
         clear c16
         by_cases c17 : ((rd_T52 l0_1 x5_2).f0).toList = ((rd_T52 l1_1 x5_2).f0).toList
         ·rw [if_pos c17] at H
          have c17b0 : (((rd_T52 l0_1 x5_2).f0).toList == ((rd_T52 l1_1 x5_2).f0).toList) = true := beq_iff_eq.mpr c17
          have c17b1 : (((rd_T52 l0_1 x5_2).f0).toList != ((rd_T52 l1_1 x5_2).f0).toList) = false := bne_eq_false_iff_eq.mpr c17
          clear c17
          by_cases c18 : ((rd_T52 l0_1 x5_2).f1) = ((rd_T52 l1_1 x5_2).f1)
          ·rw [if_pos c18] at H
           have c18b0 : (((rd_T52 l0_1 x5_2).f1) == ((rd_T52 l1_1 x5_2).f1)) = true := beq_iff_eq.mpr c18
           have c18b1 : (((rd_T52 l0_1 x5_2).f1) != ((rd_T52 l1_1 x5_2).f1)) = false := bne_eq_false_iff_eq.mpr c18
           clear c18
           replace H := Option.bind_eq_some_iff.mp H
           obtain ⟨t262, A190, H⟩ := H
           replace H : (if t262 = true then (paraphrastref01_Same.l0 k2 (wrap64 (x5_2 + 1)) a0_0 l0_1 a1_0 l1_1) else (some false)) = some r := H
           have A19 := Aside0.mk A190
           clear A190
           by_cases c20 : t262 = true
           ·subst c20
            have H1 : (paraphrastref01_Same.l0 k2 (wrap64 (x5_2 + 1)) a0_0 l0_1 a1_0 l1_1) = some r := by rw [if_pos rfl] at H; exact H
            clear H
            have H := H1
            clear H1
            have H' := Aside0.mk H
            clear H
            have hnb21 := NB256_257.out
            have hnc21 := NB257_256.out
            obtain ⟨hcz22_0, hcz22_1, hfz22_0, hfz22_1⟩ := bq2 BK256
            try go_wp2
            replace BK256 := Aside0.mk (blk_drew BK256.out)
            replace BK257 := Aside0.mk (blk_drew BK257.out)
            replace HB := Aside0.mk (below_drew1 HB.out)
            have p258 : 0 ≤ (x5_2 : Int) := dtr
            have q258 : x5_2 < (l0_1.length : Int) := dtr
            obtain ⟨ad258, A258_2, c258_2, e258, hx258_0, hx258_1, hx258_2, hl258_2, hi258_2⟩ := at_T52 HR0_1.out x5_2 p258 q258
            have hw258_2 := hx258_2
            have hw258_1 := hx258_1
            have hw258_0 := hx258_0
            cases e258
            replace hx258_0 := oc hx258_0
            replace hx258_1 := oc hx258_1
            replace hx258_2 := oc hx258_2
            have HR258_2 := Aside0.mk hi258_2
            have HC258_2 := Aside0.mk hl258_2
            clear hi258_2 hl258_2
            replace p258 := eq_true p258
            replace q258 := eq_true q258
            have p259 : 0 ≤ (x5_2 : Int) := dtr
            have q259 : x5_2 < (l1_1.length : Int) := dtr
            obtain ⟨ad259, A259_2, c259_2, e259, hx259_0, hx259_1, hx259_2, hl259_2, hi259_2⟩ := at_T52 HR1_1.out x5_2 p259 q259
            have hw259_2 := hx259_2
            have hw259_1 := hx259_1
            have hw259_0 := hx259_0
            cases e259
            replace hx259_0 := oc hx259_0
            replace hx259_1 := oc hx259_1
            replace hx259_2 := oc hx259_2
            have HR259_2 := Aside0.mk hi259_2
            have HC259_2 := Aside0.mk hl259_2
            clear hi259_2 hl259_2
            replace p259 := eq_true p259
            replace q259 := eq_true q259
            refine start_ (n := 14) (S := fun w' => w'.cell? ⟨gb256, 0, none⟩ = some (.int .i64 a0_0) ∧ w'.cell? ⟨gb256, 1, none⟩ = some (.slice (some ad258) l0_1.length c0_1) ∧ w'.cell? ⟨gb257, 0, none⟩ = some (.int .i64 a1_0) ∧ w'.cell? ⟨gb257, 1, none⟩ = some (.slice (some ad259) l1_1.length c1_1) ∧ w'.cell? (ad258.add ((x5_2).toNat * 3)) = some (.string ((rd_T52 l0_1 x5_2).f0)) ∧ w'.cell? ⟨(ad258.add ((x5_2).toNat * 3)).block, (ad258.add ((x5_2).toNat * 3)).off + 1, none⟩ = some (.int .i64 ((rd_T52 l0_1 x5_2).f1)) ∧ w'.cell? ⟨(ad258.add ((x5_2).toNat * 3)).block, (ad258.add ((x5_2).toNat * 3)).off + 2, none⟩ = some (.slice A258_2 ((rd_T52 l0_1 x5_2).f2).length c258_2) ∧ w'.cell? (ad259.add ((x5_2).toNat * 3)) = some (.string ((rd_T52 l1_1 x5_2).f0)) ∧ w'.cell? ⟨(ad259.add ((x5_2).toNat * 3)).block, (ad259.add ((x5_2).toNat * 3)).off + 1, none⟩ = some (.int .i64 ((rd_T52 l1_1 x5_2).f1)) ∧ w'.cell? ⟨(ad259.add ((x5_2).toNat * 3)).block, (ad259.add ((x5_2).toNat * 3)).off + 2, none⟩ = some (.slice A259_2 ((rd_T52 l1_1 x5_2).f2).length c259_2)) (ds := []) #[false, false, false, false, false, false, false, false, false, false, false, false, false, false] (by kernel_rfl) rfl rfl ⟨(blk_cell BK256.out 0).trans rfl, (blk_cell BK256.out 1).trans rfl, (blk_cell BK257.out 0).trans rfl, (blk_cell BK257.out 1).trans rfl, (oc hw258_0), (oc hw258_1), (oc hw258_2), (oc hw259_0), (oc hw259_1), (oc hw259_2)⟩ (fun hHeld => ?_); refine with_tabW paraphrastref01_Same.tab6 paraphrastref01_Same.bits6 (fun HT_ HW_ => ?_)
            generalize wr.drew = w23 at BK256 BK257 HB HR258_2 HR259_2 hx258_0 hx258_1 hx258_2 hx259_0 hx259_1 hx259_2 hHeld ⊢
            refine sPu 0 (some 29) ?_
            refine sPu 2 (some 31) ?_
            refine sPu 5 (some 34) ?_
            refine sPu 7 (some 36) ?_
            refine sTk 1 (some 30) ?_
            refine sPu 3 (some 32) ?_
            refine sTk 4 (some 33) ?_
            refine sTk 6 (some 35) ?_
            refine sPu 8 (some 37) ?_
            refine sTk 9 (some 38) ?_
            refine join_ (σ := Nat × Nat) 2 #[true, true, true, true, true, true, true, true, true, true, true, true, false, false] (fun s_ => [(6, .pointer (some ⟨s_.1, 0, none⟩)), (7, .pointer (some ⟨s_.2, 0, none⟩))]) (fun s_ w' => (w'.cell? ⟨gb256, 0, none⟩ = some (.int .i64 a0_0) ∧ w'.cell? ⟨gb256, 1, none⟩ = some (.slice (some ad258) l0_1.length c0_1) ∧ w'.cell? ⟨gb257, 0, none⟩ = some (.int .i64 a1_0) ∧ w'.cell? ⟨gb257, 1, none⟩ = some (.slice (some ad259) l1_1.length c1_1) ∧ w'.cell? (ad258.add ((x5_2).toNat * 3)) = some (.string ((rd_T52 l0_1 x5_2).f0)) ∧ w'.cell? ⟨(ad258.add ((x5_2).toNat * 3)).block, (ad258.add ((x5_2).toNat * 3)).off + 1, none⟩ = some (.int .i64 ((rd_T52 l0_1 x5_2).f1)) ∧ w'.cell? ⟨(ad258.add ((x5_2).toNat * 3)).block, (ad258.add ((x5_2).toNat * 3)).off + 2, none⟩ = some (.slice A258_2 ((rd_T52 l0_1 x5_2).f2).length c258_2) ∧ w'.cell? (ad259.add ((x5_2).toNat * 3)) = some (.string ((rd_T52 l1_1 x5_2).f0)) ∧ w'.cell? ⟨(ad259.add ((x5_2).toNat * 3)).block, (ad259.add ((x5_2).toNat * 3)).off + 1, none⟩ = some (.int .i64 ((rd_T52 l1_1 x5_2).f1)) ∧ w'.cell? ⟨(ad259.add ((x5_2).toNat * 3)).block, (ad259.add ((x5_2).toNat * 3)).off + 2, none⟩ = some (.slice A259_2 ((rd_T52 l1_1 x5_2).f2).length c259_2)) ∧ (w'.heap[gb256]? = some (.cells #[.int .i64 a0_0, .slice (some ad258) l0_1.length c0_1] 24 (0, 0))) ∧ (w'.heap[gb257]? = some (.cells #[.int .i64 a1_0, .slice (some ad259) l1_1.length c1_1] 24 (0, 0))) ∧ (w'.heap[s_.1]? = some (.cells #[.string (⟨#[]⟩ : ByteArray), .int .i64 0, .slice none 0 0] 52 (0, 0))) ∧ (w'.heap[s_.2]? = some (.cells #[.string (⟨#[]⟩ : ByteArray), .int .i64 0, .slice none 0 0] 52 (0, 0))) ∧ (w.heap.size ≤ s_.1) ∧ (w.heap.size ≤ s_.1) ∧ (gb256 ≠ s_.1) ∧ (s_.1 ≠ gb256) ∧ (gb257 ≠ s_.1) ∧ (s_.1 ≠ gb257) ∧ (s_.2 ≠ s_.1) ∧ (s_.1 ≠ s_.2) ∧ (w.heap.size ≤ s_.2) ∧ (w.heap.size ≤ s_.2) ∧ (gb256 ≠ s_.2) ∧ (s_.2 ≠ gb256) ∧ (gb257 ≠ s_.2) ∧ (s_.2 ≠ gb257) ∧ (Below w.heap.size w w')) ?_ ?_
            rotate_left
            ·intro hCont
             refine two_ (i := 10) (j := 11) (Ni := some 6) (Nj := some 7) #[true, true, true, true, true, true, true, true, true, true, true, false, false, false] #[true, true, true, true, true, true, true, true, true, true, false, true, false, false] rfl rfl rfl rfl (two_of HT_.out (by kernel_rfl)) (by decide) (by decide) (fun K hK => ?_) (fun K hK => ?_)
             ·skip
              refine box_step ?hg (N := 6) ?hd (cs := #[.string (⟨#[]⟩ : ByteArray), .int .i64 0, .slice none 0 0]) (t := 52) ?hr ?_; (case hd => rfl); (case hg => rfl); (case hr => first | (go_simp; done) | (go_simp; rfl))
              intro gb260 hg w24 hbox hb
              have BK260 := Aside0.mk (hbox)
              have GW260 := geB w hg
              have GE260 := geB w hg
              have NB256_260 := neL BK256 hg
              have NB260_256 := neG BK256 hg
              have NB257_260 := neL BK257 hg
              have NB260_257 := neG BK257 hg
              replace BK256 := blB BK256 hb
              replace BK257 := blB BK257 hb
              replace HB := Aside0.mk (below_step bel hb)
              clear hb hbox hg
              refine hK.out _ _ ⟨(blk_cell BK256.out 0).trans rfl, (blk_cell BK256.out 1).trans rfl, (blk_cell BK257.out 0).trans rfl, (blk_cell BK257.out 1).trans rfl, (oc hw258_0), (oc hw258_1), (oc hw258_2), (oc hw259_0), (oc hw259_1), (oc hw259_2)⟩ (fun hHeld => ?_)
              clear hK K
              refine norm_ (a' := ?_) ?_ ?_
              rotate_left
              ·show Act.put _ (some 6) _ = _
               simp only [Act.put, List.setIfInBounds_toArray, List.set_cons_zero, List.set_cons_succ, i64_w, i32_w]
               rfl
              refine sOn 11 (some 7) (fun K hK => ?_)
              refine box_step ?hg (N := 7) ?hd (cs := #[.string (⟨#[]⟩ : ByteArray), .int .i64 0, .slice none 0 0]) (t := 52) ?hr ?_; (case hd => rfl); (case hg => rfl); (case hr => first | (go_simp; done) | (go_simp; rfl))
              intro gb261 hg w25 hbox hb
              have BK261 := Aside0.mk (hbox)
              have GW261 := geB w hg
              have GE261 := geB w hg
              have NB256_261 := neL BK256 hg
              have NB261_256 := neG BK256 hg
              have NB257_261 := neL BK257 hg
              have NB261_257 := neG BK257 hg
              have NB260_261 := neL BK260 hg
              have NB261_260 := neG BK260 hg
              replace BK256 := blB BK256 hb
              replace BK257 := blB BK257 hb
              replace BK260 := blB BK260 hb
              replace HB := Aside0.mk (below_step bel hb)
              clear hb hbox hg
              refine hK.out _ _ ⟨(blk_cell BK256.out 0).trans rfl, (blk_cell BK256.out 1).trans rfl, (blk_cell BK257.out 0).trans rfl, (blk_cell BK257.out 1).trans rfl, (oc hw258_0), (oc hw258_1), (oc hw258_2), (oc hw259_0), (oc hw259_1), (oc hw259_2)⟩ (fun hHeld => ?_)
              clear hK K
              refine norm_ (a' := ?_) ?_ ?_
              rotate_left
              ·show Act.put _ (some 7) _ = _
               simp only [Act.put, List.setIfInBounds_toArray, List.set_cons_zero, List.set_cons_succ, i64_w, i32_w]
               rfl
              exact norm_ (by simp only [putAll, Act.put, List.setIfInBounds_toArray, List.set_cons_zero, List.set_cons_succ]) (hCont (gb260, gb261) _ ⟨hHeld, (bk BK256), (bk BK257), (bk BK260), (bk BK261), GW260.out, GE260.out, NB256_260.out, NB260_256.out, NB257_260.out, NB260_257.out, NB261_260.out, NB260_261.out, GW261.out, GE261.out, NB256_261.out, NB261_256.out, NB257_261.out, NB261_257.out, bel⟩)
             ·skip
              refine box_step ?hg (N := 7) ?hd (cs := #[.string (⟨#[]⟩ : ByteArray), .int .i64 0, .slice none 0 0]) (t := 52) ?hr ?_; (case hd => rfl); (case hg => rfl); (case hr => first | (go_simp; done) | (go_simp; rfl))
              intro gb261 hg w24 hbox hb
              have BK261 := Aside0.mk (hbox)
              have GW261 := geB w hg
              have GE261 := geB w hg
              have NB256_261 := neL BK256 hg
              have NB261_256 := neG BK256 hg
              have NB257_261 := neL BK257 hg
              have NB261_257 := neG BK257 hg
              replace BK256 := blB BK256 hb
              replace BK257 := blB BK257 hb
              replace HB := Aside0.mk (below_step bel hb)
              clear hb hbox hg
              refine hK.out _ _ ⟨(blk_cell BK256.out 0).trans rfl, (blk_cell BK256.out 1).trans rfl, (blk_cell BK257.out 0).trans rfl, (blk_cell BK257.out 1).trans rfl, (oc hw258_0), (oc hw258_1), (oc hw258_2), (oc hw259_0), (oc hw259_1), (oc hw259_2)⟩ (fun hHeld => ?_)
              clear hK K
              refine norm_ (a' := ?_) ?_ ?_
              rotate_left
              ·show Act.put _ (some 7) _ = _
               simp only [Act.put, List.setIfInBounds_toArray, List.set_cons_zero, List.set_cons_succ, i64_w, i32_w]
               rfl
              refine sOn 10 (some 6) (fun K hK => ?_)
              refine box_step ?hg (N := 6) ?hd (cs := #[.string (⟨#[]⟩ : ByteArray), .int .i64 0, .slice none 0 0]) (t := 52) ?hr ?_; (case hd => rfl); (case hg => rfl); (case hr => first | (go_simp; done) | (go_simp; rfl))
              intro gb260 hg w25 hbox hb
              have BK260 := Aside0.mk (hbox)
              have GW260 := geB w hg
              have GE260 := geB w hg
              have NB256_260 := neL BK256 hg
              have NB260_256 := neG BK256 hg
              have NB257_260 := neL BK257 hg
              have NB260_257 := neG BK257 hg
              have NB261_260 := neL BK261 hg
              have NB260_261 := neG BK261 hg
              replace BK256 := blB BK256 hb
              replace BK257 := blB BK257 hb
              replace BK261 := blB BK261 hb
              replace HB := Aside0.mk (below_step bel hb)
              clear hb hbox hg
              refine hK.out _ _ ⟨(blk_cell BK256.out 0).trans rfl, (blk_cell BK256.out 1).trans rfl, (blk_cell BK257.out 0).trans rfl, (blk_cell BK257.out 1).trans rfl, (oc hw258_0), (oc hw258_1), (oc hw258_2), (oc hw259_0), (oc hw259_1), (oc hw259_2)⟩ (fun hHeld => ?_)
              clear hK K
              refine norm_ (a' := ?_) ?_ ?_
              rotate_left
              ·show Act.put _ (some 6) _ = _
               simp only [Act.put, List.setIfInBounds_toArray, List.set_cons_zero, List.set_cons_succ, i64_w, i32_w]
               rfl
              exact norm_ (by simp only [putAll, Act.put, List.setIfInBounds_toArray, List.set_cons_zero, List.set_cons_succ]) (hCont (gb260, gb261) _ ⟨hHeld, (bk BK256), (bk BK257), (bk BK260), (bk BK261), GW260.out, GE260.out, NB256_260.out, NB260_256.out, NB257_260.out, NB260_257.out, NB261_260.out, NB260_261.out, GW261.out, GE261.out, NB256_261.out, NB261_256.out, NB257_261.out, NB261_257.out, bel⟩)
            rintro ⟨gb260, gb261⟩ w26 ⟨hS_, h0_, h1_, h2_, h3_, h4_, h5_, h6_, h7_, h8_, h9_, h10_, h11_, h12_, h13_, h14_, h15_, h16_, h17_, h18_⟩
            have n0_ : Aside0 (w26.heap[gb256]? = some (.cells #[.int .i64 a0_0, .slice (some ad258) l0_1.length c0_1] 24 (0, 0))) := ⟨h0_⟩
            have n1_ : Aside0 (w26.heap[gb257]? = some (.cells #[.int .i64 a1_0, .slice (some ad259) l1_1.length c1_1] 24 (0, 0))) := ⟨h1_⟩
            have n2_ : Aside0 (w26.heap[gb260]? = some (.cells #[.string (⟨#[]⟩ : ByteArray), .int .i64 0, .slice none 0 0] 52 (0, 0))) := ⟨h2_⟩
            have n3_ : Aside0 (w26.heap[gb261]? = some (.cells #[.string (⟨#[]⟩ : ByteArray), .int .i64 0, .slice none 0 0] 52 (0, 0))) := ⟨h3_⟩
            have n4_ : Aside0 (w.heap.size ≤ gb260) := ⟨h4_⟩
            have n5_ : Aside0 (w.heap.size ≤ gb260) := ⟨h5_⟩
            have n6_ : Aside0 (gb256 ≠ gb260) := ⟨h6_⟩
            have n7_ : Aside0 (gb260 ≠ gb256) := ⟨h7_⟩
            have n8_ : Aside0 (gb257 ≠ gb260) := ⟨h8_⟩
            have n9_ : Aside0 (gb260 ≠ gb257) := ⟨h9_⟩
            have n10_ : Aside0 (gb261 ≠ gb260) := ⟨h10_⟩
            have n11_ : Aside0 (gb260 ≠ gb261) := ⟨h11_⟩
            have n12_ : Aside0 (w.heap.size ≤ gb261) := ⟨h12_⟩
            have n13_ : Aside0 (w.heap.size ≤ gb261) := ⟨h13_⟩
            have n14_ : Aside0 (gb256 ≠ gb261) := ⟨h14_⟩
            have n15_ : Aside0 (gb261 ≠ gb256) := ⟨h15_⟩
            have n16_ : Aside0 (gb257 ≠ gb261) := ⟨h16_⟩
            have n17_ : Aside0 (gb261 ≠ gb257) := ⟨h17_⟩
            have n18_ : Aside0 (Below w.heap.size w w26) := ⟨h18_⟩
            clear BK256
            clear BK257
            clear HB
            clear h0_ h1_ h2_ h3_ h4_ h5_ h6_ h7_ h8_ h9_ h10_ h11_ h12_ h13_ h14_ h15_ h16_ h17_ h18_
            have BK256 := n0_
            have BK257 := n1_
            have BK260 := n2_
            have BK261 := n3_
            have GW260 := n4_
            have GE260 := n5_
            have NB256_260 := n6_
            have NB260_256 := n7_
            have NB257_260 := n8_
            have NB260_257 := n9_
            have NB261_260 := n10_
            have NB260_261 := n11_
            have GW261 := n12_
            have GE261 := n13_
            have NB256_261 := n14_
            have NB261_256 := n15_
            have NB257_261 := n16_
            have NB261_257 := n17_
            have HB := n18_
            clear n0_ n1_ n2_ n3_ n4_ n5_ n6_ n7_ n8_ n9_ n10_ n11_ n12_ n13_ n14_ n15_ n16_ n17_ n18_
            have hHeld : w26.cell? ⟨gb256, 0, none⟩ = some (.int .i64 a0_0) ∧ w26.cell? ⟨gb256, 1, none⟩ = some (.slice (some ad258) l0_1.length c0_1) ∧ w26.cell? ⟨gb257, 0, none⟩ = some (.int .i64 a1_0) ∧ w26.cell? ⟨gb257, 1, none⟩ = some (.slice (some ad259) l1_1.length c1_1) ∧ w26.cell? (ad258.add ((x5_2).toNat * 3)) = some (.string ((rd_T52 l0_1 x5_2).f0)) ∧ w26.cell? ⟨(ad258.add ((x5_2).toNat * 3)).block, (ad258.add ((x5_2).toNat * 3)).off + 1, none⟩ = some (.int .i64 ((rd_T52 l0_1 x5_2).f1)) ∧ w26.cell? ⟨(ad258.add ((x5_2).toNat * 3)).block, (ad258.add ((x5_2).toNat * 3)).off + 2, none⟩ = some (.slice A258_2 ((rd_T52 l0_1 x5_2).f2).length c258_2) ∧ w26.cell? (ad259.add ((x5_2).toNat * 3)) = some (.string ((rd_T52 l1_1 x5_2).f0)) ∧ w26.cell? ⟨(ad259.add ((x5_2).toNat * 3)).block, (ad259.add ((x5_2).toNat * 3)).off + 1, none⟩ = some (.int .i64 ((rd_T52 l1_1 x5_2).f1)) ∧ w26.cell? ⟨(ad259.add ((x5_2).toNat * 3)).block, (ad259.add ((x5_2).toNat * 3)).off + 2, none⟩ = some (.slice A259_2 ((rd_T52 l1_1 x5_2).f2).length c259_2) := hS_
            refine norm_ (a' := ?_) ?_ ?_
            rotate_left
            ·simp only [putAll, Act.put, List.setIfInBounds_toArray, List.set_cons_zero, List.set_cons_succ]
             rfl
            refine sOn 12 none (fun K hK => ?_)
            have hs27 : w26.cell? ⟨gb260, 0, none⟩ = some (.string (⟨#[]⟩ : ByteArray)) := (blk_cell BK260.out 0).trans rfl
            have hfs27 := blk_frozen BK260.out 0
            have hns27_0 := NB256_260.out
            have hns27_1 := NB257_260.out
            have hns27_3 := NB261_260.out
            have hms27_0 := NB260_256.out
            have hms27_1 := NB260_257.out
            have hms27_3 := NB260_261.out
            have hs28 : w26.cell? ⟨gb260, 1, none⟩ = some (.int .i64 0) := (blk_cell BK260.out 1).trans rfl
            have hfs28 := blk_frozen BK260.out 1
            have hns28_0 := NB256_260.out
            have hns28_1 := NB257_260.out
            have hns28_3 := NB261_260.out
            have hms28_0 := NB260_256.out
            have hms28_1 := NB260_257.out
            have hms28_3 := NB260_261.out
            have hs29 : w26.cell? ⟨gb260, 2, none⟩ = some (.slice none 0 0) := (blk_cell BK260.out 2).trans rfl
            have hfs29 := blk_frozen BK260.out 2
            have hns29_0 := NB256_260.out
            have hns29_1 := NB257_260.out
            have hns29_3 := NB261_260.out
            have hms29_0 := NB260_256.out
            have hms29_1 := NB260_257.out
            have hms29_3 := NB260_261.out
            refine skip_ (w1 := ?_) (by rfl) rfl ?_ ?_
            rotate_left
            ·go_simp
             rfl
            refine hK.out _ _ ⟨((cell_far (p := ⟨gb260, _, none⟩) NB256_260.out _).trans (((cell_far (p := ⟨gb260, _, none⟩) NB256_260.out _).trans (((cell_far (p := ⟨gb260, _, none⟩) NB256_260.out _).trans (hHeld.1)))))), ((cell_far (p := ⟨gb260, _, none⟩) NB256_260.out _).trans (((cell_far (p := ⟨gb260, _, none⟩) NB256_260.out _).trans (((cell_far (p := ⟨gb260, _, none⟩) NB256_260.out _).trans (hHeld.2.1)))))), ((cell_far (p := ⟨gb260, _, none⟩) NB257_260.out _).trans (((cell_far (p := ⟨gb260, _, none⟩) NB257_260.out _).trans (((cell_far (p := ⟨gb260, _, none⟩) NB257_260.out _).trans (hHeld.2.2.1)))))), ((cell_far (p := ⟨gb260, _, none⟩) NB257_260.out _).trans (((cell_far (p := ⟨gb260, _, none⟩) NB257_260.out _).trans (((cell_far (p := ⟨gb260, _, none⟩) NB257_260.out _).trans (hHeld.2.2.2.1)))))), ((cell_far (p := ⟨gb260, _, none⟩) (far_ne34 hw258_0 GW260.out) _).trans (((cell_far (p := ⟨gb260, _, none⟩) (far_ne34 hw258_0 GW260.out) _).trans (((cell_far (p := ⟨gb260, _, none⟩) (far_ne34 hw258_0 GW260.out) _).trans (hHeld.2.2.2.2.1)))))), ((cell_far (p := ⟨gb260, _, none⟩) (far_ne34 hw258_1 GW260.out) _).trans (((cell_far (p := ⟨gb260, _, none⟩) (far_ne34 hw258_1 GW260.out) _).trans (((cell_far (p := ⟨gb260, _, none⟩) (far_ne34 hw258_1 GW260.out) _).trans (hHeld.2.2.2.2.2.1)))))), ((cell_far (p := ⟨gb260, _, none⟩) (far_ne34 hw258_2 GW260.out) _).trans (((cell_far (p := ⟨gb260, _, none⟩) (far_ne34 hw258_2 GW260.out) _).trans (((cell_far (p := ⟨gb260, _, none⟩) (far_ne34 hw258_2 GW260.out) _).trans (hHeld.2.2.2.2.2.2.1)))))), ((cell_far (p := ⟨gb260, _, none⟩) (far_ne34 hw259_0 GW260.out) _).trans (((cell_far (p := ⟨gb260, _, none⟩) (far_ne34 hw259_0 GW260.out) _).trans (((cell_far (p := ⟨gb260, _, none⟩) (far_ne34 hw259_0 GW260.out) _).trans (hHeld.2.2.2.2.2.2.2.1)))))), ((cell_far (p := ⟨gb260, _, none⟩) (far_ne34 hw259_1 GW260.out) _).trans (((cell_far (p := ⟨gb260, _, none⟩) (far_ne34 hw259_1 GW260.out) _).trans (((cell_far (p := ⟨gb260, _, none⟩) (far_ne34 hw259_1 GW260.out) _).trans (hHeld.2.2.2.2.2.2.2.2.1)))))), ((cell_far (p := ⟨gb260, _, none⟩) (far_ne34 hw259_2 GW260.out) _).trans (((cell_far (p := ⟨gb260, _, none⟩) (far_ne34 hw259_2 GW260.out) _).trans (((cell_far (p := ⟨gb260, _, none⟩) (far_ne34 hw259_2 GW260.out) _).trans (hHeld.2.2.2.2.2.2.2.2.2))))))⟩ (fun hHeld => ?_)
            clear hK K
            refine sOn 13 none (fun K hK => ?_)
            have hs30 : w26.cell? ⟨gb261, 0, none⟩ = some (.string (⟨#[]⟩ : ByteArray)) := (blk_cell BK261.out 0).trans rfl
            have hfs30 := blk_frozen BK261.out 0
            have hns30_0 := NB256_261.out
            have hns30_1 := NB257_261.out
            have hns30_2 := NB260_261.out
            have hms30_0 := NB261_256.out
            have hms30_1 := NB261_257.out
            have hms30_2 := NB261_260.out
            have hs31 : w26.cell? ⟨gb261, 1, none⟩ = some (.int .i64 0) := (blk_cell BK261.out 1).trans rfl
            have hfs31 := blk_frozen BK261.out 1
            have hns31_0 := NB256_261.out
            have hns31_1 := NB257_261.out
            have hns31_2 := NB260_261.out
            have hms31_0 := NB261_256.out
            have hms31_1 := NB261_257.out
            have hms31_2 := NB261_260.out
            have hs32 : w26.cell? ⟨gb261, 2, none⟩ = some (.slice none 0 0) := (blk_cell BK261.out 2).trans rfl
            have hfs32 := blk_frozen BK261.out 2
            have hns32_0 := NB256_261.out
            have hns32_1 := NB257_261.out
            have hns32_2 := NB260_261.out
            have hms32_0 := NB261_256.out
            have hms32_1 := NB261_257.out
            have hms32_2 := NB261_260.out
            refine skip_ (w1 := ?_) (by rfl) rfl ?_ ?_
            rotate_left
            ·go_simp
             rfl
            refine hK.out _ _ ⟨((cell_far (p := ⟨gb261, _, none⟩) NB256_261.out _).trans (((cell_far (p := ⟨gb261, _, none⟩) NB256_261.out _).trans (((cell_far (p := ⟨gb261, _, none⟩) NB256_261.out _).trans (hHeld.1)))))), ((cell_far (p := ⟨gb261, _, none⟩) NB256_261.out _).trans (((cell_far (p := ⟨gb261, _, none⟩) NB256_261.out _).trans (((cell_far (p := ⟨gb261, _, none⟩) NB256_261.out _).trans (hHeld.2.1)))))), ((cell_far (p := ⟨gb261, _, none⟩) NB257_261.out _).trans (((cell_far (p := ⟨gb261, _, none⟩) NB257_261.out _).trans (((cell_far (p := ⟨gb261, _, none⟩) NB257_261.out _).trans (hHeld.2.2.1)))))), ((cell_far (p := ⟨gb261, _, none⟩) NB257_261.out _).trans (((cell_far (p := ⟨gb261, _, none⟩) NB257_261.out _).trans (((cell_far (p := ⟨gb261, _, none⟩) NB257_261.out _).trans (hHeld.2.2.2.1)))))), ((cell_far (p := ⟨gb261, _, none⟩) (far_ne34 hw258_0 GW261.out) _).trans (((cell_far (p := ⟨gb261, _, none⟩) (far_ne34 hw258_0 GW261.out) _).trans (((cell_far (p := ⟨gb261, _, none⟩) (far_ne34 hw258_0 GW261.out) _).trans (hHeld.2.2.2.2.1)))))), ((cell_far (p := ⟨gb261, _, none⟩) (far_ne34 hw258_1 GW261.out) _).trans (((cell_far (p := ⟨gb261, _, none⟩) (far_ne34 hw258_1 GW261.out) _).trans (((cell_far (p := ⟨gb261, _, none⟩) (far_ne34 hw258_1 GW261.out) _).trans (hHeld.2.2.2.2.2.1)))))), ((cell_far (p := ⟨gb261, _, none⟩) (far_ne34 hw258_2 GW261.out) _).trans (((cell_far (p := ⟨gb261, _, none⟩) (far_ne34 hw258_2 GW261.out) _).trans (((cell_far (p := ⟨gb261, _, none⟩) (far_ne34 hw258_2 GW261.out) _).trans (hHeld.2.2.2.2.2.2.1)))))), ((cell_far (p := ⟨gb261, _, none⟩) (far_ne34 hw259_0 GW261.out) _).trans (((cell_far (p := ⟨gb261, _, none⟩) (far_ne34 hw259_0 GW261.out) _).trans (((cell_far (p := ⟨gb261, _, none⟩) (far_ne34 hw259_0 GW261.out) _).trans (hHeld.2.2.2.2.2.2.2.1)))))), ((cell_far (p := ⟨gb261, _, none⟩) (far_ne34 hw259_1 GW261.out) _).trans (((cell_far (p := ⟨gb261, _, none⟩) (far_ne34 hw259_1 GW261.out) _).trans (((cell_far (p := ⟨gb261, _, none⟩) (far_ne34 hw259_1 GW261.out) _).trans (hHeld.2.2.2.2.2.2.2.2.1)))))), ((cell_far (p := ⟨gb261, _, none⟩) (far_ne34 hw259_2 GW261.out) _).trans (((cell_far (p := ⟨gb261, _, none⟩) (far_ne34 hw259_2 GW261.out) _).trans (((cell_far (p := ⟨gb261, _, none⟩) (far_ne34 hw259_2 GW261.out) _).trans (hHeld.2.2.2.2.2.2.2.2.2))))))⟩ (fun hHeld => ?_)
            clear hK K
            refine done_ (done_of HT_.out (by kernel_rfl)) ?_
            have hnb33 := NB260_256.out
            have hnc33 := NB256_260.out
            have hnb34 := NB260_257.out
            have hnc34 := NB257_260.out
            have hnb35 := NB260_261.out
            have hnc35 := NB261_260.out
            obtain ⟨hcz36_0, hcz36_1, hcz36_2, hfz36_0, hfz36_1, hfz36_2⟩ := bq3 BK260
            have hnb37 := NB261_256.out
            have hnc37 := NB256_261.out
            have hnb38 := NB261_257.out
            have hnc38 := NB257_261.out
            obtain ⟨hcz39_0, hcz39_1, hcz39_2, hfz39_0, hfz39_1, hfz39_2⟩ := bq3 BK261
            try go_wp2_with (first | (go_at_call 69; (with_reducible refine (paraphrastref01_SameTuples.calls k2 _ _ ((rd_T52 l0_1 x5_2).f2) _ _ ((rd_T52 l1_1 x5_2).f2) true _ ?side1 ?side2 ?side3 ?side4 A19.out).mono ?_); (case side1 => exact Kd.C_below HR258_2.out bel); (case side2 => exact HC258_2.out); (case side3 => exact Kd.C_below HR259_2.out bel); (case side4 => exact HC259_2.out); rintro e w' ⟨rfl, ⟨nd, rfl⟩⟩))
            go_roundg k2
            case measure => have := HJ2.out; have := HK2.out; omega
            case rel => exact ⟨(wrap64 (x5_2 + 1)), eS, H', ⟨by have := HJ2.out; have := HK2.out; omega⟩, ⟨by (with_reducible repeat (first | refine blk_drewN ?_ _ | refine blk_drew ?_ | refine blk_alloc ?_ _)); refine blk_far ?_ NB256_261.out _; (with_reducible repeat (first | refine blk_drewN ?_ _ | refine blk_drew ?_ | refine blk_alloc ?_ _)); refine blk_far ?_ NB256_261.out _; (with_reducible repeat (first | refine blk_drewN ?_ _ | refine blk_drew ?_ | refine blk_alloc ?_ _)); refine blk_far ?_ NB256_261.out _; (with_reducible repeat (first | refine blk_drewN ?_ _ | refine blk_drew ?_ | refine blk_alloc ?_ _)); refine blk_far ?_ NB256_260.out _; (with_reducible repeat (first | refine blk_drewN ?_ _ | refine blk_drew ?_ | refine blk_alloc ?_ _)); refine blk_far ?_ NB256_260.out _; (with_reducible repeat (first | refine blk_drewN ?_ _ | refine blk_drew ?_ | refine blk_alloc ?_ _)); refine blk_far ?_ NB256_260.out _; (with_reducible repeat (first | refine blk_drewN ?_ _ | refine blk_drew ?_ | refine blk_alloc ?_ _)); exact BK256.out⟩, ⟨by (with_reducible repeat (first | refine blk_drewN ?_ _ | refine blk_drew ?_ | refine blk_alloc ?_ _)); refine blk_far ?_ NB257_261.out _; (with_reducible repeat (first | refine blk_drewN ?_ _ | refine blk_drew ?_ | refine blk_alloc ?_ _)); refine blk_far ?_ NB257_261.out _; (with_reducible repeat (first | refine blk_drewN ?_ _ | refine blk_drew ?_ | refine blk_alloc ?_ _)); refine blk_far ?_ NB257_261.out _; (with_reducible repeat (first | refine blk_drewN ?_ _ | refine blk_drew ?_ | refine blk_alloc ?_ _)); refine blk_far ?_ NB257_260.out _; (with_reducible repeat (first | refine blk_drewN ?_ _ | refine blk_drew ?_ | refine blk_alloc ?_ _)); refine blk_far ?_ NB257_260.out _; (with_reducible repeat (first | refine blk_drewN ?_ _ | refine blk_drew ?_ | refine blk_alloc ?_ _)); refine blk_far ?_ NB257_260.out _; (with_reducible repeat (first | refine blk_drewN ?_ _ | refine blk_drew ?_ | refine blk_alloc ?_ _)); exact BK257.out⟩, ⟨bel⟩⟩
           ·replace c20 := Bool.eq_false_iff.mpr c20
            subst c20
            have H1 : (some false) = some r := by rw [if_neg (show ¬ (false = true) by decide)] at H; exact H
            clear H
            have H := H1
            clear H1
            obtain rfl := Option.some.inj H
            have hnb40 := NB256_257.out
            have hnc40 := NB257_256.out
            obtain ⟨hcz41_0, hcz41_1, hfz41_0, hfz41_1⟩ := bq2 BK256
            try go_wp2
            replace BK256 := Aside0.mk (blk_drew BK256.out)
            replace BK257 := Aside0.mk (blk_drew BK257.out)
            replace HB := Aside0.mk (below_drew1 HB.out)
            have p258 : 0 ≤ (x5_2 : Int) := dtr
            have q258 : x5_2 < (l0_1.length : Int) := dtr
            obtain ⟨ad258, A258_2, c258_2, e258, hx258_0, hx258_1, hx258_2, hl258_2, hi258_2⟩ := at_T52 HR0_1.out x5_2 p258 q258
            have hw258_2 := hx258_2
            have hw258_1 := hx258_1
            have hw258_0 := hx258_0
            cases e258
            replace hx258_0 := oc hx258_0
            replace hx258_1 := oc hx258_1
            replace hx258_2 := oc hx258_2
            have HR258_2 := Aside0.mk hi258_2
            have HC258_2 := Aside0.mk hl258_2
            clear hi258_2 hl258_2
            replace p258 := eq_true p258
            replace q258 := eq_true q258
            have p259 : 0 ≤ (x5_2 : Int) := dtr
            have q259 : x5_2 < (l1_1.length : Int) := dtr
            obtain ⟨ad259, A259_2, c259_2, e259, hx259_0, hx259_1, hx259_2, hl259_2, hi259_2⟩ := at_T52 HR1_1.out x5_2 p259 q259
            have hw259_2 := hx259_2
            have hw259_1 := hx259_1
            have hw259_0 := hx259_0
            cases e259
            replace hx259_0 := oc hx259_0
            replace hx259_1 := oc hx259_1
            replace hx259_2 := oc hx259_2
            have HR259_2 := Aside0.mk hi259_2
            have HC259_2 := Aside0.mk hl259_2
            clear hi259_2 hl259_2
            replace p259 := eq_true p259
            replace q259 := eq_true q259
            refine start_ (n := 14) (S := fun w' => w'.cell? ⟨gb256, 0, none⟩ = some (.int .i64 a0_0) ∧ w'.cell? ⟨gb256, 1, none⟩ = some (.slice (some ad258) l0_1.length c0_1) ∧ w'.cell? ⟨gb257, 0, none⟩ = some (.int .i64 a1_0) ∧ w'.cell? ⟨gb257, 1, none⟩ = some (.slice (some ad259) l1_1.length c1_1) ∧ w'.cell? (ad258.add ((x5_2).toNat * 3)) = some (.string ((rd_T52 l0_1 x5_2).f0)) ∧ w'.cell? ⟨(ad258.add ((x5_2).toNat * 3)).block, (ad258.add ((x5_2).toNat * 3)).off + 1, none⟩ = some (.int .i64 ((rd_T52 l0_1 x5_2).f1)) ∧ w'.cell? ⟨(ad258.add ((x5_2).toNat * 3)).block, (ad258.add ((x5_2).toNat * 3)).off + 2, none⟩ = some (.slice A258_2 ((rd_T52 l0_1 x5_2).f2).length c258_2) ∧ w'.cell? (ad259.add ((x5_2).toNat * 3)) = some (.string ((rd_T52 l1_1 x5_2).f0)) ∧ w'.cell? ⟨(ad259.add ((x5_2).toNat * 3)).block, (ad259.add ((x5_2).toNat * 3)).off + 1, none⟩ = some (.int .i64 ((rd_T52 l1_1 x5_2).f1)) ∧ w'.cell? ⟨(ad259.add ((x5_2).toNat * 3)).block, (ad259.add ((x5_2).toNat * 3)).off + 2, none⟩ = some (.slice A259_2 ((rd_T52 l1_1 x5_2).f2).length c259_2)) (ds := []) #[false, false, false, false, false, false, false, false, false, false, false, false, false, false] (by kernel_rfl) rfl rfl ⟨(blk_cell BK256.out 0).trans rfl, (blk_cell BK256.out 1).trans rfl, (blk_cell BK257.out 0).trans rfl, (blk_cell BK257.out 1).trans rfl, (oc hw258_0), (oc hw258_1), (oc hw258_2), (oc hw259_0), (oc hw259_1), (oc hw259_2)⟩ (fun hHeld => ?_); refine with_tabW paraphrastref01_Same.tab6 paraphrastref01_Same.bits6 (fun HT_ HW_ => ?_)
            generalize wr.drew = w42 at BK256 BK257 HB HR258_2 HR259_2 hx258_0 hx258_1 hx258_2 hx259_0 hx259_1 hx259_2 hHeld ⊢
            refine sPu 0 (some 29) ?_
            refine sPu 2 (some 31) ?_
            refine sPu 5 (some 34) ?_
            refine sPu 7 (some 36) ?_
            refine sTk 1 (some 30) ?_
            refine sPu 3 (some 32) ?_
            refine sTk 4 (some 33) ?_
            refine sTk 6 (some 35) ?_
            refine sPu 8 (some 37) ?_
            refine sTk 9 (some 38) ?_
            refine join_ (σ := Nat × Nat) 2 #[true, true, true, true, true, true, true, true, true, true, true, true, false, false] (fun s_ => [(6, .pointer (some ⟨s_.1, 0, none⟩)), (7, .pointer (some ⟨s_.2, 0, none⟩))]) (fun s_ w' => (w'.cell? ⟨gb256, 0, none⟩ = some (.int .i64 a0_0) ∧ w'.cell? ⟨gb256, 1, none⟩ = some (.slice (some ad258) l0_1.length c0_1) ∧ w'.cell? ⟨gb257, 0, none⟩ = some (.int .i64 a1_0) ∧ w'.cell? ⟨gb257, 1, none⟩ = some (.slice (some ad259) l1_1.length c1_1) ∧ w'.cell? (ad258.add ((x5_2).toNat * 3)) = some (.string ((rd_T52 l0_1 x5_2).f0)) ∧ w'.cell? ⟨(ad258.add ((x5_2).toNat * 3)).block, (ad258.add ((x5_2).toNat * 3)).off + 1, none⟩ = some (.int .i64 ((rd_T52 l0_1 x5_2).f1)) ∧ w'.cell? ⟨(ad258.add ((x5_2).toNat * 3)).block, (ad258.add ((x5_2).toNat * 3)).off + 2, none⟩ = some (.slice A258_2 ((rd_T52 l0_1 x5_2).f2).length c258_2) ∧ w'.cell? (ad259.add ((x5_2).toNat * 3)) = some (.string ((rd_T52 l1_1 x5_2).f0)) ∧ w'.cell? ⟨(ad259.add ((x5_2).toNat * 3)).block, (ad259.add ((x5_2).toNat * 3)).off + 1, none⟩ = some (.int .i64 ((rd_T52 l1_1 x5_2).f1)) ∧ w'.cell? ⟨(ad259.add ((x5_2).toNat * 3)).block, (ad259.add ((x5_2).toNat * 3)).off + 2, none⟩ = some (.slice A259_2 ((rd_T52 l1_1 x5_2).f2).length c259_2)) ∧ (w'.heap[gb256]? = some (.cells #[.int .i64 a0_0, .slice (some ad258) l0_1.length c0_1] 24 (0, 0))) ∧ (w'.heap[gb257]? = some (.cells #[.int .i64 a1_0, .slice (some ad259) l1_1.length c1_1] 24 (0, 0))) ∧ (w'.heap[s_.1]? = some (.cells #[.string (⟨#[]⟩ : ByteArray), .int .i64 0, .slice none 0 0] 52 (0, 0))) ∧ (w'.heap[s_.2]? = some (.cells #[.string (⟨#[]⟩ : ByteArray), .int .i64 0, .slice none 0 0] 52 (0, 0))) ∧ (w.heap.size ≤ s_.1) ∧ (w.heap.size ≤ s_.1) ∧ (gb256 ≠ s_.1) ∧ (s_.1 ≠ gb256) ∧ (gb257 ≠ s_.1) ∧ (s_.1 ≠ gb257) ∧ (s_.2 ≠ s_.1) ∧ (s_.1 ≠ s_.2) ∧ (w.heap.size ≤ s_.2) ∧ (w.heap.size ≤ s_.2) ∧ (gb256 ≠ s_.2) ∧ (s_.2 ≠ gb256) ∧ (gb257 ≠ s_.2) ∧ (s_.2 ≠ gb257) ∧ (Below w.heap.size w w')) ?_ ?_
            rotate_left
            ·intro hCont
             refine two_ (i := 10) (j := 11) (Ni := some 6) (Nj := some 7) #[true, true, true, true, true, true, true, true, true, true, true, false, false, false] #[true, true, true, true, true, true, true, true, true, true, false, true, false, false] rfl rfl rfl rfl (two_of HT_.out (by kernel_rfl)) (by decide) (by decide) (fun K hK => ?_) (fun K hK => ?_)
             ·skip
              refine box_step ?hg (N := 6) ?hd (cs := #[.string (⟨#[]⟩ : ByteArray), .int .i64 0, .slice none 0 0]) (t := 52) ?hr ?_; (case hd => rfl); (case hg => rfl); (case hr => first | (go_simp; done) | (go_simp; rfl))
              intro gb260 hg w43 hbox hb
              have BK260 := Aside0.mk (hbox)
              have GW260 := geB w hg
              have GE260 := geB w hg
              have NB256_260 := neL BK256 hg
              have NB260_256 := neG BK256 hg
              have NB257_260 := neL BK257 hg
              have NB260_257 := neG BK257 hg
              replace BK256 := blB BK256 hb
              replace BK257 := blB BK257 hb
              replace HB := Aside0.mk (below_step bel hb)
              clear hb hbox hg
              refine hK.out _ _ ⟨(blk_cell BK256.out 0).trans rfl, (blk_cell BK256.out 1).trans rfl, (blk_cell BK257.out 0).trans rfl, (blk_cell BK257.out 1).trans rfl, (oc hw258_0), (oc hw258_1), (oc hw258_2), (oc hw259_0), (oc hw259_1), (oc hw259_2)⟩ (fun hHeld => ?_)
              clear hK K
              refine norm_ (a' := ?_) ?_ ?_
              rotate_left
              ·show Act.put _ (some 6) _ = _
               simp only [Act.put, List.setIfInBounds_toArray, List.set_cons_zero, List.set_cons_succ, i64_w, i32_w]
               rfl
              refine sOn 11 (some 7) (fun K hK => ?_)
              refine box_step ?hg (N := 7) ?hd (cs := #[.string (⟨#[]⟩ : ByteArray), .int .i64 0, .slice none 0 0]) (t := 52) ?hr ?_; (case hd => rfl); (case hg => rfl); (case hr => first | (go_simp; done) | (go_simp; rfl))
              intro gb261 hg w44 hbox hb
              have BK261 := Aside0.mk (hbox)
              have GW261 := geB w hg
              have GE261 := geB w hg
              have NB256_261 := neL BK256 hg
              have NB261_256 := neG BK256 hg
              have NB257_261 := neL BK257 hg
              have NB261_257 := neG BK257 hg
              have NB260_261 := neL BK260 hg
              have NB261_260 := neG BK260 hg
              replace BK256 := blB BK256 hb
              replace BK257 := blB BK257 hb
              replace BK260 := blB BK260 hb
              replace HB := Aside0.mk (below_step bel hb)
              clear hb hbox hg
              refine hK.out _ _ ⟨(blk_cell BK256.out 0).trans rfl, (blk_cell BK256.out 1).trans rfl, (blk_cell BK257.out 0).trans rfl, (blk_cell BK257.out 1).trans rfl, (oc hw258_0), (oc hw258_1), (oc hw258_2), (oc hw259_0), (oc hw259_1), (oc hw259_2)⟩ (fun hHeld => ?_)
              clear hK K
              refine norm_ (a' := ?_) ?_ ?_
              rotate_left
              ·show Act.put _ (some 7) _ = _
               simp only [Act.put, List.setIfInBounds_toArray, List.set_cons_zero, List.set_cons_succ, i64_w, i32_w]
               rfl
              exact norm_ (by simp only [putAll, Act.put, List.setIfInBounds_toArray, List.set_cons_zero, List.set_cons_succ]) (hCont (gb260, gb261) _ ⟨hHeld, (bk BK256), (bk BK257), (bk BK260), (bk BK261), GW260.out, GE260.out, NB256_260.out, NB260_256.out, NB257_260.out, NB260_257.out, NB261_260.out, NB260_261.out, GW261.out, GE261.out, NB256_261.out, NB261_256.out, NB257_261.out, NB261_257.out, bel⟩)
             ·skip
              refine box_step ?hg (N := 7) ?hd (cs := #[.string (⟨#[]⟩ : ByteArray), .int .i64 0, .slice none 0 0]) (t := 52) ?hr ?_; (case hd => rfl); (case hg => rfl); (case hr => first | (go_simp; done) | (go_simp; rfl))
              intro gb261 hg w43 hbox hb
              have BK261 := Aside0.mk (hbox)
              have GW261 := geB w hg
              have GE261 := geB w hg
              have NB256_261 := neL BK256 hg
              have NB261_256 := neG BK256 hg
              have NB257_261 := neL BK257 hg
              have NB261_257 := neG BK257 hg
              replace BK256 := blB BK256 hb
              replace BK257 := blB BK257 hb
              replace HB := Aside0.mk (below_step bel hb)
              clear hb hbox hg
              refine hK.out _ _ ⟨(blk_cell BK256.out 0).trans rfl, (blk_cell BK256.out 1).trans rfl, (blk_cell BK257.out 0).trans rfl, (blk_cell BK257.out 1).trans rfl, (oc hw258_0), (oc hw258_1), (oc hw258_2), (oc hw259_0), (oc hw259_1), (oc hw259_2)⟩ (fun hHeld => ?_)
              clear hK K
              refine norm_ (a' := ?_) ?_ ?_
              rotate_left
              ·show Act.put _ (some 7) _ = _
               simp only [Act.put, List.setIfInBounds_toArray, List.set_cons_zero, List.set_cons_succ, i64_w, i32_w]
               rfl
              refine sOn 10 (some 6) (fun K hK => ?_)
              refine box_step ?hg (N := 6) ?hd (cs := #[.string (⟨#[]⟩ : ByteArray), .int .i64 0, .slice none 0 0]) (t := 52) ?hr ?_; (case hd => rfl); (case hg => rfl); (case hr => first | (go_simp; done) | (go_simp; rfl))
              intro gb260 hg w44 hbox hb
              have BK260 := Aside0.mk (hbox)
              have GW260 := geB w hg
              have GE260 := geB w hg
              have NB256_260 := neL BK256 hg
              have NB260_256 := neG BK256 hg
              have NB257_260 := neL BK257 hg
              have NB260_257 := neG BK257 hg
              have NB261_260 := neL BK261 hg
              have NB260_261 := neG BK261 hg
              replace BK256 := blB BK256 hb
              replace BK257 := blB BK257 hb
              replace BK261 := blB BK261 hb
              replace HB := Aside0.mk (below_step bel hb)
              clear hb hbox hg
              refine hK.out _ _ ⟨(blk_cell BK256.out 0).trans rfl, (blk_cell BK256.out 1).trans rfl, (blk_cell BK257.out 0).trans rfl, (blk_cell BK257.out 1).trans rfl, (oc hw258_0), (oc hw258_1), (oc hw258_2), (oc hw259_0), (oc hw259_1), (oc hw259_2)⟩ (fun hHeld => ?_)
              clear hK K
              refine norm_ (a' := ?_) ?_ ?_
              rotate_left
              ·show Act.put _ (some 6) _ = _
               simp only [Act.put, List.setIfInBounds_toArray, List.set_cons_zero, List.set_cons_succ, i64_w, i32_w]
               rfl
              exact norm_ (by simp only [putAll, Act.put, List.setIfInBounds_toArray, List.set_cons_zero, List.set_cons_succ]) (hCont (gb260, gb261) _ ⟨hHeld, (bk BK256), (bk BK257), (bk BK260), (bk BK261), GW260.out, GE260.out, NB256_260.out, NB260_256.out, NB257_260.out, NB260_257.out, NB261_260.out, NB260_261.out, GW261.out, GE261.out, NB256_261.out, NB261_256.out, NB257_261.out, NB261_257.out, bel⟩)
            rintro ⟨gb260, gb261⟩ w45 ⟨hS_, h0_, h1_, h2_, h3_, h4_, h5_, h6_, h7_, h8_, h9_, h10_, h11_, h12_, h13_, h14_, h15_, h16_, h17_, h18_⟩
            have n0_ : Aside0 (w45.heap[gb256]? = some (.cells #[.int .i64 a0_0, .slice (some ad258) l0_1.length c0_1] 24 (0, 0))) := ⟨h0_⟩
            have n1_ : Aside0 (w45.heap[gb257]? = some (.cells #[.int .i64 a1_0, .slice (some ad259) l1_1.length c1_1] 24 (0, 0))) := ⟨h1_⟩
            have n2_ : Aside0 (w45.heap[gb260]? = some (.cells #[.string (⟨#[]⟩ : ByteArray), .int .i64 0, .slice none 0 0] 52 (0, 0))) := ⟨h2_⟩
            have n3_ : Aside0 (w45.heap[gb261]? = some (.cells #[.string (⟨#[]⟩ : ByteArray), .int .i64 0, .slice none 0 0] 52 (0, 0))) := ⟨h3_⟩
            have n4_ : Aside0 (w.heap.size ≤ gb260) := ⟨h4_⟩
            have n5_ : Aside0 (w.heap.size ≤ gb260) := ⟨h5_⟩
            have n6_ : Aside0 (gb256 ≠ gb260) := ⟨h6_⟩
            have n7_ : Aside0 (gb260 ≠ gb256) := ⟨h7_⟩
            have n8_ : Aside0 (gb257 ≠ gb260) := ⟨h8_⟩
            have n9_ : Aside0 (gb260 ≠ gb257) := ⟨h9_⟩
            have n10_ : Aside0 (gb261 ≠ gb260) := ⟨h10_⟩
            have n11_ : Aside0 (gb260 ≠ gb261) := ⟨h11_⟩
            have n12_ : Aside0 (w.heap.size ≤ gb261) := ⟨h12_⟩
            have n13_ : Aside0 (w.heap.size ≤ gb261) := ⟨h13_⟩
            have n14_ : Aside0 (gb256 ≠ gb261) := ⟨h14_⟩
            have n15_ : Aside0 (gb261 ≠ gb256) := ⟨h15_⟩
            have n16_ : Aside0 (gb257 ≠ gb261) := ⟨h16_⟩
            have n17_ : Aside0 (gb261 ≠ gb257) := ⟨h17_⟩
            have n18_ : Aside0 (Below w.heap.size w w45) := ⟨h18_⟩
            clear BK256
            clear BK257
            clear HB
            clear h0_ h1_ h2_ h3_ h4_ h5_ h6_ h7_ h8_ h9_ h10_ h11_ h12_ h13_ h14_ h15_ h16_ h17_ h18_
            have BK256 := n0_
            have BK257 := n1_
            have BK260 := n2_
            have BK261 := n3_
            have GW260 := n4_
            have GE260 := n5_
            have NB256_260 := n6_
            have NB260_256 := n7_
            have NB257_260 := n8_
            have NB260_257 := n9_
            have NB261_260 := n10_
            have NB260_261 := n11_
            have GW261 := n12_
            have GE261 := n13_
            have NB256_261 := n14_
            have NB261_256 := n15_
            have NB257_261 := n16_
            have NB261_257 := n17_
            have HB := n18_
            clear n0_ n1_ n2_ n3_ n4_ n5_ n6_ n7_ n8_ n9_ n10_ n11_ n12_ n13_ n14_ n15_ n16_ n17_ n18_
            have hHeld : w45.cell? ⟨gb256, 0, none⟩ = some (.int .i64 a0_0) ∧ w45.cell? ⟨gb256, 1, none⟩ = some (.slice (some ad258) l0_1.length c0_1) ∧ w45.cell? ⟨gb257, 0, none⟩ = some (.int .i64 a1_0) ∧ w45.cell? ⟨gb257, 1, none⟩ = some (.slice (some ad259) l1_1.length c1_1) ∧ w45.cell? (ad258.add ((x5_2).toNat * 3)) = some (.string ((rd_T52 l0_1 x5_2).f0)) ∧ w45.cell? ⟨(ad258.add ((x5_2).toNat * 3)).block, (ad258.add ((x5_2).toNat * 3)).off + 1, none⟩ = some (.int .i64 ((rd_T52 l0_1 x5_2).f1)) ∧ w45.cell? ⟨(ad258.add ((x5_2).toNat * 3)).block, (ad258.add ((x5_2).toNat * 3)).off + 2, none⟩ = some (.slice A258_2 ((rd_T52 l0_1 x5_2).f2).length c258_2) ∧ w45.cell? (ad259.add ((x5_2).toNat * 3)) = some (.string ((rd_T52 l1_1 x5_2).f0)) ∧ w45.cell? ⟨(ad259.add ((x5_2).toNat * 3)).block, (ad259.add ((x5_2).toNat * 3)).off + 1, none⟩ = some (.int .i64 ((rd_T52 l1_1 x5_2).f1)) ∧ w45.cell? ⟨(ad259.add ((x5_2).toNat * 3)).block, (ad259.add ((x5_2).toNat * 3)).off + 2, none⟩ = some (.slice A259_2 ((rd_T52 l1_1 x5_2).f2).length c259_2) := hS_
            refine norm_ (a' := ?_) ?_ ?_
            rotate_left
            ·simp only [putAll, Act.put, List.setIfInBounds_toArray, List.set_cons_zero, List.set_cons_succ]
             rfl
            refine sOn 12 none (fun K hK => ?_)
            have hs46 : w45.cell? ⟨gb260, 0, none⟩ = some (.string (⟨#[]⟩ : ByteArray)) := (blk_cell BK260.out 0).trans rfl
            have hfs46 := blk_frozen BK260.out 0
            have hns46_0 := NB256_260.out
            have hns46_1 := NB257_260.out
            have hns46_3 := NB261_260.out
            have hms46_0 := NB260_256.out
            have hms46_1 := NB260_257.out
            have hms46_3 := NB260_261.out
            have hs47 : w45.cell? ⟨gb260, 1, none⟩ = some (.int .i64 0) := (blk_cell BK260.out 1).trans rfl
            have hfs47 := blk_frozen BK260.out 1
            have hns47_0 := NB256_260.out
            have hns47_1 := NB257_260.out
            have hns47_3 := NB261_260.out
            have hms47_0 := NB260_256.out
            have hms47_1 := NB260_257.out
            have hms47_3 := NB260_261.out
            have hs48 : w45.cell? ⟨gb260, 2, none⟩ = some (.slice none 0 0) := (blk_cell BK260.out 2).trans rfl
            have hfs48 := blk_frozen BK260.out 2
            have hns48_0 := NB256_260.out
            have hns48_1 := NB257_260.out
            have hns48_3 := NB261_260.out
            have hms48_0 := NB260_256.out
            have hms48_1 := NB260_257.out
            have hms48_3 := NB260_261.out
            refine skip_ (w1 := ?_) (by rfl) rfl ?_ ?_
            rotate_left
            ·go_simp
             rfl
            refine hK.out _ _ ⟨((cell_far (p := ⟨gb260, _, none⟩) NB256_260.out _).trans (((cell_far (p := ⟨gb260, _, none⟩) NB256_260.out _).trans (((cell_far (p := ⟨gb260, _, none⟩) NB256_260.out _).trans (hHeld.1)))))), ((cell_far (p := ⟨gb260, _, none⟩) NB256_260.out _).trans (((cell_far (p := ⟨gb260, _, none⟩) NB256_260.out _).trans (((cell_far (p := ⟨gb260, _, none⟩) NB256_260.out _).trans (hHeld.2.1)))))), ((cell_far (p := ⟨gb260, _, none⟩) NB257_260.out _).trans (((cell_far (p := ⟨gb260, _, none⟩) NB257_260.out _).trans (((cell_far (p := ⟨gb260, _, none⟩) NB257_260.out _).trans (hHeld.2.2.1)))))), ((cell_far (p := ⟨gb260, _, none⟩) NB257_260.out _).trans (((cell_far (p := ⟨gb260, _, none⟩) NB257_260.out _).trans (((cell_far (p := ⟨gb260, _, none⟩) NB257_260.out _).trans (hHeld.2.2.2.1)))))), ((cell_far (p := ⟨gb260, _, none⟩) (far_ne34 hw258_0 GW260.out) _).trans (((cell_far (p := ⟨gb260, _, none⟩) (far_ne34 hw258_0 GW260.out) _).trans (((cell_far (p := ⟨gb260, _, none⟩) (far_ne34 hw258_0 GW260.out) _).trans (hHeld.2.2.2.2.1)))))), ((cell_far (p := ⟨gb260, _, none⟩) (far_ne34 hw258_1 GW260.out) _).trans (((cell_far (p := ⟨gb260, _, none⟩) (far_ne34 hw258_1 GW260.out) _).trans (((cell_far (p := ⟨gb260, _, none⟩) (far_ne34 hw258_1 GW260.out) _).trans (hHeld.2.2.2.2.2.1)))))), ((cell_far (p := ⟨gb260, _, none⟩) (far_ne34 hw258_2 GW260.out) _).trans (((cell_far (p := ⟨gb260, _, none⟩) (far_ne34 hw258_2 GW260.out) _).trans (((cell_far (p := ⟨gb260, _, none⟩) (far_ne34 hw258_2 GW260.out) _).trans (hHeld.2.2.2.2.2.2.1)))))), ((cell_far (p := ⟨gb260, _, none⟩) (far_ne34 hw259_0 GW260.out) _).trans (((cell_far (p := ⟨gb260, _, none⟩) (far_ne34 hw259_0 GW260.out) _).trans (((cell_far (p := ⟨gb260, _, none⟩) (far_ne34 hw259_0 GW260.out) _).trans (hHeld.2.2.2.2.2.2.2.1)))))), ((cell_far (p := ⟨gb260, _, none⟩) (far_ne34 hw259_1 GW260.out) _).trans (((cell_far (p := ⟨gb260, _, none⟩) (far_ne34 hw259_1 GW260.out) _).trans (((cell_far (p := ⟨gb260, _, none⟩) (far_ne34 hw259_1 GW260.out) _).trans (hHeld.2.2.2.2.2.2.2.2.1)))))), ((cell_far (p := ⟨gb260, _, none⟩) (far_ne34 hw259_2 GW260.out) _).trans (((cell_far (p := ⟨gb260, _, none⟩) (far_ne34 hw259_2 GW260.out) _).trans (((cell_far (p := ⟨gb260, _, none⟩) (far_ne34 hw259_2 GW260.out) _).trans (hHeld.2.2.2.2.2.2.2.2.2))))))⟩ (fun hHeld => ?_)
            clear hK K
            refine sOn 13 none (fun K hK => ?_)
            have hs49 : w45.cell? ⟨gb261, 0, none⟩ = some (.string (⟨#[]⟩ : ByteArray)) := (blk_cell BK261.out 0).trans rfl
            have hfs49 := blk_frozen BK261.out 0
            have hns49_0 := NB256_261.out
            have hns49_1 := NB257_261.out
            have hns49_2 := NB260_261.out
            have hms49_0 := NB261_256.out
            have hms49_1 := NB261_257.out
            have hms49_2 := NB261_260.out
            have hs50 : w45.cell? ⟨gb261, 1, none⟩ = some (.int .i64 0) := (blk_cell BK261.out 1).trans rfl
            have hfs50 := blk_frozen BK261.out 1
            have hns50_0 := NB256_261.out
            have hns50_1 := NB257_261.out
            have hns50_2 := NB260_261.out
            have hms50_0 := NB261_256.out
            have hms50_1 := NB261_257.out
            have hms50_2 := NB261_260.out
            have hs51 : w45.cell? ⟨gb261, 2, none⟩ = some (.slice none 0 0) := (blk_cell BK261.out 2).trans rfl
            have hfs51 := blk_frozen BK261.out 2
            have hns51_0 := NB256_261.out
            have hns51_1 := NB257_261.out
            have hns51_2 := NB260_261.out
            have hms51_0 := NB261_256.out
            have hms51_1 := NB261_257.out
            have hms51_2 := NB261_260.out
            refine skip_ (w1 := ?_) (by rfl) rfl ?_ ?_
            rotate_left
            ·go_simp
             rfl
            refine hK.out _ _ ⟨((cell_far (p := ⟨gb261, _, none⟩) NB256_261.out _).trans (((cell_far (p := ⟨gb261, _, none⟩) NB256_261.out _).trans (((cell_far (p := ⟨gb261, _, none⟩) NB256_261.out _).trans (hHeld.1)))))), ((cell_far (p := ⟨gb261, _, none⟩) NB256_261.out _).trans (((cell_far (p := ⟨gb261, _, none⟩) NB256_261.out _).trans (((cell_far (p := ⟨gb261, _, none⟩) NB256_261.out _).trans (hHeld.2.1)))))), ((cell_far (p := ⟨gb261, _, none⟩) NB257_261.out _).trans (((cell_far (p := ⟨gb261, _, none⟩) NB257_261.out _).trans (((cell_far (p := ⟨gb261, _, none⟩) NB257_261.out _).trans (hHeld.2.2.1)))))), ((cell_far (p := ⟨gb261, _, none⟩) NB257_261.out _).trans (((cell_far (p := ⟨gb261, _, none⟩) NB257_261.out _).trans (((cell_far (p := ⟨gb261, _, none⟩) NB257_261.out _).trans (hHeld.2.2.2.1)))))), ((cell_far (p := ⟨gb261, _, none⟩) (far_ne34 hw258_0 GW261.out) _).trans (((cell_far (p := ⟨gb261, _, none⟩) (far_ne34 hw258_0 GW261.out) _).trans (((cell_far (p := ⟨gb261, _, none⟩) (far_ne34 hw258_0 GW261.out) _).trans (hHeld.2.2.2.2.1)))))), ((cell_far (p := ⟨gb261, _, none⟩) (far_ne34 hw258_1 GW261.out) _).trans (((cell_far (p := ⟨gb261, _, none⟩) (far_ne34 hw258_1 GW261.out) _).trans (((cell_far (p := ⟨gb261, _, none⟩) (far_ne34 hw258_1 GW261.out) _).trans (hHeld.2.2.2.2.2.1)))))), ((cell_far (p := ⟨gb261, _, none⟩) (far_ne34 hw258_2 GW261.out) _).trans (((cell_far (p := ⟨gb261, _, none⟩) (far_ne34 hw258_2 GW261.out) _).trans (((cell_far (p := ⟨gb261, _, none⟩) (far_ne34 hw258_2 GW261.out) _).trans (hHeld.2.2.2.2.2.2.1)))))), ((cell_far (p := ⟨gb261, _, none⟩) (far_ne34 hw259_0 GW261.out) _).trans (((cell_far (p := ⟨gb261, _, none⟩) (far_ne34 hw259_0 GW261.out) _).trans (((cell_far (p := ⟨gb261, _, none⟩) (far_ne34 hw259_0 GW261.out) _).trans (hHeld.2.2.2.2.2.2.2.1)))))), ((cell_far (p := ⟨gb261, _, none⟩) (far_ne34 hw259_1 GW261.out) _).trans (((cell_far (p := ⟨gb261, _, none⟩) (far_ne34 hw259_1 GW261.out) _).trans (((cell_far (p := ⟨gb261, _, none⟩) (far_ne34 hw259_1 GW261.out) _).trans (hHeld.2.2.2.2.2.2.2.2.1)))))), ((cell_far (p := ⟨gb261, _, none⟩) (far_ne34 hw259_2 GW261.out) _).trans (((cell_far (p := ⟨gb261, _, none⟩) (far_ne34 hw259_2 GW261.out) _).trans (((cell_far (p := ⟨gb261, _, none⟩) (far_ne34 hw259_2 GW261.out) _).trans (hHeld.2.2.2.2.2.2.2.2.2))))))⟩ (fun hHeld => ?_)
            clear hK K
            refine done_ (done_of HT_.out (by kernel_rfl)) ?_
            have hnb52 := NB260_256.out
            have hnc52 := NB256_260.out
            have hnb53 := NB260_257.out
            have hnc53 := NB257_260.out
            have hnb54 := NB260_261.out
            have hnc54 := NB261_260.out
            obtain ⟨hcz55_0, hcz55_1, hcz55_2, hfz55_0, hfz55_1, hfz55_2⟩ := bq3 BK260
            have hnb56 := NB261_256.out
            have hnc56 := NB256_261.out
            have hnb57 := NB261_257.out
            have hnc57 := NB257_261.out
            obtain ⟨hcz58_0, hcz58_1, hcz58_2, hfz58_0, hfz58_1, hfz58_2⟩ := bq3 BK261
            try go_wp2_with (first | (go_at_call 69; (with_reducible refine (paraphrastref01_SameTuples.calls k2 _ _ ((rd_T52 l0_1 x5_2).f2) _ _ ((rd_T52 l1_1 x5_2).f2) false _ ?side1 ?side2 ?side3 ?side4 A19.out).mono ?_); (case side1 => exact Kd.C_below HR258_2.out bel); (case side2 => exact HC258_2.out); (case side3 => exact Kd.C_below HR259_2.out bel); (case side4 => exact HC259_2.out); rintro e w' ⟨rfl, ⟨nd, rfl⟩⟩))
            go_ret
            exact ⟨eN, bel⟩
          ·rw [if_neg c18] at H
           have c18b0 : (((rd_T52 l0_1 x5_2).f1) == ((rd_T52 l1_1 x5_2).f1)) = false := beq_eq_false_iff_ne.mpr c18
           have c18b1 : (((rd_T52 l0_1 x5_2).f1) != ((rd_T52 l1_1 x5_2).f1)) = true := bne_iff_ne.mpr c18
           obtain rfl := Option.some.inj H
           have hnb59 := NB256_257.out
           have hnc59 := NB257_256.out
           obtain ⟨hcz60_0, hcz60_1, hfz60_0, hfz60_1⟩ := bq2 BK256
           try go_wp2
           replace BK256 := Aside0.mk (blk_drew BK256.out)
           replace BK257 := Aside0.mk (blk_drew BK257.out)
           replace HB := Aside0.mk (below_drew1 HB.out)
           have p258 : 0 ≤ (x5_2 : Int) := dtr
           have q258 : x5_2 < (l0_1.length : Int) := dtr
           obtain ⟨ad258, A258_2, c258_2, e258, hx258_0, hx258_1, hx258_2, hl258_2, hi258_2⟩ := at_T52 HR0_1.out x5_2 p258 q258
           have hw258_2 := hx258_2
           have hw258_1 := hx258_1
           have hw258_0 := hx258_0
           cases e258
           replace hx258_0 := oc hx258_0
           replace hx258_1 := oc hx258_1
           replace hx258_2 := oc hx258_2
           have HR258_2 := Aside0.mk hi258_2
           have HC258_2 := Aside0.mk hl258_2
           clear hi258_2 hl258_2
           replace p258 := eq_true p258
           replace q258 := eq_true q258
           have p259 : 0 ≤ (x5_2 : Int) := dtr
           have q259 : x5_2 < (l1_1.length : Int) := dtr
           obtain ⟨ad259, A259_2, c259_2, e259, hx259_0, hx259_1, hx259_2, hl259_2, hi259_2⟩ := at_T52 HR1_1.out x5_2 p259 q259
           have hw259_2 := hx259_2
           have hw259_1 := hx259_1
           have hw259_0 := hx259_0
           cases e259
           replace hx259_0 := oc hx259_0
           replace hx259_1 := oc hx259_1
           replace hx259_2 := oc hx259_2
           have HR259_2 := Aside0.mk hi259_2
           have HC259_2 := Aside0.mk hl259_2
           clear hi259_2 hl259_2
           replace p259 := eq_true p259
           replace q259 := eq_true q259
           refine start_ (n := 14) (S := fun w' => w'.cell? ⟨gb256, 0, none⟩ = some (.int .i64 a0_0) ∧ w'.cell? ⟨gb256, 1, none⟩ = some (.slice (some ad258) l0_1.length c0_1) ∧ w'.cell? ⟨gb257, 0, none⟩ = some (.int .i64 a1_0) ∧ w'.cell? ⟨gb257, 1, none⟩ = some (.slice (some ad259) l1_1.length c1_1) ∧ w'.cell? (ad258.add ((x5_2).toNat * 3)) = some (.string ((rd_T52 l0_1 x5_2).f0)) ∧ w'.cell? ⟨(ad258.add ((x5_2).toNat * 3)).block, (ad258.add ((x5_2).toNat * 3)).off + 1, none⟩ = some (.int .i64 ((rd_T52 l0_1 x5_2).f1)) ∧ w'.cell? ⟨(ad258.add ((x5_2).toNat * 3)).block, (ad258.add ((x5_2).toNat * 3)).off + 2, none⟩ = some (.slice A258_2 ((rd_T52 l0_1 x5_2).f2).length c258_2) ∧ w'.cell? (ad259.add ((x5_2).toNat * 3)) = some (.string ((rd_T52 l1_1 x5_2).f0)) ∧ w'.cell? ⟨(ad259.add ((x5_2).toNat * 3)).block, (ad259.add ((x5_2).toNat * 3)).off + 1, none⟩ = some (.int .i64 ((rd_T52 l1_1 x5_2).f1)) ∧ w'.cell? ⟨(ad259.add ((x5_2).toNat * 3)).block, (ad259.add ((x5_2).toNat * 3)).off + 2, none⟩ = some (.slice A259_2 ((rd_T52 l1_1 x5_2).f2).length c259_2)) (ds := []) #[false, false, false, false, false, false, false, false, false, false, false, false, false, false] (by kernel_rfl) rfl rfl ⟨(blk_cell BK256.out 0).trans rfl, (blk_cell BK256.out 1).trans rfl, (blk_cell BK257.out 0).trans rfl, (blk_cell BK257.out 1).trans rfl, (oc hw258_0), (oc hw258_1), (oc hw258_2), (oc hw259_0), (oc hw259_1), (oc hw259_2)⟩ (fun hHeld => ?_); refine with_tabW paraphrastref01_Same.tab6 paraphrastref01_Same.bits6 (fun HT_ HW_ => ?_)
           generalize wr.drew = w61 at BK256 BK257 HB HR258_2 HR259_2 hx258_0 hx258_1 hx258_2 hx259_0 hx259_1 hx259_2 hHeld ⊢
           refine sPu 0 (some 29) ?_
           refine sPu 2 (some 31) ?_
           refine sPu 5 (some 34) ?_
           refine sPu 7 (some 36) ?_
           refine sTk 1 (some 30) ?_
           refine sPu 3 (some 32) ?_
           refine sTk 4 (some 33) ?_
           refine sTk 6 (some 35) ?_
           refine sPu 8 (some 37) ?_
           refine sTk 9 (some 38) ?_
           refine join_ (σ := Nat × Nat) 2 #[true, true, true, true, true, true, true, true, true, true, true, true, false, false] (fun s_ => [(6, .pointer (some ⟨s_.1, 0, none⟩)), (7, .pointer (some ⟨s_.2, 0, none⟩))]) (fun s_ w' => (w'.cell? ⟨gb256, 0, none⟩ = some (.int .i64 a0_0) ∧ w'.cell? ⟨gb256, 1, none⟩ = some (.slice (some ad258) l0_1.length c0_1) ∧ w'.cell? ⟨gb257, 0, none⟩ = some (.int .i64 a1_0) ∧ w'.cell? ⟨gb257, 1, none⟩ = some (.slice (some ad259) l1_1.length c1_1) ∧ w'.cell? (ad258.add ((x5_2).toNat * 3)) = some (.string ((rd_T52 l0_1 x5_2).f0)) ∧ w'.cell? ⟨(ad258.add ((x5_2).toNat * 3)).block, (ad258.add ((x5_2).toNat * 3)).off + 1, none⟩ = some (.int .i64 ((rd_T52 l0_1 x5_2).f1)) ∧ w'.cell? ⟨(ad258.add ((x5_2).toNat * 3)).block, (ad258.add ((x5_2).toNat * 3)).off + 2, none⟩ = some (.slice A258_2 ((rd_T52 l0_1 x5_2).f2).length c258_2) ∧ w'.cell? (ad259.add ((x5_2).toNat * 3)) = some (.string ((rd_T52 l1_1 x5_2).f0)) ∧ w'.cell? ⟨(ad259.add ((x5_2).toNat * 3)).block, (ad259.add ((x5_2).toNat * 3)).off + 1, none⟩ = some (.int .i64 ((rd_T52 l1_1 x5_2).f1)) ∧ w'.cell? ⟨(ad259.add ((x5_2).toNat * 3)).block, (ad259.add ((x5_2).toNat * 3)).off + 2, none⟩ = some (.slice A259_2 ((rd_T52 l1_1 x5_2).f2).length c259_2)) ∧ (w'.heap[gb256]? = some (.cells #[.int .i64 a0_0, .slice (some ad258) l0_1.length c0_1] 24 (0, 0))) ∧ (w'.heap[gb257]? = some (.cells #[.int .i64 a1_0, .slice (some ad259) l1_1.length c1_1] 24 (0, 0))) ∧ (w'.heap[s_.1]? = some (.cells #[.string (⟨#[]⟩ : ByteArray), .int .i64 0, .slice none 0 0] 52 (0, 0))) ∧ (w'.heap[s_.2]? = some (.cells #[.string (⟨#[]⟩ : ByteArray), .int .i64 0, .slice none 0 0] 52 (0, 0))) ∧ (w.heap.size ≤ s_.1) ∧ (w.heap.size ≤ s_.1) ∧ (gb256 ≠ s_.1) ∧ (s_.1 ≠ gb256) ∧ (gb257 ≠ s_.1) ∧ (s_.1 ≠ gb257) ∧ (s_.2 ≠ s_.1) ∧ (s_.1 ≠ s_.2) ∧ (w.heap.size ≤ s_.2) ∧ (w.heap.size ≤ s_.2) ∧ (gb256 ≠ s_.2) ∧ (s_.2 ≠ gb256) ∧ (gb257 ≠ s_.2) ∧ (s_.2 ≠ gb257) ∧ (Below w.heap.size w w')) ?_ ?_
           rotate_left
           ·intro hCont
            refine two_ (i := 10) (j := 11) (Ni := some 6) (Nj := some 7) #[true, true, true, true, true, true, true, true, true, true, true, false, false, false] #[true, true, true, true, true, true, true, true, true, true, false, true, false, false] rfl rfl rfl rfl (two_of HT_.out (by kernel_rfl)) (by decide) (by decide) (fun K hK => ?_) (fun K hK => ?_)
            ·skip
             refine box_step ?hg (N := 6) ?hd (cs := #[.string (⟨#[]⟩ : ByteArray), .int .i64 0, .slice none 0 0]) (t := 52) ?hr ?_; (case hd => rfl); (case hg => rfl); (case hr => first | (go_simp; done) | (go_simp; rfl))
             intro gb260 hg w62 hbox hb
             have BK260 := Aside0.mk (hbox)
             have GW260 := geB w hg
             have GE260 := geB w hg
             have NB256_260 := neL BK256 hg
             have NB260_256 := neG BK256 hg
             have NB257_260 := neL BK257 hg
             have NB260_257 := neG BK257 hg
             replace BK256 := blB BK256 hb
             replace BK257 := blB BK257 hb
             replace HB := Aside0.mk (below_step bel hb)
             clear hb hbox hg
             refine hK.out _ _ ⟨(blk_cell BK256.out 0).trans rfl, (blk_cell BK256.out 1).trans rfl, (blk_cell BK257.out 0).trans rfl, (blk_cell BK257.out 1).trans rfl, (oc hw258_0), (oc hw258_1), (oc hw258_2), (oc hw259_0), (oc hw259_1), (oc hw259_2)⟩ (fun hHeld => ?_)
             clear hK K
             refine norm_ (a' := ?_) ?_ ?_
             rotate_left
             ·show Act.put _ (some 6) _ = _
              simp only [Act.put, List.setIfInBounds_toArray, List.set_cons_zero, List.set_cons_succ, i64_w, i32_w]
              rfl
             refine sOn 11 (some 7) (fun K hK => ?_)
             refine box_step ?hg (N := 7) ?hd (cs := #[.string (⟨#[]⟩ : ByteArray), .int .i64 0, .slice none 0 0]) (t := 52) ?hr ?_; (case hd => rfl); (case hg => rfl); (case hr => first | (go_simp; done) | (go_simp; rfl))
             intro gb261 hg w63 hbox hb
             have BK261 := Aside0.mk (hbox)
             have GW261 := geB w hg
             have GE261 := geB w hg
             have NB256_261 := neL BK256 hg
             have NB261_256 := neG BK256 hg
             have NB257_261 := neL BK257 hg
             have NB261_257 := neG BK257 hg
             have NB260_261 := neL BK260 hg
             have NB261_260 := neG BK260 hg
             replace BK256 := blB BK256 hb
             replace BK257 := blB BK257 hb
             replace BK260 := blB BK260 hb
             replace HB := Aside0.mk (below_step bel hb)
             clear hb hbox hg
             refine hK.out _ _ ⟨(blk_cell BK256.out 0).trans rfl, (blk_cell BK256.out 1).trans rfl, (blk_cell BK257.out 0).trans rfl, (blk_cell BK257.out 1).trans rfl, (oc hw258_0), (oc hw258_1), (oc hw258_2), (oc hw259_0), (oc hw259_1), (oc hw259_2)⟩ (fun hHeld => ?_)
             clear hK K
             refine norm_ (a' := ?_) ?_ ?_
             rotate_left
             ·show Act.put _ (some 7) _ = _
              simp only [Act.put, List.setIfInBounds_toArray, List.set_cons_zero, List.set_cons_succ, i64_w, i32_w]
              rfl
             exact norm_ (by simp only [putAll, Act.put, List.setIfInBounds_toArray, List.set_cons_zero, List.set_cons_succ]) (hCont (gb260, gb261) _ ⟨hHeld, (bk BK256), (bk BK257), (bk BK260), (bk BK261), GW260.out, GE260.out, NB256_260.out, NB260_256.out, NB257_260.out, NB260_257.out, NB261_260.out, NB260_261.out, GW261.out, GE261.out, NB256_261.out, NB261_256.out, NB257_261.out, NB261_257.out, bel⟩)
            ·skip
             refine box_step ?hg (N := 7) ?hd (cs := #[.string (⟨#[]⟩ : ByteArray), .int .i64 0, .slice none 0 0]) (t := 52) ?hr ?_; (case hd => rfl); (case hg => rfl); (case hr => first | (go_simp; done) | (go_simp; rfl))
             intro gb261 hg w62 hbox hb
             have BK261 := Aside0.mk (hbox)
             have GW261 := geB w hg
             have GE261 := geB w hg
             have NB256_261 := neL BK256 hg
             have NB261_256 := neG BK256 hg
             have NB257_261 := neL BK257 hg
             have NB261_257 := neG BK257 hg
             replace BK256 := blB BK256 hb
             replace BK257 := blB BK257 hb
             replace HB := Aside0.mk (below_step bel hb)
             clear hb hbox hg
             refine hK.out _ _ ⟨(blk_cell BK256.out 0).trans rfl, (blk_cell BK256.out 1).trans rfl, (blk_cell BK257.out 0).trans rfl, (blk_cell BK257.out 1).trans rfl, (oc hw258_0), (oc hw258_1), (oc hw258_2), (oc hw259_0), (oc hw259_1), (oc hw259_2)⟩ (fun hHeld => ?_)
             clear hK K
             refine norm_ (a' := ?_) ?_ ?_
             rotate_left
             ·show Act.put _ (some 7) _ = _
              simp only [Act.put, List.setIfInBounds_toArray, List.set_cons_zero, List.set_cons_succ, i64_w, i32_w]
              rfl
             refine sOn 10 (some 6) (fun K hK => ?_)
             refine box_step ?hg (N := 6) ?hd (cs := #[.string (⟨#[]⟩ : ByteArray), .int .i64 0, .slice none 0 0]) (t := 52) ?hr ?_; (case hd => rfl); (case hg => rfl); (case hr => first | (go_simp; done) | (go_simp; rfl))
             intro gb260 hg w63 hbox hb
             have BK260 := Aside0.mk (hbox)
             have GW260 := geB w hg
             have GE260 := geB w hg
             have NB256_260 := neL BK256 hg
             have NB260_256 := neG BK256 hg
             have NB257_260 := neL BK257 hg
             have NB260_257 := neG BK257 hg
             have NB261_260 := neL BK261 hg
             have NB260_261 := neG BK261 hg
             replace BK256 := blB BK256 hb
             replace BK257 := blB BK257 hb
             replace BK261 := blB BK261 hb
             replace HB := Aside0.mk (below_step bel hb)
             clear hb hbox hg
             refine hK.out _ _ ⟨(blk_cell BK256.out 0).trans rfl, (blk_cell BK256.out 1).trans rfl, (blk_cell BK257.out 0).trans rfl, (blk_cell BK257.out 1).trans rfl, (oc hw258_0), (oc hw258_1), (oc hw258_2), (oc hw259_0), (oc hw259_1), (oc hw259_2)⟩ (fun hHeld => ?_)
             clear hK K
             refine norm_ (a' := ?_) ?_ ?_
             rotate_left
             ·show Act.put _ (some 6) _ = _
              simp only [Act.put, List.setIfInBounds_toArray, List.set_cons_zero, List.set_cons_succ, i64_w, i32_w]
              rfl
             exact norm_ (by simp only [putAll, Act.put, List.setIfInBounds_toArray, List.set_cons_zero, List.set_cons_succ]) (hCont (gb260, gb261) _ ⟨hHeld, (bk BK256), (bk BK257), (bk BK260), (bk BK261), GW260.out, GE260.out, NB256_260.out, NB260_256.out, NB257_260.out, NB260_257.out, NB261_260.out, NB260_261.out, GW261.out, GE261.out, NB256_261.out, NB261_256.out, NB257_261.out, NB261_257.out, bel⟩)
           rintro ⟨gb260, gb261⟩ w64 ⟨hS_, h0_, h1_, h2_, h3_, h4_, h5_, h6_, h7_, h8_, h9_, h10_, h11_, h12_, h13_, h14_, h15_, h16_, h17_, h18_⟩
           have n0_ : Aside0 (w64.heap[gb256]? = some (.cells #[.int .i64 a0_0, .slice (some ad258) l0_1.length c0_1] 24 (0, 0))) := ⟨h0_⟩
           have n1_ : Aside0 (w64.heap[gb257]? = some (.cells #[.int .i64 a1_0, .slice (some ad259) l1_1.length c1_1] 24 (0, 0))) := ⟨h1_⟩
           have n2_ : Aside0 (w64.heap[gb260]? = some (.cells #[.string (⟨#[]⟩ : ByteArray), .int .i64 0, .slice none 0 0] 52 (0, 0))) := ⟨h2_⟩
           have n3_ : Aside0 (w64.heap[gb261]? = some (.cells #[.string (⟨#[]⟩ : ByteArray), .int .i64 0, .slice none 0 0] 52 (0, 0))) := ⟨h3_⟩
           have n4_ : Aside0 (w.heap.size ≤ gb260) := ⟨h4_⟩
           have n5_ : Aside0 (w.heap.size ≤ gb260) := ⟨h5_⟩
           have n6_ : Aside0 (gb256 ≠ gb260) := ⟨h6_⟩
           have n7_ : Aside0 (gb260 ≠ gb256) := ⟨h7_⟩
           have n8_ : Aside0 (gb257 ≠ gb260) := ⟨h8_⟩
           have n9_ : Aside0 (gb260 ≠ gb257) := ⟨h9_⟩
           have n10_ : Aside0 (gb261 ≠ gb260) := ⟨h10_⟩
           have n11_ : Aside0 (gb260 ≠ gb261) := ⟨h11_⟩
           have n12_ : Aside0 (w.heap.size ≤ gb261) := ⟨h12_⟩
           have n13_ : Aside0 (w.heap.size ≤ gb261) := ⟨h13_⟩
           have n14_ : Aside0 (gb256 ≠ gb261) := ⟨h14_⟩
           have n15_ : Aside0 (gb261 ≠ gb256) := ⟨h15_⟩
           have n16_ : Aside0 (gb257 ≠ gb261) := ⟨h16_⟩
           have n17_ : Aside0 (gb261 ≠ gb257) := ⟨h17_⟩
           have n18_ : Aside0 (Below w.heap.size w w64) := ⟨h18_⟩
           clear BK256
           clear BK257
           clear HB
           clear h0_ h1_ h2_ h3_ h4_ h5_ h6_ h7_ h8_ h9_ h10_ h11_ h12_ h13_ h14_ h15_ h16_ h17_ h18_
           have BK256 := n0_
           have BK257 := n1_
           have BK260 := n2_
           have BK261 := n3_
           have GW260 := n4_
           have GE260 := n5_
           have NB256_260 := n6_
           have NB260_256 := n7_
           have NB257_260 := n8_
           have NB260_257 := n9_
           have NB261_260 := n10_
           have NB260_261 := n11_
           have GW261 := n12_
           have GE261 := n13_
           have NB256_261 := n14_
           have NB261_256 := n15_
           have NB257_261 := n16_
           have NB261_257 := n17_
           have HB := n18_
           clear n0_ n1_ n2_ n3_ n4_ n5_ n6_ n7_ n8_ n9_ n10_ n11_ n12_ n13_ n14_ n15_ n16_ n17_ n18_
           have hHeld : w64.cell? ⟨gb256, 0, none⟩ = some (.int .i64 a0_0) ∧ w64.cell? ⟨gb256, 1, none⟩ = some (.slice (some ad258) l0_1.length c0_1) ∧ w64.cell? ⟨gb257, 0, none⟩ = some (.int .i64 a1_0) ∧ w64.cell? ⟨gb257, 1, none⟩ = some (.slice (some ad259) l1_1.length c1_1) ∧ w64.cell? (ad258.add ((x5_2).toNat * 3)) = some (.string ((rd_T52 l0_1 x5_2).f0)) ∧ w64.cell? ⟨(ad258.add ((x5_2).toNat * 3)).block, (ad258.add ((x5_2).toNat * 3)).off + 1, none⟩ = some (.int .i64 ((rd_T52 l0_1 x5_2).f1)) ∧ w64.cell? ⟨(ad258.add ((x5_2).toNat * 3)).block, (ad258.add ((x5_2).toNat * 3)).off + 2, none⟩ = some (.slice A258_2 ((rd_T52 l0_1 x5_2).f2).length c258_2) ∧ w64.cell? (ad259.add ((x5_2).toNat * 3)) = some (.string ((rd_T52 l1_1 x5_2).f0)) ∧ w64.cell? ⟨(ad259.add ((x5_2).toNat * 3)).block, (ad259.add ((x5_2).toNat * 3)).off + 1, none⟩ = some (.int .i64 ((rd_T52 l1_1 x5_2).f1)) ∧ w64.cell? ⟨(ad259.add ((x5_2).toNat * 3)).block, (ad259.add ((x5_2).toNat * 3)).off + 2, none⟩ = some (.slice A259_2 ((rd_T52 l1_1 x5_2).f2).length c259_2) := hS_
           refine norm_ (a' := ?_) ?_ ?_
           rotate_left
           ·simp only [putAll, Act.put, List.setIfInBounds_toArray, List.set_cons_zero, List.set_cons_succ]
            rfl
           refine sOn 12 none (fun K hK => ?_)
           have hs65 : w64.cell? ⟨gb260, 0, none⟩ = some (.string (⟨#[]⟩ : ByteArray)) := (blk_cell BK260.out 0).trans rfl
           have hfs65 := blk_frozen BK260.out 0
           have hns65_0 := NB256_260.out
           have hns65_1 := NB257_260.out
           have hns65_3 := NB261_260.out
           have hms65_0 := NB260_256.out
           have hms65_1 := NB260_257.out
           have hms65_3 := NB260_261.out
           have hs66 : w64.cell? ⟨gb260, 1, none⟩ = some (.int .i64 0) := (blk_cell BK260.out 1).trans rfl
           have hfs66 := blk_frozen BK260.out 1
           have hns66_0 := NB256_260.out
           have hns66_1 := NB257_260.out
           have hns66_3 := NB261_260.out
           have hms66_0 := NB260_256.out
           have hms66_1 := NB260_257.out
           have hms66_3 := NB260_261.out
           have hs67 : w64.cell? ⟨gb260, 2, none⟩ = some (.slice none 0 0) := (blk_cell BK260.out 2).trans rfl
           have hfs67 := blk_frozen BK260.out 2
           have hns67_0 := NB256_260.out
           have hns67_1 := NB257_260.out
           have hns67_3 := NB261_260.out
           have hms67_0 := NB260_256.out
           have hms67_1 := NB260_257.out
           have hms67_3 := NB260_261.out
           refine skip_ (w1 := ?_) (by rfl) rfl ?_ ?_
           rotate_left
           ·go_simp
            rfl
           refine hK.out _ _ ⟨((cell_far (p := ⟨gb260, _, none⟩) NB256_260.out _).trans (((cell_far (p := ⟨gb260, _, none⟩) NB256_260.out _).trans (((cell_far (p := ⟨gb260, _, none⟩) NB256_260.out _).trans (hHeld.1)))))), ((cell_far (p := ⟨gb260, _, none⟩) NB256_260.out _).trans (((cell_far (p := ⟨gb260, _, none⟩) NB256_260.out _).trans (((cell_far (p := ⟨gb260, _, none⟩) NB256_260.out _).trans (hHeld.2.1)))))), ((cell_far (p := ⟨gb260, _, none⟩) NB257_260.out _).trans (((cell_far (p := ⟨gb260, _, none⟩) NB257_260.out _).trans (((cell_far (p := ⟨gb260, _, none⟩) NB257_260.out _).trans (hHeld.2.2.1)))))), ((cell_far (p := ⟨gb260, _, none⟩) NB257_260.out _).trans (((cell_far (p := ⟨gb260, _, none⟩) NB257_260.out _).trans (((cell_far (p := ⟨gb260, _, none⟩) NB257_260.out _).trans (hHeld.2.2.2.1)))))), ((cell_far (p := ⟨gb260, _, none⟩) (far_ne34 hw258_0 GW260.out) _).trans (((cell_far (p := ⟨gb260, _, none⟩) (far_ne34 hw258_0 GW260.out) _).trans (((cell_far (p := ⟨gb260, _, none⟩) (far_ne34 hw258_0 GW260.out) _).trans (hHeld.2.2.2.2.1)))))), ((cell_far (p := ⟨gb260, _, none⟩) (far_ne34 hw258_1 GW260.out) _).trans (((cell_far (p := ⟨gb260, _, none⟩) (far_ne34 hw258_1 GW260.out) _).trans (((cell_far (p := ⟨gb260, _, none⟩) (far_ne34 hw258_1 GW260.out) _).trans (hHeld.2.2.2.2.2.1)))))), ((cell_far (p := ⟨gb260, _, none⟩) (far_ne34 hw258_2 GW260.out) _).trans (((cell_far (p := ⟨gb260, _, none⟩) (far_ne34 hw258_2 GW260.out) _).trans (((cell_far (p := ⟨gb260, _, none⟩) (far_ne34 hw258_2 GW260.out) _).trans (hHeld.2.2.2.2.2.2.1)))))), ((cell_far (p := ⟨gb260, _, none⟩) (far_ne34 hw259_0 GW260.out) _).trans (((cell_far (p := ⟨gb260, _, none⟩) (far_ne34 hw259_0 GW260.out) _).trans (((cell_far (p := ⟨gb260, _, none⟩) (far_ne34 hw259_0 GW260.out) _).trans (hHeld.2.2.2.2.2.2.2.1)))))), ((cell_far (p := ⟨gb260, _, none⟩) (far_ne34 hw259_1 GW260.out) _).trans (((cell_far (p := ⟨gb260, _, none⟩) (far_ne34 hw259_1 GW260.out) _).trans (((cell_far (p := ⟨gb260, _, none⟩) (far_ne34 hw259_1 GW260.out) _).trans (hHeld.2.2.2.2.2.2.2.2.1)))))), ((cell_far (p := ⟨gb260, _, none⟩) (far_ne34 hw259_2 GW260.out) _).trans (((cell_far (p := ⟨gb260, _, none⟩) (far_ne34 hw259_2 GW260.out) _).trans (((cell_far (p := ⟨gb260, _, none⟩) (far_ne34 hw259_2 GW260.out) _).trans (hHeld.2.2.2.2.2.2.2.2.2))))))⟩ (fun hHeld => ?_)
           clear hK K
           refine sOn 13 none (fun K hK => ?_)
           have hs68 : w64.cell? ⟨gb261, 0, none⟩ = some (.string (⟨#[]⟩ : ByteArray)) := (blk_cell BK261.out 0).trans rfl
           have hfs68 := blk_frozen BK261.out 0
           have hns68_0 := NB256_261.out
           have hns68_1 := NB257_261.out
           have hns68_2 := NB260_261.out
           have hms68_0 := NB261_256.out
           have hms68_1 := NB261_257.out
           have hms68_2 := NB261_260.out
           have hs69 : w64.cell? ⟨gb261, 1, none⟩ = some (.int .i64 0) := (blk_cell BK261.out 1).trans rfl
           have hfs69 := blk_frozen BK261.out 1
           have hns69_0 := NB256_261.out
           have hns69_1 := NB257_261.out
           have hns69_2 := NB260_261.out
           have hms69_0 := NB261_256.out
           have hms69_1 := NB261_257.out
           have hms69_2 := NB261_260.out
           have hs70 : w64.cell? ⟨gb261, 2, none⟩ = some (.slice none 0 0) := (blk_cell BK261.out 2).trans rfl
           have hfs70 := blk_frozen BK261.out 2
           have hns70_0 := NB256_261.out
           have hns70_1 := NB257_261.out
           have hns70_2 := NB260_261.out
           have hms70_0 := NB261_256.out
           have hms70_1 := NB261_257.out
           have hms70_2 := NB261_260.out
           refine skip_ (w1 := ?_) (by rfl) rfl ?_ ?_
           rotate_left
           ·go_simp
            rfl
           refine hK.out _ _ ⟨((cell_far (p := ⟨gb261, _, none⟩) NB256_261.out _).trans (((cell_far (p := ⟨gb261, _, none⟩) NB256_261.out _).trans (((cell_far (p := ⟨gb261, _, none⟩) NB256_261.out _).trans (hHeld.1)))))), ((cell_far (p := ⟨gb261, _, none⟩) NB256_261.out _).trans (((cell_far (p := ⟨gb261, _, none⟩) NB256_261.out _).trans (((cell_far (p := ⟨gb261, _, none⟩) NB256_261.out _).trans (hHeld.2.1)))))), ((cell_far (p := ⟨gb261, _, none⟩) NB257_261.out _).trans (((cell_far (p := ⟨gb261, _, none⟩) NB257_261.out _).trans (((cell_far (p := ⟨gb261, _, none⟩) NB257_261.out _).trans (hHeld.2.2.1)))))), ((cell_far (p := ⟨gb261, _, none⟩) NB257_261.out _).trans (((cell_far (p := ⟨gb261, _, none⟩) NB257_261.out _).trans (((cell_far (p := ⟨gb261, _, none⟩) NB257_261.out _).trans (hHeld.2.2.2.1)))))), ((cell_far (p := ⟨gb261, _, none⟩) (far_ne34 hw258_0 GW261.out) _).trans (((cell_far (p := ⟨gb261, _, none⟩) (far_ne34 hw258_0 GW261.out) _).trans (((cell_far (p := ⟨gb261, _, none⟩) (far_ne34 hw258_0 GW261.out) _).trans (hHeld.2.2.2.2.1)))))), ((cell_far (p := ⟨gb261, _, none⟩) (far_ne34 hw258_1 GW261.out) _).trans (((cell_far (p := ⟨gb261, _, none⟩) (far_ne34 hw258_1 GW261.out) _).trans (((cell_far (p := ⟨gb261, _, none⟩) (far_ne34 hw258_1 GW261.out) _).trans (hHeld.2.2.2.2.2.1)))))), ((cell_far (p := ⟨gb261, _, none⟩) (far_ne34 hw258_2 GW261.out) _).trans (((cell_far (p := ⟨gb261, _, none⟩) (far_ne34 hw258_2 GW261.out) _).trans (((cell_far (p := ⟨gb261, _, none⟩) (far_ne34 hw258_2 GW261.out) _).trans (hHeld.2.2.2.2.2.2.1)))))), ((cell_far (p := ⟨gb261, _, none⟩) (far_ne34 hw259_0 GW261.out) _).trans (((cell_far (p := ⟨gb261, _, none⟩) (far_ne34 hw259_0 GW261.out) _).trans (((cell_far (p := ⟨gb261, _, none⟩) (far_ne34 hw259_0 GW261.out) _).trans (hHeld.2.2.2.2.2.2.2.1)))))), ((cell_far (p := ⟨gb261, _, none⟩) (far_ne34 hw259_1 GW261.out) _).trans (((cell_far (p := ⟨gb261, _, none⟩) (far_ne34 hw259_1 GW261.out) _).trans (((cell_far (p := ⟨gb261, _, none⟩) (far_ne34 hw259_1 GW261.out) _).trans (hHeld.2.2.2.2.2.2.2.2.1)))))), ((cell_far (p := ⟨gb261, _, none⟩) (far_ne34 hw259_2 GW261.out) _).trans (((cell_far (p := ⟨gb261, _, none⟩) (far_ne34 hw259_2 GW261.out) _).trans (((cell_far (p := ⟨gb261, _, none⟩) (far_ne34 hw259_2 GW261.out) _).trans (hHeld.2.2.2.2.2.2.2.2.2))))))⟩ (fun hHeld => ?_)
           clear hK K
           refine done_ (done_of HT_.out (by kernel_rfl)) ?_
           have hnb71 := NB260_256.out
           have hnc71 := NB256_260.out
           have hnb72 := NB260_257.out
           have hnc72 := NB257_260.out
           have hnb73 := NB260_261.out
           have hnc73 := NB261_260.out
           obtain ⟨hcz74_0, hcz74_1, hcz74_2, hfz74_0, hfz74_1, hfz74_2⟩ := bq3 BK260
           have hnb75 := NB261_256.out
           have hnc75 := NB256_261.out
           have hnb76 := NB261_257.out
           have hnc76 := NB257_261.out
           obtain ⟨hcz77_0, hcz77_1, hcz77_2, hfz77_0, hfz77_1, hfz77_2⟩ := bq3 BK261
           try go_wp2
           go_ret
           exact ⟨eN, bel⟩
         ·rw [if_neg c17] at H
          have c17b0 : (((rd_T52 l0_1 x5_2).f0).toList == ((rd_T52 l1_1 x5_2).f0).toList) = false := beq_eq_false_iff_ne.mpr c17
          have c17b1 : (((rd_T52 l0_1 x5_2).f0).toList != ((rd_T52 l1_1 x5_2).f0).toList) = true := bne_iff_ne.mpr c17
          obtain rfl := Option.some.inj H
          have hnb78 := NB256_257.out
          have hnc78 := NB257_256.out
          obtain ⟨hcz79_0, hcz79_1, hfz79_0, hfz79_1⟩ := bq2 BK256
          try go_wp2
          replace BK256 := Aside0.mk (blk_drew BK256.out)
          replace BK257 := Aside0.mk (blk_drew BK257.out)
          replace HB := Aside0.mk (below_drew1 HB.out)
          have p258 : 0 ≤ (x5_2 : Int) := dtr
          have q258 : x5_2 < (l0_1.length : Int) := dtr
          obtain ⟨ad258, A258_2, c258_2, e258, hx258_0, hx258_1, hx258_2, hl258_2, hi258_2⟩ := at_T52 HR0_1.out x5_2 p258 q258
          have hw258_2 := hx258_2
          have hw258_1 := hx258_1
          have hw258_0 := hx258_0
          cases e258
          replace hx258_0 := oc hx258_0
          replace hx258_1 := oc hx258_1
          replace hx258_2 := oc hx258_2
          have HR258_2 := Aside0.mk hi258_2
          have HC258_2 := Aside0.mk hl258_2
          clear hi258_2 hl258_2
          replace p258 := eq_true p258
          replace q258 := eq_true q258
          have p259 : 0 ≤ (x5_2 : Int) := dtr
          have q259 : x5_2 < (l1_1.length : Int) := dtr
          obtain ⟨ad259, A259_2, c259_2, e259, hx259_0, hx259_1, hx259_2, hl259_2, hi259_2⟩ := at_T52 HR1_1.out x5_2 p259 q259
          have hw259_2 := hx259_2
          have hw259_1 := hx259_1
          have hw259_0 := hx259_0
          cases e259
          replace hx259_0 := oc hx259_0
          replace hx259_1 := oc hx259_1
          replace hx259_2 := oc hx259_2
          have HR259_2 := Aside0.mk hi259_2
          have HC259_2 := Aside0.mk hl259_2
          clear hi259_2 hl259_2
          replace p259 := eq_true p259
          replace q259 := eq_true q259
          refine start_ (n := 14) (S := fun w' => w'.cell? ⟨gb256, 0, none⟩ = some (.int .i64 a0_0) ∧ w'.cell? ⟨gb256, 1, none⟩ = some (.slice (some ad258) l0_1.length c0_1) ∧ w'.cell? ⟨gb257, 0, none⟩ = some (.int .i64 a1_0) ∧ w'.cell? ⟨gb257, 1, none⟩ = some (.slice (some ad259) l1_1.length c1_1) ∧ w'.cell? (ad258.add ((x5_2).toNat * 3)) = some (.string ((rd_T52 l0_1 x5_2).f0)) ∧ w'.cell? ⟨(ad258.add ((x5_2).toNat * 3)).block, (ad258.add ((x5_2).toNat * 3)).off + 1, none⟩ = some (.int .i64 ((rd_T52 l0_1 x5_2).f1)) ∧ w'.cell? ⟨(ad258.add ((x5_2).toNat * 3)).block, (ad258.add ((x5_2).toNat * 3)).off + 2, none⟩ = some (.slice A258_2 ((rd_T52 l0_1 x5_2).f2).length c258_2) ∧ w'.cell? (ad259.add ((x5_2).toNat * 3)) = some (.string ((rd_T52 l1_1 x5_2).f0)) ∧ w'.cell? ⟨(ad259.add ((x5_2).toNat * 3)).block, (ad259.add ((x5_2).toNat * 3)).off + 1, none⟩ = some (.int .i64 ((rd_T52 l1_1 x5_2).f1)) ∧ w'.cell? ⟨(ad259.add ((x5_2).toNat * 3)).block, (ad259.add ((x5_2).toNat * 3)).off + 2, none⟩ = some (.slice A259_2 ((rd_T52 l1_1 x5_2).f2).length c259_2)) (ds := []) #[false, false, false, false, false, false, false, false, false, false, false, false, false, false] (by kernel_rfl) rfl rfl ⟨(blk_cell BK256.out 0).trans rfl, (blk_cell BK256.out 1).trans rfl, (blk_cell BK257.out 0).trans rfl, (blk_cell BK257.out 1).trans rfl, (oc hw258_0), (oc hw258_1), (oc hw258_2), (oc hw259_0), (oc hw259_1), (oc hw259_2)⟩ (fun hHeld => ?_); refine with_tabW paraphrastref01_Same.tab6 paraphrastref01_Same.bits6 (fun HT_ HW_ => ?_)
          generalize wr.drew = w80 at BK256 BK257 HB HR258_2 HR259_2 hx258_0 hx258_1 hx258_2 hx259_0 hx259_1 hx259_2 hHeld ⊢
          refine sPu 0 (some 29) ?_
          refine sPu 2 (some 31) ?_
          refine sPu 5 (some 34) ?_
          refine sPu 7 (some 36) ?_
          refine sTk 1 (some 30) ?_
          refine sPu 3 (some 32) ?_
          refine sTk 4 (some 33) ?_
          refine sTk 6 (some 35) ?_
          refine sPu 8 (some 37) ?_
          refine sTk 9 (some 38) ?_
          refine join_ (σ := Nat × Nat) 2 #[true, true, true, true, true, true, true, true, true, true, true, true, false, false] (fun s_ => [(6, .pointer (some ⟨s_.1, 0, none⟩)), (7, .pointer (some ⟨s_.2, 0, none⟩))]) (fun s_ w' => (w'.cell? ⟨gb256, 0, none⟩ = some (.int .i64 a0_0) ∧ w'.cell? ⟨gb256, 1, none⟩ = some (.slice (some ad258) l0_1.length c0_1) ∧ w'.cell? ⟨gb257, 0, none⟩ = some (.int .i64 a1_0) ∧ w'.cell? ⟨gb257, 1, none⟩ = some (.slice (some ad259) l1_1.length c1_1) ∧ w'.cell? (ad258.add ((x5_2).toNat * 3)) = some (.string ((rd_T52 l0_1 x5_2).f0)) ∧ w'.cell? ⟨(ad258.add ((x5_2).toNat * 3)).block, (ad258.add ((x5_2).toNat * 3)).off + 1, none⟩ = some (.int .i64 ((rd_T52 l0_1 x5_2).f1)) ∧ w'.cell? ⟨(ad258.add ((x5_2).toNat * 3)).block, (ad258.add ((x5_2).toNat * 3)).off + 2, none⟩ = some (.slice A258_2 ((rd_T52 l0_1 x5_2).f2).length c258_2) ∧ w'.cell? (ad259.add ((x5_2).toNat * 3)) = some (.string ((rd_T52 l1_1 x5_2).f0)) ∧ w'.cell? ⟨(ad259.add ((x5_2).toNat * 3)).block, (ad259.add ((x5_2).toNat * 3)).off + 1, none⟩ = some (.int .i64 ((rd_T52 l1_1 x5_2).f1)) ∧ w'.cell? ⟨(ad259.add ((x5_2).toNat * 3)).block, (ad259.add ((x5_2).toNat * 3)).off + 2, none⟩ = some (.slice A259_2 ((rd_T52 l1_1 x5_2).f2).length c259_2)) ∧ (w'.heap[gb256]? = some (.cells #[.int .i64 a0_0, .slice (some ad258) l0_1.length c0_1] 24 (0, 0))) ∧ (w'.heap[gb257]? = some (.cells #[.int .i64 a1_0, .slice (some ad259) l1_1.length c1_1] 24 (0, 0))) ∧ (w'.heap[s_.1]? = some (.cells #[.string (⟨#[]⟩ : ByteArray), .int .i64 0, .slice none 0 0] 52 (0, 0))) ∧ (w'.heap[s_.2]? = some (.cells #[.string (⟨#[]⟩ : ByteArray), .int .i64 0, .slice none 0 0] 52 (0, 0))) ∧ (w.heap.size ≤ s_.1) ∧ (w.heap.size ≤ s_.1) ∧ (gb256 ≠ s_.1) ∧ (s_.1 ≠ gb256) ∧ (gb257 ≠ s_.1) ∧ (s_.1 ≠ gb257) ∧ (s_.2 ≠ s_.1) ∧ (s_.1 ≠ s_.2) ∧ (w.heap.size ≤ s_.2) ∧ (w.heap.size ≤ s_.2) ∧ (gb256 ≠ s_.2) ∧ (s_.2 ≠ gb256) ∧ (gb257 ≠ s_.2) ∧ (s_.2 ≠ gb257) ∧ (Below w.heap.size w w')) ?_ ?_
          rotate_left
          ·intro hCont
           refine two_ (i := 10) (j := 11) (Ni := some 6) (Nj := some 7) #[true, true, true, true, true, true, true, true, true, true, true, false, false, false] #[true, true, true, true, true, true, true, true, true, true, false, true, false, false] rfl rfl rfl rfl (two_of HT_.out (by kernel_rfl)) (by decide) (by decide) (fun K hK => ?_) (fun K hK => ?_)
           ·skip
            refine box_step ?hg (N := 6) ?hd (cs := #[.string (⟨#[]⟩ : ByteArray), .int .i64 0, .slice none 0 0]) (t := 52) ?hr ?_; (case hd => rfl); (case hg => rfl); (case hr => first | (go_simp; done) | (go_simp; rfl))
            intro gb260 hg w81 hbox hb
            have BK260 := Aside0.mk (hbox)
            have GW260 := geB w hg
            have GE260 := geB w hg
            have NB256_260 := neL BK256 hg
            have NB260_256 := neG BK256 hg
            have NB257_260 := neL BK257 hg
            have NB260_257 := neG BK257 hg
            replace BK256 := blB BK256 hb
            replace BK257 := blB BK257 hb
            replace HB := Aside0.mk (below_step bel hb)
            clear hb hbox hg
            refine hK.out _ _ ⟨(blk_cell BK256.out 0).trans rfl, (blk_cell BK256.out 1).trans rfl, (blk_cell BK257.out 0).trans rfl, (blk_cell BK257.out 1).trans rfl, (oc hw258_0), (oc hw258_1), (oc hw258_2), (oc hw259_0), (oc hw259_1), (oc hw259_2)⟩ (fun hHeld => ?_)
            clear hK K
            refine norm_ (a' := ?_) ?_ ?_
            rotate_left
            ·show Act.put _ (some 6) _ = _
             simp only [Act.put, List.setIfInBounds_toArray, List.set_cons_zero, List.set_cons_succ, i64_w, i32_w]
             rfl
            refine sOn 11 (some 7) (fun K hK => ?_)
            refine box_step ?hg (N := 7) ?hd (cs := #[.string (⟨#[]⟩ : ByteArray), .int .i64 0, .slice none 0 0]) (t := 52) ?hr ?_; (case hd => rfl); (case hg => rfl); (case hr => first | (go_simp; done) | (go_simp; rfl))
            intro gb261 hg w82 hbox hb
            have BK261 := Aside0.mk (hbox)
            have GW261 := geB w hg
            have GE261 := geB w hg
            have NB256_261 := neL BK256 hg
            have NB261_256 := neG BK256 hg
            have NB257_261 := neL BK257 hg
            have NB261_257 := neG BK257 hg
            have NB260_261 := neL BK260 hg
            have NB261_260 := neG BK260 hg
            replace BK256 := blB BK256 hb
            replace BK257 := blB BK257 hb
            replace BK260 := blB BK260 hb
            replace HB := Aside0.mk (below_step bel hb)
            clear hb hbox hg
            refine hK.out _ _ ⟨(blk_cell BK256.out 0).trans rfl, (blk_cell BK256.out 1).trans rfl, (blk_cell BK257.out 0).trans rfl, (blk_cell BK257.out 1).trans rfl, (oc hw258_0), (oc hw258_1), (oc hw258_2), (oc hw259_0), (oc hw259_1), (oc hw259_2)⟩ (fun hHeld => ?_)
            clear hK K
            refine norm_ (a' := ?_) ?_ ?_
            rotate_left
            ·show Act.put _ (some 7) _ = _
             simp only [Act.put, List.setIfInBounds_toArray, List.set_cons_zero, List.set_cons_succ, i64_w, i32_w]
             rfl
            exact norm_ (by simp only [putAll, Act.put, List.setIfInBounds_toArray, List.set_cons_zero, List.set_cons_succ]) (hCont (gb260, gb261) _ ⟨hHeld, (bk BK256), (bk BK257), (bk BK260), (bk BK261), GW260.out, GE260.out, NB256_260.out, NB260_256.out, NB257_260.out, NB260_257.out, NB261_260.out, NB260_261.out, GW261.out, GE261.out, NB256_261.out, NB261_256.out, NB257_261.out, NB261_257.out, bel⟩)
           ·skip
            refine box_step ?hg (N := 7) ?hd (cs := #[.string (⟨#[]⟩ : ByteArray), .int .i64 0, .slice none 0 0]) (t := 52) ?hr ?_; (case hd => rfl); (case hg => rfl); (case hr => first | (go_simp; done) | (go_simp; rfl))
            intro gb261 hg w81 hbox hb
            have BK261 := Aside0.mk (hbox)
            have GW261 := geB w hg
            have GE261 := geB w hg
            have NB256_261 := neL BK256 hg
            have NB261_256 := neG BK256 hg
            have NB257_261 := neL BK257 hg
            have NB261_257 := neG BK257 hg
            replace BK256 := blB BK256 hb
            replace BK257 := blB BK257 hb
            replace HB := Aside0.mk (below_step bel hb)
            clear hb hbox hg
            refine hK.out _ _ ⟨(blk_cell BK256.out 0).trans rfl, (blk_cell BK256.out 1).trans rfl, (blk_cell BK257.out 0).trans rfl, (blk_cell BK257.out 1).trans rfl, (oc hw258_0), (oc hw258_1), (oc hw258_2), (oc hw259_0), (oc hw259_1), (oc hw259_2)⟩ (fun hHeld => ?_)
            clear hK K
            refine norm_ (a' := ?_) ?_ ?_
            rotate_left
            ·show Act.put _ (some 7) _ = _
             simp only [Act.put, List.setIfInBounds_toArray, List.set_cons_zero, List.set_cons_succ, i64_w, i32_w]
             rfl
            refine sOn 10 (some 6) (fun K hK => ?_)
            refine box_step ?hg (N := 6) ?hd (cs := #[.string (⟨#[]⟩ : ByteArray), .int .i64 0, .slice none 0 0]) (t := 52) ?hr ?_; (case hd => rfl); (case hg => rfl); (case hr => first | (go_simp; done) | (go_simp; rfl))
            intro gb260 hg w82 hbox hb
            have BK260 := Aside0.mk (hbox)
            have GW260 := geB w hg
            have GE260 := geB w hg
            have NB256_260 := neL BK256 hg
            have NB260_256 := neG BK256 hg
            have NB257_260 := neL BK257 hg
            have NB260_257 := neG BK257 hg
            have NB261_260 := neL BK261 hg
            have NB260_261 := neG BK261 hg
            replace BK256 := blB BK256 hb
            replace BK257 := blB BK257 hb
            replace BK261 := blB BK261 hb
            replace HB := Aside0.mk (below_step bel hb)
            clear hb hbox hg
            refine hK.out _ _ ⟨(blk_cell BK256.out 0).trans rfl, (blk_cell BK256.out 1).trans rfl, (blk_cell BK257.out 0).trans rfl, (blk_cell BK257.out 1).trans rfl, (oc hw258_0), (oc hw258_1), (oc hw258_2), (oc hw259_0), (oc hw259_1), (oc hw259_2)⟩ (fun hHeld => ?_)
            clear hK K
            refine norm_ (a' := ?_) ?_ ?_
            rotate_left
            ·show Act.put _ (some 6) _ = _
             simp only [Act.put, List.setIfInBounds_toArray, List.set_cons_zero, List.set_cons_succ, i64_w, i32_w]
             rfl
            exact norm_ (by simp only [putAll, Act.put, List.setIfInBounds_toArray, List.set_cons_zero, List.set_cons_succ]) (hCont (gb260, gb261) _ ⟨hHeld, (bk BK256), (bk BK257), (bk BK260), (bk BK261), GW260.out, GE260.out, NB256_260.out, NB260_256.out, NB257_260.out, NB260_257.out, NB261_260.out, NB260_261.out, GW261.out, GE261.out, NB256_261.out, NB261_256.out, NB257_261.out, NB261_257.out, bel⟩)
          rintro ⟨gb260, gb261⟩ w83 ⟨hS_, h0_, h1_, h2_, h3_, h4_, h5_, h6_, h7_, h8_, h9_, h10_, h11_, h12_, h13_, h14_, h15_, h16_, h17_, h18_⟩
          have n0_ : Aside0 (w83.heap[gb256]? = some (.cells #[.int .i64 a0_0, .slice (some ad258) l0_1.length c0_1] 24 (0, 0))) := ⟨h0_⟩
          have n1_ : Aside0 (w83.heap[gb257]? = some (.cells #[.int .i64 a1_0, .slice (some ad259) l1_1.length c1_1] 24 (0, 0))) := ⟨h1_⟩
          have n2_ : Aside0 (w83.heap[gb260]? = some (.cells #[.string (⟨#[]⟩ : ByteArray), .int .i64 0, .slice none 0 0] 52 (0, 0))) := ⟨h2_⟩
          have n3_ : Aside0 (w83.heap[gb261]? = some (.cells #[.string (⟨#[]⟩ : ByteArray), .int .i64 0, .slice none 0 0] 52 (0, 0))) := ⟨h3_⟩
          have n4_ : Aside0 (w.heap.size ≤ gb260) := ⟨h4_⟩
          have n5_ : Aside0 (w.heap.size ≤ gb260) := ⟨h5_⟩
          have n6_ : Aside0 (gb256 ≠ gb260) := ⟨h6_⟩
          have n7_ : Aside0 (gb260 ≠ gb256) := ⟨h7_⟩
          have n8_ : Aside0 (gb257 ≠ gb260) := ⟨h8_⟩
          have n9_ : Aside0 (gb260 ≠ gb257) := ⟨h9_⟩
          have n10_ : Aside0 (gb261 ≠ gb260) := ⟨h10_⟩
          have n11_ : Aside0 (gb260 ≠ gb261) := ⟨h11_⟩
          have n12_ : Aside0 (w.heap.size ≤ gb261) := ⟨h12_⟩
          have n13_ : Aside0 (w.heap.size ≤ gb261) := ⟨h13_⟩
          have n14_ : Aside0 (gb256 ≠ gb261) := ⟨h14_⟩
          have n15_ : Aside0 (gb261 ≠ gb256) := ⟨h15_⟩
          have n16_ : Aside0 (gb257 ≠ gb261) := ⟨h16_⟩
          have n17_ : Aside0 (gb261 ≠ gb257) := ⟨h17_⟩
          have n18_ : Aside0 (Below w.heap.size w w83) := ⟨h18_⟩
          clear BK256
          clear BK257
          clear HB
          clear h0_ h1_ h2_ h3_ h4_ h5_ h6_ h7_ h8_ h9_ h10_ h11_ h12_ h13_ h14_ h15_ h16_ h17_ h18_
          have BK256 := n0_
          have BK257 := n1_
          have BK260 := n2_
          have BK261 := n3_
          have GW260 := n4_
          have GE260 := n5_
          have NB256_260 := n6_
          have NB260_256 := n7_
          have NB257_260 := n8_
          have NB260_257 := n9_
          have NB261_260 := n10_
          have NB260_261 := n11_
          have GW261 := n12_
          have GE261 := n13_
          have NB256_261 := n14_
          have NB261_256 := n15_
          have NB257_261 := n16_
          have NB261_257 := n17_
          have HB := n18_
          clear n0_ n1_ n2_ n3_ n4_ n5_ n6_ n7_ n8_ n9_ n10_ n11_ n12_ n13_ n14_ n15_ n16_ n17_ n18_
          have hHeld : w83.cell? ⟨gb256, 0, none⟩ = some (.int .i64 a0_0) ∧ w83.cell? ⟨gb256, 1, none⟩ = some (.slice (some ad258) l0_1.length c0_1) ∧ w83.cell? ⟨gb257, 0, none⟩ = some (.int .i64 a1_0) ∧ w83.cell? ⟨gb257, 1, none⟩ = some (.slice (some ad259) l1_1.length c1_1) ∧ w83.cell? (ad258.add ((x5_2).toNat * 3)) = some (.string ((rd_T52 l0_1 x5_2).f0)) ∧ w83.cell? ⟨(ad258.add ((x5_2).toNat * 3)).block, (ad258.add ((x5_2).toNat * 3)).off + 1, none⟩ = some (.int .i64 ((rd_T52 l0_1 x5_2).f1)) ∧ w83.cell? ⟨(ad258.add ((x5_2).toNat * 3)).block, (ad258.add ((x5_2).toNat * 3)).off + 2, none⟩ = some (.slice A258_2 ((rd_T52 l0_1 x5_2).f2).length c258_2) ∧ w83.cell? (ad259.add ((x5_2).toNat * 3)) = some (.string ((rd_T52 l1_1 x5_2).f0)) ∧ w83.cell? ⟨(ad259.add ((x5_2).toNat * 3)).block, (ad259.add ((x5_2).toNat * 3)).off + 1, none⟩ = some (.int .i64 ((rd_T52 l1_1 x5_2).f1)) ∧ w83.cell? ⟨(ad259.add ((x5_2).toNat * 3)).block, (ad259.add ((x5_2).toNat * 3)).off + 2, none⟩ = some (.slice A259_2 ((rd_T52 l1_1 x5_2).f2).length c259_2) := hS_
          refine norm_ (a' := ?_) ?_ ?_
          rotate_left
          ·simp only [putAll, Act.put, List.setIfInBounds_toArray, List.set_cons_zero, List.set_cons_succ]
           rfl
          refine sOn 12 none (fun K hK => ?_)
          have hs84 : w83.cell? ⟨gb260, 0, none⟩ = some (.string (⟨#[]⟩ : ByteArray)) := (blk_cell BK260.out 0).trans rfl
          have hfs84 := blk_frozen BK260.out 0
          have hns84_0 := NB256_260.out
          have hns84_1 := NB257_260.out
          have hns84_3 := NB261_260.out
          have hms84_0 := NB260_256.out
          have hms84_1 := NB260_257.out
          have hms84_3 := NB260_261.out
          have hs85 : w83.cell? ⟨gb260, 1, none⟩ = some (.int .i64 0) := (blk_cell BK260.out 1).trans rfl
          have hfs85 := blk_frozen BK260.out 1
          have hns85_0 := NB256_260.out
          have hns85_1 := NB257_260.out
          have hns85_3 := NB261_260.out
          have hms85_0 := NB260_256.out
          have hms85_1 := NB260_257.out
          have hms85_3 := NB260_261.out
          have hs86 : w83.cell? ⟨gb260, 2, none⟩ = some (.slice none 0 0) := (blk_cell BK260.out 2).trans rfl
          have hfs86 := blk_frozen BK260.out 2
          have hns86_0 := NB256_260.out
          have hns86_1 := NB257_260.out
          have hns86_3 := NB261_260.out
          have hms86_0 := NB260_256.out
          have hms86_1 := NB260_257.out
          have hms86_3 := NB260_261.out
          refine skip_ (w1 := ?_) (by rfl) rfl ?_ ?_
          rotate_left
          ·go_simp
           rfl
          refine hK.out _ _ ⟨((cell_far (p := ⟨gb260, _, none⟩) NB256_260.out _).trans (((cell_far (p := ⟨gb260, _, none⟩) NB256_260.out _).trans (((cell_far (p := ⟨gb260, _, none⟩) NB256_260.out _).trans (hHeld.1)))))), ((cell_far (p := ⟨gb260, _, none⟩) NB256_260.out _).trans (((cell_far (p := ⟨gb260, _, none⟩) NB256_260.out _).trans (((cell_far (p := ⟨gb260, _, none⟩) NB256_260.out _).trans (hHeld.2.1)))))), ((cell_far (p := ⟨gb260, _, none⟩) NB257_260.out _).trans (((cell_far (p := ⟨gb260, _, none⟩) NB257_260.out _).trans (((cell_far (p := ⟨gb260, _, none⟩) NB257_260.out _).trans (hHeld.2.2.1)))))), ((cell_far (p := ⟨gb260, _, none⟩) NB257_260.out _).trans (((cell_far (p := ⟨gb260, _, none⟩) NB257_260.out _).trans (((cell_far (p := ⟨gb260, _, none⟩) NB257_260.out _).trans (hHeld.2.2.2.1)))))), ((cell_far (p := ⟨gb260, _, none⟩) (far_ne34 hw258_0 GW260.out) _).trans (((cell_far (p := ⟨gb260, _, none⟩) (far_ne34 hw258_0 GW260.out) _).trans (((cell_far (p := ⟨gb260, _, none⟩) (far_ne34 hw258_0 GW260.out) _).trans (hHeld.2.2.2.2.1)))))), ((cell_far (p := ⟨gb260, _, none⟩) (far_ne34 hw258_1 GW260.out) _).trans (((cell_far (p := ⟨gb260, _, none⟩) (far_ne34 hw258_1 GW260.out) _).trans (((cell_far (p := ⟨gb260, _, none⟩) (far_ne34 hw258_1 GW260.out) _).trans (hHeld.2.2.2.2.2.1)))))), ((cell_far (p := ⟨gb260, _, none⟩) (far_ne34 hw258_2 GW260.out) _).trans (((cell_far (p := ⟨gb260, _, none⟩) (far_ne34 hw258_2 GW260.out) _).trans (((cell_far (p := ⟨gb260, _, none⟩) (far_ne34 hw258_2 GW260.out) _).trans (hHeld.2.2.2.2.2.2.1)))))), ((cell_far (p := ⟨gb260, _, none⟩) (far_ne34 hw259_0 GW260.out) _).trans (((cell_far (p := ⟨gb260, _, none⟩) (far_ne34 hw259_0 GW260.out) _).trans (((cell_far (p := ⟨gb260, _, none⟩) (far_ne34 hw259_0 GW260.out) _).trans (hHeld.2.2.2.2.2.2.2.1)))))), ((cell_far (p := ⟨gb260, _, none⟩) (far_ne34 hw259_1 GW260.out) _).trans (((cell_far (p := ⟨gb260, _, none⟩) (far_ne34 hw259_1 GW260.out) _).trans (((cell_far (p := ⟨gb260, _, none⟩) (far_ne34 hw259_1 GW260.out) _).trans (hHeld.2.2.2.2.2.2.2.2.1)))))), ((cell_far (p := ⟨gb260, _, none⟩) (far_ne34 hw259_2 GW260.out) _).trans (((cell_far (p := ⟨gb260, _, none⟩) (far_ne34 hw259_2 GW260.out) _).trans (((cell_far (p := ⟨gb260, _, none⟩) (far_ne34 hw259_2 GW260.out) _).trans (hHeld.2.2.2.2.2.2.2.2.2))))))⟩ (fun hHeld => ?_)
          clear hK K
          refine sOn 13 none (fun K hK => ?_)
          have hs87 : w83.cell? ⟨gb261, 0, none⟩ = some (.string (⟨#[]⟩ : ByteArray)) := (blk_cell BK261.out 0).trans rfl
          have hfs87 := blk_frozen BK261.out 0
          have hns87_0 := NB256_261.out
          have hns87_1 := NB257_261.out
          have hns87_2 := NB260_261.out
          have hms87_0 := NB261_256.out
          have hms87_1 := NB261_257.out
          have hms87_2 := NB261_260.out
          have hs88 : w83.cell? ⟨gb261, 1, none⟩ = some (.int .i64 0) := (blk_cell BK261.out 1).trans rfl
          have hfs88 := blk_frozen BK261.out 1
          have hns88_0 := NB256_261.out
          have hns88_1 := NB257_261.out
          have hns88_2 := NB260_261.out
          have hms88_0 := NB261_256.out
          have hms88_1 := NB261_257.out
          have hms88_2 := NB261_260.out
          have hs89 : w83.cell? ⟨gb261, 2, none⟩ = some (.slice none 0 0) := (blk_cell BK261.out 2).trans rfl
          have hfs89 := blk_frozen BK261.out 2
          have hns89_0 := NB256_261.out
          have hns89_1 := NB257_261.out
          have hns89_2 := NB260_261.out
          have hms89_0 := NB261_256.out
          have hms89_1 := NB261_257.out
          have hms89_2 := NB261_260.out
          refine skip_ (w1 := ?_) (by rfl) rfl ?_ ?_
          rotate_left
          ·go_simp
           rfl
          refine hK.out _ _ ⟨((cell_far (p := ⟨gb261, _, none⟩) NB256_261.out _).trans (((cell_far (p := ⟨gb261, _, none⟩) NB256_261.out _).trans (((cell_far (p := ⟨gb261, _, none⟩) NB256_261.out _).trans (hHeld.1)))))), ((cell_far (p := ⟨gb261, _, none⟩) NB256_261.out _).trans (((cell_far (p := ⟨gb261, _, none⟩) NB256_261.out _).trans (((cell_far (p := ⟨gb261, _, none⟩) NB256_261.out _).trans (hHeld.2.1)))))), ((cell_far (p := ⟨gb261, _, none⟩) NB257_261.out _).trans (((cell_far (p := ⟨gb261, _, none⟩) NB257_261.out _).trans (((cell_far (p := ⟨gb261, _, none⟩) NB257_261.out _).trans (hHeld.2.2.1)))))), ((cell_far (p := ⟨gb261, _, none⟩) NB257_261.out _).trans (((cell_far (p := ⟨gb261, _, none⟩) NB257_261.out _).trans (((cell_far (p := ⟨gb261, _, none⟩) NB257_261.out _).trans (hHeld.2.2.2.1)))))), ((cell_far (p := ⟨gb261, _, none⟩) (far_ne34 hw258_0 GW261.out) _).trans (((cell_far (p := ⟨gb261, _, none⟩) (far_ne34 hw258_0 GW261.out) _).trans (((cell_far (p := ⟨gb261, _, none⟩) (far_ne34 hw258_0 GW261.out) _).trans (hHeld.2.2.2.2.1)))))), ((cell_far (p := ⟨gb261, _, none⟩) (far_ne34 hw258_1 GW261.out) _).trans (((cell_far (p := ⟨gb261, _, none⟩) (far_ne34 hw258_1 GW261.out) _).trans (((cell_far (p := ⟨gb261, _, none⟩) (far_ne34 hw258_1 GW261.out) _).trans (hHeld.2.2.2.2.2.1)))))), ((cell_far (p := ⟨gb261, _, none⟩) (far_ne34 hw258_2 GW261.out) _).trans (((cell_far (p := ⟨gb261, _, none⟩) (far_ne34 hw258_2 GW261.out) _).trans (((cell_far (p := ⟨gb261, _, none⟩) (far_ne34 hw258_2 GW261.out) _).trans (hHeld.2.2.2.2.2.2.1)))))), ((cell_far (p := ⟨gb261, _, none⟩) (far_ne34 hw259_0 GW261.out) _).trans (((cell_far (p := ⟨gb261, _, none⟩) (far_ne34 hw259_0 GW261.out) _).trans (((cell_far (p := ⟨gb261, _, none⟩) (far_ne34 hw259_0 GW261.out) _).trans (hHeld.2.2.2.2.2.2.2.1)))))), ((cell_far (p := ⟨gb261, _, none⟩) (far_ne34 hw259_1 GW261.out) _).trans (((cell_far (p := ⟨gb261, _, none⟩) (far_ne34 hw259_1 GW261.out) _).trans (((cell_far (p := ⟨gb261, _, none⟩) (far_ne34 hw259_1 GW261.out) _).trans (hHeld.2.2.2.2.2.2.2.2.1)))))), ((cell_far (p := ⟨gb261, _, none⟩) (far_ne34 hw259_2 GW261.out) _).trans (((cell_far (p := ⟨gb261, _, none⟩) (far_ne34 hw259_2 GW261.out) _).trans (((cell_far (p := ⟨gb261, _, none⟩) (far_ne34 hw259_2 GW261.out) _).trans (hHeld.2.2.2.2.2.2.2.2.2))))))⟩ (fun hHeld => ?_)
          clear hK K
          refine done_ (done_of HT_.out (by kernel_rfl)) ?_
          have hnb90 := NB260_256.out
          have hnc90 := NB256_260.out
          have hnb91 := NB260_257.out
          have hnc91 := NB257_260.out
          have hnb92 := NB260_261.out
          have hnc92 := NB261_260.out
          obtain ⟨hcz93_0, hcz93_1, hcz93_2, hfz93_0, hfz93_1, hfz93_2⟩ := bq3 BK260
          have hnb94 := NB261_256.out
          have hnc94 := NB256_261.out
          have hnb95 := NB261_257.out
          have hnc95 := NB257_261.out
          obtain ⟨hcz96_0, hcz96_1, hcz96_2, hfz96_0, hfz96_1, hfz96_2⟩ := bq3 BK261
          try go_wp2
          go_ret
          exact ⟨eN, bel⟩
        ·rw [if_neg c16] at H
         exact absurd H (by simp)
       ·rw [if_neg c15] at H
        exact absurd H (by simp)
      ·rw [if_neg c14] at H
       have c14b0 : decide (x5_2 < (l0_1.length : Int)) = false := decide_eq_false c14
       clear c14
       obtain rfl := Option.some.inj H
       have hnb97 := NB256_257.out
       have hnc97 := NB257_256.out
       obtain ⟨hcz98_0, hcz98_1, hfz98_0, hfz98_1⟩ := bq2 BK256
       go_wp2
       go_ret
       exact ⟨eN, bel⟩
end Go.Proofs.YtfmpaofbnjlniaaGreatDoor.F
/- Same, Text and Parse at structures: what they answer. -/
namespace Go.Proofs.YtfmpaofbnjlniaaGreatDoor.F
open Go.RowKit Go.Proofs.YtfmpaofbnjlniaaGreatDoorW.PrintWords Go.Proofs.YtfmpaofbnjlniaaGreatDoorW.PrintLast Go.Proofs.YtfmpaofbnjlniaaGreatDoorW.PrintMore
set_option linter.unusedVariables false
theorem rdL2_nat (l : List (List Int)) (i : Nat) (h : i < l.length) : rd_L2 l (i : Int) = l[i] := by unfold rd_L2; rw [Int.toNat_natCast, List.getD_eq_getElem?_getD, List.getElem?_eq_getElem h]; rfl
theorem sameTuples_loop (l : List (List Int)) (hl : l.length ≤ 100000) (ht : ∀ t ∈ l, t.length ≤ 1000) : ∀ (d i k : Nat), i + d = l.length → d + 1101 ≤ k → paraphrastref01_SameTuples.l0 k l l (i : Int) = some true
  | 0, i, k + 1, h, hk => by unfold paraphrastref01_SameTuples.l0; rw [if_neg (by omega)]
  | d + 1, i, k + 1, h, hk => by
    have hi : i < l.length := by omega
    unfold paraphrastref01_SameTuples.l0
    rw [if_pos (by omega), if_pos (by omega), if_pos (by omega), rdL2_nat l i hi, equal_same _ (ht _ (List.getElem_mem hi)) k (by omega), w64 (by omega) (by omega), show (i : Int) + 1 = ((i + 1 : Nat) : Int) by omega, sameTuples_loop l hl ht d (i + 1) k (by omega) (by omega)]
    simp
theorem sameTuples_refl (l : List (List Int)) (hl : l.length ≤ 100000) (ht : ∀ t ∈ l, t.length ≤ 1000) (k : Nat) (hk : 101200 ≤ k) : paraphrastref01_SameTuples.f k l l = some true := by
  unfold paraphrastref01_SameTuples.f
  rw [if_pos rfl]
  exact sameTuples_loop l hl ht l.length 0 k (by omega) (by omega)
theorem same_loop (n : Int) (l : List S52) (hl : l.length ≤ 1000) (hr : ∀ r ∈ l, r.f2.length ≤ 100000 ∧ ∀ t ∈ r.f2, t.length ≤ 1000) : ∀ (d i k : Nat), i + d = l.length → d + 101201 ≤ k → paraphrastref01_Same.l0 k (i : Int) n l n l = some true
  | 0, i, k + 1, h, hk => by unfold paraphrastref01_Same.l0; rw [if_neg (by omega)]
  | d + 1, i, k + 1, h, hk => by
    have hi : i < l.length := by omega
    obtain ⟨h1, h2⟩ := hr _ (List.getElem_mem hi)
    unfold paraphrastref01_Same.l0
    rw [if_pos (by omega), if_pos (by omega), if_pos (by omega), if_pos rfl, if_pos rfl, rdT_nat l i hi, sameTuples_refl _ h1 h2 k (by omega), w64 (by omega) (by omega), show (i : Int) + 1 = ((i + 1 : Nat) : Int) by omega, same_loop n l hl hr d (i + 1) k (by omega) (by omega)]
    simp
theorem same_refl (n : Int) (l : List S52) (hl : l.length ≤ 1000) (hr : ∀ r ∈ l, r.f2.length ≤ 100000 ∧ ∀ t ∈ r.f2, t.length ≤ 1000) (k : Nat) (hk : 102300 ≤ k) : paraphrastref01_Same.f k n l n l = some true := by
  obtain ⟨k, rfl⟩ : ∃ k', k = k' + 1 := ⟨k - 1, by omega⟩
  unfold paraphrastref01_Same.f
  rw [if_pos rfl, bne_self_eq_false]
  unfold paraphrastref01_Same.j0
  dsimp only
  rw [if_neg (by simp)]
  exact same_loop n l hl hr l.length 0 k (by omega) (by omega)
end Go.Proofs.YtfmpaofbnjlniaaGreatDoor.F
/- slices.Clone at []int, by hand. -/
namespace Go.Proofs.YtfmpaofbnjlniaaGreatDoor.F
open Go.RowKit Go.Proofs.YtfmpaofbnjlniaaGreatDoorW.PrintWords Go.Proofs.YtfmpaofbnjlniaaGreatDoorW.PrintLast Go.Proofs.YtfmpaofbnjlniaaGreatDoorW.PrintMore
set_option linter.unusedVariables false
set_option linter.unusedSimpArgs false
def slices_Clone_int_int.f (l : List Int) : Option (List Int) := if l.length ≤ 100000 then some l else none
set_option maxHeartbeats 4000000 in
set_option maxRecDepth 100000 in
theorem slices_Clone_int_int.calls (A0 : Option Addr) (c0 : Nat) (l0 : List Int) (r1 : List Int) (w : World) (hr0 : Kd.C (Kd.int .i64) w A0 l0.length l0) (hc0 : l0.length ≤ c0) (h : slices_Clone_int_int.f l0 = some r1) :
    Calls Tryz.prog 60 #[.slice A0 l0.length c0] w fun e w' => ∃ v0_ : Value, e = .returned v0_ ∧ Kd.R (Kd.int .i64) 3 w' w.heap.size (fun _ => True) v0_ r1 ∧ Below w.heap.size w w' := by
  unfold slices_Clone_int_int.f at h
  by_cases hl : l0.length ≤ 100000
  case neg => rw [if_neg hl] at h; cases h
  rw [if_pos hl] at h
  obtain rfl := Option.some.inj h
  clear h
  have HR0 := Aside0.mk hr0
  have HC0 := Aside0.mk hc0
  clear hr0 hc0
  have hq : ∀ (n c : Nat) (W : World), (binOp .eql 46 (.slice A0 n c) (.slice none 0 0)).run Tryz.prog W = .ok (.bool A0.isNone) W := fun n c W => Lib.run_eql_slice_nil W 46 3 A0 n c 0 0 Tryz.underlying46
  go_enter Tryz.func60, Tryz.ntmps60
  cases A0 with
  | none =>
    have h0 : l0 = [] := by
      cases l0 with
      | nil => rfl
      | cons x xs => obtain ⟨ad, h, _⟩ := HR0.out.2.2 (by simp); cases h
    subst h0
    go_wp2
    go_ret
    exact ⟨_, rfl, Kd.R_nil _ _ _ _ _, Below.refl _ _⟩
  | some ad =>
    have HO := Aside0.mk (show Kd.R (Kd.int .i64) 3 (w.alloc (.cells #[] 3)) w.heap.size (fun _ => True) (.slice (some ⟨w.heap.size, 0, none⟩) 0 0) [] from Kd.R_of_own (h1 := fun _ => rfl) (ok := fun _ => True) (own_lit_of (enc := Value.int .i64) w w.heap.size 3 [] (Nat.le_refl _) (by simp)) (fun _ _ => trivial))
    have HC := Aside0.mk (Kd.C_alloc HR0.out (.cells #[] 3))
    have HB := Aside0.mk (below_alloc (Below.refl w.heap.size w) (.cells #[] 3))
    go_wp2_with (first | ((with_reducible refine gate_builtin (b := .append) (xs := #[.tmp 5, .tmp 6]) rfl ?_); at_builtin; refine Kd.R_append_rows (Kd.int .i64) (w0 := w) w.heap.size rfl (.tmp 5) (.tmp 6) 46 3 (.int .i64 0) 8 rfl Tryz.underlying46 infoInt rfl (by decide) (by omega) (.slice (some ⟨w.heap.size, 0, none⟩) 0 0) [] l0 _ _ _ (fun _ => True) (fun _ => False) rfl rfl ?aO ?aR (fun _ _ h => h) (fun _ h => h.elim) ?aF ?aB ?aS ?aL ?_; (case aO => exact HO.out); (case aR => exact HC.out); (case aF => exact fun _ _ => trivial); (case aB => exact HB.out); (case aS => exact HB.out.size); (case aL => simp; omega); intro v7 w7 ho hb hg hat; have n0_ := Aside0.mk ho; have n1_ := Aside0.mk hb; clear ho hb hg hat HO HC HB))
    go_ret
    exact ⟨_, rfl, n0_.out, n1_.out⟩
end Go.Proofs.YtfmpaofbnjlniaaGreatDoor.F
/- slices.Insert at [][]int, by hand (the walk turned from the kit's worked one at []string). -/
namespace Go.Proofs.YtfmpaofbnjlniaaGreatDoor.F
open Go.RowKit Go.Lib Go.Proofs.YtfmpaofbnjlniaaGreatDoorW.PrintWords Go.Proofs.YtfmpaofbnjlniaaGreatDoorW.PrintLast Go.Proofs.YtfmpaofbnjlniaaGreatDoorW.PrintMore
set_option linter.unusedVariables false
set_option linter.unusedSimpArgs false
theorem step_copy_runI {P : Program} {ops : Array Oper} {o : Oper} {a : Act} {w : World} {K : Act → World → Prop} {Q : Exit → Act → World → Prop} {E : Prop}
    (hg : o.guard = none) (d x : Operand) (dT sT : TypeId) (hop : o.op = Op.call { callee := Callee.builtin Builtin.copy, args := #[d, x], argTypes := #[dT, sT] })
    (v u : Value) (hd : a.eval d = v) (hx : a.eval x = u) {v' : Value} {w' : World} (hr : (Builtin.copy_ #[dT, sT] o.type #[v, u]).run P w = .ok v' w') (hK : K (a.put o.dst v') w') :
    if Region.wanted o (yielded ops a.tmps) = true then Oper.wp P o a w K Q else E := by
  have hw : Region.wanted o (yielded ops a.tmps) = true := by simp [Region.wanted, hg]
  rw [if_pos hw]
  unfold Oper.wp
  simp [execOp, hop, resolve, invoke, builtin, hd, hx, hr, Result.andThen]
  exact hK
end Go.Proofs.YtfmpaofbnjlniaaGreatDoor.F
/- shape.Copy, by hand: the copy's relations lie apart from each other. -/
namespace Go.Proofs.YtfmpaofbnjlniaaGreatDoor.F
open Go.RowKit Go.Proofs.YtfmpaofbnjlniaaGreatDoorW.PrintWords Go.Proofs.YtfmpaofbnjlniaaGreatDoorW.PrintLast Go.Proofs.YtfmpaofbnjlniaaGreatDoorW.PrintMore
set_option linter.unusedVariables false
set_option linter.unusedSimpArgs false
def copyOk (l : List S52) : Prop := l.length ≤ 100000 ∧ ∀ r ∈ l, r.f2.length ≤ 100000 ∧ ∀ t ∈ r.f2, t.length ≤ 100000
theorem infoRel' : (Tryz.prog.info? 52).map (fun i => (i.zero, i.size, i.bytes)) = some (some (.agg #[.string ⟨#[]⟩, .int .i64 0, .slice none 0 0]), 3, 48) := by kernel_rfl
end Go.Proofs.YtfmpaofbnjlniaaGreatDoor.F
/- slices.Insert and slices.Delete at rows of tuples: the walks' ends in the printed form. -/
namespace Go.Proofs.YtfmpaofbnjlniaaGreatDoor.F
open Go.RowKit Go.Proofs.YtfmpaofbnjlniaaGreatDoorW.PrintWords Go.Proofs.YtfmpaofbnjlniaaGreatDoorW.PrintLast Go.Proofs.YtfmpaofbnjlniaaGreatDoorW.PrintMore
set_option linter.unusedVariables false
set_option linter.unusedSimpArgs false
def insAt (ts : List (List Int)) (i : Nat) (t : List Int) : List (List Int) := ts.take i ++ [t] ++ ts.drop i
abbrev tK : Kd (List Int) := Kd.slice 3 (Kd.int .i64)
theorem tK_one {w : World} {base : Nat} {ok : Nat → Prop} {ts : List (List Int)} {inner : List Value} (hr : Reps (tK.M w base ok) 1 ts inner) : ∀ u ∈ inner, u.oneCell' = true := by
  intro u hu
  obtain ⟨j, hj, rfl⟩ := List.getElem_of_mem hu
  have hl := hr.1
  have hjt : j < ts.length := by omega
  have h := hr.2 j _ (List.getElem?_eq_getElem hjt)
  refine tK.K_one (tK.K_of_M h) _ ?_
  rw [Nat.mul_one, List.drop_eq_getElem_cons hj]
  exact List.mem_cons_self
theorem rowed {w w1 : World} {base : Nat} {ok : Nat → Prop} {v v1 : Value} {ts' : List (List Int)} {inner' : List Value} (h0 : ∀ k, v.ownBlock = some k → ok k) (hfresh : ∀ k, w.heap.size ≤ k → ok k)
    (hr : Reps (tK.M w base (fun k => ok k ∧ some k ≠ v.ownBlock)) 1 ts' inner') (hown : w1.ownsRow base 46 1 v1 ts'.length inner') (hg : w.grownBy w1 v.ownBlock) (hat : v1.ownBlock = v.ownBlock ∨ ∃ b, v1.ownBlock = some b ∧ w.heap.size ≤ b) : tK.R 46 w1 base ok v1 ts' := by
  have hne : ∀ k, some k ≠ v.ownBlock → k < w.heap.size → some k ≠ v1.ownBlock := by
    intro k hk hlt
    rcases hat with hat | ⟨b, hb, hle⟩
    · rw [hat]; exact hk
    · rw [hb]
      intro he
      injection he with he
      omega
  refine ⟨fun k hk => ?_, inner', hown, hr.imp_ (fun q c hq => ?_)⟩
  · rcases hat with hat | ⟨b, hb, hle⟩
    · exact h0 k (hat ▸ hk)
    · rw [hb] at hk
      injection hk with hk
      exact hfresh k (by omega)
  · have h1 := tK.M_move (w1 := w1) (fun k hk => hg.block k hk.2.2.1 hk.1.2) (tK.M_bound hq)
    exact tK.M_mono (fun k hk => ⟨hk.1.1, hne k hk.1.2 hk.2.2.1⟩) h1
end Go.Proofs.YtfmpaofbnjlniaaGreatDoor.F
/- shape.Put, by hand. -/
namespace Go.Proofs.YtfmpaofbnjlniaaGreatDoor.F
open Go.RowKit Go.Proofs.YtfmpaofbnjlniaaGreatDoorW.PrintWords Go.Proofs.YtfmpaofbnjlniaaGreatDoorW.PrintLast Go.Proofs.YtfmpaofbnjlniaaGreatDoorW.PrintMore
set_option linter.unusedVariables false
set_option linter.unusedSimpArgs false
instance (l : List S52) : Decidable (copyOk l) := by unfold copyOk; infer_instance
def PutEnds (w : World) (r : Int × List S52 × Int) (e : Ending) (w' : World) : Prop := ∃ v : Value, e = .returned (.tuple #[.agg #[.int .i64 r.1, v], .int .i64 r.2.2]) ∧ Kd.R k52 52 w' w.heap.size (fun _ => True) v r.2.1 ∧ Below w.heap.size w w'
end Go.Proofs.YtfmpaofbnjlniaaGreatDoor.F
/- What Has and Put answer at valid structures; plain lemmas. -/
namespace Go.Proofs.YtfmpaofbnjlniaaGreatDoor.F
open Go.RowKit Go.Proofs.YtfmpaofbnjlniaaGreatDoorW.PrintWords Go.Proofs.YtfmpaofbnjlniaaGreatDoorW.PrintLast Go.Proofs.YtfmpaofbnjlniaaGreatDoorW.PrintMore
set_option linter.unusedVariables false
/-! ### the lexicographic order -/
theorem lex_irr : ∀ x : List Int, lexL x x = false
  | [] => rfl
  | a :: x => by unfold lexL; rw [if_pos rfl]; exact lex_irr x
theorem lex_trans : ∀ x y z : List Int, x.length = y.length → y.length = z.length → lexL x y = true → lexL y z = true → lexL x z = true
  | [], y, z, h1, h2, h, _ => by unfold lexL at h; cases h
  | a :: x, [], z, h1, h2, h, _ => by simp at h1
  | a :: x, b :: y, [], h1, h2, h, _ => by simp at h2
  | a :: x, b :: y, c :: z, h1, h2, h, h' => by
    unfold lexL at h h' ⊢
    simp only [List.length_cons] at h1 h2
    by_cases e1 : a = b
    · by_cases e2 : b = c
      · rw [if_pos e1] at h
        rw [if_pos e2] at h'
        rw [if_pos (e1.trans e2)]
        exact lex_trans x y z (by omega) (by omega) h h'
      · rw [if_neg e2, decide_eq_true_eq] at h'
        rw [if_neg (by omega), decide_eq_true_eq]; omega
    · rw [if_neg e1, decide_eq_true_eq] at h
      by_cases e2 : b = c
      · rw [if_neg (by omega), decide_eq_true_eq]; omega
      · rw [if_neg e2, decide_eq_true_eq] at h'
        rw [if_neg (by omega), decide_eq_true_eq]; omega
theorem lex_tri : ∀ x y : List Int, x.length = y.length → lexL x y = false → x ≠ y → lexL y x = true
  | [], [], _, _, h => absurd rfl h
  | [], _ :: _, h, _, _ => by simp at h
  | _ :: _, [], h, _, _ => by simp at h
  | a :: x, b :: y, h1, h, hne => by
    unfold lexL at h ⊢
    by_cases e : a = b
    · rw [if_pos e] at h
      rw [if_pos e.symm]
      exact lex_tri x y (by simpa using h1) h (fun e2 => hne (by rw [e, e2]))
    · rw [if_neg e, decide_eq_false_iff_not] at h
      rw [if_neg (fun e2 => e e2.symm), decide_eq_true_eq]; omega
theorem cmp_loop (x y : List Int) (hl : x.length = y.length) (hx : x.length ≤ 100000) : ∀ (j i k : Nat), i + j = x.length → j + 1 ≤ k → ∃ c, slices_Compare_int_int.l0 k x y x (x.length : Int) (i : Int) = some c ∧ (c < 0 ↔ lexL (x.drop i) (y.drop i) = true) ∧ (c = 0 ↔ x.drop i = y.drop i)
  | 0, i, k + 1, h, hk => by
    refine ⟨0, ?_, ?_, ?_⟩
    · unfold slices_Compare_int_int.l0; rw [if_neg (by omega), if_neg (by omega)]
    · rw [List.drop_eq_nil_of_le (by omega)]; simp [lexL]
    · rw [List.drop_eq_nil_of_le (by omega), List.drop_eq_nil_of_le (by omega)]; simp
  | j + 1, i, k + 1, h, hk => by
    have hi : i < x.length := by omega
    have hi2 : i < y.length := by omega
    unfold slices_Compare_int_int.l0
    rw [if_pos (by omega), if_pos (by omega), if_pos (by omega), if_neg (by omega), if_pos (by omega), rd_nat x i hi, rd_nat y i hi2, List.drop_eq_getElem_cons hi, List.drop_eq_getElem_cons hi2, w64 (by omega) (by omega)]
    unfold cmp_Compare_int.f cmp_isNaN_int.f lexL
    simp only [bne_self_eq_false, Option.bind_some, Bool.false_eq_true, if_false]
    rcases Int.lt_trichotomy x[i] y[i] with h1 | h1 | h1
    · exact ⟨-1, by simp [h1], by rw [if_neg (by omega)]; simp [h1], ⟨fun e => by omega, fun e => by have := (List.cons.inj e).1; omega⟩⟩
    · obtain ⟨c, hc, hd, he⟩ := cmp_loop x y hl hx j (i + 1) k (by omega) (by omega)
      rw [show ((i + 1 : Nat) : Int) = (i : Int) + 1 by omega] at hc
      exact ⟨c, by simp [h1, hc], by rw [if_pos h1]; exact hd, by rw [he]; exact ⟨fun e => by rw [h1, e], fun e => (List.cons.inj e).2⟩⟩
    · exact ⟨1, by simp [h1, show ¬ x[i] < y[i] by omega], by rw [if_neg (by omega)]; simp; omega, ⟨fun e => by omega, fun e => by have := (List.cons.inj e).1; omega⟩⟩
theorem cmp_eq (x y : List Int) (hl : x.length = y.length) (hx : x.length ≤ 100000) (k : Nat) (hk : x.length + 1 ≤ k) : ∃ c, slices_Compare_int_int.f k x y = some c ∧ (c < 0 ↔ lexL x y = true) ∧ (c = 0 ↔ x = y) :=
  cmp_loop x y hl hx x.length 0 k (by omega) (by omega)
/-! ### the binary search -/
def Sorted (ts : List (List Int)) : Prop := ts.Pairwise (fun a b => lexL a b = true)
/-- The place of t in ts. -/
def PlaceOf (ts : List (List Int)) (t : List Int) (q : Nat) (b : Bool) : Prop := q ≤ ts.length ∧ (∀ a ∈ ts.take q, lexL a t = true) ∧ (∀ a ∈ ts.drop q, lexL a t = false) ∧ (b = true ↔ ∃ h : q < ts.length, ts[q] = t)
/-! ### inserting, deleting -/
theorem ins_mem (ts : List (List Int)) (q : Nat) (t a : List Int) : a ∈ insAt ts q t ↔ a = t ∨ a ∈ ts := by
  unfold insAt
  conv => rhs; rw [← List.take_append_drop q ts]
  simp only [List.mem_append, List.mem_singleton]
  constructor
  · rintro ((h | h) | h)
    · exact Or.inr (Or.inl h)
    · exact Or.inl h
    · exact Or.inr (Or.inr h)
  · rintro (h | h | h)
    · exact Or.inl (Or.inr h)
    · exact Or.inl (Or.inl h)
    · exact Or.inr h
theorem ins_sorted {ts : List (List Int)} {t : List Int} {q : Nat} {b : Bool} (h : PlaceOf ts t q b) (hs : Sorted ts) (m : Nat) (hlt : t.length = m) (hl : ∀ a ∈ ts, a.length = m) (hn : t ∉ ts) : Sorted (insAt ts q t) := by
  obtain ⟨h1, h2, h3, h4⟩ := h
  unfold Sorted at hs ⊢
  rw [← List.take_append_drop q ts, List.pairwise_append] at hs
  obtain ⟨s1, s2, s3⟩ := hs
  have hd : ∀ a ∈ ts.drop q, lexL t a = true := fun a ha => lex_tri a t (by rw [hl a (List.mem_of_mem_drop ha), hlt]) (h3 a ha) (fun e => hn (e ▸ List.mem_of_mem_drop ha))
  unfold insAt
  rw [List.pairwise_append, List.pairwise_append]
  refine ⟨⟨s1, List.pairwise_singleton _ _, fun a ha b hb => by rw [List.mem_singleton.1 hb]; exact h2 a ha⟩, s2, fun a ha b hb => ?_⟩
  rcases List.mem_append.1 ha with ha | ha
  · exact s3 a ha b hb
  · rw [List.mem_singleton.1 ha]; exact hd b hb
end Go.Proofs.YtfmpaofbnjlniaaGreatDoor.F
/- What Has and Put answer at valid structures. -/
namespace Go.Proofs.YtfmpaofbnjlniaaGreatDoor.F
open Go.RowKit Go.Proofs.YtfmpaofbnjlniaaGreatDoorW.PrintWords Go.Proofs.YtfmpaofbnjlniaaGreatDoorW.PrintLast Go.Proofs.YtfmpaofbnjlniaaGreatDoorW.PrintMore
set_option linter.unusedVariables false
theorem tups_sorted (n a : Int) (ts : List (List Int)) (h : tupsV n a ts ts.length 0 = true) : Sorted ts ∧ ∀ t ∈ ts, tupV n a t = true := by
  have hA := tupsV_all n a ts ts.length 0 h (by omega)
  have hT : ∀ t ∈ ts, tupV n a t = true := fun t ht => by
    obtain ⟨j, hj, rfl⟩ := List.getElem_of_mem ht
    exact (hA j hj (by omega)).1
  refine ⟨List.pairwise_iff_getElem.2 (fun i j hi hj hij => ?_), hT⟩
  have hl : ∀ (m : Nat) (hm : m < ts.length), (ts[m].length : Int) = a := fun m hm => (tupV_in n a _ (hT _ (List.getElem_mem hm))).1
  induction j with
  | zero => omega
  | succ j ih =>
    obtain ⟨_, h2⟩ := (hA (j + 1) hj (by omega)).2 (by omega)
    simp only [Nat.add_sub_cancel] at h2
    by_cases e : i = j
    · subst e; exact h2
    · have e1 := hl i hi
      have e2 := hl j (by omega)
      have e3 := hl (j + 1) hj
      exact lex_trans _ _ _ (by omega) (by omega) (ih (by omega) (by omega)) h2
theorem rels_names (n : Int) (l : List S52) : ∀ (d i : Nat), relsV n l d i = true → i + d = l.length → ∀ j (hj : j < l.length), i ≤ j → (l.take j).any (nameIs l[j].f0) = false
  | 0, i, _, h, j, hj, hi => by omega
  | d + 1, i, h, hl, j, hj, hi => by
    unfold relsV at h
    simp only [Bool.and_eq_true] at h
    by_cases e : j = i
    · subst e
      rw [rdT_nat l j hj] at h
      simpa using h.1.2
    · exact rels_names n l d (i + 1) h.2 (by omega) j hj (by omega)
theorem valid_parts (n : Int) (l : List S52) (h : validB n l = true) : (∀ j (hj : j < l.length), relV n l[j] = true) ∧ ∀ j (hj : j < l.length), (l.take j).any (nameIs l[j].f0) = false := by
  unfold validB at h
  simp only [Bool.and_eq_true] at h
  exact ⟨fun j hj => relsV_all n l l.length 0 h.2 (by omega) j hj (by omega), fun j hj => rels_names n l l.length 0 h.2 (by omega) j hj (by omega)⟩
theorem rel_sorted (n : Int) (r : S52) (h : relV n r = true) : Sorted r.f2 ∧ ∀ t ∈ r.f2, tupV n r.f1 t = true := by
  unfold relV at h
  simp only [Bool.and_eq_true] at h
  exact tups_sorted n r.f1 r.f2 h.2
end Go.Proofs.YtfmpaofbnjlniaaGreatDoor.F
/- paraphrastref01.Sorted, by hand. -/
namespace Go.Proofs.YtfmpaofbnjlniaaGreatDoor.F
open Go.RowKit Go.Proofs.YtfmpaofbnjlniaaGreatDoorW.PrintWords Go.Proofs.YtfmpaofbnjlniaaGreatDoorW.PrintLast Go.Proofs.YtfmpaofbnjlniaaGreatDoorW.PrintMore
set_option linter.unusedVariables false
set_option linter.unusedSimpArgs false
/-- Where Sorted puts t among the first k of out. -/
def kFrom (out : List (List Int)) (t : List Int) : Nat → Nat
  | 0 => 0
  | k + 1 => if lexL t (rd_L2 out (k : Int)) = true then kFrom out t k else k + 1
def insOne (out : List (List Int)) (t : List Int) : List (List Int) :=
  if 0 < kFrom out t out.length ∧ rd_L2 out ((kFrom out t out.length : Int) - 1) = t then out else insAt out (kFrom out t out.length) t
def sortedB (l : List (List Int)) : List (List Int) := l.foldl insOne []
def sortOk (l : List (List Int)) : Prop := l.length ≤ 100000 ∧ ∀ t ∈ l, t.length = (l.headD []).length ∧ t.length ≤ 1000
instance (l : List (List Int)) : Decidable (sortOk l) := by unfold sortOk; infer_instance
def paraphrastref01_Sorted.f (l : List (List Int)) : Option (List (List Int)) := if sortOk l then some (sortedB l) else none
theorem kFrom_le (out : List (List Int)) (t : List Int) : ∀ k, kFrom out t k ≤ k
  | 0 => Nat.le_refl _
  | k + 1 => by
    unfold kFrom
    split
    · exact Nat.le_succ_of_le (kFrom_le out t k)
    · exact Nat.le_refl _
theorem insOne_mem (out : List (List Int)) (t a : List Int) (h : a ∈ insOne out t) : a ∈ out ∨ a = t := by
  unfold insOne at h
  split at h
  · exact Or.inl h
  · unfold insAt at h
    rw [List.mem_append, List.mem_append, List.mem_singleton] at h
    rcases h with (h | h) | h
    · exact Or.inl (List.mem_of_mem_take h)
    · exact Or.inr h
    · exact Or.inl (List.mem_of_mem_drop h)
theorem insOne_len (out : List (List Int)) (t : List Int) : (insOne out t).length ≤ out.length + 1 := by
  unfold insOne
  split
  · omega
  · unfold insAt; simp; omega
theorem sortedB_snoc (l : List (List Int)) (t : List Int) : sortedB (l ++ [t]) = insOne (sortedB l) t := by unfold sortedB; rw [List.foldl_append]; rfl
theorem sortedB_mem : ∀ (l : List (List Int)) (acc : List (List Int)) (a : List Int), a ∈ l.foldl insOne acc → a ∈ acc ∨ a ∈ l
  | [], acc, a, h => Or.inl h
  | t :: l, acc, a, h => by
    rcases sortedB_mem l (insOne acc t) a h with h | h
    · rcases insOne_mem acc t a h with h | h
      · exact Or.inl h
      · exact Or.inr (h ▸ List.mem_cons_self)
    · exact Or.inr (List.mem_cons_of_mem _ h)
theorem sortedB_len : ∀ (l : List (List Int)) (acc : List (List Int)), (l.foldl insOne acc).length ≤ acc.length + l.length
  | [], acc => Nat.le_refl _
  | t :: l, acc => by
    have h1 := sortedB_len l (insOne acc t)
    have h2 := insOne_len acc t
    simp only [List.foldl_cons, List.length_cons]
    omega
theorem less_eq (x y : List Int) (hl : x.length = y.length) (hx : x.length ≤ 1000) : paraphrastref01_Less.f 1001 x y = some (lexL x y) := by
  unfold paraphrastref01_Less.f
  exact less_all x y hl hx x.length 0 1001 (by omega) (by omega)
theorem equal_eq1 (x y : List Int) (hl : x.length = y.length) (hx : x.length ≤ 1000) : paraphrastref01_Equal.f 1001 x y = some (x == y) := by
  unfold paraphrastref01_Equal.f
  rw [if_pos (by omega)]
  exact equal_all x y hl hx x.length 0 1001 (by omega) (by omega)
theorem rd_mem (out : List (List Int)) (k : Nat) (h : k < out.length) : rd_L2 out (k : Int) ∈ out := by
  unfold rd_L2
  rw [Int.toNat_natCast, List.getD_eq_getElem?_getD, List.getElem?_eq_getElem h]
  exact List.getElem_mem h
/-- The row behind place q moved up by one. -/
theorem row_moved {w : World} {base g n cap q : Nat} {inner : List Value} (hown : w.ownsRow base 46 1 (.slice (some ⟨g, 0, none⟩) (n + 1) cap) (n + 1) inner) (hq : q ≤ n) :
    (w.setCells g (q + 1) ((inner.drop q).take (n - q))).ownsRow base 46 1 (.slice (some ⟨g, 0, none⟩) (n + 1) cap) (n + 1) (inner.take (q + 1) ++ (inner.drop q).take (n - q)) := by
  have hn : inner.length = n + 1 := by rw [hown.1, Nat.mul_one]
  rcases hown.2 with ⟨hv, h0⟩ | ⟨g', cap', cur, hv, hbg, hg, hnc, hcm, hcs, htake⟩
  · cases h0
  obtain ⟨rfl, rfl⟩ : g = g' ∧ cap = cap' := by injection hv with h2 h3 h4; injection h2 with h2; injection h2 with h2; exact ⟨h2, h4⟩
  rw [Nat.mul_one] at htake hcs
  have hclen : cur.toList.length = cap := by rw [Array.length_toList]; exact hcs
  have hdl : ((inner.drop q).take (n - q)).length = n - q := by rw [List.length_take, List.length_drop, hn]; omega
  have htl : (inner.take (q + 1)).length = q + 1 := by rw [List.length_take, hn]; omega
  have hlen3 : (inner.take (q + 1) ++ (inner.drop q).take (n - q)).length = (n + 1) * 1 := by rw [List.length_append, htl, hdl]; omega
  obtain ⟨c1, hc1, hz1, hl1⟩ := setCells_row ((inner.drop q).take (n - q)) (q + 1) w cur hg (by omega)
  refine ⟨hlen3, .inr ⟨g, cap, c1, rfl, hbg, hc1, hnc, hcm, by omega, ?_⟩⟩
  have e0 : cur.toList.take (q + 1) = inner.take (q + 1) := by
    have : (cur.toList.take (n + 1)).take (q + 1) = inner.take (q + 1) := by rw [htake]
    rwa [List.take_take, Nat.min_eq_left (by omega)] at this
  rw [hl1, e0, ← hlen3]
  exact List.take_left
theorem row_kept {w w1 : World} {base g m cap : Nat} {M : List Value} (hown : w.ownsRow base 46 1 (.slice (some ⟨g, 0, none⟩) m cap) m M) (hb : w1.heap[g]? = w.heap[g]?) : w1.ownsRow base 46 1 (.slice (some ⟨g, 0, none⟩) m cap) m M := by
  refine ⟨hown.1, ?_⟩
  rcases hown.2 with ⟨hv, h0⟩ | ⟨g', cap', cur, hv, hbg, hg, hr⟩
  · exact Or.inl ⟨hv, h0⟩
  · refine Or.inr ⟨g', cap', cur, hv, hbg, ?_, hr⟩
    obtain rfl : g = g' := by injection hv with h2 h3 h4; injection h2 with h2; injection h2 with h2
    exact hb.trans hg
theorem row_cell {w : World} {base g m cap q : Nat} {M : List Value} (hown : w.ownsRow base 46 1 (.slice (some ⟨g, 0, none⟩) m cap) m M) (hq : q < m) : ∃ x, w.cell? ⟨g, q, none⟩ = some x ∧ w.frozen? ⟨g, q, none⟩ = false := by
  rcases hown.2 with ⟨hv, h0⟩ | ⟨g', cap', cur, hv, hbg, hg, hnc, hcm, hcs, htake⟩
  · omega
  · obtain rfl : g = g' := by injection hv with h2 h3 h4; injection h2 with h2; injection h2 with h2
    obtain rfl : cap = cap' := by injection hv
    exact ⟨cur[q]'(by omega), by simp [World.cell?, hg], by simp [World.frozen?, hg]⟩
theorem row_put {w : World} {base g m cap q : Nat} {M : List Value} {vx : Value} (hown : w.ownsRow base 46 1 (.slice (some ⟨g, 0, none⟩) m cap) m M) (hq : q < m) :
    (w.setCell ⟨g, q, none⟩ vx).ownsRow base 46 1 (.slice (some ⟨g, 0, none⟩) m cap) m (M.take q ++ [vx] ++ M.drop (q + 1)) ∧ w.grownBy (w.setCell ⟨g, q, none⟩ vx) (some g) := by
  have hn : M.length = m := by rw [hown.1, Nat.mul_one]
  rcases hown.2 with ⟨hv, h0⟩ | ⟨g', cap', cur, hv, hbg, hg, hnc, hcm, hcs, htake⟩
  · omega
  obtain ⟨rfl, rfl⟩ : g = g' ∧ cap = cap' := by injection hv with h2 h3 h4; injection h2 with h2; injection h2 with h2; exact ⟨h2, h4⟩
  rw [Nat.mul_one] at htake hcs
  have hclen : cur.toList.length = cap := by rw [Array.length_toList]; exact hcs
  have htl : (M.take q).length = q := by rw [List.length_take, hn]; omega
  have hdl : (M.drop (q + 1)).length = m - (q + 1) := by rw [List.length_drop, hn]
  have hlen3 : (M.take q ++ [vx] ++ M.drop (q + 1)).length = m * 1 := by simp only [List.length_append, List.length_singleton, htl, hdl]; omega
  obtain ⟨c1, hc1, hz1, hl1⟩ := setCells_row [vx] q w cur hg (by simp; omega)
  obtain ⟨s1, s2, s3, s4⟩ := setCells_same g [vx] q w
  show (w.setCells g q [vx]).ownsRow base _ 1 _ _ _ ∧ w.grownBy (w.setCells g q [vx]) (some g)
  refine ⟨⟨hlen3, .inr ⟨g, cap, c1, rfl, hbg, hc1, hnc, hcm, by omega, ?_⟩⟩, ⟨s1, s2, s3, Nat.le_of_eq s4.symm, fun k hk hkr => ?_⟩⟩
  · have e0 : cur.toList.take q = M.take q := by
      have : (cur.toList.take m).take q = M.take q := by rw [htake]
      rwa [List.take_take, Nat.min_eq_left (by omega)] at this
    have e1 : (cur.toList.drop (q + 1)).take (m - (q + 1)) = M.drop (q + 1) := by
      have : (cur.toList.take m).drop (q + 1) = M.drop (q + 1) := by rw [htake]
      rwa [List.drop_take] at this
    have e2 : cur.toList.drop (q + 1) = M.drop (q + 1) ++ (cur.toList.drop (q + 1)).drop (m - (q + 1)) := by rw [← e1, List.take_append_drop]
    rw [hl1, List.length_singleton, e0, e2, ← List.append_assoc, Nat.mul_one]
    exact List.take_left' (by rw [hlen3, Nat.mul_one])
  · have hkg : k ≠ g := fun e => hkr (by rw [e])
    exact setCells_far [vx] q k hkg
set_option maxHeartbeats 4000000 in
set_option maxRecDepth 100000 in
theorem sorted_calls (A : Option Addr) (c : Nat) (l : List (List Int)) (w : World) (hC : tK.C w A l.length l) (hlc : l.length ≤ c) (hok : sortOk l) :
    Calls Tryz.prog 62 #[.slice A l.length c] w fun e w' => ∃ v, e = .returned v ∧ tK.R 46 w' w.heap.size (fun _ => True) v (sortedB l) ∧ Below w.heap.size w w' := by
  have HC := Aside0.mk hC
  have HL := Aside0.mk hlc
  have HOK := Aside0.mk hok
  have hl0 := hok.1
  clear hC hlc hok
  go_enter Tryz.func62, Tryz.ntmps62
  go_wp2
  go_loopw [3, 4] (fun v3 v4 wr => ∃ (i : Nat) (vo : Value), v4 = .int .i64 i ∧ v3 = vo ∧ i ≤ l.length ∧ Aside0 (tK.R 46 wr w.heap.size (fun _ => True) vo (sortedB (l.take i))) ∧ Aside0 (Below w.heap.size w wr)) (fun _ v4 _ => l.length - (intOf v4).toNat)
  case atStart => exact ⟨0, .slice none 0 0, rfl, rfl, Nat.zero_le _, ⟨Kd.R_nil _ _ _ _ _⟩, ⟨Below.refl _ _⟩⟩
  case round =>
    obtain ⟨i, vo, rfl, rfl, hi, HR, HB⟩ := hrel
    generalize wr = wq at *
    by_cases hlt : i < l.length
    · obtain ⟨ad, A3, c3, hA, hx, hl3, hi3⟩ := at_L2 HC.out (i : Int) (by omega) (by omega)
      subst hA
      simp only [Int.toNat_natCast] at hx
      have hri : rd_L2 l (i : Int) = l[i] := by unfold rd_L2; rw [Int.toNat_natCast, List.getD_eq_getElem?_getD, List.getElem?_eq_getElem hlt]; rfl
      rw [hri] at hx hl3 hi3
      have HTI := Aside0.mk (show l[i]? = some l[i] from List.getElem?_eq_getElem hlt)
      have htm := HOK.out.2 l[i] (List.getElem_mem hlt)
      have hout : ∀ a ∈ sortedB (l.take i), a.length = l[i].length ∧ a.length ≤ 1000 := fun a ha => by
        rcases sortedB_mem (l.take i) [] a ha with h | h
        · cases h
        · have := HOK.out.2 a (List.mem_of_mem_take h)
          exact ⟨this.1.trans htm.1.symm, this.2⟩
      have hol : (sortedB (l.take i)).length ≤ 100000 := by
        have := sortedB_len (l.take i) []
        rw [List.length_take] at this
        unfold sortedB
        simp only [List.length_nil] at this
        omega
      have hsn : sortedB (l.take (i + 1)) = insOne (sortedB (l.take i)) l[i] := by rw [take_snoc' HTI.out, sortedB_snoc]
      generalize l[i] = t at *
      generalize sortedB (l.take i) = out at *
      have HSN := Aside0.mk hsn
      have HOUT := Aside0.mk hout
      have HT := Aside0.mk hi3
      have HTM := Aside0.mk htm
      clear htm
      have HL3 := Aside0.mk hl3
      have y0 := hx
      clear hi3 hl3 hri hsn hout
      obtain ⟨Ao, co, hvo⟩ := Kd.R_slice HR.out
      subst hvo
      go_wp2
      go_loopw [5] (fun v5 wl => ∃ (k : Nat), v5 = .int .i64 k ∧ k ≤ out.length ∧ Aside0 (kFrom out t out.length = kFrom out t k) ∧ Aside0 (tK.R 46 wl w.heap.size (fun _ => True) (.slice Ao out.length co) out) ∧ Aside0 (Below w.heap.size w wl)) (fun v5 _ => (intOf v5).toNat)
      case atStart => exact ⟨out.length, rfl, Nat.le_refl _, ⟨rfl⟩, HR, HB⟩
      case round =>
        clear HR HB
        obtain ⟨k, rfl, hk, HK, HR, HB⟩ := hrel
        generalize wr = wl at *
        go_upto_region 6 with (fail)
        go_cut [27] from 14 to 29 (fun v27 wc => v27 = .bool (decide (0 < k ∧ lexL t (rd_L2 out ((k : Int) - 1)) = true)) ∧ Aside0 (tK.R 46 wc w.heap.size (fun _ => True) (.slice Ao out.length co) out) ∧ Aside0 (Below w.heap.size w wc))
        case first =>
          by_cases hk0 : k = 0
          · subst hk0
            go_quiet (fail)
            go_wp2
            go_meet
            exact ⟨by simp, ⟨Kd.R_drewN HR.out _⟩, ⟨pw_below_drewN HB.out _⟩⟩
          · obtain ⟨k', rfl⟩ : ∃ k', k = k' + 1 := ⟨k - 1, by omega⟩
            have hp : decide (0 < ((k' + 1 : Nat) : Int)) = true := by simp
            obtain ⟨ad2, A2, c2, hA2, hz, hl2, hi2⟩ := at_L2 (Kd.R_reads' HR.out).2.2 (k' : Int) (by omega) (by omega)
            subst hA2
            simp only [Int.toNat_natCast] at hz
            replace hx := (HB.out.cell (World.block_lt_of_cell? w _ y0)).trans y0
            have hless := Aside0.mk (less_eq t (rd_L2 out (k' : Int)) (HOUT.out _ (rd_mem out k' (by omega))).1.symm HTM.out.2)
            have hC3 := Kd.C_below HT.out HB.out
            go_quiet ((go_at_call 77; (with_reducible refine (paraphrastref01_Less.calls 1001 A3 c3 t A2 c2 (rd_L2 out (k' : Int)) (lexL t (rd_L2 out (k' : Int))) _ ?side1 ?side2 ?side3 ?side4 hless.out).mono ?_); (case side1 => repeat (first | exact hC3 | (with_reducible refine Kd.C_drewN ?_ _) | (with_reducible refine Kd.C_drew ?_))); (case side2 => exact HL3.out); (case side3 => repeat (first | exact hi2 | (with_reducible refine Kd.C_drewN ?_ _) | (with_reducible refine Kd.C_drew ?_))); (case side4 => exact hl2); rintro e w' ⟨rfl, ⟨nd, rfl⟩⟩; (first | exact ⟨rfl, _, World.drewN_drewN _ _ _⟩ | exact ⟨rfl, _, Eq.trans (World.drewN_drewN _ _ _) (congrArg (World.drewN _) (Nat.add_assoc _ _ _))⟩)))
            go_wp2
            go_meet
            exact ⟨by rw [show ((k' + 1 : Nat) : Int) - 1 = (k' : Int) from by omega]; simp, ⟨Kd.R_drewN HR.out _⟩, ⟨pw_below_drewN HB.out _⟩⟩
        case rest =>
          clear HR HB
          obtain ⟨rfl, HR, HB⟩ := hcut
          obtain ⟨bb, hbb⟩ : ∃ bb, decide (0 < k ∧ lexL t (rd_L2 out ((k : Int) - 1)) = true) = bb := ⟨_, rfl⟩
          rw [hbb]
          cases bb with
          | true =>
            have hgo := of_decide_eq_true hbb
            clear hbb
            obtain ⟨k', rfl⟩ : ∃ k', k = k' + 1 := ⟨k - 1, by omega⟩
            have hk1 : kFrom out t (k' + 1) = kFrom out t k' := by
              have h2 := hgo.2
              rw [show ((k' + 1 : Nat) : Int) - 1 = (k' : Int) from by omega] at h2
              show (if lexL t (rd_L2 out (k' : Int)) = true then kFrom out t k' else k' + 1) = _
              rw [if_pos h2]
            go_wp2
            go_roundw
            · exact ⟨k', by simp, by omega, ⟨HK.out.trans hk1⟩, HR, HB⟩
            · simp [intOf]
          | false =>
            have hgo := of_decide_eq_false hbb
            clear hbb
            have hkf : kFrom out t k = k := by
              cases k with
              | zero => rfl
              | succ k' =>
                show (if lexL t (rd_L2 out (k' : Int)) = true then kFrom out t k' else k' + 1) = _
                rw [if_neg (fun h2 => hgo ⟨by omega, by rw [show ((k' + 1 : Nat) : Int) - 1 = (k' : Int) from by omega]; exact h2⟩)]
            have HKF := Aside0.mk (HK.out.trans hkf)
            clear HK hgo hkf
            go_upto_region 8 with (fail)
            go_cut [43] from 6 to 63 (fun v43 wc => v43 = .bool (decide (0 < k ∧ rd_L2 out ((k : Int) - 1) = t)) ∧ Aside0 (tK.R 46 wc w.heap.size (fun _ => True) (.slice Ao out.length co) out) ∧ Aside0 (Below w.heap.size w wc))
            case first =>
              by_cases hk0 : k = 0
              · subst hk0
                go_quiet (fail)
                go_wp2
                go_meet
                exact ⟨by simp, ⟨Kd.R_drewN HR.out _⟩, ⟨pw_below_drewN HB.out _⟩⟩
              · obtain ⟨k', rfl⟩ : ∃ k', k = k' + 1 := ⟨k - 1, by omega⟩
                have hp : decide (0 < ((k' + 1 : Nat) : Int)) = true := by simp
                obtain ⟨ad2, A2, c2, hA2, hz, hl2, hi2⟩ := at_L2 (Kd.R_reads' HR.out).2.2 (k' : Int) (by omega) (by omega)
                subst hA2
                simp only [Int.toNat_natCast] at hz
                replace hx := (HB.out.cell (World.block_lt_of_cell? w _ y0)).trans y0
                have hless := Aside0.mk (equal_eq1 (rd_L2 out (k' : Int)) t (HOUT.out _ (rd_mem out k' (by omega))).1 (HOUT.out _ (rd_mem out k' (by omega))).2)
                have hC3 := Kd.C_below HT.out HB.out
                go_quiet ((go_at_call 41; (with_reducible refine (paraphrastref01_Equal.calls 1001 A2 c2 (rd_L2 out (k' : Int)) A3 c3 t (rd_L2 out (k' : Int) == t) _ ?side1 ?side2 ?side3 ?side4 hless.out).mono ?_); (case side3 => repeat (first | exact hC3 | (with_reducible refine Kd.C_drewN ?_ _) | (with_reducible refine Kd.C_drew ?_))); (case side4 => exact HL3.out); (case side1 => repeat (first | exact hi2 | (with_reducible refine Kd.C_drewN ?_ _) | (with_reducible refine Kd.C_drew ?_))); (case side2 => exact hl2); rintro e w' ⟨rfl, ⟨nd, rfl⟩⟩; (first | exact ⟨rfl, _, World.drewN_drewN _ _ _⟩ | exact ⟨rfl, _, Eq.trans (World.drewN_drewN _ _ _) (congrArg (World.drewN _) (Nat.add_assoc _ _ _))⟩)))
                go_wp2
                go_meet
                refine ⟨?_, ⟨Kd.R_drewN HR.out _⟩, ⟨pw_below_drewN HB.out _⟩⟩
                rw [show ((k' + 1 : Nat) : Int) - 1 = (k' : Int) from by omega]
                by_cases he : rd_L2 out (k' : Int) = t
                · simp [he]
                · simp [he]
            case rest =>
              clear HR HB
              obtain ⟨rfl, HR, HB⟩ := hcut
              obtain ⟨bb, hbb⟩ : ∃ bb, decide (0 < k ∧ rd_L2 out ((k : Int) - 1) = t) = bb := ⟨_, rfl⟩
              rw [hbb]
              cases bb with
              | true =>
                have hgo := of_decide_eq_true hbb
                clear hbb
                have hio : insOne out t = out := if_pos (by rw [HKF.out]; exact hgo)
                have HIO := Aside0.mk (HSN.out.trans hio)
                clear hio hgo
                go_wp2
                go_roundw
                · exact ⟨i + 1, _, by simp, rfl, hlt, ⟨by rw [HIO.out]; exact HR.out⟩, HB⟩
                · simp [intOf]; omega
              | false =>
                have hgo := of_decide_eq_false hbb
                clear hbb
                have hio : insOne out t = insAt out k t := (if_neg (by rw [HKF.out]; exact hgo)).trans (by rw [HKF.out])
                have HIO := Aside0.mk (HSN.out.trans hio)
                clear hio hgo
                go_upto_region 10 with (first | ((with_reducible refine gate_builtin (b := .append) (xs := #[.tmp 44, .tmp 45]) rfl ?_); at_builtin; refine Kd.R_append tK (w0 := w) w.heap.size rfl (.tmp 44) (.tmp 45) 50 46 (.slice none 0 0) 24 rfl Tryz.underlying50 infoInts rfl (by decide) (by omega) (.slice Ao out.length co) out [] [.slice none 0 0] (fun _ => True) (fun k_ => True ∧ some k_ ≠ (Value.slice Ao out.length co).ownBlock) rfl rfl ?aP (fun _ hk => hk) ?aF ?aO ?aB ?aS ?aL ?_; (case aP => exact Kd.M_row (Kd.R_nil _ _ _ _ _)); (case aF => exact fun _ _ => trivial); (case aO => exact HR.out); (case aB => exact HB.out); (case aS => exact HB.out.size); (case aL => omega); intro v7 w7 ho hb hg hat; have n0_ := Aside0.mk ho; have n1_ := Aside0.mk hb; clear ho hb hg hat))
                obtain ⟨g, cap, ev7, hgw, hg7, cur0, hcur0⟩ := Kd.R_form n0_.out (by simp)
                subst ev7
                have hl1 : (out ++ [[]]).length = out.length + 1 := by simp
                rw [hl1] at n0_ ⊢
                obtain ⟨h07, inner, hown, hr⟩ := n0_.out
                rw [hl1] at hown
                replace hown : w7.ownsRow w.heap.size 46 1 (.slice (some ⟨g, 0, none⟩) (out.length + 1) cap) (out.length + 1) inner := hown
                have HOWN := Aside0.mk hown
                have HREP := Aside0.mk hr
                have HB7 := Aside0.mk n1_.out
                clear hr h07 n0_ n1_ HR HB hcur0
                obtain ⟨n, hn⟩ : ∃ n, out.length = n := ⟨_, rfl⟩
                have HN := Aside0.mk hn
                rw [hn] at hk hol hown HOWN ⊢
                clear hn
                have hil : inner.length = n + 1 := by rw [hown.1, Nat.mul_one]
                rcases hown.2 with ⟨hv, h0⟩ | ⟨g', cap', cur, hv, hbg, hg, hnc, hcm, hcs, htake⟩
                · cases h0
                obtain ⟨rfl, rfl⟩ : g = g' ∧ cap = cap' := by injection hv with h2 h3 h4; injection h2 with h2; injection h2 with h2; exact ⟨h2, h4⟩
                clear hv hbg hown
                rw [Nat.mul_one] at htake hcs
                have hclen : cur.toList.length = cap := by rw [Array.length_toList]; exact hcs
                have hcell : ∀ j v, inner[j]? = some v → w7.cell? ⟨g, j, none⟩ = some v := by
                  intro j v hj
                  rw [← htake, List.getElem?_take] at hj
                  split at hj
                  · rw [Array.getElem?_toList] at hj; simp [World.cell?, hg, hj]
                  · cases hj
                have hsz : (Tryz.prog.info? 46).map (·.size) = some 1 := by
                  obtain ⟨i0, hi0, h0, h1, h2⟩ := info_parts infoInts
                  rw [hi0]; simp [h1]
                have hsome : ∀ j, j < n + 1 → (w7.cell? ⟨g, j, none⟩).isSome = true := fun j hj => by simp [World.cell?, hg]; omega
                have hfz : ∀ j, w7.frozen? ⟨g, j, none⟩ = false := fun j => by simp [World.frozen?, hg]
                obtain ⟨cs, hcsd⟩ : ∃ cs, cs = (inner.drop k).take (n - k) := ⟨_, rfl⟩
                have hcl : cs.length = n - k := by rw [hcsd, List.length_take, List.length_drop, hil]; omega
                have hone : ∀ v ∈ cs, v.oneCell' = true := fun v hv => tK_one HREP.out v (List.mem_of_mem_drop (List.mem_of_mem_take (hcsd ▸ hv)))
                have HCP := Aside0.mk (show ∀ ty db dl dc sl sc, (k < n → db = k + 1) → dl = n + 1 - (k + 1) → sl = n + 1 - k → (Builtin.copy_ #[50, 50] ty #[.slice (some ⟨g, db, none⟩) dl dc, .slice (some ⟨g, k, none⟩) sl sc]).run Tryz.prog w7.drew = .ok (goInt cs.length) (w7.drew.setCells g (k + 1) cs) from fun ty db dl dc sl sc hdb hdl hsl => by
                  subst hdl hsl
                  have hrun := run_copy_cells w7.drew 50 50 ty 46 g db (n + 1 - (k + 1)) dc ⟨g, k, none⟩ (n + 1 - k) sc cs Tryz.underlying50 hsz (by rw [hcl]; simp only [Nat.min_def]; split <;> omega)
                    (fun j v hj => by
                      rw [Addr.add_lit]
                      refine hcell (k + j) v ?_
                      rw [hcsd, List.getElem?_take, List.getElem?_drop] at hj
                      split at hj
                      · exact hj
                      · cases hj)
                    (fun j hj => by rw [hcl] at hj; rw [hdb (by omega)]; exact hsome _ (by omega)) (fun j hj => hfz _) hone
                  rw [hrun]
                  by_cases hkn : k < n
                  · rw [hdb hkn]
                  · have : cs = [] := List.eq_nil_of_length_eq_zero (by omega)
                    subst this
                    rfl)
                have HOWN2 := Aside0.mk (row_moved HOWN.out hk)
                have hw1 : IntKind.i64.wrap ((k : Int) + 1) = (k : Int) + 1 := by rw [IntKind.wrap_i64]; omega
                have hb1 : (0 : Int) ≤ (k : Int) + 1 := by omega
                have hb2 : ¬ (cap = k) := by omega
                have hb3 : (k : Int) ≤ (n : Int) + 1 := by omega
                have hb5 : (k : Int) + 1 ≤ (n : Int) + 1 := by omega
                have htn : ((k : Int) + 1).toNat = k + 1 := by omega
                clear hcell hsz hcl hone hclen htake hil hcs hg hsome hfz
                go_cut [] from 6 to 63 (fun wc => wc = w7.drew.setCells g (k + 1) cs)
                case first =>
                  by_cases hb4 : cap = k + 1
                  · obtain rfl : n = k := by omega
                    subst hb4
                    go_region_law (refine step_copy_runI rfl _ _ 50 50 rfl (.slice (some ⟨g, 0, none⟩) 0 0) (.slice (some ⟨g, n, none⟩) 1 1) (by simp [Act.eval, Act.put]) (by simp [Act.eval, Act.put]) (HCP.out _ _ _ _ _ _ (by omega) (by omega) (by omega)) ?_)
                    go_wp2
                    go_meet
                    simp [hcsd]
                  · go_region_law (refine step_copy_runI rfl _ _ 50 50 rfl (.slice (some ⟨g, k + 1, none⟩) (n + 1 - (k + 1)) (cap - (k + 1))) (.slice (some ⟨g, k, none⟩) (n + 1 - k) (cap - k)) (by simp [Act.eval, Act.put]) (by simp [Act.eval, Act.put]) (HCP.out _ _ _ _ _ _ (by omega) (by omega) (by omega)) ?_)
                    go_wp2
                    go_meet
                    rw [hcsd]
                case rest =>
                  have hW1 : ∃ W1, W1 = w7.drew.setCells g (k + 1) cs := ⟨_, rfl⟩
                  obtain ⟨W1, hW1⟩ := hW1
                  rw [← hW1] at hcut
                  subst hcut
                  obtain ⟨s1, s2, s3, s4⟩ := setCells_same g cs (k + 1) w7.drew
                  have hfar : ∀ q, q ≠ g → wc.heap[q]? = w7.heap[q]? := fun q hq => by rw [hW1]; exact setCells_far (w := w7.drew) cs (k + 1) q hq
                  have hsz : wc.heap.size = w7.heap.size := by rw [hW1]; exact s4
                  have HBW := Aside0.mk (show Below w.heap.size w wc from ⟨by rw [hW1, s1]; exact HB7.out.os, by rw [hW1, s2]; exact HB7.out.tape, by rw [hW1, s3]; exact HB7.out.output, by rw [hsz]; exact HB7.out.size, fun q hq => (hfar q (by omega)).trans (HB7.out.block q hq)⟩)
                  have HOWN3 := Aside0.mk (show wc.ownsRow w.heap.size 46 1 (.slice (some ⟨g, 0, none⟩) (n + 1) cap) (n + 1) (inner.take (k + 1) ++ (inner.drop k).take (n - k)) from by rw [hW1, hcsd]; exact row_moved (w := w7.drew) HOWN.out hk)
                  have HFAR := Aside0.mk hfar
                  have hgc : g < wc.heap.size := by omega
                  have HSZ := Aside0.mk hsz
                  clear s1 s2 s3 s4 hfar hsz hW1 HOWN2 HCP hcsd HB7
                  generalize wc = W1 at *
                  have hb6 : (k : Int) < (n : Int) + 1 := by omega
                  have hx := (HBW.out.cell (World.block_lt_of_cell? w _ y0)).trans y0
                  go_wp2_with (first | ((with_reducible refine gate_dst (N := 57) rfl ?_); refine Kd.R_lit (Kd.int .i64) _ 3 ?hg (N := 57) ?hd (xs := ([] : List Int)) (inner := []) (ok := fun _ => True) (okp := fun _ => True) ?hr ?hp (fun _ hk => hk) trivial (Below.refl _ _) (Nat.le_refl _) (by simp) ?_; (case hd => rfl); (case hg => rfl); (case hr => first | (go_simp; done) | (go_simp; rfl)); (case hp => exact (Reps.none _ _)); intro v8 w8 ho7 hb hg_ hnew_; have n0_ := Aside0.mk ho7; have n1_ := Aside0.mk hb; clear ho7 hb hg_ hnew_; replace hx := (n1_.out.cell (World.block_lt_of_cell? _ _ hx)).trans hx) | ((with_reducible refine gate_builtin (b := .append) (xs := #[.tmp 57, .tmp 61]) rfl ?_); at_builtin; refine Kd.R_append_rows (Kd.int .i64) (w0 := W1) W1.heap.size rfl (.tmp 57) (.tmp 61) 46 3 (.int .i64 0) 8 rfl Tryz.underlying46 info3 rfl (by decide) (by omega) v8 [] t A3 t.length c3 (fun _ => True) (fun _ => False) rfl rfl ?aO ?aR (fun _ _ h => h) (fun _ h => h.elim) ?aF ?aB ?aS ?aL ?_; (case aR => exact Kd.C_below HT.out (below_step HBW.out n1_.out)); (case aB => exact n1_.out); (case aF => exact (fun _ _ => trivial)); (case aO => exact n0_.out); (case aS => exact n1_.out.size); (case aL => have := HTM.out.2; simp only [List.length_nil]; omega); intro v9 w9 ho hb hg hat; have n2_ := Aside0.mk ho; have n3_ := Aside0.mk hb; clear ho hb hg hat; have n4_ := Aside0.mk (row_kept HOWN3.out (n3_.out.block g hgc)); obtain ⟨x9, hc9, hf9⟩ := row_cell n4_.out (q := k) (by omega); obtain ⟨A9, c9, e9⟩ := Kd.R_slice n2_.out; subst e9))
                  rw [List.nil_append] at n2_
                  have hwg : w.heap.size ≤ g := hgw
                  have hw1w := HBW.out.size
                  have hmv : ∀ q, q ≠ g → q < w7.heap.size → w9.heap[q]? = w7.heap[q]? := fun q hq hlt2 => (n3_.out.block q (by rw [HSZ.out]; exact hlt2)).trans (HFAR.out q hq)
                  obtain ⟨hp1, hp2⟩ := row_put (vx := .slice A9 t.length c9) n4_.out (q := k) (by omega)
                  have hrep : Reps (tK.M w9 w.heap.size (fun k_ => True ∧ some k_ ≠ (Value.slice (some ⟨g, 0, none⟩) (n + 1) cap).ownBlock)) 1 (out ++ [[]]) inner := HREP.out.imp_ (fun q c hq => Kd.M_step hq (fun k_ hk_ hlt2 => hmv k_ (fun e => hk_.2 (by rw [e]; rfl)) hlt2))
                  have hne9 : ∀ k_, W1.heap.size ≤ k_ → some k_ ≠ (Value.slice (some ⟨g, 0, none⟩) (n + 1) cap).ownBlock := fun k_ hk_ e => by injection e with e; subst e; omega
                  have r1 : Reps (tK.M w9 w.heap.size (fun k_ => True ∧ some k_ ≠ (Value.slice (some ⟨g, 0, none⟩) (n + 1) cap).ownBlock)) 1 [t] [.slice A9 t.length c9] := Reps.one (Kd.M_row (Kd.R_lower (Kd.R_mono (Kd.R_bound n2_.out) (fun k_ hk_ => ⟨trivial, hne9 k_ hk_.2.1⟩)) hw1w)) (Reps.none _ _)
                  have hil : inner.length = n + 1 := by rw [HOWN.out.1, Nat.mul_one]
                  have hon := HN.out
                  have hr' := Kd.reps_append (Kd.reps_append (Kd.reps_take (m := k) hrep (by rw [List.length_append, hon]; omega)) r1) (Kd.reps_take (m := n - k) (Kd.reps_drop (m := k) hrep) (by rw [List.length_drop, List.length_append, hon, List.length_singleton]; omega))
                  simp only [Nat.mul_one] at hr'
                  rw [List.take_append_of_le_length (by omega), List.drop_append_of_le_length (by omega), List.take_append_of_le_length (by rw [List.length_drop]; omega), List.take_of_length_le (l := out.drop k) (by rw [List.length_drop]; omega)] at hr'
                  have em : (inner.take (k + 1) ++ (inner.drop k).take (n - k)).take k ++ [.slice A9 t.length c9] ++ (inner.take (k + 1) ++ (inner.drop k).take (n - k)).drop (k + 1) = inner.take k ++ [.slice A9 t.length c9] ++ (inner.drop k).take (n - k) := by
                    rw [List.take_append_of_le_length (by rw [List.length_take]; omega), List.take_take, Nat.min_eq_left (by omega), List.drop_left' (by rw [List.length_take]; omega)]
                  rw [em] at hp1
                  have hlen : (insAt out k t).length = n + 1 := by simp [insAt]; omega
                  have HFIN := Aside0.mk (rowed (w := w9) (ok := fun _ => True) (ts' := insAt out k t) (fun _ _ => trivial) (fun _ _ => trivial) hr' (by rw [hlen]; exact hp1) hp2 (Or.inl rfl))
                  have HBF := Aside0.mk (below_set (j := k) (v := .slice A9 t.length c9) (below_step HBW.out n3_.out) hwg)
                  go_roundw
                  · exact ⟨i + 1, _, by simp, rfl, hlt, ⟨by rw [HIO.out]; exact HFIN.out⟩, HBF⟩
                  · simp [intOf]; omega
    · obtain rfl : i = l.length := by omega
      rw [List.take_length] at HR
      go_wp2
      go_ret
      exact ⟨_, rfl, HR.out, HB.out⟩
theorem paraphrastref01_Sorted.calls (A0 : Option Addr) (c0 : Nat) (l0 : List (List Int)) (r1 : List (List Int)) (w : World) (hr0 : Kd.C (Kd.slice 3 (Kd.int .i64)) w A0 l0.length l0) (hc0 : l0.length ≤ c0) (h : paraphrastref01_Sorted.f l0 = some r1) :
    Calls Tryz.prog 62 #[.slice A0 l0.length c0] w fun e w' => ∃ v0_ : Value, e = .returned v0_ ∧ Kd.R (Kd.slice 3 (Kd.int .i64)) 46 w' w.heap.size (fun _ => True) v0_ r1 ∧ Below w.heap.size w w' := by
  unfold paraphrastref01_Sorted.f at h
  split at h
  · rename_i hok
    obtain rfl := Option.some.inj h
    exact sorted_calls A0 c0 l0 w hr0 hc0 hok
  · cases h
end Go.Proofs.YtfmpaofbnjlniaaGreatDoor.F
/- Sorted: what it answers. -/
namespace Go.Proofs.YtfmpaofbnjlniaaGreatDoor.F
open Go.RowKit Go.Proofs.YtfmpaofbnjlniaaGreatDoorW.PrintWords Go.Proofs.YtfmpaofbnjlniaaGreatDoorW.PrintLast Go.Proofs.YtfmpaofbnjlniaaGreatDoorW.PrintMore
set_option linter.unusedVariables false
theorem lex_asym (x y : List Int) (hl : x.length = y.length) (h : lexL x y = true) : lexL y x = false := by
  cases h2 : lexL y x with
  | false => rfl
  | true => have := lex_trans x y x hl hl.symm h h2; rw [lex_irr] at this; cases this
theorem sorted_ext (m : Nat) : ∀ (xs ys : List (List Int)), Sorted xs → Sorted ys → (∀ a ∈ xs, a.length = m) → (∀ a ∈ ys, a.length = m) → (∀ a, a ∈ xs ↔ a ∈ ys) → xs = ys
  | [], [], _, _, _, _, _ => rfl
  | [], y :: ys, _, _, _, _, h => by have := (h y).2 List.mem_cons_self; cases this
  | x :: xs, [], _, _, _, _, h => by have := (h x).1 List.mem_cons_self; cases this
  | x :: xs, y :: ys, h1, h2, l1, l2, h => by
    have hx := List.pairwise_cons.1 h1
    have hy := List.pairwise_cons.1 h2
    have lx := l1 x List.mem_cons_self
    have ly := l2 y List.mem_cons_self
    have e : x = y := by
      rcases List.mem_cons.1 ((h x).1 List.mem_cons_self) with e | e1
      · exact e
      · rcases List.mem_cons.1 ((h y).2 List.mem_cons_self) with e | e2
        · exact e.symm
        · have a1 := hy.1 x e1
          have a2 := hx.1 y e2
          rw [lex_asym x y (lx.trans ly.symm) a2] at a1
          cases a1
    subst e
    have nx : x ∉ xs := fun e => by have := hx.1 x e; rw [lex_irr] at this; cases this
    have ny : x ∉ ys := fun e => by have := hy.1 x e; rw [lex_irr] at this; cases this
    congr 1
    refine sorted_ext m xs ys hx.2 hy.2 (fun a ha => l1 a (List.mem_cons_of_mem _ ha)) (fun a ha => l2 a (List.mem_cons_of_mem _ ha)) (fun a => ⟨fun ha => ?_, fun ha => ?_⟩)
    · rcases List.mem_cons.1 ((h a).1 (List.mem_cons_of_mem _ ha)) with e | e
      · exact absurd (e ▸ ha) nx
      · exact e
    · rcases List.mem_cons.1 ((h a).2 (List.mem_cons_of_mem _ ha)) with e | e
      · exact absurd (e ▸ ha) ny
      · exact e
theorem kFrom_facts (out : List (List Int)) (t : List Int) : ∀ (k : Nat) (hk : k ≤ out.length), (∀ j (hj : j < out.length), kFrom out t k ≤ j → j < k → lexL t out[j] = true) ∧ (∀ q, kFrom out t k = q + 1 → ∃ hq : q < out.length, lexL t out[q] = false)
  | 0, _ => ⟨fun j hj h1 h2 => by omega, fun q h => by cases h⟩
  | k + 1, hk => by
    obtain ⟨h1, h2⟩ := kFrom_facts out t k (by omega)
    have hr := rdL2_nat out k (by omega)
    unfold kFrom
    rw [hr]
    cases hb : lexL t out[k] with
    | true =>
      rw [if_pos rfl]
      refine ⟨fun j hj a b => ?_, h2⟩
      by_cases e : j = k
      · subst e; exact hb
      · exact h1 j hj a (by omega)
    | false =>
      rw [if_neg (by simp)]
      refine ⟨fun j hj a b => by omega, fun q e => ?_⟩
      obtain rfl : k = q := by omega
      exact ⟨by omega, hb⟩
theorem insOne_sorted (m : Nat) (out : List (List Int)) (t : List Int) (hs : Sorted out) (hl : ∀ a ∈ out, a.length = m) (ht : t.length = m) : Sorted (insOne out t) ∧ ∀ a, a ∈ insOne out t ↔ a = t ∨ a ∈ out := by
  obtain ⟨k1, k2⟩ := kFrom_facts out t out.length (Nat.le_refl _)
  have kl := kFrom_le out t out.length
  unfold insOne
  split
  · rename_i h
    refine ⟨hs, fun a => ⟨Or.inr, fun h' => h'.elim (fun e => ?_) id⟩⟩
    rw [e, ← h.2]
    have : ((kFrom out t out.length : Int) - 1) = ((kFrom out t out.length - 1 : Nat) : Int) := by omega
    rw [this]
    exact rd_mem out _ (by omega)
  · rename_i h
    have hdrop : ∀ a ∈ out.drop (kFrom out t out.length), lexL t a = true := fun a ha => by
      obtain ⟨j, hj, rfl⟩ := List.getElem_of_mem ha
      rw [List.getElem_drop]
      rw [List.length_drop] at hj
      exact k1 _ (by omega) (by omega) (by omega)
    have htake : ∀ a ∈ out.take (kFrom out t out.length), lexL a t = true := fun a ha => by
      obtain ⟨j, hj, rfl⟩ := List.getElem_of_mem ha
      rw [List.getElem_take]
      rw [List.length_take] at hj
      obtain ⟨q, hq⟩ : ∃ q, kFrom out t out.length = q + 1 := ⟨kFrom out t out.length - 1, by omega⟩
      obtain ⟨hql, hqf⟩ := k2 q hq
      have hne : t ≠ out[q] := fun e => h ⟨by omega, by rw [hq, show ((q + 1 : Nat) : Int) - 1 = (q : Int) by omega, rdL2_nat out q hql]; exact e.symm⟩
      have hqt := lex_tri t out[q] (by rw [ht, hl _ (List.getElem_mem hql)]) hqf hne
      by_cases e : j = q
      · subst e; exact hqt
      · have hjq := List.pairwise_iff_getElem.1 hs j q (by omega) hql (by omega)
        exact lex_trans _ _ _ (by rw [hl _ (List.getElem_mem _), hl _ (List.getElem_mem _)]) (by rw [hl _ (List.getElem_mem _), ht]) hjq hqt
    have hnot : t ∉ out := fun ht' => by
      rw [← List.take_append_drop (kFrom out t out.length) out] at ht'
      rcases List.mem_append.1 ht' with e | e
      · have := htake t e; rw [lex_irr] at this; cases this
      · have := hdrop t e; rw [lex_irr] at this; cases this
    have hp : PlaceOf out t (kFrom out t out.length) false := ⟨kl, htake, fun a ha => lex_asym t a (by rw [ht, hl a (List.mem_of_mem_drop ha)]) (hdrop a ha), ⟨fun e => (by cases e), fun ⟨hq, e⟩ => absurd (e ▸ List.getElem_mem hq) hnot⟩⟩
    exact ⟨ins_sorted hp hs m ht hl hnot, fun a => ins_mem _ _ _ _⟩
theorem sortedB_facts (m : Nat) : ∀ (l acc : List (List Int)), Sorted acc → (∀ a ∈ acc, a.length = m) → (∀ a ∈ l, a.length = m) → Sorted (l.foldl insOne acc) ∧ ∀ a, a ∈ l.foldl insOne acc ↔ a ∈ acc ∨ a ∈ l
  | [], acc, hs, _, _ => ⟨hs, fun a => by simp⟩
  | t :: l, acc, hs, h1, h2 => by
    obtain ⟨g1, g2⟩ := insOne_sorted m acc t hs h1 (h2 t List.mem_cons_self)
    obtain ⟨f1, f2⟩ := sortedB_facts m l (insOne acc t) g1 (fun a ha => ((g2 a).1 ha).elim (fun e => by rw [e]; exact h2 t List.mem_cons_self) (h1 a)) (fun a ha => h2 a (List.mem_cons_of_mem _ ha))
    refine ⟨f1, fun a => ?_⟩
    rw [List.foldl_cons, f2, g2, List.mem_cons]
    constructor
    · rintro ((h | h) | h)
      · exact Or.inr (Or.inl h)
      · exact Or.inl h
      · exact Or.inr (Or.inr h)
    · rintro (h | h | h)
      · exact Or.inl (Or.inr h)
      · exact Or.inl (Or.inl h)
      · exact Or.inr h
theorem sorted_eq (m : Nat) (hm : m ≤ 1000) (l : List (List Int)) (hl : ∀ a ∈ l, a.length = m) (hn : l.length ≤ 100000) : paraphrastref01_Sorted.f l = some (sortedB l) ∧ Sorted (sortedB l) ∧ ∀ a, a ∈ sortedB l ↔ a ∈ l := by
  obtain ⟨h1, h2⟩ := sortedB_facts m l [] List.Pairwise.nil (fun a ha => by cases ha) hl
  refine ⟨if_pos ⟨hn, fun t ht => ?_⟩, h1, fun a => (h2 a).trans (by simp)⟩
  cases l with
  | nil => cases ht
  | cons x l => exact ⟨by rw [hl t ht]; exact (hl x List.mem_cons_self).symm, by rw [hl t ht]; exact hm⟩
end Go.Proofs.YtfmpaofbnjlniaaGreatDoor.F
namespace Go.Proofs.YtfmpaofbnjlniaaGreatDoor.F
open Go.RowKit Go.Proofs.YtfmpaofbnjlniaaGreatDoorW.PrintWords Go.Proofs.YtfmpaofbnjlniaaGreatDoorW.PrintLast Go.Proofs.YtfmpaofbnjlniaaGreatDoorW.PrintMore
attribute [local go_sem] max2_int min2_int max_two min_two max_three min_three max_four min_four
set_option linter.unusedVariables false
set_option linter.unusedSimpArgs false
/-! ### paraphrastref01_copied: function 53 -/
def paraphrastref01_copied.l0 : Nat → List (List Int) → List (List Int) → Int → Option ((List (List Int)))
 | 0, _, _, _ => none
 | k + 1, x0, x3, x4 => if x4 < (x0.length : Int) then ((some (([] : List Int) : List Int)).bind fun y301 => (if 0 ≤ x4 then (if y301.length + (rd_L2 x0 x4).length < 17592186044416 then (if x3.length < 5864062014805 then (paraphrastref01_copied.l0 k x0 (x3 ++ [(y301 ++ (rd_L2 x0 x4))]) (wrap64 (x4 + 1))) else (none)) else (none)) else (none))) else (some x3)
def paraphrastref01_copied.f (k : Nat) (l0 : List (List Int)) : Option ((List (List Int))) := paraphrastref01_copied.l0 k l0 ([] : List (List Int)) 0
set_option maxHeartbeats 8000000 in
set_option maxRecDepth 100000 in
theorem paraphrastref01_copied.calls (k : Nat) (A0 : Option Addr) (c0 : Nat) (l0 : List (List Int)) (r : List (List Int)) (w : World) (hr0 : Kd.C (Kd.slice 3 (Kd.int .i64)) w A0 l0.length l0) (hc0 : l0.length ≤ c0) (h : paraphrastref01_copied.f k l0 = some r) :
  Calls Tryz.prog 53 #[.slice A0 l0.length c0] w fun e w' => ∃ v0_ : Value, e = .returned (v0_) ∧ Kd.S (Kd.slice 3 (Kd.int .i64)) 46 w' w.heap.size (fun _ => True) v0_ r ∧ Below w.heap.size w w' := by
 have HR0 := Aside0.mk hr0
 have HC0 := Aside0.mk hc0
 clear hr0 hc0
 have HB := Aside0.mk (Below.refl w.heap.size w)
 have H : (paraphrastref01_copied.l0 k l0 ([] : List (List Int)) 0) = some r := h
 clear h
 have H' := Aside0.mk H
 clear H
 go_enter Tryz.func53, Tryz.ntmps53
 go_wp2
 go_loopg [3, 4] k (fun kq v3 v4 w' => ∃ (x3_1 : List (List Int)) (x4_1 : Int), v4 = .int .i64 x4_1 ∧ Aside0 (paraphrastref01_copied.l0 kq l0 x3_1 x4_1 = some r) ∧ Aside0 (kq ≤ k) ∧ Aside0 (Kd.S (Kd.slice 3 (Kd.int .i64)) 46 w' w.heap.size (fun _ => True) v3 x3_1) ∧ Aside0 (Below w.heap.size w w'))
 case atStart => exact ⟨(([] : List (List Int))), (0), eS, H', ⟨Nat.le_refl _⟩, ⟨by first | exact Kd.S_nil _ _ _ _ _ | exact Kd.N_nil _ _ _ _ _ | exact Kd.V_nil _ _ _ _ _ | exact Kd.Q_nil _ _ _ _ _ | exact Kd.R_nil _ _ _ _ _⟩, ⟨bel⟩⟩
 case round =>
  clear H'
  obtain ⟨x3_1, x4_1, rfl, HA, HK1, HO_3, HB⟩ := hrel
  cases gk with
  | zero => exact absurd HA.out (by simp [paraphrastref01_copied.l0])
  | succ k1 =>
   have H := HA.out
   clear HA
   simp only [paraphrastref01_copied.l0] at H
   by_cases c2 : x4_1 < (l0.length : Int)
   ·rw [if_pos c2] at H
    have c2b0 : decide (x4_1 < (l0.length : Int)) = true := decide_eq_true c2
    clear c2
    obtain ⟨y301, hy301⟩ : ∃ y_ : List Int, y_ = (([] : List Int)) := ⟨_, rfl⟩
    replace H : (if 0 ≤ x4_1 then (if y301.length + (rd_L2 l0 x4_1).length < 17592186044416 then (if x3_1.length < 5864062014805 then (paraphrastref01_copied.l0 k1 l0 (x3_1 ++ [(y301 ++ (rd_L2 l0 x4_1))]) (wrap64 (x4_1 + 1))) else (none)) else (none)) else (none)) = some r := by first | (rw [hy301]; with_reducible exact H) | (have H2_ := (Option.bind_some _ _).symm.trans H; rw [hy301]; with_reducible exact H2_) | (have H2_ := (Option.bind_some _ _).symm.trans H; with_reducible exact H2_) | with_reducible exact H | (rw [hy301]; exact H) | exact H
    have Ny301 := Aside0.mk hy301
    clear hy301
    by_cases c3 : 0 ≤ x4_1
    ·rw [if_pos c3] at H
     have c3b0 : decide (0 ≤ x4_1) = true := decide_eq_true c3
     clear c3
     by_cases c4 : y301.length + (rd_L2 l0 x4_1).length < 17592186044416
     ·rw [if_pos c4] at H
      have LMc4 := Aside0.mk c4
      clear c4
      obtain ⟨y305, hy305⟩ : ∃ y_ : List Int, y_ = (y301 ++ (rd_L2 l0 x4_1)) := ⟨_, rfl⟩
      replace H : (if x3_1.length < 5864062014805 then (paraphrastref01_copied.l0 k1 l0 (x3_1 ++ [y305]) (wrap64 (x4_1 + 1))) else (none)) = some r := by first | (rw [hy305]; with_reducible exact H) | (have H2_ := (Option.bind_some _ _).symm.trans H; rw [hy305]; with_reducible exact H2_) | (have H2_ := (Option.bind_some _ _).symm.trans H; with_reducible exact H2_) | with_reducible exact H | (rw [hy305]; exact H) | exact H
      have Ny305 := Aside0.mk hy305
      clear hy305
      by_cases c5 : x3_1.length < 5864062014805
      ·rw [if_pos c5] at H
       have LMc5 := Aside0.mk c5
       clear c5
       obtain ⟨y308, hy308⟩ : ∃ y_ : List (List Int), y_ = (x3_1 ++ [y305]) := ⟨_, rfl⟩
       replace H : (paraphrastref01_copied.l0 k1 l0 y308 (wrap64 (x4_1 + 1))) = some r := by first | (rw [hy308]; with_reducible exact H) | (have H2_ := (Option.bind_some _ _).symm.trans H; rw [hy308]; with_reducible exact H2_) | (have H2_ := (Option.bind_some _ _).symm.trans H; with_reducible exact H2_) | with_reducible exact H | (rw [hy308]; exact H) | exact H
       have Ny308 := Aside0.mk hy308
       clear hy308
       have H' := Aside0.mk H
       clear H
       go_wp2_with (first | ((with_reducible refine gate_dst (N := 12) rfl ?_); refine Kd.R_lit (Kd.int .i64) _ 3 ?hg (N := 12) ?hd (xs := ([] : List Int)) (inner := []) (ok := fun _ => True) (okp := fun _ => True) ?hr ?hp (fun _ hk => hk) trivial (Below.refl _ _) (Nat.le_refl _) (by simp) ?_; (case hd => rfl); (case hg => rfl); (case hr => first | (go_simp; done) | (go_simp; rfl)); (case hp => exact (Reps.none _ _)); intro v302 w6 ho7 hb hg_ hnew_; clear hg_ hnew_; (first | rw [← Ny301.out] at ho7 | (simp only [Int.reduceToNat] at ho7; rw [← Ny301.out] at ho7)); have HO303 := Aside0.mk (Kd.R_lower ho7 (below_size bel)); replace HO_3 := Aside0.mk (Kd.S_elder' (by (with_reducible repeat (first | apply Kd.S_alloc | apply Kd.S_drewN | apply Kd.S_drew)); exact HO_3.out) (Kd.R_base ho7) hb); replace HB := Aside0.mk (below_step bel hb); clear hb ho7; have p304 : 0 ≤ (x4_1 : Int) := dtr; have q304 : x4_1 < (l0.length : Int) := dtr; obtain ⟨ad304, A304_0, c304_0, e304, hx304_0, hl304_0, hi304_0⟩ := at_L2 HR0.out x4_1 p304 q304; cases e304; replace hx304_0 := oc hx304_0; have HR304_0 := Aside0.mk hi304_0; have HC304_0 := Aside0.mk hl304_0; clear hi304_0 hl304_0; replace p304 := eq_true p304; replace q304 := eq_true q304) | ((with_reducible refine gate_builtin (b := .append) (xs := #[.tmp 12, .tmp 16]) rfl ?_); at_builtin; refine Kd.R_append_rows (Kd.int .i64) (w0 := w) w.heap.size rfl (.tmp 12) (.tmp 16) 46 3 (.int .i64 0) 8 rfl Tryz.underlying46 info3 rfl (by decide) (by omega) v302 y301 (rd_L2 l0 x4_1) _ _ _ (fun _ => True) (fun _ => False) rfl rfl ?aO ?aR (fun _ _ h => h) (fun _ h => h.elim) ?aF ?aB ?aS ?aL ?_; (case aR => exact cS (Kd.C_below HR304_0.out HB.out)); (case aB => exact bel); (case aF => exact (fun _ _ => trivial)); (case aO => exact (tw HO303.out)); (case aS => exact (below_size bel)); (case aL => have := LMc4.out; omega); intro v306 w8 ho hb hg hat; rw [← Ny305.out] at ho; have HO307 := Aside0.mk (ho); replace HO_3 := Aside0.mk (Kd.S_after (ok := (fun _ => True)) (by (with_reducible repeat (first | apply Kd.S_alloc | apply Kd.S_drewN | apply Kd.S_drew)); exact HO_3.out) hg hat); replace HB := Aside0.mk (hb); clear HO303; clear ho hb hg hat; obtain ⟨Ao10, co10, eo10⟩ := Kd.R_slice HO307.out; subst eo10) | ((with_reducible refine gate_builtin (b := .append) (xs := #[.tmp 11, .tmp 18]) rfl ?_); at_builtin; refine Kd.S_append (Kd.slice 3 (Kd.int .i64)) (w0 := w) w.heap.size rfl (.tmp 11) (.tmp 18) 50 46 (.slice none 0 0) 24 rfl Tryz.underlying50 info46 rfl (by decide) (by omega) u3 x3_1 y305 [.slice Ao10 y305.length co10] (fun _ => True) (fun k_ => some k_ = (.slice Ao10 y305.length co10 : Value).ownBlock) rfl rfl ?aP (fun k_ hk_ => ((Kd.R_mono (ok' := fun k_ => ((fun _ => True)) k_ ∧ some k_ ≠ (u3 : Value).ownBlock) (Kd.R_apart' (HO307.out) (Kd.S_typed HO_3.out) (by decide)) (fun k_ hk => ⟨trivial, hk.2⟩))).1 k_ hk_.symm) ?aF ?aO ?aB ?aS ?aL ?_; (case aP => exact Kd.M_row (Kd.R_mono (Kd.R_tight rfl (Kd.R_mono (ok' := fun k_ => ((fun _ => True)) k_ ∧ some k_ ≠ (u3 : Value).ownBlock) (Kd.R_apart' (HO307.out) (Kd.S_typed HO_3.out) (by decide)) (fun k_ hk => ⟨trivial, hk.2⟩))) (fun _ h_ => h_))); (case aB => exact bel); (case aF => exact (fun _ _ => trivial)); (case aO => exact (by (with_reducible repeat (first | apply Kd.S_alloc | apply Kd.S_drewN | apply Kd.S_drew)); exact Kd.S_mono HO_3.out (fun k_ hk => ⟨trivial, fun e_ => hk.2 e_⟩))); (case aS => exact (below_size bel)); (case aL => have := LMc5.out; omega); intro v309 w9 ho hb hg hat; rw [← Ny308.out] at ho; have HO310 := Aside0.mk (ho); replace HB := Aside0.mk (hb); clear HO_3 HO307; clear ho hb hg hat))
       go_roundg k1
       case measure => have := HK1.out; omega
       case rel => exact ⟨(y308), (wrap64 (x4_1 + 1)), eS, H', ⟨by have := HK1.out; omega⟩, ⟨by (with_reducible repeat (first | apply Kd.S_alloc | apply Kd.S_drewN | apply Kd.S_drew)); exact HO310.out⟩, ⟨bel⟩⟩
      ·rw [if_neg c5] at H
       exact absurd H (by simp)
     ·rw [if_neg c4] at H
      exact absurd H (by simp)
    ·rw [if_neg c3] at H
     exact absurd H (by simp)
   ·rw [if_neg c2] at H
    have c2b0 : decide (x4_1 < (l0.length : Int)) = false := decide_eq_false c2
    clear c2
    obtain rfl := Option.some.inj H
    go_wp2
    go_ret
    exact ⟨_, eN, by (with_reducible repeat (first | apply Kd.S_alloc | apply Kd.S_drewN | apply Kd.S_drew)); exact HO_3.out, bel⟩
end Go.Proofs.YtfmpaofbnjlniaaGreatDoor.F
