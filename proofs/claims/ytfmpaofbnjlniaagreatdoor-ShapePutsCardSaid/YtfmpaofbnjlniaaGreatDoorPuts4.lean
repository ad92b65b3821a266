/- Part 4 of the proof: ShapePuts: Has and Put answer as the reference says, for every structure, name and tuple. -/
import Derived.Test.YtfmpaofbnjlniaaGreatDoorPuts3
import Derived.Lib.SplitLaws
import Derived.Lib.SliceRun
import Derived.Lib.Overlaps
import Derived.Lib.AppendZerosOnto
import Derived.Laws.NewBlocks
import Derived.Laws.IdiomCopy
import Derived.Laws.Externs
import Derived.Deep.RegionLaw
/- Names, tuples, relations, structures: what Name, tuples, rel and Valid answer, as plain Bools; the program's and the document's. -/
namespace Go.Proofs.YtfmpaofbnjlniaaGreatDoor.F
open Go.RowKit Go.Proofs.YtfmpaofbnjlniaaGreatDoorW.PrintWords Go.Proofs.YtfmpaofbnjlniaaGreatDoorW.PrintLast Go.Proofs.YtfmpaofbnjlniaaGreatDoorW.PrintMore
set_option linter.unusedVariables false
def letB (c : Int) : Bool := (decide (97 ≤ c) && decide (c ≤ 122)) || (decide (65 ≤ c) && decide (c ≤ 90))
def digB (c : Int) : Bool := decide (48 ≤ c) && decide (c ≤ 57)
theorem letter_eq (c : Int) : shape_letter.f c = some (letB c) := by
  unfold shape_letter.f letB
  simp only [ge_iff_le]
  by_cases h1 : 97 ≤ c <;> by_cases h2 : c ≤ 122 <;> by_cases h3 : 65 ≤ c <;> by_cases h4 : c ≤ 90 <;> simp [h1, h2, h3, h4]
theorem digit_eq (c : Int) : shape_digit.f c = some (digB c) := by
  unfold shape_digit.f digB
  split <;> simp <;> omega
def wordB (s : ByteArray) : Bool := (shape_word.f s).getD false
theorem word_eq (s : ByteArray) : shape_word.f s = some (wordB s) := by
  unfold wordB shape_word.f
  repeat' split
  all_goals rfl
/-- The d bytes from i on are letters or digits. -/
def restB (s : ByteArray) : Nat → Nat → Bool
  | 0, _ => true
  | d + 1, i => (letB (bt s i) || digB (bt s i)) && restB s d (i + 1)
def nameB (s : ByteArray) : Bool := decide (1 ≤ s.size) && decide (s.size ≤ 12) && letB (bt s 0) && !wordB s && restB s (s.size - 1) 1
theorem name_loop (s : ByteArray) (hs : s.size ≤ 12) : ∀ (d i k : Nat), i + d = s.size → d + 1 ≤ k → shape_Name.l0 k s (s.size : Int) (i : Int) = some (restB s d i)
  | 0, i, k + 1, h, hk => by unfold shape_Name.l0; rw [if_neg (by omega)]; rfl
  | d + 1, i, k + 1, h, hk => by
    unfold shape_Name.l0 restB
    have ih := name_loop s hs d (i + 1) k (by omega) (by omega)
    rw [show ((i + 1 : Nat) : Int) = (i : Int) + 1 by omega] at ih
    rw [if_pos (by omega), if_pos (by omega), if_pos (by omega), letter_eq, digit_eq, w64 (by omega) (by omega), ih]
    simp only [Option.bind_some]
    cases letB (bt s i) <;> cases digB (bt s i) <;> rfl
theorem toList_loop (bs : ByteArray) : ∀ (d i : Nat) (r : List UInt8), i + d = bs.size → ByteArray.toList.loop bs i r = r.reverse ++ bs.data.toList.drop i
  | 0, i, r, h => by
    have hl : bs.data.toList.length = bs.size := data_length bs
    unfold ByteArray.toList.loop
    rw [if_neg (by omega), List.drop_eq_nil_of_le (by omega), List.append_nil]
  | d + 1, i, r, h => by
    have hl : bs.data.toList.length = bs.size := data_length bs
    unfold ByteArray.toList.loop
    rw [if_pos (by omega), toList_loop bs d (i + 1) _ (by omega), List.drop_eq_getElem_cons (show i < bs.data.toList.length by omega), List.reverse_cons, List.append_assoc]
    have hi : i < bs.data.size := by rw [Array.length_toList] at hl; omega
    have : bs.get! i = bs.data.toList[i]'(by omega) := by
      show bs.data[i]! = _
      rw [getElem!_pos bs.data i hi]; simp
    rw [this]; rfl
theorem toList_data (s : ByteArray) : s.toList = s.data.toList := by
  unfold ByteArray.toList
  rw [toList_loop s s.size 0 [] (by omega)]; simp
theorem toList_inj {s t : ByteArray} (h : s.toList = t.toList) : s = t := by
  rw [toList_data, toList_data] at h
  cases s; cases t
  simp at h
  simp [h]
theorem toList_nil (s : ByteArray) : s.toList = ([] : List UInt8) ↔ s.size = 0 := by
  rw [toList_data, ← data_length s]
  exact (List.length_eq_zero_iff (l := s.data.toList)).symm
theorem name_eq (s : ByteArray) (k : Nat) (hk : 20 ≤ k) : shape_Name.f k s = some (nameB s) := by
  obtain ⟨k, rfl⟩ : ∃ k', k = k' + 1 := ⟨k - 1, by omega⟩
  unfold shape_Name.f nameB
  by_cases h0 : s.size = 0
  · rw [if_pos ((toList_nil s).2 h0)]; simp [shape_Name.j0, h0]
  · rw [if_neg (fun h => h0 ((toList_nil s).1 h))]
    by_cases h1 : (s.size : Int) > 12
    · rw [if_pos h1]; simp [shape_Name.j0, show ¬ s.size ≤ 12 by omega]
    · rw [if_neg h1, if_pos (by omega), letter_eq]
      simp only [Option.bind_some]
      cases hl : letB (bt s 0) with
      | false => simp [shape_Name.j0]
      | true =>
        rw [if_pos rfl, word_eq]
        simp only [Option.bind_some]
        cases hw : wordB s with
        | true => simp [shape_Name.j0]
        | false =>
          unfold shape_Name.j0
          simp only [Bool.false_eq_true, if_false]
          have := name_loop s (by omega) s.size 0 k (by omega) (by omega)
          rw [show ((0 : Nat) : Int) = 0 from rfl] at this
          rw [this]
          obtain ⟨m, hm⟩ : ∃ m, s.size = m + 1 := ⟨s.size - 1, by omega⟩
          rw [hm, restB, show ((0 : Nat) : Int) = 0 from rfl, hl]
          simp; omega
theorem compare_loop (x y : List Int) (hl : x.length = y.length) (hx : x.length ≤ 100000) : ∀ (j i k : Nat), i + j = x.length → j + 1 ≤ k → ∃ c, slices_Compare_int_int.l0 k x y x (x.length : Int) (i : Int) = some c ∧ decide (c ≥ 0) = !lexL (x.drop i) (y.drop i)
  | 0, i, k + 1, h, hk => by
    refine ⟨0, ?_, ?_⟩
    · unfold slices_Compare_int_int.l0; rw [if_neg (by omega), if_neg (by omega)]
    · rw [List.drop_eq_nil_of_le (by omega)]; rfl
  | j + 1, i, k + 1, h, hk => by
    have hi : i < x.length := by omega
    have hi2 : i < y.length := by omega
    unfold slices_Compare_int_int.l0
    rw [if_pos (by omega), if_pos (by omega), if_pos (by omega), if_neg (by omega), if_pos (by omega), rd_nat x i hi, rd_nat y i hi2, List.drop_eq_getElem_cons hi, List.drop_eq_getElem_cons hi2, w64 (by omega) (by omega)]
    unfold cmp_Compare_int.f cmp_isNaN_int.f lexL
    simp only [bne_self_eq_false, Option.bind_some, Bool.false_eq_true, if_false]
    rcases Int.lt_trichotomy x[i] y[i] with h1 | h1 | h1
    · exact ⟨-1, by simp [h1], by rw [if_neg (by omega), decide_eq_true h1]; rfl⟩
    · obtain ⟨c, hc, hd⟩ := compare_loop x y hl hx j (i + 1) k (by omega) (by omega)
      rw [show ((i + 1 : Nat) : Int) = (i : Int) + 1 by omega] at hc
      exact ⟨c, by simp [h1, hc], by rw [if_pos h1]; exact hd⟩
    · exact ⟨1, by simp [h1, show ¬ x[i] < y[i] by omega], by rw [if_neg (by omega), decide_eq_false (by omega : ¬ x[i] < y[i])]; rfl⟩
def tupV (n a : Int) (t : List Int) : Bool := decide ((t.length : Int) = a) && !t.any (outB n)
/-- The d tuples from i on are of this arity, in range, and each is above the one before it. -/
def tupsV (n a : Int) (l : List (List Int)) : Nat → Nat → Bool
  | 0, _ => true
  | d + 1, i => tupV n a (rd_L2 l i) && (decide (i = 0) || lexL (rd_L2 l ((i : Int) - 1)) (rd_L2 l i)) && tupsV n a l d (i + 1)
theorem elements_eq (n : Int) (t : List Int) : shape_elements.f n t = some (!t.any (outB n)) := rfl
/-- shape.tuples' loop: from i on, the tuple ahead of i having this arity. -/
theorem tuples_loop (n a : Int) (nm : ByteArray) (a1 : Int) (l : List (List Int)) (hl : l.length ≤ 9223372036854775807) (ha : a ≤ 12) : ∀ (d i k : Nat), i + d = l.length → d + 100 ≤ k → (0 < i → ((rd_L2 l ((i : Int) - 1)).length : Int) = a) →
    shape_tuples.l0 k n l (l.length : Int) (i : Int) nm a l = some (tupsV n a l d i)
  | 0, i, k + 1, h, hk, hp => by unfold shape_tuples.l0; rw [if_neg (by omega)]; rfl
  | d + 1, i, k + 1, h, hk, hp => by
    unfold shape_tuples.l0 tupsV tupV
    rw [if_pos (by omega), if_pos (by omega), if_pos (by omega), w64 (x := (i : Int) + 1) (by omega) (by omega), w64 (x := (i : Int) - 1) (by omega) (by omega)]
    by_cases h1 : ((rd_L2 l (i : Int)).length : Int) = a
    · rw [if_pos h1, elements_eq, decide_eq_true h1]
      simp only [Option.bind_some, Bool.true_and]
      have ih := tuples_loop n a nm a1 l hl ha d (i + 1) k (by omega) (by omega) (fun _ => by rw [show (((i + 1 : Nat) : Int) - 1) = (i : Int) by omega]; exact h1)
      rw [show ((i + 1 : Nat) : Int) = (i : Int) + 1 by omega] at ih
      cases hb : (rd_L2 l (i : Int)).any (outB n) with
      | true => simp
      | false =>
        simp only [Bool.not_false, if_true, Bool.true_and]
        by_cases h2 : (i : Int) > 0
        · rw [if_pos h2, if_pos (by omega), if_pos (by omega), decide_eq_false (by omega), Bool.false_or]
          have hp' := hp (by omega)
          obtain ⟨c, hc, hd⟩ := compare_loop (rd_L2 l ((i : Int) - 1)) (rd_L2 l (i : Int)) (by omega) (by omega) (rd_L2 l ((i : Int) - 1)).length 0 k (by omega) (by omega)
          unfold slices_Compare_int_int.f
          rw [show ((0 : Nat) : Int) = 0 from rfl] at hc
          rw [hc]
          simp only [Option.bind_some, List.drop_zero] at hd ⊢
          by_cases h3 : c ≥ 0
          · rw [if_pos h3]
            rw [decide_eq_true h3] at hd
            rw [show lexL (rd_L2 l ((i : Int) - 1)) (rd_L2 l (i : Int)) = false from (Bool.not_eq_true' _).mp hd.symm]
            rfl
          · rw [if_neg h3, ih]
            rw [decide_eq_false h3] at hd
            rw [show lexL (rd_L2 l ((i : Int) - 1)) (rd_L2 l (i : Int)) = true from (Bool.not_eq_false' _).mp hd.symm]
            rfl
        · rw [if_neg h2, ih, decide_eq_true (by omega)]
          rfl
    · rw [if_neg h1, decide_eq_false h1]
      rfl
/-! ### the document's functions -/
theorem ref_letter_eq (c : Int) : paraphrastref01_letter.f c = some (letB c) := letter_eq c
theorem ref_digit_eq (c : Int) : paraphrastref01_digit.f c = some (digB c) := digit_eq c
theorem ref_word_eq (s : ByteArray) : paraphrastref01_Word.f s = some (wordB s) := word_eq s
theorem ref_name_loop (s : ByteArray) (hs : s.size ≤ 12) : ∀ (d i k : Nat), i + d = s.size → d + 1 ≤ k → paraphrastref01_Name.l0 k s (i : Int) = some (restB s d i)
  | 0, i, k + 1, h, hk => by unfold paraphrastref01_Name.l0; rw [if_neg (by omega)]; rfl
  | d + 1, i, k + 1, h, hk => by
    unfold paraphrastref01_Name.l0 restB
    have ih := ref_name_loop s hs d (i + 1) k (by omega) (by omega)
    rw [show ((i + 1 : Nat) : Int) = (i : Int) + 1 by omega] at ih
    rw [if_pos (by omega), if_pos (by omega), ref_letter_eq, ref_digit_eq, w64 (by omega) (by omega), ih]
    simp only [Option.bind_some]
    cases letB (bt s i) <;> cases digB (bt s i) <;> rfl
theorem ref_name_eq (s : ByteArray) (k : Nat) (hk : 20 ≤ k) : paraphrastref01_Name.f k s = some (nameB s) := by
  obtain ⟨k, rfl⟩ : ∃ k', k = k' + 1 := ⟨k - 1, by omega⟩
  unfold paraphrastref01_Name.f nameB
  by_cases h0 : s.size = 0
  · rw [if_pos (by omega)]; simp [paraphrastref01_Name.j0, h0]
  · rw [if_neg (by omega)]
    by_cases h1 : (s.size : Int) > 12
    · rw [if_pos h1]; simp [paraphrastref01_Name.j0, show ¬ s.size ≤ 12 by omega]
    · rw [if_neg h1, if_pos (by omega), ref_letter_eq]
      simp only [Option.bind_some]
      cases hl : letB (bt s 0) with
      | false => simp [paraphrastref01_Name.j0]
      | true =>
        rw [if_pos rfl, ref_word_eq]
        simp only [Option.bind_some]
        cases hw : wordB s with
        | true => simp [paraphrastref01_Name.j0]
        | false =>
          unfold paraphrastref01_Name.j0
          simp only [Bool.false_eq_true, if_false]
          have := ref_name_loop s (by omega) (s.size - 1) 1 k (by omega) (by omega)
          rw [show ((1 : Nat) : Int) = 1 from rfl] at this
          rw [this]
          simp; omega
theorem ref_tuples_loop (n a : Int) (nm : ByteArray) (l : List (List Int)) (hl : l.length ≤ 9223372036854775807) (ha : a ≤ 12) : ∀ (d i k : Nat), i + d = l.length → d + 100 ≤ k → (0 < i → ((rd_L2 l ((i : Int) - 1)).length : Int) = a) →
    paraphrastref01_rel.l0 k n (i : Int) nm a l = some (tupsV n a l d i)
  | 0, i, k + 1, h, hk, hp => by unfold paraphrastref01_rel.l0; rw [if_neg (by omega)]; rfl
  | d + 1, i, k + 1, h, hk, hp => by
    unfold paraphrastref01_rel.l0 tupsV tupV
    rw [if_pos (by omega), if_pos (by omega), w64 (x := (i : Int) + 1) (by omega) (by omega), w64 (x := (i : Int) - 1) (by omega) (by omega)]
    by_cases h1 : ((rd_L2 l (i : Int)).length : Int) = a
    · rw [if_pos h1, in_elements n (rd_L2 l (i : Int)) (by omega) k (by omega), elements_eq, decide_eq_true h1]
      simp only [Option.bind_some, Bool.true_and]
      have ih := ref_tuples_loop n a nm l hl ha d (i + 1) k (by omega) (by omega) (fun _ => by rw [show (((i + 1 : Nat) : Int) - 1) = (i : Int) by omega]; exact h1)
      rw [show ((i + 1 : Nat) : Int) = (i : Int) + 1 by omega] at ih
      cases hb : (rd_L2 l (i : Int)).any (outB n) with
      | true => simp
      | false =>
        simp only [Bool.not_false, if_true, Bool.true_and]
        by_cases h2 : (i : Int) > 0
        · rw [if_pos h2, if_pos (by omega), if_pos (by omega), decide_eq_false (by omega), Bool.false_or]
          have hp' := hp (by omega)
          have hL : paraphrastref01_Less.f k (rd_L2 l ((i : Int) - 1)) (rd_L2 l (i : Int)) = some (lexL (rd_L2 l ((i : Int) - 1)) (rd_L2 l (i : Int))) := less_all _ _ (by omega) (by omega) (rd_L2 l ((i : Int) - 1)).length 0 k (by omega) (by omega)
          rw [hL]
          simp only [Option.bind_some]
          cases lexL (rd_L2 l ((i : Int) - 1)) (rd_L2 l (i : Int)) with
          | false => rfl
          | true => rw [if_pos rfl, ih]; rfl
        · rw [if_neg h2, ih, decide_eq_true (by omega)]
          rfl
    · rw [if_neg h1, decide_eq_false h1]
      rfl
/-! ### relations and structures -/
def powOk (n a : Int) : Bool := match paraphrastref01_Pow.f 14 n a with | some q => decide (q ≤ 4096) | none => false
theorem pow_ok (n a : Int) (hn1 : 1 ≤ n) (hn2 : n ≤ 64) (h0 : 0 ≤ a) (h1 : a ≤ 12) (k : Nat) (hk : 14 ≤ k) : ∃ q, paraphrastref01_Pow.f k n a = some q ∧ shape_power.f k n a 4096 = some (if q > 4096 then -1 else q) ∧ 1 ≤ q ∧ powOk n a = decide (q ≤ 4096) := by
  obtain ⟨q, hq, e1, e2⟩ := pow_both n a hn1 hn2 h1 a.toNat 1 0 14 (by omega) (by omega) (by omega) (by omega) (by omega)
  have f1 : paraphrastref01_Pow.f 14 n a = some q := e1
  exact ⟨q, at_rounds (paraphrastref01_Pow.mono _ _) hk f1, at_rounds (shape_power.mono _ _ _) hk e2, hq, by unfold powOk; rw [f1]⟩
def relV (n : Int) (r : S52) : Bool := nameB r.f0 && decide (0 ≤ r.f1) && decide (r.f1 ≤ 12) && powOk n r.f1 && tupsV n r.f1 r.f2 r.f2.length 0
def relsV (n : Int) (l : List S52) : Nat → Nat → Bool
  | 0, _ => true
  | d + 1, i => relV n (rd_T52 l i) && !(l.take i).any (nameIs (rd_T52 l i).f0) && relsV n l d (i + 1)
def validB (n : Int) (l : List S52) : Bool := decide (1 ≤ n) && decide (n ≤ 64) && decide (l.length ≤ 8) && relsV n l l.length 0
theorem ref_rel_eq (T : Nat) (hT : T ≤ 9223372036854775807) (n : Int) (hn1 : 1 ≤ n) (hn2 : n ≤ 64) (r : S52) (hl : r.f2.length ≤ T) (k : Nat) (hk : T + 200 ≤ k) : paraphrastref01_rel.f k n r.f0 r.f1 r.f2 = some (relV n r) := by
  obtain ⟨k, rfl⟩ : ∃ k', k = k' + 1 := ⟨k - 1, by omega⟩
  have hj : paraphrastref01_rel.j0 (k + 1) n true r.f0 r.f1 r.f2 = some false := rfl
  unfold paraphrastref01_rel.f relV
  rw [ref_name_eq _ _ (by omega)]
  simp only [Option.bind_some]
  cases hn : nameB r.f0 with
  | false => simp [hj]
  | true =>
    rw [if_pos rfl]
    by_cases h0 : r.f1 < 0
    · rw [if_pos h0, hj, decide_eq_false (by omega)]; rfl
    · rw [if_neg h0]
      by_cases h1 : r.f1 > 12
      · rw [if_pos h1, hj, decide_eq_false (by omega : ¬ r.f1 ≤ 12)]; simp
      · obtain ⟨q, e1, _, _, e3⟩ := pow_ok n r.f1 hn1 hn2 (by omega) (by omega) (k + 1) (by omega)
        rw [if_neg h1, e1, e3, decide_eq_true (by omega : 0 ≤ r.f1), decide_eq_true (by omega : r.f1 ≤ 12)]
        simp only [Option.bind_some, Bool.true_and]
        by_cases h2 : q > 4096
        · rw [decide_eq_true h2, hj, decide_eq_false (by omega)]; rfl
        · rw [decide_eq_false h2, decide_eq_true (by omega : q ≤ 4096)]
          unfold paraphrastref01_rel.j0
          simp only [Bool.false_eq_true, if_false, Bool.true_and]
          exact ref_tuples_loop n r.f1 r.f0 r.f2 (by omega) (by omega) r.f2.length 0 k (by omega) (by omega) (by omega)
theorem rdT_nat (l : List S52) (i : Nat) (h : i < l.length) : rd_T52 l (i : Int) = l[i] := by unfold rd_T52; rw [Int.toNat_natCast, List.getD_eq_getElem?_getD, List.getElem?_eq_getElem h]; rfl
theorem valid_j2 (k : Nat) (n : Int) (l : List S52) (i : Nat) (b : Bool) (f0 : ByteArray) (f1 : Int) (f2 : List (List Int)) (hi : i < l.length) (hl : l.length ≤ 8) :
    shape_Valid.j2 (k + 1) (i : Int) l (l.length : Int) (i : Int) b n l f0 f1 f2 = if b = true then some false else if (l.take i).any (nameIs f0) = true then some false else shape_Valid.l0 k l (l.length : Int) ((i + 1 : Nat) : Int) n l := by
  conv => lhs; unfold shape_Valid.j2
  cases b with
  | true => rfl
  | false =>
    simp only [Bool.false_eq_true, if_false]
    rw [if_pos (by omega), if_pos (by omega), w64 (by omega) (by omega), Int.toNat_natCast, show ((i + 1 : Nat) : Int) = (i : Int) + 1 by omega]
    rfl
theorem valid_loop (n : Int) (hn1 : 1 ≤ n) (hn2 : n ≤ 64) (l : List S52) (hl : l.length ≤ 8) (T : Nat) (hT : T ≤ 9223372036854775807) (hall : ∀ r ∈ l, r.f2.length ≤ T) : ∀ (d i k : Nat), i + d = l.length → d * 2 + T + 200 ≤ k →
    shape_Valid.l0 k l (l.length : Int) (i : Int) n l = some (relsV n l d i)
  | 0, i, k + 1, h, hk => by unfold shape_Valid.l0; rw [if_neg (by omega)]; rfl
  | d + 1, i, k + 1, h, hk => by
    have hi : i < l.length := by omega
    have hr := hall _ (List.getElem_mem hi)
    rw [← rdT_nat l i hi] at hr
    obtain ⟨k, rfl⟩ : ∃ k', k = k' + 1 := ⟨k - 1, by omega⟩
    have ih := valid_loop n hn1 hn2 l hl T hT hall d (i + 1) k (by omega) (by omega)
    unfold shape_Valid.l0 relsV
    rw [if_pos (by omega), if_pos (by omega), if_pos (by omega), name_eq _ _ (by omega)]
    generalize rd_T52 l (i : Int) = r at hr ⊢
    simp only [Option.bind_some, valid_j2 k n l i _ r.f0 r.f1 r.f2 hi hl, ih, if_true]
    unfold relV
    cases hn : nameB r.f0 with
    | false => simp
    | true =>
      by_cases h0 : r.f1 < 0
      · rw [if_pos rfl, if_pos h0, decide_eq_false (by omega)]; simp
      · by_cases h1 : r.f1 > 12
        · rw [if_pos rfl, if_neg h0, if_pos h1, decide_eq_false (by omega : ¬ r.f1 ≤ 12)]; simp
        · obtain ⟨q, _, e2, hq, e3⟩ := pow_ok n r.f1 hn1 hn2 (by omega) (by omega) (k + 1) (by omega)
          rw [if_pos rfl, if_neg h0, if_neg h1, e2, e3, decide_eq_true (by omega : 0 ≤ r.f1), decide_eq_true (by omega : r.f1 ≤ 12)]
          simp only [Option.bind_some]
          by_cases h2 : q > 4096
          · rw [if_pos h2, if_pos (by omega), decide_eq_false (by omega)]; simp
          · rw [if_neg h2, if_neg (by omega), decide_eq_true (by omega : q ≤ 4096)]
            have ht : shape_tuples.f (k + 1) n r.f0 r.f1 r.f2 = some (tupsV n r.f1 r.f2 r.f2.length 0) := tuples_loop n r.f1 r.f0 0 r.f2 (by omega) (by omega) r.f2.length 0 (k + 1) (by omega) (by omega) (by omega)
            rw [ht]
            simp only [Option.bind_some, Bool.true_and]
            cases tupsV n r.f1 r.f2 r.f2.length 0 <;> cases (l.take i).any (nameIs r.f0) <;> rfl
theorem valid_eq (n : Int) (l : List S52) (T : Nat) (hT : T ≤ 9223372036854775807) (hall : ∀ r ∈ l, r.f2.length ≤ T) (k : Nat) (hk : T + 300 ≤ k) : shape_Valid.f k n l = some (validB n l) := by
  obtain ⟨k, rfl⟩ : ∃ k', k = k' + 1 := ⟨k - 1, by omega⟩
  have hj : shape_Valid.j0 (k + 1) true n l = some false := rfl
  unfold shape_Valid.f validB
  by_cases h1 : n < 1
  · rw [if_pos h1, hj, decide_eq_false (by omega)]; rfl
  · rw [if_neg h1]
    by_cases h2 : n > 64
    · rw [if_pos h2, hj, decide_eq_false (by omega : ¬ n ≤ 64)]; simp
    · rw [if_neg h2, decide_eq_true (by omega : 1 ≤ n), decide_eq_true (by omega : n ≤ 64)]
      by_cases h3 : (l.length : Int) > 8
      · rw [decide_eq_true h3, hj, decide_eq_false (by omega)]; rfl
      · rw [decide_eq_false h3, decide_eq_true (by omega : l.length ≤ 8)]
        unfold shape_Valid.j0
        simp only [Bool.false_eq_true, if_false, Bool.true_and]
        exact valid_loop n (by omega) (by omega) l (by omega) T hT hall l.length 0 k (by omega) (by omega)
theorem ref_names (n : Int) (l : List S52) (hl : l.length ≤ 8) (i : Nat) (hi : i < l.length) (R : Bool) (B : Nat) (hR : ∀ k, B ≤ k → paraphrastref01_Valid.l0 k ((i + 1 : Nat) : Int) n l = some R) : ∀ (m j k : Nat), j + m = i → m + B + 1 ≤ k →
    paraphrastref01_Valid.l1 k (i : Int) (j : Int) n l = some (!((l.take i).drop j).any (nameIs (rd_T52 l i).f0) && R)
  | 0, j, k + 1, h, hk => by
    unfold paraphrastref01_Valid.l1
    rw [if_neg (by omega), w64 (by omega) (by omega), show (i : Int) + 1 = ((i + 1 : Nat) : Int) by omega, hR k (by omega), List.drop_eq_nil_of_le (by simp; omega)]
    rfl
  | m + 1, j, k + 1, h, hk => by
    have ih := ref_names n l hl i hi R B hR m (j + 1) k (by omega) (by omega)
    unfold paraphrastref01_Valid.l1
    rw [if_pos (by omega), if_pos (by omega), if_pos (by omega), if_pos (by omega), if_pos (by omega), w64 (by omega) (by omega), show (j : Int) + 1 = ((j + 1 : Nat) : Int) by omega, ih, List.drop_eq_getElem_cons (show j < (l.take i).length by simp; omega), List.any_cons, List.getElem_take, rdT_nat l j (by omega)]
    unfold nameIs
    by_cases he : l[j].f0.toList = (rd_T52 l i).f0.toList
    · rw [if_pos he, beq_iff_eq.2 he]; rfl
    · rw [if_neg he, beq_eq_false_iff_ne.2 he]; rfl
theorem ref_valid_loop (n : Int) (hn1 : 1 ≤ n) (hn2 : n ≤ 64) (l : List S52) (hl : l.length ≤ 8) (T : Nat) (hT : T ≤ 9223372036854775807) (hall : ∀ r ∈ l, r.f2.length ≤ T) : ∀ (d i k : Nat), i + d = l.length → d * 12 + T + 200 ≤ k →
    paraphrastref01_Valid.l0 k (i : Int) n l = some (relsV n l d i)
  | 0, i, k + 1, h, hk => by unfold paraphrastref01_Valid.l0; rw [if_neg (by omega)]; rfl
  | d + 1, i, k + 1, h, hk => by
    have hi : i < l.length := by omega
    have hr := hall _ (List.getElem_mem hi)
    rw [← rdT_nat l i hi] at hr
    obtain ⟨B, hB⟩ : ∃ B : Nat, B = d * 12 + T + 200 := ⟨_, rfl⟩
    have IH : ∀ k', B ≤ k' → paraphrastref01_Valid.l0 k' ((i + 1 : Nat) : Int) n l = some (relsV n l d (i + 1)) := fun k' hk' => ref_valid_loop n hn1 hn2 l hl T hT hall d (i + 1) k' (by omega) (by omega)
    have hnm := ref_names n l hl i hi (relsV n l d (i + 1)) B IH i 0 k (by omega) (by omega)
    unfold paraphrastref01_Valid.l0 relsV
    rw [if_pos (by omega), if_pos (by omega), ref_rel_eq T hT n hn1 hn2 (rd_T52 l (i : Int)) hr k (by omega)]
    simp only [Option.bind_some]
    cases relV n (rd_T52 l (i : Int)) with
    | false => simp
    | true =>
      rw [if_pos rfl]
      rw [show ((0 : Nat) : Int) = 0 from rfl] at hnm
      rw [hnm, List.drop_zero, Bool.true_and]
theorem ref_valid_eq (n : Int) (l : List S52) (T : Nat) (hT : T ≤ 9223372036854775807) (hall : ∀ r ∈ l, r.f2.length ≤ T) (k : Nat) (hk : T + 400 ≤ k) : paraphrastref01_Valid.f k n l = some (validB n l) := by
  obtain ⟨k, rfl⟩ : ∃ k', k = k' + 1 := ⟨k - 1, by omega⟩
  have hj : paraphrastref01_Valid.j0 (k + 1) true n l = some false := rfl
  unfold paraphrastref01_Valid.f validB
  by_cases h1 : n < 1
  · rw [if_pos h1, hj, decide_eq_false (by omega)]; rfl
  · rw [if_neg h1]
    by_cases h2 : n > 64
    · rw [if_pos h2, hj, decide_eq_false (by omega : ¬ n ≤ 64)]; simp
    · rw [if_neg h2, decide_eq_true (by omega : 1 ≤ n), decide_eq_true (by omega : n ≤ 64)]
      by_cases h3 : (l.length : Int) > 8
      · rw [decide_eq_true h3, hj, decide_eq_false (by omega)]; rfl
      · rw [decide_eq_false h3, decide_eq_true (by omega : l.length ≤ 8)]
        unfold paraphrastref01_Valid.j0
        simp only [Bool.false_eq_true, if_false, Bool.true_and]
        exact ref_valid_loop n (by omega) (by omega) l (by omega) T hT hall l.length 0 k (by omega) (by omega)
end Go.Proofs.YtfmpaofbnjlniaaGreatDoor.F
/- Reading back what has been written: splitting a text whose parts do not hold the separator's first byte; the numbers 0 to 99; parseB of textL. -/
namespace Go.Proofs.YtfmpaofbnjlniaaGreatDoor.F
open Go.RowKit Go.Proofs.YtfmpaofbnjlniaaGreatDoorW.PrintWords
set_option linter.unusedVariables false
/-! ### numbers -/
/-! ### names -/
/-! ### tuples, relations, structures -/
/-- What a tuple of a valid structure is like, as far as its text goes. -/
def tupOk (t : List Int) : Prop := ∀ x ∈ t, 0 ≤ x ∧ x < 100
def relOk (r : S52) : Prop := nameB r.f0 = true ∧ (0 ≤ r.f1 ∧ r.f1 < 100) ∧ ∀ t ∈ r.f2, tupOk t
/-! ### how long a text is -/
/-! ### what a valid structure is like -/
theorem tupsV_all (n a : Int) (l : List (List Int)) : ∀ (d i : Nat), tupsV n a l d i = true → i + d = l.length → ∀ j (hj : j < l.length), i ≤ j → tupV n a l[j] = true ∧ (0 < j → ∃ h : j - 1 < l.length, lexL l[j - 1] l[j] = true)
  | 0, i, _, h, j, hj, hi => by omega
  | d + 1, i, h, hl, j, hj, hi => by
    unfold tupsV at h
    simp only [Bool.and_eq_true, Bool.or_eq_true, decide_eq_true_eq] at h
    by_cases e : j = i
    · subst e
      have r1 : rd_L2 l (j : Int) = l[j] := by unfold rd_L2; rw [Int.toNat_natCast, List.getD_eq_getElem?_getD, List.getElem?_eq_getElem hj]; rfl
      rw [r1] at h
      refine ⟨h.1.1, fun h0 => ⟨by omega, ?_⟩⟩
      have h2 := h.1.2.resolve_left (by omega)
      have r2 : rd_L2 l ((j : Int) - 1) = l[j - 1]'(by omega) := by unfold rd_L2; rw [show ((j : Int) - 1).toNat = j - 1 by omega, List.getD_eq_getElem?_getD, List.getElem?_eq_getElem (by omega)]; rfl
      rw [r2] at h2
      exact h2
    · exact tupsV_all n a l d (i + 1) h.2 (by omega) j hj (by omega)
theorem tupV_in (n a : Int) (t : List Int) (h : tupV n a t = true) : (t.length : Int) = a ∧ ∀ x ∈ t, 0 ≤ x ∧ x < n := by
  unfold tupV at h
  simp only [Bool.and_eq_true, decide_eq_true_eq, Bool.not_eq_true', List.any_eq_false] at h
  refine ⟨h.1, fun x hx => ?_⟩
  have := h.2 x hx
  simp only [outB, Bool.or_eq_true, decide_eq_true_eq] at this
  omega
theorem rel_facts (n : Int) (hn1 : 1 ≤ n) (hn2 : n ≤ 64) (r : S52) (h : relV n r = true) : relOk r ∧ (0 ≤ r.f1 ∧ r.f1 ≤ 12) ∧ (∀ t ∈ r.f2, (t.length : Int) = r.f1 ∧ ∀ x ∈ t, 0 ≤ x ∧ x < n) ∧ r.f2.length ≤ 4096 := by
  unfold relV at h
  simp only [Bool.and_eq_true, decide_eq_true_eq] at h
  obtain ⟨⟨⟨⟨h1, h2⟩, h3⟩, h4⟩, h5⟩ := h
  have hA := tupsV_all n r.f1 r.f2 r.f2.length 0 h5 (by omega)
  have hT : ∀ t ∈ r.f2, (t.length : Int) = r.f1 ∧ ∀ x ∈ t, 0 ≤ x ∧ x < n := fun t ht => by
    obtain ⟨j, hj, rfl⟩ := List.getElem_of_mem ht
    exact tupV_in n r.f1 _ (hA j hj (by omega)).1
  have hV : ∀ (j : Nat) (hj : j < r.f2.length), (j : Int) ≤ val n 0 r.f2[j] := by
    intro j
    induction j with
    | zero => intro hj; exact (val_bound n hn1 _ (hT _ (List.getElem_mem hj)).2).1
    | succ j ih =>
      intro hj
      have h1 := ih (by omega)
      obtain ⟨_, h2⟩ := (hA (j + 1) hj (by omega)).2 (by omega)
      simp only [Nat.add_sub_cancel] at h2
      have t1 := hT _ (List.getElem_mem (show j < r.f2.length by omega))
      have t2 := hT _ (List.getElem_mem hj)
      have := (val_order n hn1 (r.f2[j]'(by omega)) r.f2[j + 1] (by omega) t1.2 t2.2).1
      rw [h2, decide_eq_true_eq] at this
      omega
  refine ⟨⟨h1, ⟨h2, by omega⟩, fun t ht x hx => ?_⟩, ⟨h2, h3⟩, hT, ?_⟩
  · have := (hT t ht).2 x hx; omega
  · obtain ⟨q, e1, _, hq1, e2⟩ := pow_ok n r.f1 hn1 hn2 h2 h3 14 (Nat.le_refl _)
    rw [e2, decide_eq_true_eq] at h4
    have hq := pow_exact n r.f1 hn1 hn2 h3 r.f1.toNat 1 0 14 q (by omega) (by omega) (by omega) (by omega) e1 h4
    by_cases hz : r.f2.length = 0
    · omega
    · have hj : r.f2.length - 1 < r.f2.length := by omega
      have b1 := hV _ hj
      have t1 := hT _ (List.getElem_mem hj)
      have b2 := (val_bound n hn1 _ t1.2).2
      rw [show (r.f2[r.f2.length - 1]'hj).length = r.f1.toNat by omega] at b2
      rw [Int.one_mul] at hq
      omega
theorem relsV_all (n : Int) (l : List S52) : ∀ (d i : Nat), relsV n l d i = true → i + d = l.length → ∀ j (hj : j < l.length), i ≤ j → relV n l[j] = true
  | 0, i, _, h, j, hj, hi => by omega
  | d + 1, i, h, hl, j, hj, hi => by
    unfold relsV at h
    simp only [Bool.and_eq_true] at h
    by_cases e : j = i
    · subst e
      rw [rdT_nat l j hj] at h
      exact h.1.1
    · exact relsV_all n l d (i + 1) h.2 (by omega) j hj (by omega)
theorem valid_facts (n : Int) (l : List S52) (h : validB n l = true) : 1 ≤ n ∧ n ≤ 64 ∧ l.length ≤ 8 ∧ ∀ r ∈ l, relOk r ∧ (0 ≤ r.f1 ∧ r.f1 ≤ 12) ∧ (∀ t ∈ r.f2, (t.length : Int) = r.f1 ∧ ∀ x ∈ t, 0 ≤ x ∧ x < n) ∧ r.f2.length ≤ 4096 := by
  unfold validB at h
  simp only [Bool.and_eq_true, decide_eq_true_eq] at h
  obtain ⟨⟨⟨h1, h2⟩, h3⟩, h4⟩ := h
  refine ⟨h1, h2, h3, fun r hr => ?_⟩
  obtain ⟨j, hj, rfl⟩ := List.getElem_of_mem hr
  exact rel_facts n h1 h2 _ (relsV_all n l l.length 0 h4 (by omega) j hj (by omega))
end Go.Proofs.YtfmpaofbnjlniaaGreatDoor.F
namespace Go.Proofs.YtfmpaofbnjlniaaGreatDoor.F
open Go.RowKit Go.Proofs.YtfmpaofbnjlniaaGreatDoorW.PrintWords Go.Proofs.YtfmpaofbnjlniaaGreatDoorW.PrintLast Go.Proofs.YtfmpaofbnjlniaaGreatDoorW.PrintMore
attribute [local go_sem] max2_int min2_int max_two min_two max_three min_three max_four min_four
set_option linter.unusedVariables false
set_option linter.unusedSimpArgs false
/-! ### paraphrastlaw01_Few: function 9 -/
mutual
def paraphrastlaw01_Few.l0 : Nat → List (S24) → Int → Int → Int → Option (Bool)
 | 0, _, _, _, _ => none
 | k + 1, x0, x3, x4, x5 => if x5 < (x0.length : Int) then (if 0 ≤ x5 then (if (((rd_T24 x0 x5).f1).length : Int) > 12 then (some false) else (paraphrastlaw01_Few.l1 k x0 x3 x4 x5 0)) else (none)) else (some (decide (x4 ≤ 20000)))
def paraphrastlaw01_Few.l1 : Nat → List (S24) → Int → Int → Int → Int → Option (Bool)
 | 0, _, _, _, _, _ => none
 | k + 1, x0, x3, x4, x5, x6 => if 0 ≤ x5 then (if x5 < (x0.length : Int) then (if x6 < (((rd_T24 x0 x5).f1).length : Int) then (if 0 ≤ x6 then (if (wrap64 (x3 + (((rd_T52 ((rd_T24 x0 x5).f1) x6).f2).length : Int))) > 1500 then (paraphrastlaw01_Few.j2 k x0 (wrap64 (x3 + (((rd_T52 ((rd_T24 x0 x5).f1) x6).f2).length : Int))) x4 x5 x6 true) else (paraphrastlaw01_Few.j2 k x0 (wrap64 (x3 + (((rd_T52 ((rd_T24 x0 x5).f1) x6).f2).length : Int))) x4 x5 x6 (decide ((((rd_T52 ((rd_T24 x0 x5).f1) x6).f0).size : Int) > 1000)))) else (none)) else (paraphrastlaw01_Few.l0 k x0 x3 x4 (wrap64 (x5 + 1)))) else (none)) else (none)
def paraphrastlaw01_Few.j2 : Nat → List (S24) → Int → Int → Int → Int → Bool → Option (Bool)
 | 0, _, _, _, _, _, _ => none
 | k + 1, x0, x3, x4, x5, x6, x57 => if x57 = true then (some false) else (paraphrastlaw01_Few.l2 k x0 x3 x4 x5 x6 0)
def paraphrastlaw01_Few.l2 : Nat → List (S24) → Int → Int → Int → Int → Int → Option (Bool)
 | 0, _, _, _, _, _, _ => none
 | k + 1, x0, x3, x4, x5, x6, x7 => if 0 ≤ x5 then (if x5 < (x0.length : Int) then (if 0 ≤ x6 then (if x6 < (((rd_T24 x0 x5).f1).length : Int) then (if x7 < (((rd_T52 ((rd_T24 x0 x5).f1) x6).f2).length : Int) then (if 0 ≤ x7 then (paraphrastlaw01_Few.l2 k x0 x3 (wrap64 (x4 + ((rd_L2 ((rd_T52 ((rd_T24 x0 x5).f1) x6).f2) x7).length : Int))) x5 x6 (wrap64 (x7 + 1))) else (none)) else (paraphrastlaw01_Few.l1 k x0 x3 x4 x5 (wrap64 (x6 + 1)))) else (none)) else (none)) else (none)) else (none)
end
def paraphrastlaw01_Few.f (k : Nat) (l0 : List (S24)) : Option (Bool) := paraphrastlaw01_Few.l0 k l0 0 0 0
theorem paraphrastlaw01_Few.mono_l : ∀ k, (∀ y0 y1 y2 y3, LeO (paraphrastlaw01_Few.l0 k y0 y1 y2 y3) (paraphrastlaw01_Few.l0 (k + 1) y0 y1 y2 y3)) ∧ (∀ y0 y1 y2 y3 y4, LeO (paraphrastlaw01_Few.l1 k y0 y1 y2 y3 y4) (paraphrastlaw01_Few.l1 (k + 1) y0 y1 y2 y3 y4)) ∧ (∀ y0 y1 y2 y3 y4 y5, LeO (paraphrastlaw01_Few.j2 k y0 y1 y2 y3 y4 y5) (paraphrastlaw01_Few.j2 (k + 1) y0 y1 y2 y3 y4 y5)) ∧ (∀ y0 y1 y2 y3 y4 y5, LeO (paraphrastlaw01_Few.l2 k y0 y1 y2 y3 y4 y5) (paraphrastlaw01_Few.l2 (k + 1) y0 y1 y2 y3 y4 y5))
 | 0 => ⟨fun _ _ _ _ r h => by simp [paraphrastlaw01_Few.l0] at h, fun _ _ _ _ _ r h => by simp [paraphrastlaw01_Few.l1] at h, fun _ _ _ _ _ _ r h => by simp [paraphrastlaw01_Few.j2] at h, fun _ _ _ _ _ _ r h => by simp [paraphrastlaw01_Few.l2] at h⟩
 | k + 1 => by
  obtain ⟨ih0, ih1, ih2, ih3⟩ := paraphrastlaw01_Few.mono_l k
  refine ⟨?_, ?_, ?_, ?_⟩
  ·intro y0 y1 y2 y3
   unfold paraphrastlaw01_Few.l0
   repeat' first
   | (with_reducible exact ih0 _ _ _ _)
   | (with_reducible exact ih1 _ _ _ _ _)
   | (with_reducible exact ih2 _ _ _ _ _ _)
   | (with_reducible exact ih3 _ _ _ _ _ _)
   | (with_reducible exact LeO.refl _)
   | (with_reducible exact LeO.none _)
   | (with_reducible refine LeO.ite ?_ ?_)
   | (with_reducible refine LeO.bind ?_ (fun _ => ?_))
   | exact ih0 _ _ _ _
   | exact ih1 _ _ _ _ _
   | exact ih2 _ _ _ _ _ _
   | exact ih3 _ _ _ _ _ _
   | exact LeO.none _
   | refine LeO.ite ?_ ?_
   | refine LeO.bind ?_ (fun _ => ?_)
  ·intro y0 y1 y2 y3 y4
   unfold paraphrastlaw01_Few.l1
   repeat' first
   | (with_reducible exact ih0 _ _ _ _)
   | (with_reducible exact ih1 _ _ _ _ _)
   | (with_reducible exact ih2 _ _ _ _ _ _)
   | (with_reducible exact ih3 _ _ _ _ _ _)
   | (with_reducible exact LeO.refl _)
   | (with_reducible exact LeO.none _)
   | (with_reducible refine LeO.ite ?_ ?_)
   | (with_reducible refine LeO.bind ?_ (fun _ => ?_))
   | exact ih0 _ _ _ _
   | exact ih1 _ _ _ _ _
   | exact ih2 _ _ _ _ _ _
   | exact ih3 _ _ _ _ _ _
   | exact LeO.none _
   | refine LeO.ite ?_ ?_
   | refine LeO.bind ?_ (fun _ => ?_)
  ·intro y0 y1 y2 y3 y4 y5
   unfold paraphrastlaw01_Few.j2
   repeat' first
   | (with_reducible exact ih0 _ _ _ _)
   | (with_reducible exact ih1 _ _ _ _ _)
   | (with_reducible exact ih2 _ _ _ _ _ _)
   | (with_reducible exact ih3 _ _ _ _ _ _)
   | (with_reducible exact LeO.refl _)
   | (with_reducible exact LeO.none _)
   | (with_reducible refine LeO.ite ?_ ?_)
   | (with_reducible refine LeO.bind ?_ (fun _ => ?_))
   | exact ih0 _ _ _ _
   | exact ih1 _ _ _ _ _
   | exact ih2 _ _ _ _ _ _
   | exact ih3 _ _ _ _ _ _
   | exact LeO.none _
   | refine LeO.ite ?_ ?_
   | refine LeO.bind ?_ (fun _ => ?_)
  ·intro y0 y1 y2 y3 y4 y5
   unfold paraphrastlaw01_Few.l2
   repeat' first
   | (with_reducible exact ih0 _ _ _ _)
   | (with_reducible exact ih1 _ _ _ _ _)
   | (with_reducible exact ih2 _ _ _ _ _ _)
   | (with_reducible exact ih3 _ _ _ _ _ _)
   | (with_reducible exact LeO.refl _)
   | (with_reducible exact LeO.none _)
   | (with_reducible refine LeO.ite ?_ ?_)
   | (with_reducible refine LeO.bind ?_ (fun _ => ?_))
   | exact ih0 _ _ _ _
   | exact ih1 _ _ _ _ _
   | exact ih2 _ _ _ _ _ _
   | exact ih3 _ _ _ _ _ _
   | exact LeO.none _
   | refine LeO.ite ?_ ?_
   | refine LeO.bind ?_ (fun _ => ?_)
theorem paraphrastlaw01_Few.mono : ∀ a0 k, LeO (paraphrastlaw01_Few.f k a0) (paraphrastlaw01_Few.f (k + 1) a0) := by
 intro a0 k
 obtain ⟨ih0, ih1, ih2, ih3⟩ := paraphrastlaw01_Few.mono_l k
 unfold paraphrastlaw01_Few.f
 repeat' first
   | (with_reducible exact ih0 _ _ _ _)
   | (with_reducible exact ih1 _ _ _ _ _)
   | (with_reducible exact ih2 _ _ _ _ _ _)
   | (with_reducible exact ih3 _ _ _ _ _ _)
   | (with_reducible exact LeO.refl _)
   | (with_reducible exact LeO.none _)
   | (with_reducible refine LeO.ite ?_ ?_)
   | (with_reducible refine LeO.bind ?_ (fun _ => ?_))
   | exact ih0 _ _ _ _
   | exact ih1 _ _ _ _ _
   | exact ih2 _ _ _ _ _ _
   | exact ih3 _ _ _ _ _ _
   | exact LeO.none _
   | refine LeO.ite ?_ ?_
   | refine LeO.bind ?_ (fun _ => ?_)
set_option maxHeartbeats 8000000 in
set_option maxRecDepth 100000 in
theorem paraphrastlaw01_Few.calls (k : Nat) (A0 : Option Addr) (c0 : Nat) (l0 : List (S24)) (r : Bool) (w : World) (hr0 : Kd.C k24 w A0 l0.length l0) (hc0 : l0.length ≤ c0) (h : paraphrastlaw01_Few.f k l0 = some r) :
  Calls Tryz.prog 9 #[.slice A0 l0.length c0] w fun e w' => e = .returned (.bool r) ∧ Drawn0 w w' := by
 have HR0 := Aside0.mk hr0
 have HC0 := Aside0.mk hc0
 clear hr0 hc0
 have H : (paraphrastlaw01_Few.l0 k l0 0 0 0) = some r := h
 clear h
 have H' := Aside0.mk H
 clear H
 go_enter Tryz.func9, Tryz.ntmps9
 go_wp2
 go_loopg [3, 4, 5] k (fun kq v3 v4 v5 w' => ∃ (x3_1 : Int) (x4_1 : Int) (x5_1 : Int), v3 = .int .i64 x3_1 ∧ v4 = .int .i64 x4_1 ∧ v5 = .int .i64 x5_1 ∧ Aside0 (paraphrastlaw01_Few.l0 kq l0 x3_1 x4_1 x5_1 = some r) ∧ Aside0 (kq ≤ k) ∧ Drawn0 w w')
 case atStart => exact ⟨(0), (0), (0), eS, eS, eS, H', ⟨Nat.le_refl _⟩, dr0⟩
 case round =>
  clear H'
  obtain ⟨x3_1, x4_1, x5_1, rfl, rfl, rfl, HA, HK1, ⟨m1, rfl⟩⟩ := hrel
  cases gk with
  | zero => exact absurd HA.out (by simp [paraphrastlaw01_Few.l0])
  | succ k1 =>
   have H := HA.out
   clear HA
   simp only [paraphrastlaw01_Few.l0] at H
   by_cases c2 : x5_1 < (l0.length : Int)
   ·rw [if_pos c2] at H
    have c2b0 : decide (x5_1 < (l0.length : Int)) = true := decide_eq_true c2
    clear c2
    by_cases c3 : 0 ≤ x5_1
    ·rw [if_pos c3] at H
     have c3b0 : decide (0 ≤ x5_1) = true := decide_eq_true c3
     clear c3
     by_cases c4 : (((rd_T24 l0 x5_1).f1).length : Int) > 12
     ·rw [if_pos c4] at H
      have c4b0 : decide (12 < (((rd_T24 l0 x5_1).f1).length : Int)) = true := decide_eq_true c4
      have c4b1 : decide (12 < ((rd_T24 l0 x5_1).f1).length) = true := decide_eq_true (by omega)
      clear c4
      obtain rfl := Option.some.inj H
      have p101 : 0 ≤ (x5_1 : Int) := dtr
      have q101 : x5_1 < (l0.length : Int) := dtr
      obtain ⟨ad101, A101_1, c101_1, e101, hx101_0, hx101_1, hl101_1, hi101_1⟩ := at_T24 HR0.out x5_1 p101 q101
      cases e101
      have HR101_1 := Aside0.mk hi101_1
      have HC101_1 := Aside0.mk hl101_1
      clear hi101_1 hl101_1
      replace p101 := eq_true p101
      replace q101 := eq_true q101
      go_wp2
      go_ret
      exact ⟨eS, dr0⟩
     ·rw [if_neg c4] at H
      have c4b0 : decide (12 < (((rd_T24 l0 x5_1).f1).length : Int)) = false := decide_eq_false c4
      have c4b1 : decide (12 < ((rd_T24 l0 x5_1).f1).length) = false := decide_eq_false (by omega)
      clear c4
      have H' := Aside0.mk H
      clear H
      have p101 : 0 ≤ (x5_1 : Int) := dtr
      have q101 : x5_1 < (l0.length : Int) := dtr
      obtain ⟨ad101, A101_1, c101_1, e101, hx101_0, hx101_1, hl101_1, hi101_1⟩ := at_T24 HR0.out x5_1 p101 q101
      cases e101
      have HR101_1 := Aside0.mk hi101_1
      have HC101_1 := Aside0.mk hl101_1
      clear hi101_1 hl101_1
      replace p101 := eq_true p101
      replace q101 := eq_true q101
      go_wp2
      go_loopg [3, 4, 6] k1 (fun kq v3 v4 v6 w' => ∃ (x3_2 : Int) (x4_2 : Int) (x6_2 : Int), v3 = .int .i64 x3_2 ∧ v4 = .int .i64 x4_2 ∧ v6 = .int .i64 x6_2 ∧ Aside0 (paraphrastlaw01_Few.l1 kq l0 x3_2 x4_2 x5_1 x6_2 = some r) ∧ Aside0 (kq ≤ k1) ∧ Drawn0 w w')
      case atStart => exact ⟨(x3_1), (x4_1), (0), eS, eS, eS, H', ⟨Nat.le_refl _⟩, dr0⟩
      case round =>
       clear H'
       (try clear c2); (try clear c2b0); (try clear c3); (try clear c3b0); (try clear c4); (try clear c4b0); (try clear c4b1); (try clear hx101_0); (try clear hx101_1); (try clear p101); (try clear q101)
       obtain ⟨x3_2, x4_2, x6_2, rfl, rfl, rfl, HA, HK2, ⟨m2, rfl⟩⟩ := hrel
       cases gk with
       | zero => exact absurd HA.out (by simp [paraphrastlaw01_Few.l1])
       | succ k2 =>
        have H := HA.out
        clear HA
        simp only [paraphrastlaw01_Few.l1] at H
        by_cases c5 : 0 ≤ x5_1
        ·rw [if_pos c5] at H
         have c5b0 : decide (0 ≤ x5_1) = true := decide_eq_true c5
         clear c5
         by_cases c6 : x5_1 < (l0.length : Int)
         ·rw [if_pos c6] at H
          have c6b0 : decide (x5_1 < (l0.length : Int)) = true := decide_eq_true c6
          clear c6
          by_cases c7 : x6_2 < (((rd_T24 l0 x5_1).f1).length : Int)
          ·rw [if_pos c7] at H
           have c7b0 : decide (x6_2 < (((rd_T24 l0 x5_1).f1).length : Int)) = true := decide_eq_true c7
           clear c7
           by_cases c8 : 0 ≤ x6_2
           ·rw [if_pos c8] at H
            have c8b0 : decide (0 ≤ x6_2) = true := decide_eq_true c8
            clear c8
            have HC9 := Aside0.mk H
            clear H
            have p102 : 0 ≤ (x5_1 : Int) := dtr
            have q102 : x5_1 < (l0.length : Int) := dtr
            obtain ⟨ad102, A102_1, c102_1, e102, hx102_0, hx102_1, hl102_1, hi102_1⟩ := at_T24 HR0.out x5_1 p102 q102
            obtain rfl : ad101 = ad102 := (by injection e102)
            have HR102_1 := Aside0.mk hi102_1
            have HC102_1 := Aside0.mk hl102_1
            clear hi102_1 hl102_1
            replace p102 := eq_true p102
            replace q102 := eq_true q102
            have p103 : 0 ≤ (x5_1 : Int) := dtr
            have q103 : x5_1 < (l0.length : Int) := dtr
            obtain ⟨ad103, A103_1, c103_1, e103, hx103_0, hx103_1, hl103_1, hi103_1⟩ := at_T24 HR0.out x5_1 p103 q103
            obtain rfl : ad101 = ad103 := (by injection e103)
            have HR103_1 := Aside0.mk hi103_1
            have HC103_1 := Aside0.mk hl103_1
            clear hi103_1 hl103_1
            replace p103 := eq_true p103
            replace q103 := eq_true q103
            have ea_ := Option.some.inj (hx102_1.symm.trans hx103_1)
            injection ea_ with ea_ en_ ec_
            subst ea_
            subst ec_
            clear en_
            have p104 : 0 ≤ (x6_2 : Int) := dtr
            have q104 : x6_2 < (((rd_T24 l0 x5_1).f1).length : Int) := dtr
            obtain ⟨ad104, A104_2, c104_2, e104, hx104_0, hx104_1, hx104_2, hl104_2, hi104_2⟩ := at_T52 HR103_1.out x6_2 p104 q104
            cases e104
            have HR104_2 := Aside0.mk hi104_2
            have HC104_2 := Aside0.mk hl104_2
            clear hi104_2 hl104_2
            replace p104 := eq_true p104
            replace q104 := eq_true q104
            go_upto_region 11 with (fail)
            go_cut [57] (fun v57 wc => ∃ (kq : Nat) (x57_8 : Bool), v57 = .bool x57_8 ∧ Aside0 (paraphrastlaw01_Few.j2 kq l0 (wrap64 (x3_2 + (((rd_T52 ((rd_T24 l0 x5_1).f1) x6_2).f2).length : Int))) x4_2 x5_1 x6_2 x57_8 = some r) ∧ Aside0 (kq ≤ k2) ∧ Drawn0 w wc)
            case first =>
             have H := HC9.out
             clear HC9
             by_cases c10 : (wrap64 (x3_2 + (((rd_T52 ((rd_T24 l0 x5_1).f1) x6_2).f2).length : Int))) > 1500
             ·rw [if_pos c10] at H
              have c10b0 : decide (1500 < (wrap64 (x3_2 + (((rd_T52 ((rd_T24 l0 x5_1).f1) x6_2).f2).length : Int)))) = true := decide_eq_true c10
              clear c10
              (first | rw [c10b0] | (simp only [i64_w, i32_w]; rw [c10b0]) | skip)
              have H' := Aside0.mk H
              clear H
              go_wp2
              go_meet
              case rel => exact ⟨_, (true), eS, H', ⟨by have := HK1.out; have := HK2.out; first | omega | exact Nat.le_refl _⟩, dr0⟩
             ·rw [if_neg c10] at H
              have c10b0 : decide (1500 < (wrap64 (x3_2 + (((rd_T52 ((rd_T24 l0 x5_1).f1) x6_2).f2).length : Int)))) = false := decide_eq_false c10
              clear c10
              (first | rw [c10b0] | (simp only [i64_w, i32_w]; rw [c10b0]) | skip)
              have H' := Aside0.mk H
              clear H
              have p105 : 0 ≤ (x5_1 : Int) := dtr
              have q105 : x5_1 < (l0.length : Int) := dtr
              obtain ⟨ad105, A105_1, c105_1, e105, hx105_0, hx105_1, hl105_1, hi105_1⟩ := at_T24 HR0.out x5_1 p105 q105
              obtain rfl : ad101 = ad105 := (by injection e105)
              have HR105_1 := Aside0.mk hi105_1
              have HC105_1 := Aside0.mk hl105_1
              clear hi105_1 hl105_1
              replace p105 := eq_true p105
              replace q105 := eq_true q105
              have p106 : 0 ≤ (x6_2 : Int) := dtr
              have q106 : x6_2 < (((rd_T24 l0 x5_1).f1).length : Int) := dtr
              obtain ⟨ad106, A106_2, c106_2, e106, hx106_0, hx106_1, hx106_2, hl106_2, hi106_2⟩ := at_T52 HR105_1.out x6_2 p106 q106
              cases e106
              have HR106_2 := Aside0.mk hi106_2
              have HC106_2 := Aside0.mk hl106_2
              clear hi106_2 hl106_2
              replace p106 := eq_true p106
              replace q106 := eq_true q106
              go_wp2
              go_meet
              case rel => exact ⟨_, (decide ((((rd_T52 ((rd_T24 l0 x5_1).f1) x6_2).f0).size : Int) > 1000)), eS, H', ⟨by have := HK1.out; have := HK2.out; first | omega | exact Nat.le_refl _⟩, dr0⟩
            case rest =>
             clear HC9
             (try clear c2); (try clear c2b0); (try clear c3); (try clear c3b0); (try clear c4); (try clear c4b0); (try clear c4b1); (try clear c5); (try clear c5b0); (try clear c6); (try clear c6b0); (try clear c7); (try clear c7b0); (try clear c8); (try clear c8b0); (try clear hx101_0); (try clear hx101_1); (try clear hx102_0); (try clear hx102_1); (try clear hx103_0); (try clear hx103_1); (try clear hx104_0); (try clear hx104_1); (try clear hx104_2); (try clear p101); (try clear p102); (try clear p103); (try clear p104); (try clear q101); (try clear q102); (try clear q103); (try clear q104)
             obtain ⟨kq, x57_8, rfl, HA, HJ8, ⟨mc8, rfl⟩⟩ := hcut
             cases kq with
             | zero => exact absurd HA.out (by simp [paraphrastlaw01_Few.j2])
             | succ kj8 =>
              have H := HA.out
              clear HA
              simp only [paraphrastlaw01_Few.j2] at H
              by_cases c11 : x57_8 = true
              ·subst c11
               have H1 : (some false) = some r := by rw [if_pos rfl] at H; exact H
               clear H
               have H := H1
               clear H1
               obtain rfl := Option.some.inj H
               go_wp2
               go_ret
               exact ⟨eS, dr0⟩
              ·replace c11 := Bool.eq_false_iff.mpr c11
               subst c11
               have H1 : (paraphrastlaw01_Few.l2 kj8 l0 (wrap64 (x3_2 + (((rd_T52 ((rd_T24 l0 x5_1).f1) x6_2).f2).length : Int))) x4_2 x5_1 x6_2 0) = some r := by rw [if_neg (show ¬ (false = true) by decide)] at H; exact H
               clear H
               have H := H1
               clear H1
               have H' := Aside0.mk H
               clear H
               go_wp2
               go_loopg [4, 7] kj8 (fun kq v4 v7 w' => ∃ (x4_4 : Int) (x7_4 : Int), v4 = .int .i64 x4_4 ∧ v7 = .int .i64 x7_4 ∧ Aside0 (paraphrastlaw01_Few.l2 kq l0 (wrap64 (x3_2 + (((rd_T52 ((rd_T24 l0 x5_1).f1) x6_2).f2).length : Int))) x4_4 x5_1 x6_2 x7_4 = some r) ∧ Aside0 (kq ≤ kj8) ∧ Drawn0 w w')
               case atStart => exact ⟨(x4_2), (0), eS, eS, H', ⟨Nat.le_refl _⟩, dr0⟩
               case round =>
                clear H'
                (try clear c2); (try clear c2b0); (try clear c3); (try clear c3b0); (try clear c4); (try clear c4b0); (try clear c4b1); (try clear c5); (try clear c5b0); (try clear c6); (try clear c6b0); (try clear c7); (try clear c7b0); (try clear c8); (try clear c8b0); (try clear c11); (try clear hx101_0); (try clear hx101_1); (try clear hx102_0); (try clear hx102_1); (try clear hx103_0); (try clear hx103_1); (try clear hx104_0); (try clear hx104_1); (try clear hx104_2); (try clear p101); (try clear p102); (try clear p103); (try clear p104); (try clear q101); (try clear q102); (try clear q103); (try clear q104)
                obtain ⟨x4_4, x7_4, rfl, rfl, HA, HK4, ⟨m4, rfl⟩⟩ := hrel
                cases gk with
                | zero => exact absurd HA.out (by simp [paraphrastlaw01_Few.l2])
                | succ k4 =>
                 have H := HA.out
                 clear HA
                 simp only [paraphrastlaw01_Few.l2] at H
                 by_cases c12 : 0 ≤ x5_1
                 ·rw [if_pos c12] at H
                  have c12b0 : decide (0 ≤ x5_1) = true := decide_eq_true c12
                  clear c12
                  by_cases c13 : x5_1 < (l0.length : Int)
                  ·rw [if_pos c13] at H
                   have c13b0 : decide (x5_1 < (l0.length : Int)) = true := decide_eq_true c13
                   clear c13
                   by_cases c14 : 0 ≤ x6_2
                   ·rw [if_pos c14] at H
                    have c14b0 : decide (0 ≤ x6_2) = true := decide_eq_true c14
                    clear c14
                    by_cases c15 : x6_2 < (((rd_T24 l0 x5_1).f1).length : Int)
                    ·rw [if_pos c15] at H
                     have c15b0 : decide (x6_2 < (((rd_T24 l0 x5_1).f1).length : Int)) = true := decide_eq_true c15
                     clear c15
                     by_cases c16 : x7_4 < (((rd_T52 ((rd_T24 l0 x5_1).f1) x6_2).f2).length : Int)
                     ·rw [if_pos c16] at H
                      have c16b0 : decide (x7_4 < (((rd_T52 ((rd_T24 l0 x5_1).f1) x6_2).f2).length : Int)) = true := decide_eq_true c16
                      clear c16
                      by_cases c17 : 0 ≤ x7_4
                      ·rw [if_pos c17] at H
                       have c17b0 : decide (0 ≤ x7_4) = true := decide_eq_true c17
                       clear c17
                       have H' := Aside0.mk H
                       clear H
                       have p107 : 0 ≤ (x5_1 : Int) := dtr
                       have q107 : x5_1 < (l0.length : Int) := dtr
                       obtain ⟨ad107, A107_1, c107_1, e107, hx107_0, hx107_1, hl107_1, hi107_1⟩ := at_T24 HR0.out x5_1 p107 q107
                       obtain rfl : ad101 = ad107 := (by injection e107)
                       have HR107_1 := Aside0.mk hi107_1
                       have HC107_1 := Aside0.mk hl107_1
                       clear hi107_1 hl107_1
                       replace p107 := eq_true p107
                       replace q107 := eq_true q107
                       have p108 : 0 ≤ (x6_2 : Int) := dtr
                       have q108 : x6_2 < (((rd_T24 l0 x5_1).f1).length : Int) := dtr
                       obtain ⟨ad108, A108_2, c108_2, e108, hx108_0, hx108_1, hx108_2, hl108_2, hi108_2⟩ := at_T52 HR107_1.out x6_2 p108 q108
                       cases e108
                       have HR108_2 := Aside0.mk hi108_2
                       have HC108_2 := Aside0.mk hl108_2
                       clear hi108_2 hl108_2
                       replace p108 := eq_true p108
                       replace q108 := eq_true q108
                       have p109 : 0 ≤ (x5_1 : Int) := dtr
                       have q109 : x5_1 < (l0.length : Int) := dtr
                       obtain ⟨ad109, A109_1, c109_1, e109, hx109_0, hx109_1, hl109_1, hi109_1⟩ := at_T24 HR0.out x5_1 p109 q109
                       obtain rfl : ad101 = ad109 := (by injection e109)
                       have HR109_1 := Aside0.mk hi109_1
                       have HC109_1 := Aside0.mk hl109_1
                       clear hi109_1 hl109_1
                       replace p109 := eq_true p109
                       replace q109 := eq_true q109
                       have ea_ := Option.some.inj (hx107_1.symm.trans hx109_1)
                       injection ea_ with ea_ en_ ec_
                       subst ea_
                       subst ec_
                       clear en_
                       have p110 : 0 ≤ (x6_2 : Int) := dtr
                       have q110 : x6_2 < (((rd_T24 l0 x5_1).f1).length : Int) := dtr
                       obtain ⟨ad110, A110_2, c110_2, e110, hx110_0, hx110_1, hx110_2, hl110_2, hi110_2⟩ := at_T52 HR109_1.out x6_2 p110 q110
                       cases e110
                       have HR110_2 := Aside0.mk hi110_2
                       have HC110_2 := Aside0.mk hl110_2
                       clear hi110_2 hl110_2
                       replace p110 := eq_true p110
                       replace q110 := eq_true q110
                       have ea_ := Option.some.inj (hx108_2.symm.trans hx110_2)
                       injection ea_ with ea_ en_ ec_
                       subst ea_
                       subst ec_
                       clear en_
                       have p111 : 0 ≤ (x7_4 : Int) := dtr
                       have q111 : x7_4 < (((rd_T52 ((rd_T24 l0 x5_1).f1) x6_2).f2).length : Int) := dtr
                       obtain ⟨ad111, A111_0, c111_0, e111, hx111_0, hl111_0, hi111_0⟩ := at_L2 HR110_2.out x7_4 p111 q111
                       cases e111
                       have HR111_0 := Aside0.mk hi111_0
                       have HC111_0 := Aside0.mk hl111_0
                       clear hi111_0 hl111_0
                       replace p111 := eq_true p111
                       replace q111 := eq_true q111
                       go_wp2
                       go_roundg k4
                       case measure => have := HK1.out; have := HK2.out; have := HJ8.out; have := HK4.out; omega
                       case rel => exact ⟨(wrap64 (x4_4 + ((rd_L2 ((rd_T52 ((rd_T24 l0 x5_1).f1) x6_2).f2) x7_4).length : Int))), (wrap64 (x7_4 + 1)), eS, eS, H', ⟨by have := HK1.out; have := HK2.out; have := HJ8.out; have := HK4.out; omega⟩, dr0⟩
                      ·rw [if_neg c17] at H
                       exact absurd H (by simp)
                     ·rw [if_neg c16] at H
                      have c16b0 : decide (x7_4 < (((rd_T52 ((rd_T24 l0 x5_1).f1) x6_2).f2).length : Int)) = false := decide_eq_false c16
                      clear c16
                      have H' := Aside0.mk H
                      clear H
                      have p107 : 0 ≤ (x5_1 : Int) := dtr
                      have q107 : x5_1 < (l0.length : Int) := dtr
                      obtain ⟨ad107, A107_1, c107_1, e107, hx107_0, hx107_1, hl107_1, hi107_1⟩ := at_T24 HR0.out x5_1 p107 q107
                      obtain rfl : ad101 = ad107 := (by injection e107)
                      have HR107_1 := Aside0.mk hi107_1
                      have HC107_1 := Aside0.mk hl107_1
                      clear hi107_1 hl107_1
                      replace p107 := eq_true p107
                      replace q107 := eq_true q107
                      have p108 : 0 ≤ (x6_2 : Int) := dtr
                      have q108 : x6_2 < (((rd_T24 l0 x5_1).f1).length : Int) := dtr
                      obtain ⟨ad108, A108_2, c108_2, e108, hx108_0, hx108_1, hx108_2, hl108_2, hi108_2⟩ := at_T52 HR107_1.out x6_2 p108 q108
                      cases e108
                      have HR108_2 := Aside0.mk hi108_2
                      have HC108_2 := Aside0.mk hl108_2
                      clear hi108_2 hl108_2
                      replace p108 := eq_true p108
                      replace q108 := eq_true q108
                      go_wp2
                      go_roundg k4
                      case measure => have := HK1.out; have := HK2.out; have := HJ8.out; have := HK4.out; omega
                      case rel => exact ⟨((wrap64 (x3_2 + (((rd_T52 ((rd_T24 l0 x5_1).f1) x6_2).f2).length : Int)))), (x4_4), (wrap64 (x6_2 + 1)), eS, eS, eS, H', ⟨by have := HK1.out; have := HK2.out; have := HJ8.out; have := HK4.out; omega⟩, dr0⟩
                    ·rw [if_neg c15] at H
                     exact absurd H (by simp)
                   ·rw [if_neg c14] at H
                    exact absurd H (by simp)
                  ·rw [if_neg c13] at H
                   exact absurd H (by simp)
                 ·rw [if_neg c12] at H
                  exact absurd H (by simp)
           ·rw [if_neg c8] at H
            exact absurd H (by simp)
          ·rw [if_neg c7] at H
           have c7b0 : decide (x6_2 < (((rd_T24 l0 x5_1).f1).length : Int)) = false := decide_eq_false c7
           clear c7
           have H' := Aside0.mk H
           clear H
           have p102 : 0 ≤ (x5_1 : Int) := dtr
           have q102 : x5_1 < (l0.length : Int) := dtr
           obtain ⟨ad102, A102_1, c102_1, e102, hx102_0, hx102_1, hl102_1, hi102_1⟩ := at_T24 HR0.out x5_1 p102 q102
           obtain rfl : ad101 = ad102 := (by injection e102)
           have HR102_1 := Aside0.mk hi102_1
           have HC102_1 := Aside0.mk hl102_1
           clear hi102_1 hl102_1
           replace p102 := eq_true p102
           replace q102 := eq_true q102
           go_wp2
           go_roundg k2
           case measure => have := HK1.out; have := HK2.out; omega
           case rel => exact ⟨(x3_2), (x4_2), (wrap64 (x5_1 + 1)), eS, eS, eS, H', ⟨by have := HK1.out; have := HK2.out; omega⟩, dr0⟩
         ·rw [if_neg c6] at H
          exact absurd H (by simp)
        ·rw [if_neg c5] at H
         exact absurd H (by simp)
    ·rw [if_neg c3] at H
     exact absurd H (by simp)
   ·rw [if_neg c2] at H
    have c2b0 : decide (x5_1 < (l0.length : Int)) = false := decide_eq_false c2
    clear c2
    obtain rfl := Option.some.inj H
    go_wp2
    go_ret
    exact ⟨eS, dr0⟩
end Go.Proofs.YtfmpaofbnjlniaaGreatDoor.F
/- Few always answers. -/
namespace Go.Proofs.YtfmpaofbnjlniaaGreatDoor.F
open Go.RowKit Go.Proofs.YtfmpaofbnjlniaaGreatDoorW.PrintWords Go.Proofs.YtfmpaofbnjlniaaGreatDoorW.PrintLast Go.Proofs.YtfmpaofbnjlniaaGreatDoorW.PrintMore
set_option linter.unusedVariables false
theorem few_l2 (n : Int) (l : List S52) (i : Nat) (hi : i < l.length) (h8 : l.length ≤ 12) (x3 : Int) (hM : (rd_T52 l (i : Int)).f2.length ≤ 9223372036854775807) (H : ∀ x4, ∃ k b, paraphrastlaw01_Few.l1 k [⟨n, l⟩] x3 x4 0 ((i : Int) + 1) = some b) :
    ∀ (m j : Nat) (x4 : Int), j + m = (rd_T52 l (i : Int)).f2.length → ∃ k b, paraphrastlaw01_Few.l2 k [⟨n, l⟩] x3 x4 0 (i : Int) (j : Int) = some b
  | 0, j, x4, h => by
    obtain ⟨k, b, hk⟩ := H x4
    refine ⟨k + 1, b, ?_⟩
    unfold paraphrastlaw01_Few.l2
    rw [if_pos (by omega), if_pos (by simp), if_pos (by omega), if_pos (show (i : Int) < ((rd_T24 [⟨n, l⟩] 0).f1.length : Int) from by show (i : Int) < (l.length : Int); omega), if_neg (show ¬ (j : Int) < ((rd_T52 (rd_T24 [⟨n, l⟩] 0).f1 (i : Int)).f2.length : Int) from by show ¬ (j : Int) < ((rd_T52 l (i : Int)).f2.length : Int); omega), w64 (by omega) (by omega)]
    exact hk
  | m + 1, j, x4, h => by
    obtain ⟨k, b, hk⟩ := few_l2 n l i hi h8 x3 hM H m (j + 1) (wrap64 (x4 + ((rd_L2 (rd_T52 l (i : Int)).f2 (j : Int)).length : Int))) (by omega)
    refine ⟨k + 1, b, ?_⟩
    unfold paraphrastlaw01_Few.l2
    rw [if_pos (by omega), if_pos (by simp), if_pos (by omega), if_pos (show (i : Int) < ((rd_T24 [⟨n, l⟩] 0).f1.length : Int) from by show (i : Int) < (l.length : Int); omega), if_pos (show (j : Int) < ((rd_T52 (rd_T24 [⟨n, l⟩] 0).f1 (i : Int)).f2.length : Int) from by show (j : Int) < ((rd_T52 l (i : Int)).f2.length : Int); omega), if_pos (by omega), w64 (x := (j : Int) + 1) (by omega) (by omega)]
    exact hk
theorem few_l1 (n : Int) (l : List S52) (h8 : l.length ≤ 12) (hM : ∀ r ∈ l, r.f2.length ≤ 9223372036854775807) : ∀ (d i : Nat) (x3 x4 : Int), i + d = l.length → ∃ k b, paraphrastlaw01_Few.l1 k [⟨n, l⟩] x3 x4 0 (i : Int) = some b
  | 0, i, x3, x4, h => by
    refine ⟨2, decide (x4 ≤ 20000), ?_⟩
    unfold paraphrastlaw01_Few.l1
    rw [if_pos (by omega), if_pos (by simp), if_neg (show ¬ (i : Int) < ((rd_T24 [⟨n, l⟩] 0).f1.length : Int) from by show ¬ (i : Int) < (l.length : Int); omega), show wrap64 (0 + 1) = 1 from by unfold wrap64; omega]
    unfold paraphrastlaw01_Few.l0
    rw [if_neg (by simp)]
  | d + 1, i, x3, x4, h => by
    have hi : i < l.length := by omega
    have hr := hM _ (List.getElem_mem hi)
    rw [← rdT_nat l i hi] at hr
    generalize hX : wrap64 (x3 + ((rd_T52 l (i : Int)).f2.length : Int)) = X
    have step : ∀ k, paraphrastlaw01_Few.l1 (k + 1) [⟨n, l⟩] x3 x4 0 (i : Int) = if X > 1500 then paraphrastlaw01_Few.j2 k [⟨n, l⟩] X x4 0 (i : Int) true else paraphrastlaw01_Few.j2 k [⟨n, l⟩] X x4 0 (i : Int) (decide (((rd_T52 l (i : Int)).f0.size : Int) > 1000)) := fun k => by
      conv => lhs; unfold paraphrastlaw01_Few.l1
      rw [if_pos (by omega), if_pos (by simp), if_pos (show (i : Int) < ((rd_T24 [⟨n, l⟩] 0).f1.length : Int) from by show (i : Int) < (l.length : Int); omega), if_pos (by omega)]
      show (if wrap64 (x3 + ((rd_T52 l (i : Int)).f2.length : Int)) > 1500 then paraphrastlaw01_Few.j2 k [⟨n, l⟩] (wrap64 (x3 + ((rd_T52 l (i : Int)).f2.length : Int))) x4 0 (i : Int) true else paraphrastlaw01_Few.j2 k [⟨n, l⟩] (wrap64 (x3 + ((rd_T52 l (i : Int)).f2.length : Int))) x4 0 (i : Int) (decide (((rd_T52 l (i : Int)).f0.size : Int) > 1000))) = _
      rw [hX]
    by_cases h1 : X > 1500
    · exact ⟨2, false, by rw [step, if_pos h1]; rfl⟩
    · by_cases h2 : ((rd_T52 l (i : Int)).f0.size : Int) > 1000
      · exact ⟨2, false, by rw [step, if_neg h1, decide_eq_true h2]; rfl⟩
      · obtain ⟨k, b, hk⟩ := few_l2 n l i hi h8 X hr (fun x4' => by have := few_l1 n l h8 hM d (i + 1) X x4' (by omega); rwa [show ((i + 1 : Nat) : Int) = (i : Int) + 1 by omega] at this) (rd_T52 l (i : Int)).f2.length 0 x4 (by omega)
        exact ⟨k + 2, b, by rw [step, if_neg h1, decide_eq_false h2]; exact hk⟩
theorem few_ex (n : Int) (l : List S52) (hM : ∀ r ∈ l, r.f2.length ≤ 9223372036854775807) : ∃ k b, paraphrastlaw01_Few.f k [⟨n, l⟩] = some b := by
  by_cases h : (l.length : Int) > 12
  · exact ⟨1, false, by
      unfold paraphrastlaw01_Few.f paraphrastlaw01_Few.l0
      rw [if_pos (by simp), if_pos (by omega)]
      exact if_pos h⟩
  · obtain ⟨k, b, hk⟩ := few_l1 n l (by omega) hM l.length 0 0 0 (by omega)
    exact ⟨k + 1, b, by
      unfold paraphrastlaw01_Few.f paraphrastlaw01_Few.l0
      rw [if_pos (by simp), if_pos (by omega)]
      exact (if_neg h).trans hk⟩
theorem rels_max {w : World} {A : Option Addr} {n : Nat} {l : List S52} (h : Kd.C k52 w A n l) : ∀ r ∈ l, r.f2.length ≤ 9223372036854775807 := by
  intro r hr
  obtain ⟨i, hi, rfl⟩ := List.getElem_of_mem hr
  have hn : 0 < n := by have := h.1; omega
  obtain ⟨ad, _, hc⟩ := h.2.2 hn
  obtain ⟨c, _, hK, _⟩ := hc i _ (List.getElem?_eq_getElem hi)
  obtain ⟨A2, c2, _, _, g⟩ := k52_open hK
  exact g.2.1
end Go.Proofs.YtfmpaofbnjlniaaGreatDoor.F
namespace Go.Proofs.YtfmpaofbnjlniaaGreatDoor.F
open Go.RowKit Go.Proofs.YtfmpaofbnjlniaaGreatDoorW.PrintWords Go.Proofs.YtfmpaofbnjlniaaGreatDoorW.PrintLast Go.Proofs.YtfmpaofbnjlniaaGreatDoorW.PrintMore
attribute [local go_sem] max2_int min2_int max_two min_two max_three min_three max_four min_four
set_option linter.unusedVariables false
set_option linter.unusedSimpArgs false
/-! ### paraphrastref01_SameTuples: function 69 -/
def paraphrastref01_SameTuples.l0 : Nat → List (List Int) → List (List Int) → Int → Option (Bool)
 | 0, _, _, _ => none
 | k + 1, x0, x1, x5 => if x5 < (x0.length : Int) then (if 0 ≤ x5 then (if x5 < (x1.length : Int) then ((paraphrastref01_Equal.f k (rd_L2 x0 x5) (rd_L2 x1 x5)).bind fun t255 => (if t255 = true then (paraphrastref01_SameTuples.l0 k x0 x1 (wrap64 (x5 + 1))) else (some false))) else (none)) else (none)) else (some true)
def paraphrastref01_SameTuples.f (k : Nat) (l0 : List (List Int)) (l1 : List (List Int)) : Option (Bool) := if (l0.length : Int) = (l1.length : Int) then (paraphrastref01_SameTuples.l0 k l0 l1 0) else (some false)
set_option maxHeartbeats 8000000 in
set_option maxRecDepth 100000 in
theorem paraphrastref01_SameTuples.calls (k : Nat) (A0 : Option Addr) (c0 : Nat) (l0 : List (List Int)) (A1 : Option Addr) (c1 : Nat) (l1 : List (List Int)) (r : Bool) (w : World) (hr0 : Kd.C (Kd.slice 3 (Kd.int .i64)) w A0 l0.length l0) (hc0 : l0.length ≤ c0) (hr1 : Kd.C (Kd.slice 3 (Kd.int .i64)) w A1 l1.length l1) (hc1 : l1.length ≤ c1) (h : paraphrastref01_SameTuples.f k l0 l1 = some r) :
  Calls Tryz.prog 69 #[.slice A0 l0.length c0, .slice A1 l1.length c1] w fun e w' => e = .returned (.bool r) ∧ Drawn0 w w' := by
 have HR0 := Aside0.mk hr0
 have HC0 := Aside0.mk hc0
 clear hr0 hc0
 have HR1 := Aside0.mk hr1
 have HC1 := Aside0.mk hc1
 clear hr1 hc1
 have H : (if (l0.length : Int) = (l1.length : Int) then (paraphrastref01_SameTuples.l0 k l0 l1 0) else (some false)) = some r := h
 clear h
 by_cases c3 : (l0.length : Int) = (l1.length : Int)
 ·rw [if_pos c3] at H
  have c3b0 : ((l0.length : Int) == (l1.length : Int)) = true := beq_iff_eq.mpr c3
  have c3b1 : ((l0.length : Int) != (l1.length : Int)) = false := bne_eq_false_iff_eq.mpr c3
  have c3b2 : (l0.length == l1.length) = true := by first | simpa using c3 | (simp at c3 ⊢; omega)
  clear c3
  have H' := Aside0.mk H
  clear H
  go_enter Tryz.func69, Tryz.ntmps69
  go_wp2
  repeat (go_quiet (fail); try go_wp2)
  go_loopg [5] k (fun kq v5 w' => ∃ (x5_1 : Int), v5 = .int .i64 x5_1 ∧ Aside0 (paraphrastref01_SameTuples.l0 kq l0 l1 x5_1 = some r) ∧ Aside0 (kq ≤ k) ∧ Drawn0 w w')
  case atStart => exact ⟨(0), eS, H', ⟨Nat.le_refl _⟩, dr0⟩
  case round =>
   clear H'
   (try clear c1); (try clear c3); (try clear c3b0); (try clear c3b1); (try clear c3b2)
   obtain ⟨x5_1, rfl, HA, HK1, ⟨m1, rfl⟩⟩ := hrel
   cases gk with
   | zero => exact absurd HA.out (by simp [paraphrastref01_SameTuples.l0])
   | succ k1 =>
    have H := HA.out
    clear HA
    simp only [paraphrastref01_SameTuples.l0] at H
    by_cases c4 : x5_1 < (l0.length : Int)
    ·rw [if_pos c4] at H
     have c4b0 : decide (x5_1 < (l0.length : Int)) = true := decide_eq_true c4
     clear c4
     by_cases c5 : 0 ≤ x5_1
     ·rw [if_pos c5] at H
      have c5b0 : decide (0 ≤ x5_1) = true := decide_eq_true c5
      clear c5
      by_cases c6 : x5_1 < (l1.length : Int)
      ·rw [if_pos c6] at H
       have c6b0 : decide (x5_1 < (l1.length : Int)) = true := decide_eq_true c6
       clear c6
       replace H := Option.bind_eq_some_iff.mp H
       obtain ⟨t255, A70, H⟩ := H
       replace H : (if t255 = true then (paraphrastref01_SameTuples.l0 k1 l0 l1 (wrap64 (x5_1 + 1))) else (some false)) = some r := H
       have A7 := Aside0.mk A70
       clear A70
       by_cases c8 : t255 = true
       ·subst c8
        have H1 : (paraphrastref01_SameTuples.l0 k1 l0 l1 (wrap64 (x5_1 + 1))) = some r := by rw [if_pos rfl] at H; exact H
        clear H
        have H := H1
        clear H1
        have H' := Aside0.mk H
        clear H
        have p253 : 0 ≤ (x5_1 : Int) := dtr
        have q253 : x5_1 < (l0.length : Int) := dtr
        obtain ⟨ad253, A253_0, c253_0, e253, hx253_0, hl253_0, hi253_0⟩ := at_L2 HR0.out x5_1 p253 q253
        cases e253
        have HR253_0 := Aside0.mk hi253_0
        have HC253_0 := Aside0.mk hl253_0
        clear hi253_0 hl253_0
        replace p253 := eq_true p253
        replace q253 := eq_true q253
        have p254 : 0 ≤ (x5_1 : Int) := dtr
        have q254 : x5_1 < (l1.length : Int) := dtr
        obtain ⟨ad254, A254_0, c254_0, e254, hx254_0, hl254_0, hi254_0⟩ := at_L2 HR1.out x5_1 p254 q254
        cases e254
        have HR254_0 := Aside0.mk hi254_0
        have HC254_0 := Aside0.mk hl254_0
        clear hi254_0 hl254_0
        replace p254 := eq_true p254
        replace q254 := eq_true q254
        go_wp2_with (first | (go_at_call 41; (with_reducible refine (paraphrastref01_Equal.calls k1 _ _ (rd_L2 l0 x5_1) _ _ (rd_L2 l1 x5_1) true _ ?side1 ?side2 ?side3 ?side4 A7.out).mono ?_); (case side1 => exact cS HR253_0.out); (case side2 => exact HC253_0.out); (case side3 => exact cS HR254_0.out); (case side4 => exact HC254_0.out); rintro e w' ⟨rfl, ⟨nd, rfl⟩⟩; (try first | exact ⟨rfl, _, World.drewN_drewN _ _ _⟩ | exact ⟨rfl, _, Eq.trans (World.drewN_drewN _ _ _) (congrArg (World.drewN _) (Nat.add_assoc _ _ _))⟩)))
        repeat (go_quiet (first | (go_at_call 41; (with_reducible refine (paraphrastref01_Equal.calls k1 _ _ (rd_L2 l0 x5_1) _ _ (rd_L2 l1 x5_1) true _ ?side1 ?side2 ?side3 ?side4 A7.out).mono ?_); (case side1 => exact cS HR253_0.out); (case side2 => exact HC253_0.out); (case side3 => exact cS HR254_0.out); (case side4 => exact HC254_0.out); rintro e w' ⟨rfl, ⟨nd, rfl⟩⟩; (try first | exact ⟨rfl, _, World.drewN_drewN _ _ _⟩ | exact ⟨rfl, _, Eq.trans (World.drewN_drewN _ _ _) (congrArg (World.drewN _) (Nat.add_assoc _ _ _))⟩))); try go_wp2_with (first | (go_at_call 41; (with_reducible refine (paraphrastref01_Equal.calls k1 _ _ (rd_L2 l0 x5_1) _ _ (rd_L2 l1 x5_1) true _ ?side1 ?side2 ?side3 ?side4 A7.out).mono ?_); (case side1 => exact cS HR253_0.out); (case side2 => exact HC253_0.out); (case side3 => exact cS HR254_0.out); (case side4 => exact HC254_0.out); rintro e w' ⟨rfl, ⟨nd, rfl⟩⟩; (try first | exact ⟨rfl, _, World.drewN_drewN _ _ _⟩ | exact ⟨rfl, _, Eq.trans (World.drewN_drewN _ _ _) (congrArg (World.drewN _) (Nat.add_assoc _ _ _))⟩))))
        go_roundg k1
        case measure => have := HK1.out; omega
        case rel => exact ⟨(wrap64 (x5_1 + 1)), eS, H', ⟨by have := HK1.out; omega⟩, dr0⟩
       ·replace c8 := Bool.eq_false_iff.mpr c8
        subst c8
        have H1 : (some false) = some r := by rw [if_neg (show ¬ (false = true) by decide)] at H; exact H
        clear H
        have H := H1
        clear H1
        obtain rfl := Option.some.inj H
        have p253 : 0 ≤ (x5_1 : Int) := dtr
        have q253 : x5_1 < (l0.length : Int) := dtr
        obtain ⟨ad253, A253_0, c253_0, e253, hx253_0, hl253_0, hi253_0⟩ := at_L2 HR0.out x5_1 p253 q253
        cases e253
        have HR253_0 := Aside0.mk hi253_0
        have HC253_0 := Aside0.mk hl253_0
        clear hi253_0 hl253_0
        replace p253 := eq_true p253
        replace q253 := eq_true q253
        have p254 : 0 ≤ (x5_1 : Int) := dtr
        have q254 : x5_1 < (l1.length : Int) := dtr
        obtain ⟨ad254, A254_0, c254_0, e254, hx254_0, hl254_0, hi254_0⟩ := at_L2 HR1.out x5_1 p254 q254
        cases e254
        have HR254_0 := Aside0.mk hi254_0
        have HC254_0 := Aside0.mk hl254_0
        clear hi254_0 hl254_0
        replace p254 := eq_true p254
        replace q254 := eq_true q254
        go_wp2_with (first | (go_at_call 41; (with_reducible refine (paraphrastref01_Equal.calls k1 _ _ (rd_L2 l0 x5_1) _ _ (rd_L2 l1 x5_1) false _ ?side1 ?side2 ?side3 ?side4 A7.out).mono ?_); (case side1 => exact cS HR253_0.out); (case side2 => exact HC253_0.out); (case side3 => exact cS HR254_0.out); (case side4 => exact HC254_0.out); rintro e w' ⟨rfl, ⟨nd, rfl⟩⟩; (try first | exact ⟨rfl, _, World.drewN_drewN _ _ _⟩ | exact ⟨rfl, _, Eq.trans (World.drewN_drewN _ _ _) (congrArg (World.drewN _) (Nat.add_assoc _ _ _))⟩)))
        repeat (go_quiet (first | (go_at_call 41; (with_reducible refine (paraphrastref01_Equal.calls k1 _ _ (rd_L2 l0 x5_1) _ _ (rd_L2 l1 x5_1) false _ ?side1 ?side2 ?side3 ?side4 A7.out).mono ?_); (case side1 => exact cS HR253_0.out); (case side2 => exact HC253_0.out); (case side3 => exact cS HR254_0.out); (case side4 => exact HC254_0.out); rintro e w' ⟨rfl, ⟨nd, rfl⟩⟩; (try first | exact ⟨rfl, _, World.drewN_drewN _ _ _⟩ | exact ⟨rfl, _, Eq.trans (World.drewN_drewN _ _ _) (congrArg (World.drewN _) (Nat.add_assoc _ _ _))⟩))); try go_wp2_with (first | (go_at_call 41; (with_reducible refine (paraphrastref01_Equal.calls k1 _ _ (rd_L2 l0 x5_1) _ _ (rd_L2 l1 x5_1) false _ ?side1 ?side2 ?side3 ?side4 A7.out).mono ?_); (case side1 => exact cS HR253_0.out); (case side2 => exact HC253_0.out); (case side3 => exact cS HR254_0.out); (case side4 => exact HC254_0.out); rintro e w' ⟨rfl, ⟨nd, rfl⟩⟩; (try first | exact ⟨rfl, _, World.drewN_drewN _ _ _⟩ | exact ⟨rfl, _, Eq.trans (World.drewN_drewN _ _ _) (congrArg (World.drewN _) (Nat.add_assoc _ _ _))⟩))))
        go_ret
        exact ⟨eS, dr0⟩
      ·rw [if_neg c6] at H
       exact absurd H (by simp)
     ·rw [if_neg c5] at H
      exact absurd H (by simp)
    ·rw [if_neg c4] at H
     have c4b0 : decide (x5_1 < (l0.length : Int)) = false := decide_eq_false c4
     clear c4
     obtain rfl := Option.some.inj H
     go_wp2
     repeat (go_quiet (fail); try go_wp2)
     go_ret
     exact ⟨eS, dr0⟩
 ·rw [if_neg c3] at H
  have c3b0 : ((l0.length : Int) == (l1.length : Int)) = false := beq_eq_false_iff_ne.mpr c3
  have c3b1 : ((l0.length : Int) != (l1.length : Int)) = true := bne_iff_ne.mpr c3
  have c3b2 : (l0.length == l1.length) = false := by first | simpa using c3 | (simp at c3 ⊢; omega)
  obtain rfl := Option.some.inj H
  go_enter Tryz.func69, Tryz.ntmps69
  go_wp2
  repeat (go_quiet (fail); try go_wp2)
  go_ret
  exact ⟨eS, dr0⟩
end Go.Proofs.YtfmpaofbnjlniaaGreatDoor.F
namespace Go.Proofs.YtfmpaofbnjlniaaGreatDoor.F
open Go.RowKit Go.Proofs.YtfmpaofbnjlniaaGreatDoorW.PrintWords Go.Proofs.YtfmpaofbnjlniaaGreatDoorW.PrintLast Go.Proofs.YtfmpaofbnjlniaaGreatDoorW.PrintMore
attribute [local go_sem] max2_int min2_int max_two min_two max_three min_three max_four min_four
set_option linter.unusedVariables false
set_option linter.unusedSimpArgs false
theorem far_ne34 {W : World} {p : Addr} {v : Value} {g : Nat} (h : W.cell? p = some v) (hg : W.heap.size ≤ g) : p.block ≠ g := Nat.ne_of_lt (Nat.lt_of_lt_of_le (World.block_lt_of_cell? _ _ h) hg)
/-! ### paraphrastref01_Same: function 34 -/
mutual
def paraphrastref01_Same.j0 : Nat → Bool → Int → List (S52) → Int → List (S52) → Option (Bool)
 | 0, _, _, _, _, _ => none
 | k + 1, x21, x257000, x257001, x258000, x258001 => if x21 = true then (some false) else (paraphrastref01_Same.l0 k 0 x257000 x257001 x258000 x258001)
def paraphrastref01_Same.l0 : Nat → Int → Int → List (S52) → Int → List (S52) → Option (Bool)
 | 0, _, _, _, _, _ => none
 | k + 1, x5, x257000, x257001, x258000, x258001 => if x5 < (x257001.length : Int) then (if 0 ≤ x5 then (if x5 < (x258001.length : Int) then (if ((rd_T52 x257001 x5).f0).toList = ((rd_T52 x258001 x5).f0).toList then (if ((rd_T52 x257001 x5).f1) = ((rd_T52 x258001 x5).f1) then ((paraphrastref01_SameTuples.f k ((rd_T52 x257001 x5).f2) ((rd_T52 x258001 x5).f2)).bind fun t262 => (if t262 = true then (paraphrastref01_Same.l0 k (wrap64 (x5 + 1)) x257000 x257001 x258000 x258001) else (some false))) else (some false)) else (some false)) else (none)) else (none)) else (some true)
end
def paraphrastref01_Same.f (k : Nat) (a0_0 : Int) (l0_1 : List (S52)) (a1_0 : Int) (l1_1 : List (S52)) : Option (Bool) := if a0_0 = a1_0 then (paraphrastref01_Same.j0 k ((l0_1.length : Int) != (l1_1.length : Int)) a0_0 l0_1 a1_0 l1_1) else (paraphrastref01_Same.j0 k true a0_0 l0_1 a1_0 l1_1)
def paraphrastref01_Same.T6 : Bool × List (List Nat × List Nat) := (true, [([], []), ([0], [0]), ([], []), ([1, 2], [1, 2]), ([3], [3]), ([], []), ([5], [5]), ([], []), ([6, 7], [6, 7]), ([8], [8]), ([], []), ([], []), ([10, 4, 0, 1, 2, 3, 4, 10, 11], [4, 10]), ([11, 9, 12, 0, 1, 2, 3, 4, 5, 6, 7, 8, 9, 10, 11, 12], [9, 11])])
def paraphrastref01_Same.B6 : List Nat := [0, 1, 0, 7, 15, 0, 32, 0, 224, 480, 0, 0, 3103, 8191]
theorem paraphrastref01_Same.tab6 : rtab .any (opsOf Tryz.f34 6) = paraphrastref01_Same.T6 := by kernel_rfl
theorem paraphrastref01_Same.bits6 : waitsOk paraphrastref01_Same.T6.2 paraphrastref01_Same.B6 = true := by kernel_rfl
set_option maxHeartbeats 8000000 in
set_option maxRecDepth 100000 in
theorem paraphrastref01_Same.calls (k : Nat) (a0_0 : Int) (A0_1 : Option Addr) (c0_1 : Nat) (l0_1 : List (S52)) (a1_0 : Int) (A1_1 : Option Addr) (c1_1 : Nat) (l1_1 : List (S52)) (r : Bool) (w : World) (hr0_1 : Kd.C k52 w A0_1 l0_1.length l0_1) (hc0_1 : l0_1.length ≤ c0_1) (hr1_1 : Kd.C k52 w A1_1 l1_1.length l1_1) (hc1_1 : l1_1.length ≤ c1_1) (h : paraphrastref01_Same.f k a0_0 l0_1 a1_0 l1_1 = some r) :
  Calls Tryz.prog 34 #[.agg #[.int .i64 a0_0, .slice A0_1 l0_1.length c0_1], .agg #[.int .i64 a1_0, .slice A1_1 l1_1.length c1_1]] w fun e w' => e = .returned (.bool r) ∧ Below w.heap.size w w' := by
 have hu24 := Tryz.underlying24
 have hu52 := Tryz.underlying52
 have HR0_1 := Aside0.mk hr0_1
 have HC0_1 := Aside0.mk hc0_1
 clear hr0_1 hc0_1
 have HR1_1 := Aside0.mk hr1_1
 have HC1_1 := Aside0.mk hc1_1
 clear hr1_1 hc1_1
 have HB := Aside0.mk (Below.refl w.heap.size w)
 have H : (if a0_0 = a1_0 then (paraphrastref01_Same.j0 k ((l0_1.length : Int) != (l1_1.length : Int)) a0_0 l0_1 a1_0 l1_1) else (paraphrastref01_Same.j0 k true a0_0 l0_1 a1_0 l1_1)) = some r := h
 clear h
 have HC3 := Aside0.mk H
 clear H
 go_enter Tryz.func34, Tryz.ntmps34
 go_upto_region 1 with (first | ((with_reducible refine gate_dst (N := 2) rfl ?_); (try (refine gate_guard (by rfl) ?_; dsimp only)); refine box_event ?hg (N := 2) ?hd (cs := #[.int .i64 a0_0, .slice A0_1 l0_1.length c0_1]) (t := 24) ?hr ?_; (case hd => rfl); (case hg => rfl); (case hr => first | (go_simp; done) | (go_simp; rfl)); intro gb256 hg w4 hbox hb; have BK256 := Aside0.mk (hbox); have GW256 := geB w hg; have GE256 := geB w hg; replace HB := Aside0.mk (below_step bel hb); clear hb hbox hg) | ((with_reducible refine gate_dst (N := 3) rfl ?_); (try (refine gate_guard (by rfl) ?_; dsimp only)); refine box_event ?hg (N := 3) ?hd (cs := #[.int .i64 a1_0, .slice A1_1 l1_1.length c1_1]) (t := 24) ?hr ?_; (case hd => rfl); (case hg => rfl); (case hr => first | (go_simp; done) | (go_simp; rfl)); intro gb257 hg w5 hbox hb; have BK257 := Aside0.mk (hbox); have GW257 := geB w hg; have GE257 := geB w hg; have NB256_257 := neL BK256 hg; have NB257_256 := neG BK256 hg; replace BK256 := blB BK256 hb; replace HB := Aside0.mk (below_step bel hb); clear hb hbox hg))
 (try simp only [Act.put, List.setIfInBounds_toArray, List.set_cons_zero, List.set_cons_succ])
 go_cut [21] (fun v21 wc => ∃ (kq : Nat) (x21_2 : Bool), v21 = .bool x21_2 ∧ Aside0 (paraphrastref01_Same.j0 kq x21_2 a0_0 l0_1 a1_0 l1_1 = some r) ∧ Aside0 (kq ≤ k) ∧ Aside0 (wc.heap[gb256]? = some (.cells #[.int .i64 a0_0, (.slice A0_1 l0_1.length c0_1)] 24 (0, 0))) ∧ Aside0 (wc.heap[gb257]? = some (.cells #[.int .i64 a1_0, (.slice A1_1 l1_1.length c1_1)] 24 (0, 0))) ∧ Aside0 (Below w.heap.size w wc))
 case first =>
  have H := HC3.out
  clear HC3
  by_cases c6 : a0_0 = a1_0
  ·rw [if_pos c6] at H
   have c6b0 : (a0_0 == a1_0) = true := beq_iff_eq.mpr c6
   have c6b1 : (a0_0 != a1_0) = false := bne_eq_false_iff_eq.mpr c6
   clear c6
   (first | rw [c6b0] | (simp only [i64_w, i32_w]; rw [c6b0]) | skip)
   have H' := Aside0.mk H
   clear H
   have hnb7 := NB256_257.out
   have hnc7 := NB257_256.out
   obtain ⟨hcz8_0, hcz8_1, hfz8_0, hfz8_1⟩ := bq2 BK256
   obtain ⟨hcz9_0, hcz9_1, hfz9_0, hfz9_1⟩ := bq2 BK257
   go_wp2
   go_meet
   case rel => exact ⟨_, (((l0_1.length : Int) != (l1_1.length : Int))), eS, H', ⟨kle⟩, ⟨bk BK256⟩, ⟨bk BK257⟩, ⟨bel⟩⟩
  ·rw [if_neg c6] at H
   have c6b0 : (a0_0 == a1_0) = false := beq_eq_false_iff_ne.mpr c6
   have c6b1 : (a0_0 != a1_0) = true := bne_iff_ne.mpr c6
   (first | rw [c6b0] | (simp only [i64_w, i32_w]; rw [c6b0]) | skip)
   have H' := Aside0.mk H
   clear H
   have hnb10 := NB256_257.out
   have hnc10 := NB257_256.out
   obtain ⟨hcz11_0, hcz11_1, hfz11_0, hfz11_1⟩ := bq2 BK256
   obtain ⟨hcz12_0, hcz12_1, hfz12_0, hfz12_1⟩ := bq2 BK257
   go_wp2
   go_meet
   case rel => exact ⟨_, (true), eS, H', ⟨kle⟩, ⟨bk BK256⟩, ⟨bk BK257⟩, ⟨bel⟩⟩
 case rest =>
  clear HC3
  obtain ⟨kq, x21_2, rfl, HA, HJ2, BK256, BK257, HB⟩ := hcut
  cases kq with
  | zero => exact absurd HA.out (by simp [paraphrastref01_Same.j0])
  | succ kj2 =>
   have H := HA.out
   clear HA
   simp only [paraphrastref01_Same.j0] at H
   by_cases c13 : x21_2 = true
   ·subst c13
    have H1 : (some false) = some r := by rw [if_pos rfl] at H; exact H
    clear H
    have H := H1
    clear H1
    obtain rfl := Option.some.inj H
    go_wp2
    go_ret
    exact ⟨eN, bel⟩
   ·replace c13 := Bool.eq_false_iff.mpr c13
    subst c13
    have H1 : (paraphrastref01_Same.l0 kj2 0 a0_0 l0_1 a1_0 l1_1) = some r := by rw [if_neg (show ¬ (false = true) by decide)] at H; exact H
    clear H
    have H := H1
    clear H1
    have H' := Aside0.mk H
    clear H
    go_wp2
    go_loopg [5] kj2 (fun kq v5 w' => ∃ (x5_2 : Int), v5 = .int .i64 x5_2 ∧ Aside0 (paraphrastref01_Same.l0 kq x5_2 a0_0 l0_1 a1_0 l1_1 = some r) ∧ Aside0 (kq ≤ kj2) ∧ Aside0 (w'.heap[gb256]? = some (.cells #[.int .i64 a0_0, (.slice A0_1 l0_1.length c0_1)] 24 (0, 0))) ∧ Aside0 (w'.heap[gb257]? = some (.cells #[.int .i64 a1_0, (.slice A1_1 l1_1.length c1_1)] 24 (0, 0))) ∧ Aside0 (Below w.heap.size w w'))
    case atStart => exact ⟨(0), eS, H', ⟨Nat.le_refl _⟩, ⟨bk BK256⟩, ⟨bk BK257⟩, ⟨bel⟩⟩
    case round =>
     clear H'
     (try clear c13)
     obtain ⟨x5_2, rfl, HA, HK2, BK256, BK257, HB⟩ := hrel
     cases gk with
     | zero => exact absurd HA.out (by simp [paraphrastref01_Same.l0])
     | succ k2 =>
      have H := HA.out
      clear HA
      simp only [paraphrastref01_Same.l0] at H
      by_cases c14 : x5_2 < (l0_1.length : Int)
      ·rw [if_pos c14] at H
       have c14b0 : decide (x5_2 < (l0_1.length : Int)) = true := decide_eq_true c14
       clear c14
       by_cases c15 : 0 ≤ x5_2
       ·rw [if_pos c15] at H
        have c15b0 : decide (0 ≤ x5_2) = true := decide_eq_true c15
        clear c15
        by_cases c16 : x5_2 < (l1_1.length : Int)
        ·rw [if_pos c16] at H
         have c16b0 : decide (x5_2 < (l1_1.length : Int)) = true := decide_eq_true c16
         clear c16
         by_cases c17 : ((rd_T52 l0_1 x5_2).f0).toList = ((rd_T52 l1_1 x5_2).f0).toList
         ·rw [if_pos c17] at H
          have c17b0 : (((rd_T52 l0_1 x5_2).f0).toList == ((rd_T52 l1_1 x5_2).f0).toList) = true := beq_iff_eq.mpr c17
          have c17b1 : (((rd_T52 l0_1 x5_2).f0).toList != ((rd_T52 l1_1 x5_2).f0).toList) = false := bne_eq_false_iff_eq.mpr c17
          clear c17
          by_cases c18 : ((rd_T52 l0_1 x5_2).f1) = ((rd_T52 l1_1 x5_2).f1)
          ·rw [if_pos c18] at H
           have c18b0 : (((rd_T52 l0_1 x5_2).f1) == ((rd_T52 l1_1 x5_2).f1)) = true := beq_iff_eq.mpr c18
           have c18b1 : (((rd_T52 l0_1 x5_2).f1) != ((rd_T52 l1_1 x5_2).f1)) = false := bne_eq_false_iff_eq.mpr c18
           clear c18
           replace H := Option.bind_eq_some_iff.mp H
           obtain ⟨t262, A190, H⟩ := H
           replace H : (if t262 = true then (paraphrastref01_Same.l0 k2 (wrap64 (x5_2 + 1)) a0_0 l0_1 a1_0 l1_1) else (some false)) = some r := H
           have A19 := Aside0.mk A190
           clear A190
           by_cases c20 : t262 = true
           ·subst c20
            have H1 : (paraphrastref01_Same.l0 k2 (wrap64 (x5_2 + 1)) a0_0 l0_1 a1_0 l1_1) = some r := by rw [if_pos rfl] at H; exact H
            clear H
            have H := H1
            clear H1
            have H' := Aside0.mk H
            clear H
            have hnb21 := NB256_257.out
            have hnc21 := NB257_256.out
            obtain ⟨hcz22_0, hcz22_1, hfz22_0, hfz22_1⟩ := bq2 BK256
            try go_wp2
            replace BK256 := Aside0.mk (blk_drew BK256.out)
            replace BK257 := Aside0.mk (blk_drew BK257.out)
            replace HB := Aside0.mk (below_drew1 HB.out)
            have p258 : 0 ≤ (x5_2 : Int) := dtr
            have q258 : x5_2 < (l0_1.length : Int) := dtr
            obtain ⟨ad258, A258_2, c258_2, e258, hx258_0, hx258_1, hx258_2, hl258_2, hi258_2⟩ := at_T52 HR0_1.out x5_2 p258 q258
            have hw258_2 := hx258_2
            have hw258_1 := hx258_1
            have hw258_0 := hx258_0
            cases e258
            replace hx258_0 := oc hx258_0
            replace hx258_1 := oc hx258_1
            replace hx258_2 := oc hx258_2
            have HR258_2 := Aside0.mk hi258_2
            have HC258_2 := Aside0.mk hl258_2
            clear hi258_2 hl258_2
            replace p258 := eq_true p258
            replace q258 := eq_true q258
            have p259 : 0 ≤ (x5_2 : Int) := dtr
            have q259 : x5_2 < (l1_1.length : Int) := dtr
            obtain ⟨ad259, A259_2, c259_2, e259, hx259_0, hx259_1, hx259_2, hl259_2, hi259_2⟩ := at_T52 HR1_1.out x5_2 p259 q259
            have hw259_2 := hx259_2
            have hw259_1 := hx259_1
            have hw259_0 := hx259_0
            cases e259
            replace hx259_0 := oc hx259_0
            replace hx259_1 := oc hx259_1
            replace hx259_2 := oc hx259_2
            have HR259_2 := Aside0.mk hi259_2
            have HC259_2 := Aside0.mk hl259_2
            clear hi259_2 hl259_2
            replace p259 := eq_true p259
            replace q259 := eq_true q259
            refine start_ (n := 14) (S := fun w' => w'.cell? ⟨gb256, 0, none⟩ = some (.int .i64 a0_0) ∧ w'.cell? ⟨gb256, 1, none⟩ = some (.slice (some ad258) l0_1.length c0_1) ∧ w'.cell? ⟨gb257, 0, none⟩ = some (.int .i64 a1_0) ∧ w'.cell? ⟨gb257, 1, none⟩ = some (.slice (some ad259) l1_1.length c1_1) ∧ w'.cell? (ad258.add ((x5_2).toNat * 3)) = some (.string ((rd_T52 l0_1 x5_2).f0)) ∧ w'.cell? ⟨(ad258.add ((x5_2).toNat * 3)).block, (ad258.add ((x5_2).toNat * 3)).off + 1, none⟩ = some (.int .i64 ((rd_T52 l0_1 x5_2).f1)) ∧ w'.cell? ⟨(ad258.add ((x5_2).toNat * 3)).block, (ad258.add ((x5_2).toNat * 3)).off + 2, none⟩ = some (.slice A258_2 ((rd_T52 l0_1 x5_2).f2).length c258_2) ∧ w'.cell? (ad259.add ((x5_2).toNat * 3)) = some (.string ((rd_T52 l1_1 x5_2).f0)) ∧ w'.cell? ⟨(ad259.add ((x5_2).toNat * 3)).block, (ad259.add ((x5_2).toNat * 3)).off + 1, none⟩ = some (.int .i64 ((rd_T52 l1_1 x5_2).f1)) ∧ w'.cell? ⟨(ad259.add ((x5_2).toNat * 3)).block, (ad259.add ((x5_2).toNat * 3)).off + 2, none⟩ = some (.slice A259_2 ((rd_T52 l1_1 x5_2).f2).length c259_2)) (ds := []) #[false, false, false, false, false, false, false, false, false, false, false, false, false, false] (by kernel_rfl) rfl rfl ⟨(blk_cell BK256.out 0).trans rfl, (blk_cell BK256.out 1).trans rfl, (blk_cell BK257.out 0).trans rfl, (blk_cell BK257.out 1).trans rfl, (oc hw258_0), (oc hw258_1), (oc hw258_2), (oc hw259_0), (oc hw259_1), (oc hw259_2)⟩ (fun hHeld => ?_); refine with_tabW paraphrastref01_Same.tab6 paraphrastref01_Same.bits6 (fun HT_ HW_ => ?_)
            generalize wr.drew = w23 at BK256 BK257 HB HR258_2 HR259_2 hx258_0 hx258_1 hx258_2 hx259_0 hx259_1 hx259_2 hHeld ⊢
            refine sPu 0 (some 29) ?_
            refine sPu 2 (some 31) ?_
            refine sPu 5 (some 34) ?_
            refine sPu 7 (some 36) ?_
            refine sTk 1 (some 30) ?_
            refine sPu 3 (some 32) ?_
            refine sTk 4 (some 33) ?_
            refine sTk 6 (some 35) ?_
            refine sPu 8 (some 37) ?_
            refine sTk 9 (some 38) ?_
            refine join_ (σ := Nat × Nat) 2 #[true, true, true, true, true, true, true, true, true, true, true, true, false, false] (fun s_ => [(6, .pointer (some ⟨s_.1, 0, none⟩)), (7, .pointer (some ⟨s_.2, 0, none⟩))]) (fun s_ w' => (w'.cell? ⟨gb256, 0, none⟩ = some (.int .i64 a0_0) ∧ w'.cell? ⟨gb256, 1, none⟩ = some (.slice (some ad258) l0_1.length c0_1) ∧ w'.cell? ⟨gb257, 0, none⟩ = some (.int .i64 a1_0) ∧ w'.cell? ⟨gb257, 1, none⟩ = some (.slice (some ad259) l1_1.length c1_1) ∧ w'.cell? (ad258.add ((x5_2).toNat * 3)) = some (.string ((rd_T52 l0_1 x5_2).f0)) ∧ w'.cell? ⟨(ad258.add ((x5_2).toNat * 3)).block, (ad258.add ((x5_2).toNat * 3)).off + 1, none⟩ = some (.int .i64 ((rd_T52 l0_1 x5_2).f1)) ∧ w'.cell? ⟨(ad258.add ((x5_2).toNat * 3)).block, (ad258.add ((x5_2).toNat * 3)).off + 2, none⟩ = some (.slice A258_2 ((rd_T52 l0_1 x5_2).f2).length c258_2) ∧ w'.cell? (ad259.add ((x5_2).toNat * 3)) = some (.string ((rd_T52 l1_1 x5_2).f0)) ∧ w'.cell? ⟨(ad259.add ((x5_2).toNat * 3)).block, (ad259.add ((x5_2).toNat * 3)).off + 1, none⟩ = some (.int .i64 ((rd_T52 l1_1 x5_2).f1)) ∧ w'.cell? ⟨(ad259.add ((x5_2).toNat * 3)).block, (ad259.add ((x5_2).toNat * 3)).off + 2, none⟩ = some (.slice A259_2 ((rd_T52 l1_1 x5_2).f2).length c259_2)) ∧ (w'.heap[gb256]? = some (.cells #[.int .i64 a0_0, .slice (some ad258) l0_1.length c0_1] 24 (0, 0))) ∧ (w'.heap[gb257]? = some (.cells #[.int .i64 a1_0, .slice (some ad259) l1_1.length c1_1] 24 (0, 0))) ∧ (w'.heap[s_.1]? = some (.cells #[.string (⟨#[]⟩ : ByteArray), .int .i64 0, .slice none 0 0] 52 (0, 0))) ∧ (w'.heap[s_.2]? = some (.cells #[.string (⟨#[]⟩ : ByteArray), .int .i64 0, .slice none 0 0] 52 (0, 0))) ∧ (w.heap.size ≤ s_.1) ∧ (w.heap.size ≤ s_.1) ∧ (gb256 ≠ s_.1) ∧ (s_.1 ≠ gb256) ∧ (gb257 ≠ s_.1) ∧ (s_.1 ≠ gb257) ∧ (s_.2 ≠ s_.1) ∧ (s_.1 ≠ s_.2) ∧ (w.heap.size ≤ s_.2) ∧ (w.heap.size ≤ s_.2) ∧ (gb256 ≠ s_.2) ∧ (s_.2 ≠ gb256) ∧ (gb257 ≠ s_.2) ∧ (s_.2 ≠ gb257) ∧ (Below w.heap.size w w')) ?_ ?_
            rotate_left
            ·intro hCont
             refine two_ (i := 10) (j := 11) (Ni := some 6) (Nj := some 7) #[true, true, true, true, true, true, true, true, true, true, true, false, false, false] #[true, true, true, true, true, true, true, true, true, true, false, true, false, false] rfl rfl rfl rfl (two_of HT_.out (by kernel_rfl)) (by decide) (by decide) (fun K hK => ?_) (fun K hK => ?_)
             ·skip
              refine box_step ?hg (N := 6) ?hd (cs := #[.string (⟨#[]⟩ : ByteArray), .int .i64 0, .slice none 0 0]) (t := 52) ?hr ?_; (case hd => rfl); (case hg => rfl); (case hr => first | (go_simp; done) | (go_simp; rfl))
              intro gb260 hg w24 hbox hb
              have BK260 := Aside0.mk (hbox)
              have GW260 := geB w hg
              have GE260 := geB w hg
              have NB256_260 := neL BK256 hg
              have NB260_256 := neG BK256 hg
              have NB257_260 := neL BK257 hg
              have NB260_257 := neG BK257 hg
              replace BK256 := blB BK256 hb
              replace BK257 := blB BK257 hb
              replace HB := Aside0.mk (below_step bel hb)
              clear hb hbox hg
              refine hK.out _ _ ⟨(blk_cell BK256.out 0).trans rfl, (blk_cell BK256.out 1).trans rfl, (blk_cell BK257.out 0).trans rfl, (blk_cell BK257.out 1).trans rfl, (oc hw258_0), (oc hw258_1), (oc hw258_2), (oc hw259_0), (oc hw259_1), (oc hw259_2)⟩ (fun hHeld => ?_)
              clear hK K
              refine norm_ (a' := ?_) ?_ ?_
              rotate_left
              ·show Act.put _ (some 6) _ = _
               simp only [Act.put, List.setIfInBounds_toArray, List.set_cons_zero, List.set_cons_succ, i64_w, i32_w]
               rfl
              refine sOn 11 (some 7) (fun K hK => ?_)
              refine box_step ?hg (N := 7) ?hd (cs := #[.string (⟨#[]⟩ : ByteArray), .int .i64 0, .slice none 0 0]) (t := 52) ?hr ?_; (case hd => rfl); (case hg => rfl); (case hr => first | (go_simp; done) | (go_simp; rfl))
              intro gb261 hg w25 hbox hb
              have BK261 := Aside0.mk (hbox)
              have GW261 := geB w hg
              have GE261 := geB w hg
              have NB256_261 := neL BK256 hg
              have NB261_256 := neG BK256 hg
              have NB257_261 := neL BK257 hg
              have NB261_257 := neG BK257 hg
              have NB260_261 := neL BK260 hg
              have NB261_260 := neG BK260 hg
              replace BK256 := blB BK256 hb
              replace BK257 := blB BK257 hb
              replace BK260 := blB BK260 hb
              replace HB := Aside0.mk (below_step bel hb)
              clear hb hbox hg
              refine hK.out _ _ ⟨(blk_cell BK256.out 0).trans rfl, (blk_cell BK256.out 1).trans rfl, (blk_cell BK257.out 0).trans rfl, (blk_cell BK257.out 1).trans rfl, (oc hw258_0), (oc hw258_1), (oc hw258_2), (oc hw259_0), (oc hw259_1), (oc hw259_2)⟩ (fun hHeld => ?_)
              clear hK K
              refine norm_ (a' := ?_) ?_ ?_
              rotate_left
              ·show Act.put _ (some 7) _ = _
               simp only [Act.put, List.setIfInBounds_toArray, List.set_cons_zero, List.set_cons_succ, i64_w, i32_w]
               rfl
              exact norm_ (by simp only [putAll, Act.put, List.setIfInBounds_toArray, List.set_cons_zero, List.set_cons_succ]) (hCont (gb260, gb261) _ ⟨hHeld, (bk BK256), (bk BK257), (bk BK260), (bk BK261), GW260.out, GE260.out, NB256_260.out, NB260_256.out, NB257_260.out, NB260_257.out, NB261_260.out, NB260_261.out, GW261.out, GE261.out, NB256_261.out, NB261_256.out, NB257_261.out, NB261_257.out, bel⟩)
             ·skip
              refine box_step ?hg (N := 7) ?hd (cs := #[.string (⟨#[]⟩ : ByteArray), .int .i64 0, .slice none 0 0]) (t := 52) ?hr ?_; (case hd => rfl); (case hg => rfl); (case hr => first | (go_simp; done) | (go_simp; rfl))
              intro gb261 hg w24 hbox hb
              have BK261 := Aside0.mk (hbox)
              have GW261 := geB w hg
              have GE261 := geB w hg
              have NB256_261 := neL BK256 hg
              have NB261_256 := neG BK256 hg
              have NB257_261 := neL BK257 hg
              have NB261_257 := neG BK257 hg
              replace BK256 := blB BK256 hb
              replace BK257 := blB BK257 hb
              replace HB := Aside0.mk (below_step bel hb)
              clear hb hbox hg
              refine hK.out _ _ ⟨(blk_cell BK256.out 0).trans rfl, (blk_cell BK256.out 1).trans rfl, (blk_cell BK257.out 0).trans rfl, (blk_cell BK257.out 1).trans rfl, (oc hw258_0), (oc hw258_1), (oc hw258_2), (oc hw259_0), (oc hw259_1), (oc hw259_2)⟩ (fun hHeld => ?_)
              clear hK K
              refine norm_ (a' := ?_) ?_ ?_
              rotate_left
              ·show Act.put _ (some 7) _ = _
               simp only [Act.put, List.setIfInBounds_toArray, List.set_cons_zero, List.set_cons_succ, i64_w, i32_w]
               rfl
              refine sOn 10 (some 6) (fun K hK => ?_)
              refine box_step ?hg (N := 6) ?hd (cs := #[.string (⟨#[]⟩ : ByteArray), .int .i64 0, .slice none 0 0]) (t := 52) ?hr ?_; (case hd => rfl); (case hg => rfl); (case hr => first | (go_simp; done) | (go_simp; rfl))
              intro gb260 hg w25 hbox hb
              have BK260 := Aside0.mk (hbox)
              have GW260 := geB w hg
              have GE260 := geB w hg
              have NB256_260 := neL BK256 hg
              have NB260_256 := neG BK256 hg
              have NB257_260 := neL BK257 hg
              have NB260_257 := neG BK257 hg
              have NB261_260 := neL BK261 hg
              have NB260_261 := neG BK261 hg
              replace BK256 := blB BK256 hb
              replace BK257 := blB BK257 hb
              replace BK261 := blB BK261 hb
              replace HB := Aside0.mk (below_step bel hb)
              clear hb hbox hg
              refine hK.out _ _ ⟨(blk_cell BK256.out 0).trans rfl, (blk_cell BK256.out 1).trans rfl, (blk_cell BK257.out 0).trans rfl, (blk_cell BK257.out 1).trans rfl, (oc hw258_0), (oc hw258_1), (oc hw258_2), (oc hw259_0), (oc hw259_1), (oc hw259_2)⟩ (fun hHeld => ?_)
              clear hK K
              refine norm_ (a' := ?_) ?_ ?_
              rotate_left
              ·show Act.put _ (some 6) _ = _
               simp only [Act.put, List.setIfInBounds_toArray, List.set_cons_zero, List.set_cons_succ, i64_w, i32_w]
               rfl
              exact norm_ (by simp only [putAll, Act.put, List.setIfInBounds_toArray, List.set_cons_zero, List.set_cons_succ]) (hCont (gb260, gb261) _ ⟨hHeld, (bk BK256), (bk BK257), (bk BK260), (bk BK261), GW260.out, GE260.out, NB256_260.out, NB260_256.out, NB257_260.out, NB260_257.out, NB261_260.out, NB260_261.out, GW261.out, GE261.out, NB256_261.out, NB261_256.out, NB257_261.out, NB261_257.out, bel⟩)
            rintro ⟨gb260, gb261⟩ w26 ⟨hS_, h0_, h1_, h2_, h3_, h4_, h5_, h6_, h7_, h8_, h9_, h10_, h11_, h12_, h13_, h14_, h15_, h16_, h17_, h18_⟩
            have n0_ : Aside0 (w26.heap[gb256]? = some (.cells #[.int .i64 a0_0, .slice (some ad258) l0_1.length c0_1] 24 (0, 0))) := ⟨h0_⟩
            have n1_ : Aside0 (w26.heap[gb257]? = some (.cells #[.int .i64 a1_0, .slice (some ad259) l1_1.length c1_1] 24 (0, 0))) := ⟨h1_⟩
            have n2_ : Aside0 (w26.heap[gb260]? = some (.cells #[.string (⟨#[]⟩ : ByteArray), .int .i64 0, .slice none 0 0] 52 (0, 0))) := ⟨h2_⟩
            have n3_ : Aside0 (w26.heap[gb261]? = some (.cells #[.string (⟨#[]⟩ : ByteArray), .int .i64 0, .slice none 0 0] 52 (0, 0))) := ⟨h3_⟩
            have n4_ : Aside0 (w.heap.size ≤ gb260) := ⟨h4_⟩
            have n5_ : Aside0 (w.heap.size ≤ gb260) := ⟨h5_⟩
            have n6_ : Aside0 (gb256 ≠ gb260) := ⟨h6_⟩
            have n7_ : Aside0 (gb260 ≠ gb256) := ⟨h7_⟩
            have n8_ : Aside0 (gb257 ≠ gb260) := ⟨h8_⟩
            have n9_ : Aside0 (gb260 ≠ gb257) := ⟨h9_⟩
            have n10_ : Aside0 (gb261 ≠ gb260) := ⟨h10_⟩
            have n11_ : Aside0 (gb260 ≠ gb261) := ⟨h11_⟩
            have n12_ : Aside0 (w.heap.size ≤ gb261) := ⟨h12_⟩
            have n13_ : Aside0 (w.heap.size ≤ gb261) := ⟨h13_⟩
            have n14_ : Aside0 (gb256 ≠ gb261) := ⟨h14_⟩
            have n15_ : Aside0 (gb261 ≠ gb256) := ⟨h15_⟩
            have n16_ : Aside0 (gb257 ≠ gb261) := ⟨h16_⟩
            have n17_ : Aside0 (gb261 ≠ gb257) := ⟨h17_⟩
            have n18_ : Aside0 (Below w.heap.size w w26) := ⟨h18_⟩
            clear BK256
            clear BK257
            clear HB
            clear h0_ h1_ h2_ h3_ h4_ h5_ h6_ h7_ h8_ h9_ h10_ h11_ h12_ h13_ h14_ h15_ h16_ h17_ h18_
            have BK256 := n0_
            have BK257 := n1_
            have BK260 := n2_
            have BK261 := n3_
            have GW260 := n4_
            have GE260 := n5_
            have NB256_260 := n6_
            have NB260_256 := n7_
            have NB257_260 := n8_
            have NB260_257 := n9_
            have NB261_260 := n10_
            have NB260_261 := n11_
            have GW261 := n12_
            have GE261 := n13_
            have NB256_261 := n14_
            have NB261_256 := n15_
            have NB257_261 := n16_
            have NB261_257 := n17_
            have HB := n18_
            clear n0_ n1_ n2_ n3_ n4_ n5_ n6_ n7_ n8_ n9_ n10_ n11_ n12_ n13_ n14_ n15_ n16_ n17_ n18_
            have hHeld : w26.cell? ⟨gb256, 0, none⟩ = some (.int .i64 a0_0) ∧ w26.cell? ⟨gb256, 1, none⟩ = some (.slice (some ad258) l0_1.length c0_1) ∧ w26.cell? ⟨gb257, 0, none⟩ = some (.int .i64 a1_0) ∧ w26.cell? ⟨gb257, 1, none⟩ = some (.slice (some ad259) l1_1.length c1_1) ∧ w26.cell? (ad258.add ((x5_2).toNat * 3)) = some (.string ((rd_T52 l0_1 x5_2).f0)) ∧ w26.cell? ⟨(ad258.add ((x5_2).toNat * 3)).block, (ad258.add ((x5_2).toNat * 3)).off + 1, none⟩ = some (.int .i64 ((rd_T52 l0_1 x5_2).f1)) ∧ w26.cell? ⟨(ad258.add ((x5_2).toNat * 3)).block, (ad258.add ((x5_2).toNat * 3)).off + 2, none⟩ = some (.slice A258_2 ((rd_T52 l0_1 x5_2).f2).length c258_2) ∧ w26.cell? (ad259.add ((x5_2).toNat * 3)) = some (.string ((rd_T52 l1_1 x5_2).f0)) ∧ w26.cell? ⟨(ad259.add ((x5_2).toNat * 3)).block, (ad259.add ((x5_2).toNat * 3)).off + 1, none⟩ = some (.int .i64 ((rd_T52 l1_1 x5_2).f1)) ∧ w26.cell? ⟨(ad259.add ((x5_2).toNat * 3)).block, (ad259.add ((x5_2).toNat * 3)).off + 2, none⟩ = some (.slice A259_2 ((rd_T52 l1_1 x5_2).f2).length c259_2) := hS_
            refine norm_ (a' := ?_) ?_ ?_
            rotate_left
            ·simp only [putAll, Act.put, List.setIfInBounds_toArray, List.set_cons_zero, List.set_cons_succ]
             rfl
            refine sOn 12 none (fun K hK => ?_)
            have hs27 : w26.cell? ⟨gb260, 0, none⟩ = some (.string (⟨#[]⟩ : ByteArray)) := (blk_cell BK260.out 0).trans rfl
            have hfs27 := blk_frozen BK260.out 0
            have hns27_0 := NB256_260.out
            have hns27_1 := NB257_260.out
            have hns27_3 := NB261_260.out
            have hms27_0 := NB260_256.out
            have hms27_1 := NB260_257.out
            have hms27_3 := NB260_261.out
            have hs28 : w26.cell? ⟨gb260, 1, none⟩ = some (.int .i64 0) := (blk_cell BK260.out 1).trans rfl
            have hfs28 := blk_frozen BK260.out 1
            have hns28_0 := NB256_260.out
            have hns28_1 := NB257_260.out
            have hns28_3 := NB261_260.out
            have hms28_0 := NB260_256.out
            have hms28_1 := NB260_257.out
            have hms28_3 := NB260_261.out
            have hs29 : w26.cell? ⟨gb260, 2, none⟩ = some (.slice none 0 0) := (blk_cell BK260.out 2).trans rfl
            have hfs29 := blk_frozen BK260.out 2
            have hns29_0 := NB256_260.out
            have hns29_1 := NB257_260.out
            have hns29_3 := NB261_260.out
            have hms29_0 := NB260_256.out
            have hms29_1 := NB260_257.out
            have hms29_3 := NB260_261.out
            refine skip_ (w1 := ?_) (by rfl) rfl ?_ ?_
            rotate_left
            ·go_simp
             rfl
            refine hK.out _ _ ⟨((cell_far (p := ⟨gb260, _, none⟩) NB256_260.out _).trans (((cell_far (p := ⟨gb260, _, none⟩) NB256_260.out _).trans (((cell_far (p := ⟨gb260, _, none⟩) NB256_260.out _).trans (hHeld.1)))))), ((cell_far (p := ⟨gb260, _, none⟩) NB256_260.out _).trans (((cell_far (p := ⟨gb260, _, none⟩) NB256_260.out _).trans (((cell_far (p := ⟨gb260, _, none⟩) NB256_260.out _).trans (hHeld.2.1)))))), ((cell_far (p := ⟨gb260, _, none⟩) NB257_260.out _).trans (((cell_far (p := ⟨gb260, _, none⟩) NB257_260.out _).trans (((cell_far (p := ⟨gb260, _, none⟩) NB257_260.out _).trans (hHeld.2.2.1)))))), ((cell_far (p := ⟨gb260, _, none⟩) NB257_260.out _).trans (((cell_far (p := ⟨gb260, _, none⟩) NB257_260.out _).trans (((cell_far (p := ⟨gb260, _, none⟩) NB257_260.out _).trans (hHeld.2.2.2.1)))))), ((cell_far (p := ⟨gb260, _, none⟩) (far_ne34 hw258_0 GW260.out) _).trans (((cell_far (p := ⟨gb260, _, none⟩) (far_ne34 hw258_0 GW260.out) _).trans (((cell_far (p := ⟨gb260, _, none⟩) (far_ne34 hw258_0 GW260.out) _).trans (hHeld.2.2.2.2.1)))))), ((cell_far (p := ⟨gb260, _, none⟩) (far_ne34 hw258_1 GW260.out) _).trans (((cell_far (p := ⟨gb260, _, none⟩) (far_ne34 hw258_1 GW260.out) _).trans (((cell_far (p := ⟨gb260, _, none⟩) (far_ne34 hw258_1 GW260.out) _).trans (hHeld.2.2.2.2.2.1)))))), ((cell_far (p := ⟨gb260, _, none⟩) (far_ne34 hw258_2 GW260.out) _).trans (((cell_far (p := ⟨gb260, _, none⟩) (far_ne34 hw258_2 GW260.out) _).trans (((cell_far (p := ⟨gb260, _, none⟩) (far_ne34 hw258_2 GW260.out) _).trans (hHeld.2.2.2.2.2.2.1)))))), ((cell_far (p := ⟨gb260, _, none⟩) (far_ne34 hw259_0 GW260.out) _).trans (((cell_far (p := ⟨gb260, _, none⟩) (far_ne34 hw259_0 GW260.out) _).trans (((cell_far (p := ⟨gb260, _, none⟩) (far_ne34 hw259_0 GW260.out) _).trans (hHeld.2.2.2.2.2.2.2.1)))))), ((cell_far (p := ⟨gb260, _, none⟩) (far_ne34 hw259_1 GW260.out) _).trans (((cell_far (p := ⟨gb260, _, none⟩) (far_ne34 hw259_1 GW260.out) _).trans (((cell_far (p := ⟨gb260, _, none⟩) (far_ne34 hw259_1 GW260.out) _).trans (hHeld.2.2.2.2.2.2.2.2.1)))))), ((cell_far (p := ⟨gb260, _, none⟩) (far_ne34 hw259_2 GW260.out) _).trans (((cell_far (p := ⟨gb260, _, none⟩) (far_ne34 hw259_2 GW260.out) _).trans (((cell_far (p := ⟨gb260, _, none⟩) (far_ne34 hw259_2 GW260.out) _).trans (hHeld.2.2.2.2.2.2.2.2.2))))))⟩ (fun hHeld => ?_)
            clear hK K
            refine sOn 13 none (fun K hK => ?_)
            have hs30 : w26.cell? ⟨gb261, 0, none⟩ = some (.string (⟨#[]⟩ : ByteArray)) := (blk_cell BK261.out 0).trans rfl
            have hfs30 := blk_frozen BK261.out 0
            have hns30_0 := NB256_261.out
            have hns30_1 := NB257_261.out
            have hns30_2 := NB260_261.out
            have hms30_0 := NB261_256.out
            have hms30_1 := NB261_257.out
            have hms30_2 := NB261_260.out
            have hs31 : w26.cell? ⟨gb261, 1, none⟩ = some (.int .i64 0) := (blk_cell BK261.out 1).trans rfl
            have hfs31 := blk_frozen BK261.out 1
            have hns31_0 := NB256_261.out
            have hns31_1 := NB257_261.out
            have hns31_2 := NB260_261.out
            have hms31_0 := NB261_256.out
            have hms31_1 := NB261_257.out
            have hms31_2 := NB261_260.out
            have hs32 : w26.cell? ⟨gb261, 2, none⟩ = some (.slice none 0 0) := (blk_cell BK261.out 2).trans rfl
            have hfs32 := blk_frozen BK261.out 2
            have hns32_0 := NB256_261.out
            have hns32_1 := NB257_261.out
            have hns32_2 := NB260_261.out
            have hms32_0 := NB261_256.out
            have hms32_1 := NB261_257.out
            have hms32_2 := NB261_260.out
            refine skip_ (w1 := ?_) (by rfl) rfl ?_ ?_
            rotate_left
            ·go_simp
             rfl
            refine hK.out _ _ ⟨((cell_far (p := ⟨gb261, _, none⟩) NB256_261.out _).trans (((cell_far (p := ⟨gb261, _, none⟩) NB256_261.out _).trans (((cell_far (p := ⟨gb261, _, none⟩) NB256_261.out _).trans (hHeld.1)))))), ((cell_far (p := ⟨gb261, _, none⟩) NB256_261.out _).trans (((cell_far (p := ⟨gb261, _, none⟩) NB256_261.out _).trans (((cell_far (p := ⟨gb261, _, none⟩) NB256_261.out _).trans (hHeld.2.1)))))), ((cell_far (p := ⟨gb261, _, none⟩) NB257_261.out _).trans (((cell_far (p := ⟨gb261, _, none⟩) NB257_261.out _).trans (((cell_far (p := ⟨gb261, _, none⟩) NB257_261.out _).trans (hHeld.2.2.1)))))), ((cell_far (p := ⟨gb261, _, none⟩) NB257_261.out _).trans (((cell_far (p := ⟨gb261, _, none⟩) NB257_261.out _).trans (((cell_far (p := ⟨gb261, _, none⟩) NB257_261.out _).trans (hHeld.2.2.2.1)))))), ((cell_far (p := ⟨gb261, _, none⟩) (far_ne34 hw258_0 GW261.out) _).trans (((cell_far (p := ⟨gb261, _, none⟩) (far_ne34 hw258_0 GW261.out) _).trans (((cell_far (p := ⟨gb261, _, none⟩) (far_ne34 hw258_0 GW261.out) _).trans (hHeld.2.2.2.2.1)))))), ((cell_far (p := ⟨gb261, _, none⟩) (far_ne34 hw258_1 GW261.out) _).trans (((cell_far (p := ⟨gb261, _, none⟩) (far_ne34 hw258_1 GW261.out) _).trans (((cell_far (p := ⟨gb261, _, none⟩) (far_ne34 hw258_1 GW261.out) _).trans (hHeld.2.2.2.2.2.1)))))), ((cell_far (p := ⟨gb261, _, none⟩) (far_ne34 hw258_2 GW261.out) _).trans (((cell_far (p := ⟨gb261, _, none⟩) (far_ne34 hw258_2 GW261.out) _).trans (((cell_far (p := ⟨gb261, _, none⟩) (far_ne34 hw258_2 GW261.out) _).trans (hHeld.2.2.2.2.2.2.1)))))), ((cell_far (p := ⟨gb261, _, none⟩) (far_ne34 hw259_0 GW261.out) _).trans (((cell_far (p := ⟨gb261, _, none⟩) (far_ne34 hw259_0 GW261.out) _).trans (((cell_far (p := ⟨gb261, _, none⟩) (far_ne34 hw259_0 GW261.out) _).trans (hHeld.2.2.2.2.2.2.2.1)))))), ((cell_far (p := ⟨gb261, _, none⟩) (far_ne34 hw259_1 GW261.out) _).trans (((cell_far (p := ⟨gb261, _, none⟩) (far_ne34 hw259_1 GW261.out) _).trans (((cell_far (p := ⟨gb261, _, none⟩) (far_ne34 hw259_1 GW261.out) _).trans (hHeld.2.2.2.2.2.2.2.2.1)))))), ((cell_far (p := ⟨gb261, _, none⟩) (far_ne34 hw259_2 GW261.out) _).trans (((cell_far (p := ⟨gb261, _, none⟩) (far_ne34 hw259_2 GW261.out) _).trans (((cell_far (p := ⟨gb261, _, none⟩) (far_ne34 hw259_2 GW261.out) _).trans (hHeld.2.2.2.2.2.2.2.2.2))))))⟩ (fun hHeld => ?_)
            clear hK K
            refine done_ (done_of HT_.out (by kernel_rfl)) ?_
            have hnb33 := NB260_256.out
            have hnc33 := NB256_260.out
            have hnb34 := NB260_257.out
            have hnc34 := NB257_260.out
            have hnb35 := NB260_261.out
            have hnc35 := NB261_260.out
            obtain ⟨hcz36_0, hcz36_1, hcz36_2, hfz36_0, hfz36_1, hfz36_2⟩ := bq3 BK260
            have hnb37 := NB261_256.out
            have hnc37 := NB256_261.out
            have hnb38 := NB261_257.out
            have hnc38 := NB257_261.out
            obtain ⟨hcz39_0, hcz39_1, hcz39_2, hfz39_0, hfz39_1, hfz39_2⟩ := bq3 BK261
            try go_wp2_with (first | (go_at_call 69; (with_reducible refine (paraphrastref01_SameTuples.calls k2 _ _ ((rd_T52 l0_1 x5_2).f2) _ _ ((rd_T52 l1_1 x5_2).f2) true _ ?side1 ?side2 ?side3 ?side4 A19.out).mono ?_); (case side1 => exact Kd.C_below HR258_2.out bel); (case side2 => exact HC258_2.out); (case side3 => exact Kd.C_below HR259_2.out bel); (case side4 => exact HC259_2.out); rintro e w' ⟨rfl, ⟨nd, rfl⟩⟩))
            go_roundg k2
            case measure => have := HJ2.out; have := HK2.out; omega
            case rel => exact ⟨(wrap64 (x5_2 + 1)), eS, H', ⟨by have := HJ2.out; have := HK2.out; omega⟩, ⟨by (with_reducible repeat (first | refine blk_drewN ?_ _ | refine blk_drew ?_ | refine blk_alloc ?_ _)); refine blk_far ?_ NB256_261.out _; (with_reducible repeat (first | refine blk_drewN ?_ _ | refine blk_drew ?_ | refine blk_alloc ?_ _)); refine blk_far ?_ NB256_261.out _; (with_reducible repeat (first | refine blk_drewN ?_ _ | refine blk_drew ?_ | refine blk_alloc ?_ _)); refine blk_far ?_ NB256_261.out _; (with_reducible repeat (first | refine blk_drewN ?_ _ | refine blk_drew ?_ | refine blk_alloc ?_ _)); refine blk_far ?_ NB256_260.out _; (with_reducible repeat (first | refine blk_drewN ?_ _ | refine blk_drew ?_ | refine blk_alloc ?_ _)); refine blk_far ?_ NB256_260.out _; (with_reducible repeat (first | refine blk_drewN ?_ _ | refine blk_drew ?_ | refine blk_alloc ?_ _)); refine blk_far ?_ NB256_260.out _; (with_reducible repeat (first | refine blk_drewN ?_ _ | refine blk_drew ?_ | refine blk_alloc ?_ _)); exact BK256.out⟩, ⟨by (with_reducible repeat (first | refine blk_drewN ?_ _ | refine blk_drew ?_ | refine blk_alloc ?_ _)); refine blk_far ?_ NB257_261.out _; (with_reducible repeat (first | refine blk_drewN ?_ _ | refine blk_drew ?_ | refine blk_alloc ?_ _)); refine blk_far ?_ NB257_261.out _; (with_reducible repeat (first | refine blk_drewN ?_ _ | refine blk_drew ?_ | refine blk_alloc ?_ _)); refine blk_far ?_ NB257_261.out _; (with_reducible repeat (first | refine blk_drewN ?_ _ | refine blk_drew ?_ | refine blk_alloc ?_ _)); refine blk_far ?_ NB257_260.out _; (with_reducible repeat (first | refine blk_drewN ?_ _ | refine blk_drew ?_ | refine blk_alloc ?_ _)); refine blk_far ?_ NB257_260.out _; (with_reducible repeat (first | refine blk_drewN ?_ _ | refine blk_drew ?_ | refine blk_alloc ?_ _)); refine blk_far ?_ NB257_260.out _; (with_reducible repeat (first | refine blk_drewN ?_ _ | refine blk_drew ?_ | refine blk_alloc ?_ _)); exact BK257.out⟩, ⟨bel⟩⟩
           ·replace c20 := Bool.eq_false_iff.mpr c20
            subst c20
            have H1 : (some false) = some r := by rw [if_neg (show ¬ (false = true) by decide)] at H; exact H
            clear H
            have H := H1
            clear H1
            obtain rfl := Option.some.inj H
            have hnb40 := NB256_257.out
            have hnc40 := NB257_256.out
            obtain ⟨hcz41_0, hcz41_1, hfz41_0, hfz41_1⟩ := bq2 BK256
            try go_wp2
            replace BK256 := Aside0.mk (blk_drew BK256.out)
            replace BK257 := Aside0.mk (blk_drew BK257.out)
            replace HB := Aside0.mk (below_drew1 HB.out)
            have p258 : 0 ≤ (x5_2 : Int) := dtr
            have q258 : x5_2 < (l0_1.length : Int) := dtr
            obtain ⟨ad258, A258_2, c258_2, e258, hx258_0, hx258_1, hx258_2, hl258_2, hi258_2⟩ := at_T52 HR0_1.out x5_2 p258 q258
            have hw258_2 := hx258_2
            have hw258_1 := hx258_1
            have hw258_0 := hx258_0
            cases e258
            replace hx258_0 := oc hx258_0
            replace hx258_1 := oc hx258_1
            replace hx258_2 := oc hx258_2
            have HR258_2 := Aside0.mk hi258_2
            have HC258_2 := Aside0.mk hl258_2
            clear hi258_2 hl258_2
            replace p258 := eq_true p258
            replace q258 := eq_true q258
            have p259 : 0 ≤ (x5_2 : Int) := dtr
            have q259 : x5_2 < (l1_1.length : Int) := dtr
            obtain ⟨ad259, A259_2, c259_2, e259, hx259_0, hx259_1, hx259_2, hl259_2, hi259_2⟩ := at_T52 HR1_1.out x5_2 p259 q259
            have hw259_2 := hx259_2
            have hw259_1 := hx259_1
            have hw259_0 := hx259_0
            cases e259
            replace hx259_0 := oc hx259_0
            replace hx259_1 := oc hx259_1
            replace hx259_2 := oc hx259_2
            have HR259_2 := Aside0.mk hi259_2
            have HC259_2 := Aside0.mk hl259_2
            clear hi259_2 hl259_2
            replace p259 := eq_true p259
            replace q259 := eq_true q259
            refine start_ (n := 14) (S := fun w' => w'.cell? ⟨gb256, 0, none⟩ = some (.int .i64 a0_0) ∧ w'.cell? ⟨gb256, 1, none⟩ = some (.slice (some ad258) l0_1.length c0_1) ∧ w'.cell? ⟨gb257, 0, none⟩ = some (.int .i64 a1_0) ∧ w'.cell? ⟨gb257, 1, none⟩ = some (.slice (some ad259) l1_1.length c1_1) ∧ w'.cell? (ad258.add ((x5_2).toNat * 3)) = some (.string ((rd_T52 l0_1 x5_2).f0)) ∧ w'.cell? ⟨(ad258.add ((x5_2).toNat * 3)).block, (ad258.add ((x5_2).toNat * 3)).off + 1, none⟩ = some (.int .i64 ((rd_T52 l0_1 x5_2).f1)) ∧ w'.cell? ⟨(ad258.add ((x5_2).toNat * 3)).block, (ad258.add ((x5_2).toNat * 3)).off + 2, none⟩ = some (.slice A258_2 ((rd_T52 l0_1 x5_2).f2).length c258_2) ∧ w'.cell? (ad259.add ((x5_2).toNat * 3)) = some (.string ((rd_T52 l1_1 x5_2).f0)) ∧ w'.cell? ⟨(ad259.add ((x5_2).toNat * 3)).block, (ad259.add ((x5_2).toNat * 3)).off + 1, none⟩ = some (.int .i64 ((rd_T52 l1_1 x5_2).f1)) ∧ w'.cell? ⟨(ad259.add ((x5_2).toNat * 3)).block, (ad259.add ((x5_2).toNat * 3)).off + 2, none⟩ = some (.slice A259_2 ((rd_T52 l1_1 x5_2).f2).length c259_2)) (ds := []) #[false, false, false, false, false, false, false, false, false, false, false, false, false, false] (by kernel_rfl) rfl rfl ⟨(blk_cell BK256.out 0).trans rfl, (blk_cell BK256.out 1).trans rfl, (blk_cell BK257.out 0).trans rfl, (blk_cell BK257.out 1).trans rfl, (oc hw258_0), (oc hw258_1), (oc hw258_2), (oc hw259_0), (oc hw259_1), (oc hw259_2)⟩ (fun hHeld => ?_); refine with_tabW paraphrastref01_Same.tab6 paraphrastref01_Same.bits6 (fun HT_ HW_ => ?_)
            generalize wr.drew = w42 at BK256 BK257 HB HR258_2 HR259_2 hx258_0 hx258_1 hx258_2 hx259_0 hx259_1 hx259_2 hHeld ⊢
            refine sPu 0 (some 29) ?_
            refine sPu 2 (some 31) ?_
            refine sPu 5 (some 34) ?_
            refine sPu 7 (some 36) ?_
            refine sTk 1 (some 30) ?_
            refine sPu 3 (some 32) ?_
            refine sTk 4 (some 33) ?_
            refine sTk 6 (some 35) ?_
            refine sPu 8 (some 37) ?_
            refine sTk 9 (some 38) ?_
            refine join_ (σ := Nat × Nat) 2 #[true, true, true, true, true, true, true, true, true, true, true, true, false, false] (fun s_ => [(6, .pointer (some ⟨s_.1, 0, none⟩)), (7, .pointer (some ⟨s_.2, 0, none⟩))]) (fun s_ w' => (w'.cell? ⟨gb256, 0, none⟩ = some (.int .i64 a0_0) ∧ w'.cell? ⟨gb256, 1, none⟩ = some (.slice (some ad258) l0_1.length c0_1) ∧ w'.cell? ⟨gb257, 0, none⟩ = some (.int .i64 a1_0) ∧ w'.cell? ⟨gb257, 1, none⟩ = some (.slice (some ad259) l1_1.length c1_1) ∧ w'.cell? (ad258.add ((x5_2).toNat * 3)) = some (.string ((rd_T52 l0_1 x5_2).f0)) ∧ w'.cell? ⟨(ad258.add ((x5_2).toNat * 3)).block, (ad258.add ((x5_2).toNat * 3)).off + 1, none⟩ = some (.int .i64 ((rd_T52 l0_1 x5_2).f1)) ∧ w'.cell? ⟨(ad258.add ((x5_2).toNat * 3)).block, (ad258.add ((x5_2).toNat * 3)).off + 2, none⟩ = some (.slice A258_2 ((rd_T52 l0_1 x5_2).f2).length c258_2) ∧ w'.cell? (ad259.add ((x5_2).toNat * 3)) = some (.string ((rd_T52 l1_1 x5_2).f0)) ∧ w'.cell? ⟨(ad259.add ((x5_2).toNat * 3)).block, (ad259.add ((x5_2).toNat * 3)).off + 1, none⟩ = some (.int .i64 ((rd_T52 l1_1 x5_2).f1)) ∧ w'.cell? ⟨(ad259.add ((x5_2).toNat * 3)).block, (ad259.add ((x5_2).toNat * 3)).off + 2, none⟩ = some (.slice A259_2 ((rd_T52 l1_1 x5_2).f2).length c259_2)) ∧ (w'.heap[gb256]? = some (.cells #[.int .i64 a0_0, .slice (some ad258) l0_1.length c0_1] 24 (0, 0))) ∧ (w'.heap[gb257]? = some (.cells #[.int .i64 a1_0, .slice (some ad259) l1_1.length c1_1] 24 (0, 0))) ∧ (w'.heap[s_.1]? = some (.cells #[.string (⟨#[]⟩ : ByteArray), .int .i64 0, .slice none 0 0] 52 (0, 0))) ∧ (w'.heap[s_.2]? = some (.cells #[.string (⟨#[]⟩ : ByteArray), .int .i64 0, .slice none 0 0] 52 (0, 0))) ∧ (w.heap.size ≤ s_.1) ∧ (w.heap.size ≤ s_.1) ∧ (gb256 ≠ s_.1) ∧ (s_.1 ≠ gb256) ∧ (gb257 ≠ s_.1) ∧ (s_.1 ≠ gb257) ∧ (s_.2 ≠ s_.1) ∧ (s_.1 ≠ s_.2) ∧ (w.heap.size ≤ s_.2) ∧ (w.heap.size ≤ s_.2) ∧ (gb256 ≠ s_.2) ∧ (s_.2 ≠ gb256) ∧ (gb257 ≠ s_.2) ∧ (s_.2 ≠ gb257) ∧ (Below w.heap.size w w')) ?_ ?_
            rotate_left
            ·intro hCont
             refine two_ (i := 10) (j := 11) (Ni := some 6) (Nj := some 7) #[true, true, true, true, true, true, true, true, true, true, true, false, false, false] #[true, true, true, true, true, true, true, true, true, true, false, true, false, false] rfl rfl rfl rfl (two_of HT_.out (by kernel_rfl)) (by decide) (by decide) (fun K hK => ?_) (fun K hK => ?_)
             ·skip
              refine box_step ?hg (N := 6) ?hd (cs := #[.string (⟨#[]⟩ : ByteArray), .int .i64 0, .slice none 0 0]) (t := 52) ?hr ?_; (case hd => rfl); (case hg => rfl); (case hr => first | (go_simp; done) | (go_simp; rfl))
              intro gb260 hg w43 hbox hb
              have BK260 := Aside0.mk (hbox)
              have GW260 := geB w hg
              have GE260 := geB w hg
              have NB256_260 := neL BK256 hg
              have NB260_256 := neG BK256 hg
              have NB257_260 := neL BK257 hg
              have NB260_257 := neG BK257 hg
              replace BK256 := blB BK256 hb
              replace BK257 := blB BK257 hb
              replace HB := Aside0.mk (below_step bel hb)
              clear hb hbox hg
              refine hK.out _ _ ⟨(blk_cell BK256.out 0).trans rfl, (blk_cell BK256.out 1).trans rfl, (blk_cell BK257.out 0).trans rfl, (blk_cell BK257.out 1).trans rfl, (oc hw258_0), (oc hw258_1), (oc hw258_2), (oc hw259_0), (oc hw259_1), (oc hw259_2)⟩ (fun hHeld => ?_)
              clear hK K
              refine norm_ (a' := ?_) ?_ ?_
              rotate_left
              ·show Act.put _ (some 6) _ = _
               simp only [Act.put, List.setIfInBounds_toArray, List.set_cons_zero, List.set_cons_succ, i64_w, i32_w]
               rfl
              refine sOn 11 (some 7) (fun K hK => ?_)
              refine box_step ?hg (N := 7) ?hd (cs := #[.string (⟨#[]⟩ : ByteArray), .int .i64 0, .slice none 0 0]) (t := 52) ?hr ?_; (case hd => rfl); (case hg => rfl); (case hr => first | (go_simp; done) | (go_simp; rfl))
              intro gb261 hg w44 hbox hb
              have BK261 := Aside0.mk (hbox)
              have GW261 := geB w hg
              have GE261 := geB w hg
              have NB256_261 := neL BK256 hg
              have NB261_256 := neG BK256 hg
              have NB257_261 := neL BK257 hg
              have NB261_257 := neG BK257 hg
              have NB260_261 := neL BK260 hg
              have NB261_260 := neG BK260 hg
              replace BK256 := blB BK256 hb
              replace BK257 := blB BK257 hb
              replace BK260 := blB BK260 hb
              replace HB := Aside0.mk (below_step bel hb)
              clear hb hbox hg
              refine hK.out _ _ ⟨(blk_cell BK256.out 0).trans rfl, (blk_cell BK256.out 1).trans rfl, (blk_cell BK257.out 0).trans rfl, (blk_cell BK257.out 1).trans rfl, (oc hw258_0), (oc hw258_1), (oc hw258_2), (oc hw259_0), (oc hw259_1), (oc hw259_2)⟩ (fun hHeld => ?_)
              clear hK K
              refine norm_ (a' := ?_) ?_ ?_
              rotate_left
              ·show Act.put _ (some 7) _ = _
               simp only [Act.put, List.setIfInBounds_toArray, List.set_cons_zero, List.set_cons_succ, i64_w, i32_w]
               rfl
              exact norm_ (by simp only [putAll, Act.put, List.setIfInBounds_toArray, List.set_cons_zero, List.set_cons_succ]) (hCont (gb260, gb261) _ ⟨hHeld, (bk BK256), (bk BK257), (bk BK260), (bk BK261), GW260.out, GE260.out, NB256_260.out, NB260_256.out, NB257_260.out, NB260_257.out, NB261_260.out, NB260_261.out, GW261.out, GE261.out, NB256_261.out, NB261_256.out, NB257_261.out, NB261_257.out, bel⟩)
             ·skip
              refine box_step ?hg (N := 7) ?hd (cs := #[.string (⟨#[]⟩ : ByteArray), .int .i64 0, .slice none 0 0]) (t := 52) ?hr ?_; (case hd => rfl); (case hg => rfl); (case hr => first | (go_simp; done) | (go_simp; rfl))
              intro gb261 hg w43 hbox hb
              have BK261 := Aside0.mk (hbox)
              have GW261 := geB w hg
              have GE261 := geB w hg
              have NB256_261 := neL BK256 hg
              have NB261_256 := neG BK256 hg
              have NB257_261 := neL BK257 hg
              have NB261_257 := neG BK257 hg
              replace BK256 := blB BK256 hb
              replace BK257 := blB BK257 hb
              replace HB := Aside0.mk (below_step bel hb)
              clear hb hbox hg
              refine hK.out _ _ ⟨(blk_cell BK256.out 0).trans rfl, (blk_cell BK256.out 1).trans rfl, (blk_cell BK257.out 0).trans rfl, (blk_cell BK257.out 1).trans rfl, (oc hw258_0), (oc hw258_1), (oc hw258_2), (oc hw259_0), (oc hw259_1), (oc hw259_2)⟩ (fun hHeld => ?_)
              clear hK K
              refine norm_ (a' := ?_) ?_ ?_
              rotate_left
              ·show Act.put _ (some 7) _ = _
               simp only [Act.put, List.setIfInBounds_toArray, List.set_cons_zero, List.set_cons_succ, i64_w, i32_w]
               rfl
              refine sOn 10 (some 6) (fun K hK => ?_)
              refine box_step ?hg (N := 6) ?hd (cs := #[.string (⟨#[]⟩ : ByteArray), .int .i64 0, .slice none 0 0]) (t := 52) ?hr ?_; (case hd => rfl); (case hg => rfl); (case hr => first | (go_simp; done) | (go_simp; rfl))
              intro gb260 hg w44 hbox hb
              have BK260 := Aside0.mk (hbox)
              have GW260 := geB w hg
              have GE260 := geB w hg
              have NB256_260 := neL BK256 hg
              have NB260_256 := neG BK256 hg
              have NB257_260 := neL BK257 hg
              have NB260_257 := neG BK257 hg
              have NB261_260 := neL BK261 hg
              have NB260_261 := neG BK261 hg
              replace BK256 := blB BK256 hb
              replace BK257 := blB BK257 hb
              replace BK261 := blB BK261 hb
              replace HB := Aside0.mk (below_step bel hb)
              clear hb hbox hg
              refine hK.out _ _ ⟨(blk_cell BK256.out 0).trans rfl, (blk_cell BK256.out 1).trans rfl, (blk_cell BK257.out 0).trans rfl, (blk_cell BK257.out 1).trans rfl, (oc hw258_0), (oc hw258_1), (oc hw258_2), (oc hw259_0), (oc hw259_1), (oc hw259_2)⟩ (fun hHeld => ?_)
              clear hK K
              refine norm_ (a' := ?_) ?_ ?_
              rotate_left
              ·show Act.put _ (some 6) _ = _
               simp only [Act.put, List.setIfInBounds_toArray, List.set_cons_zero, List.set_cons_succ, i64_w, i32_w]
               rfl
              exact norm_ (by simp only [putAll, Act.put, List.setIfInBounds_toArray, List.set_cons_zero, List.set_cons_succ]) (hCont (gb260, gb261) _ ⟨hHeld, (bk BK256), (bk BK257), (bk BK260), (bk BK261), GW260.out, GE260.out, NB256_260.out, NB260_256.out, NB257_260.out, NB260_257.out, NB261_260.out, NB260_261.out, GW261.out, GE261.out, NB256_261.out, NB261_256.out, NB257_261.out, NB261_257.out, bel⟩)
            rintro ⟨gb260, gb261⟩ w45 ⟨hS_, h0_, h1_, h2_, h3_, h4_, h5_, h6_, h7_, h8_, h9_, h10_, h11_, h12_, h13_, h14_, h15_, h16_, h17_, h18_⟩
            have n0_ : Aside0 (w45.heap[gb256]? = some (.cells #[.int .i64 a0_0, .slice (some ad258) l0_1.length c0_1] 24 (0, 0))) := ⟨h0_⟩
            have n1_ : Aside0 (w45.heap[gb257]? = some (.cells #[.int .i64 a1_0, .slice (some ad259) l1_1.length c1_1] 24 (0, 0))) := ⟨h1_⟩
            have n2_ : Aside0 (w45.heap[gb260]? = some (.cells #[.string (⟨#[]⟩ : ByteArray), .int .i64 0, .slice none 0 0] 52 (0, 0))) := ⟨h2_⟩
            have n3_ : Aside0 (w45.heap[gb261]? = some (.cells #[.string (⟨#[]⟩ : ByteArray), .int .i64 0, .slice none 0 0] 52 (0, 0))) := ⟨h3_⟩
            have n4_ : Aside0 (w.heap.size ≤ gb260) := ⟨h4_⟩
            have n5_ : Aside0 (w.heap.size ≤ gb260) := ⟨h5_⟩
            have n6_ : Aside0 (gb256 ≠ gb260) := ⟨h6_⟩
            have n7_ : Aside0 (gb260 ≠ gb256) := ⟨h7_⟩
            have n8_ : Aside0 (gb257 ≠ gb260) := ⟨h8_⟩
            have n9_ : Aside0 (gb260 ≠ gb257) := ⟨h9_⟩
            have n10_ : Aside0 (gb261 ≠ gb260) := ⟨h10_⟩
            have n11_ : Aside0 (gb260 ≠ gb261) := ⟨h11_⟩
            have n12_ : Aside0 (w.heap.size ≤ gb261) := ⟨h12_⟩
            have n13_ : Aside0 (w.heap.size ≤ gb261) := ⟨h13_⟩
            have n14_ : Aside0 (gb256 ≠ gb261) := ⟨h14_⟩
            have n15_ : Aside0 (gb261 ≠ gb256) := ⟨h15_⟩
            have n16_ : Aside0 (gb257 ≠ gb261) := ⟨h16_⟩
            have n17_ : Aside0 (gb261 ≠ gb257) := ⟨h17_⟩
            have n18_ : Aside0 (Below w.heap.size w w45) := ⟨h18_⟩
            clear BK256
            clear BK257
            clear HB
            clear h0_ h1_ h2_ h3_ h4_ h5_ h6_ h7_ h8_ h9_ h10_ h11_ h12_ h13_ h14_ h15_ h16_ h17_ h18_
            have BK256 := n0_
            have BK257 := n1_
            have BK260 := n2_
            have BK261 := n3_
            have GW260 := n4_
            have GE260 := n5_
            have NB256_260 := n6_
            have NB260_256 := n7_
            have NB257_260 := n8_
            have NB260_257 := n9_
            have NB261_260 := n10_
            have NB260_261 := n11_
            have GW261 := n12_
            have GE261 := n13_
            have NB256_261 := n14_
            have NB261_256 := n15_
            have NB257_261 := n16_
            have NB261_257 := n17_
            have HB := n18_
            clear n0_ n1_ n2_ n3_ n4_ n5_ n6_ n7_ n8_ n9_ n10_ n11_ n12_ n13_ n14_ n15_ n16_ n17_ n18_
            have hHeld : w45.cell? ⟨gb256, 0, none⟩ = some (.int .i64 a0_0) ∧ w45.cell? ⟨gb256, 1, none⟩ = some (.slice (some ad258) l0_1.length c0_1) ∧ w45.cell? ⟨gb257, 0, none⟩ = some (.int .i64 a1_0) ∧ w45.cell? ⟨gb257, 1, none⟩ = some (.slice (some ad259) l1_1.length c1_1) ∧ w45.cell? (ad258.add ((x5_2).toNat * 3)) = some (.string ((rd_T52 l0_1 x5_2).f0)) ∧ w45.cell? ⟨(ad258.add ((x5_2).toNat * 3)).block, (ad258.add ((x5_2).toNat * 3)).off + 1, none⟩ = some (.int .i64 ((rd_T52 l0_1 x5_2).f1)) ∧ w45.cell? ⟨(ad258.add ((x5_2).toNat * 3)).block, (ad258.add ((x5_2).toNat * 3)).off + 2, none⟩ = some (.slice A258_2 ((rd_T52 l0_1 x5_2).f2).length c258_2) ∧ w45.cell? (ad259.add ((x5_2).toNat * 3)) = some (.string ((rd_T52 l1_1 x5_2).f0)) ∧ w45.cell? ⟨(ad259.add ((x5_2).toNat * 3)).block, (ad259.add ((x5_2).toNat * 3)).off + 1, none⟩ = some (.int .i64 ((rd_T52 l1_1 x5_2).f1)) ∧ w45.cell? ⟨(ad259.add ((x5_2).toNat * 3)).block, (ad259.add ((x5_2).toNat * 3)).off + 2, none⟩ = some (.slice A259_2 ((rd_T52 l1_1 x5_2).f2).length c259_2) := hS_
            refine norm_ (a' := ?_) ?_ ?_
            rotate_left
            ·simp only [putAll, Act.put, List.setIfInBounds_toArray, List.set_cons_zero, List.set_cons_succ]
             rfl
            refine sOn 12 none (fun K hK => ?_)
            have hs46 : w45.cell? ⟨gb260, 0, none⟩ = some (.string (⟨#[]⟩ : ByteArray)) := (blk_cell BK260.out 0).trans rfl
            have hfs46 := blk_frozen BK260.out 0
            have hns46_0 := NB256_260.out
            have hns46_1 := NB257_260.out
            have hns46_3 := NB261_260.out
            have hms46_0 := NB260_256.out
            have hms46_1 := NB260_257.out
            have hms46_3 := NB260_261.out
            have hs47 : w45.cell? ⟨gb260, 1, none⟩ = some (.int .i64 0) := (blk_cell BK260.out 1).trans rfl
            have hfs47 := blk_frozen BK260.out 1
            have hns47_0 := NB256_260.out
            have hns47_1 := NB257_260.out
            have hns47_3 := NB261_260.out
            have hms47_0 := NB260_256.out
            have hms47_1 := NB260_257.out
            have hms47_3 := NB260_261.out
            have hs48 : w45.cell? ⟨gb260, 2, none⟩ = some (.slice none 0 0) := (blk_cell BK260.out 2).trans rfl
            have hfs48 := blk_frozen BK260.out 2
            have hns48_0 := NB256_260.out
            have hns48_1 := NB257_260.out
            have hns48_3 := NB261_260.out
            have hms48_0 := NB260_256.out
            have hms48_1 := NB260_257.out
            have hms48_3 := NB260_261.out
            refine skip_ (w1 := ?_) (by rfl) rfl ?_ ?_
            rotate_left
            ·go_simp
             rfl
            refine hK.out _ _ ⟨((cell_far (p := ⟨gb260, _, none⟩) NB256_260.out _).trans (((cell_far (p := ⟨gb260, _, none⟩) NB256_260.out _).trans (((cell_far (p := ⟨gb260, _, none⟩) NB256_260.out _).trans (hHeld.1)))))), ((cell_far (p := ⟨gb260, _, none⟩) NB256_260.out _).trans (((cell_far (p := ⟨gb260, _, none⟩) NB256_260.out _).trans (((cell_far (p := ⟨gb260, _, none⟩) NB256_260.out _).trans (hHeld.2.1)))))), ((cell_far (p := ⟨gb260, _, none⟩) NB257_260.out _).trans (((cell_far (p := ⟨gb260, _, none⟩) NB257_260.out _).trans (((cell_far (p := ⟨gb260, _, none⟩) NB257_260.out _).trans (hHeld.2.2.1)))))), ((cell_far (p := ⟨gb260, _, none⟩) NB257_260.out _).trans (((cell_far (p := ⟨gb260, _, none⟩) NB257_260.out _).trans (((cell_far (p := ⟨gb260, _, none⟩) NB257_260.out _).trans (hHeld.2.2.2.1)))))), ((cell_far (p := ⟨gb260, _, none⟩) (far_ne34 hw258_0 GW260.out) _).trans (((cell_far (p := ⟨gb260, _, none⟩) (far_ne34 hw258_0 GW260.out) _).trans (((cell_far (p := ⟨gb260, _, none⟩) (far_ne34 hw258_0 GW260.out) _).trans (hHeld.2.2.2.2.1)))))), ((cell_far (p := ⟨gb260, _, none⟩) (far_ne34 hw258_1 GW260.out) _).trans (((cell_far (p := ⟨gb260, _, none⟩) (far_ne34 hw258_1 GW260.out) _).trans (((cell_far (p := ⟨gb260, _, none⟩) (far_ne34 hw258_1 GW260.out) _).trans (hHeld.2.2.2.2.2.1)))))), ((cell_far (p := ⟨gb260, _, none⟩) (far_ne34 hw258_2 GW260.out) _).trans (((cell_far (p := ⟨gb260, _, none⟩) (far_ne34 hw258_2 GW260.out) _).trans (((cell_far (p := ⟨gb260, _, none⟩) (far_ne34 hw258_2 GW260.out) _).trans (hHeld.2.2.2.2.2.2.1)))))), ((cell_far (p := ⟨gb260, _, none⟩) (far_ne34 hw259_0 GW260.out) _).trans (((cell_far (p := ⟨gb260, _, none⟩) (far_ne34 hw259_0 GW260.out) _).trans (((cell_far (p := ⟨gb260, _, none⟩) (far_ne34 hw259_0 GW260.out) _).trans (hHeld.2.2.2.2.2.2.2.1)))))), ((cell_far (p := ⟨gb260, _, none⟩) (far_ne34 hw259_1 GW260.out) _).trans (((cell_far (p := ⟨gb260, _, none⟩) (far_ne34 hw259_1 GW260.out) _).trans (((cell_far (p := ⟨gb260, _, none⟩) (far_ne34 hw259_1 GW260.out) _).trans (hHeld.2.2.2.2.2.2.2.2.1)))))), ((cell_far (p := ⟨gb260, _, none⟩) (far_ne34 hw259_2 GW260.out) _).trans (((cell_far (p := ⟨gb260, _, none⟩) (far_ne34 hw259_2 GW260.out) _).trans (((cell_far (p := ⟨gb260, _, none⟩) (far_ne34 hw259_2 GW260.out) _).trans (hHeld.2.2.2.2.2.2.2.2.2))))))⟩ (fun hHeld => ?_)
            clear hK K
            refine sOn 13 none (fun K hK => ?_)
            have hs49 : w45.cell? ⟨gb261, 0, none⟩ = some (.string (⟨#[]⟩ : ByteArray)) := (blk_cell BK261.out 0).trans rfl
            have hfs49 := blk_frozen BK261.out 0
            have hns49_0 := NB256_261.out
            have hns49_1 := NB257_261.out
            have hns49_2 := NB260_261.out
            have hms49_0 := NB261_256.out
            have hms49_1 := NB261_257.out
            have hms49_2 := NB261_260.out
            have hs50 : w45.cell? ⟨gb261, 1, none⟩ = some (.int .i64 0) := (blk_cell BK261.out 1).trans rfl
            have hfs50 := blk_frozen BK261.out 1
            have hns50_0 := NB256_261.out
            have hns50_1 := NB257_261.out
            have hns50_2 := NB260_261.out
            have hms50_0 := NB261_256.out
            have hms50_1 := NB261_257.out
            have hms50_2 := NB261_260.out
            have hs51 : w45.cell? ⟨gb261, 2, none⟩ = some (.slice none 0 0) := (blk_cell BK261.out 2).trans rfl
            have hfs51 := blk_frozen BK261.out 2
            have hns51_0 := NB256_261.out
            have hns51_1 := NB257_261.out
            have hns51_2 := NB260_261.out
            have hms51_0 := NB261_256.out
            have hms51_1 := NB261_257.out
            have hms51_2 := NB261_260.out
            refine skip_ (w1 := ?_) (by rfl) rfl ?_ ?_
            rotate_left
            ·go_simp
             rfl
            refine hK.out _ _ ⟨((cell_far (p := ⟨gb261, _, none⟩) NB256_261.out _).trans (((cell_far (p := ⟨gb261, _, none⟩) NB256_261.out _).trans (((cell_far (p := ⟨gb261, _, none⟩) NB256_261.out _).trans (hHeld.1)))))), ((cell_far (p := ⟨gb261, _, none⟩) NB256_261.out _).trans (((cell_far (p := ⟨gb261, _, none⟩) NB256_261.out _).trans (((cell_far (p := ⟨gb261, _, none⟩) NB256_261.out _).trans (hHeld.2.1)))))), ((cell_far (p := ⟨gb261, _, none⟩) NB257_261.out _).trans (((cell_far (p := ⟨gb261, _, none⟩) NB257_261.out _).trans (((cell_far (p := ⟨gb261, _, none⟩) NB257_261.out _).trans (hHeld.2.2.1)))))), ((cell_far (p := ⟨gb261, _, none⟩) NB257_261.out _).trans (((cell_far (p := ⟨gb261, _, none⟩) NB257_261.out _).trans (((cell_far (p := ⟨gb261, _, none⟩) NB257_261.out _).trans (hHeld.2.2.2.1)))))), ((cell_far (p := ⟨gb261, _, none⟩) (far_ne34 hw258_0 GW261.out) _).trans (((cell_far (p := ⟨gb261, _, none⟩) (far_ne34 hw258_0 GW261.out) _).trans (((cell_far (p := ⟨gb261, _, none⟩) (far_ne34 hw258_0 GW261.out) _).trans (hHeld.2.2.2.2.1)))))), ((cell_far (p := ⟨gb261, _, none⟩) (far_ne34 hw258_1 GW261.out) _).trans (((cell_far (p := ⟨gb261, _, none⟩) (far_ne34 hw258_1 GW261.out) _).trans (((cell_far (p := ⟨gb261, _, none⟩) (far_ne34 hw258_1 GW261.out) _).trans (hHeld.2.2.2.2.2.1)))))), ((cell_far (p := ⟨gb261, _, none⟩) (far_ne34 hw258_2 GW261.out) _).trans (((cell_far (p := ⟨gb261, _, none⟩) (far_ne34 hw258_2 GW261.out) _).trans (((cell_far (p := ⟨gb261, _, none⟩) (far_ne34 hw258_2 GW261.out) _).trans (hHeld.2.2.2.2.2.2.1)))))), ((cell_far (p := ⟨gb261, _, none⟩) (far_ne34 hw259_0 GW261.out) _).trans (((cell_far (p := ⟨gb261, _, none⟩) (far_ne34 hw259_0 GW261.out) _).trans (((cell_far (p := ⟨gb261, _, none⟩) (far_ne34 hw259_0 GW261.out) _).trans (hHeld.2.2.2.2.2.2.2.1)))))), ((cell_far (p := ⟨gb261, _, none⟩) (far_ne34 hw259_1 GW261.out) _).trans (((cell_far (p := ⟨gb261, _, none⟩) (far_ne34 hw259_1 GW261.out) _).trans (((cell_far (p := ⟨gb261, _, none⟩) (far_ne34 hw259_1 GW261.out) _).trans (hHeld.2.2.2.2.2.2.2.2.1)))))), ((cell_far (p := ⟨gb261, _, none⟩) (far_ne34 hw259_2 GW261.out) _).trans (((cell_far (p := ⟨gb261, _, none⟩) (far_ne34 hw259_2 GW261.out) _).trans (((cell_far (p := ⟨gb261, _, none⟩) (far_ne34 hw259_2 GW261.out) _).trans (hHeld.2.2.2.2.2.2.2.2.2))))))⟩ (fun hHeld => ?_)
            clear hK K
            refine done_ (done_of HT_.out (by kernel_rfl)) ?_
            have hnb52 := NB260_256.out
            have hnc52 := NB256_260.out
            have hnb53 := NB260_257.out
            have hnc53 := NB257_260.out
            have hnb54 := NB260_261.out
            have hnc54 := NB261_260.out
            obtain ⟨hcz55_0, hcz55_1, hcz55_2, hfz55_0, hfz55_1, hfz55_2⟩ := bq3 BK260
            have hnb56 := NB261_256.out
            have hnc56 := NB256_261.out
            have hnb57 := NB261_257.out
            have hnc57 := NB257_261.out
            obtain ⟨hcz58_0, hcz58_1, hcz58_2, hfz58_0, hfz58_1, hfz58_2⟩ := bq3 BK261
            try go_wp2_with (first | (go_at_call 69; (with_reducible refine (paraphrastref01_SameTuples.calls k2 _ _ ((rd_T52 l0_1 x5_2).f2) _ _ ((rd_T52 l1_1 x5_2).f2) false _ ?side1 ?side2 ?side3 ?side4 A19.out).mono ?_); (case side1 => exact Kd.C_below HR258_2.out bel); (case side2 => exact HC258_2.out); (case side3 => exact Kd.C_below HR259_2.out bel); (case side4 => exact HC259_2.out); rintro e w' ⟨rfl, ⟨nd, rfl⟩⟩))
            go_ret
            exact ⟨eN, bel⟩
          ·rw [if_neg c18] at H
           have c18b0 : (((rd_T52 l0_1 x5_2).f1) == ((rd_T52 l1_1 x5_2).f1)) = false := beq_eq_false_iff_ne.mpr c18
           have c18b1 : (((rd_T52 l0_1 x5_2).f1) != ((rd_T52 l1_1 x5_2).f1)) = true := bne_iff_ne.mpr c18
           obtain rfl := Option.some.inj H
           have hnb59 := NB256_257.out
           have hnc59 := NB257_256.out
           obtain ⟨hcz60_0, hcz60_1, hfz60_0, hfz60_1⟩ := bq2 BK256
           try go_wp2
           replace BK256 := Aside0.mk (blk_drew BK256.out)
           replace BK257 := Aside0.mk (blk_drew BK257.out)
           replace HB := Aside0.mk (below_drew1 HB.out)
           have p258 : 0 ≤ (x5_2 : Int) := dtr
           have q258 : x5_2 < (l0_1.length : Int) := dtr
           obtain ⟨ad258, A258_2, c258_2, e258, hx258_0, hx258_1, hx258_2, hl258_2, hi258_2⟩ := at_T52 HR0_1.out x5_2 p258 q258
           have hw258_2 := hx258_2
           have hw258_1 := hx258_1
           have hw258_0 := hx258_0
           cases e258
           replace hx258_0 := oc hx258_0
           replace hx258_1 := oc hx258_1
           replace hx258_2 := oc hx258_2
           have HR258_2 := Aside0.mk hi258_2
           have HC258_2 := Aside0.mk hl258_2
           clear hi258_2 hl258_2
           replace p258 := eq_true p258
           replace q258 := eq_true q258
           have p259 : 0 ≤ (x5_2 : Int) := dtr
           have q259 : x5_2 < (l1_1.length : Int) := dtr
           obtain ⟨ad259, A259_2, c259_2, e259, hx259_0, hx259_1, hx259_2, hl259_2, hi259_2⟩ := at_T52 HR1_1.out x5_2 p259 q259
           have hw259_2 := hx259_2
           have hw259_1 := hx259_1
           have hw259_0 := hx259_0
           cases e259
           replace hx259_0 := oc hx259_0
           replace hx259_1 := oc hx259_1
           replace hx259_2 := oc hx259_2
           have HR259_2 := Aside0.mk hi259_2
           have HC259_2 := Aside0.mk hl259_2
           clear hi259_2 hl259_2
           replace p259 := eq_true p259
           replace q259 := eq_true q259
           refine start_ (n := 14) (S := fun w' => w'.cell? ⟨gb256, 0, none⟩ = some (.int .i64 a0_0) ∧ w'.cell? ⟨gb256, 1, none⟩ = some (.slice (some ad258) l0_1.length c0_1) ∧ w'.cell? ⟨gb257, 0, none⟩ = some (.int .i64 a1_0) ∧ w'.cell? ⟨gb257, 1, none⟩ = some (.slice (some ad259) l1_1.length c1_1) ∧ w'.cell? (ad258.add ((x5_2).toNat * 3)) = some (.string ((rd_T52 l0_1 x5_2).f0)) ∧ w'.cell? ⟨(ad258.add ((x5_2).toNat * 3)).block, (ad258.add ((x5_2).toNat * 3)).off + 1, none⟩ = some (.int .i64 ((rd_T52 l0_1 x5_2).f1)) ∧ w'.cell? ⟨(ad258.add ((x5_2).toNat * 3)).block, (ad258.add ((x5_2).toNat * 3)).off + 2, none⟩ = some (.slice A258_2 ((rd_T52 l0_1 x5_2).f2).length c258_2) ∧ w'.cell? (ad259.add ((x5_2).toNat * 3)) = some (.string ((rd_T52 l1_1 x5_2).f0)) ∧ w'.cell? ⟨(ad259.add ((x5_2).toNat * 3)).block, (ad259.add ((x5_2).toNat * 3)).off + 1, none⟩ = some (.int .i64 ((rd_T52 l1_1 x5_2).f1)) ∧ w'.cell? ⟨(ad259.add ((x5_2).toNat * 3)).block, (ad259.add ((x5_2).toNat * 3)).off + 2, none⟩ = some (.slice A259_2 ((rd_T52 l1_1 x5_2).f2).length c259_2)) (ds := []) #[false, false, false, false, false, false, false, false, false, false, false, false, false, false] (by kernel_rfl) rfl rfl ⟨(blk_cell BK256.out 0).trans rfl, (blk_cell BK256.out 1).trans rfl, (blk_cell BK257.out 0).trans rfl, (blk_cell BK257.out 1).trans rfl, (oc hw258_0), (oc hw258_1), (oc hw258_2), (oc hw259_0), (oc hw259_1), (oc hw259_2)⟩ (fun hHeld => ?_); refine with_tabW paraphrastref01_Same.tab6 paraphrastref01_Same.bits6 (fun HT_ HW_ => ?_)
           generalize wr.drew = w61 at BK256 BK257 HB HR258_2 HR259_2 hx258_0 hx258_1 hx258_2 hx259_0 hx259_1 hx259_2 hHeld ⊢
           refine sPu 0 (some 29) ?_
           refine sPu 2 (some 31) ?_
           refine sPu 5 (some 34) ?_
           refine sPu 7 (some 36) ?_
           refine sTk 1 (some 30) ?_
           refine sPu 3 (some 32) ?_
           refine sTk 4 (some 33) ?_
           refine sTk 6 (some 35) ?_
           refine sPu 8 (some 37) ?_
           refine sTk 9 (some 38) ?_
           refine join_ (σ := Nat × Nat) 2 #[true, true, true, true, true, true, true, true, true, true, true, true, false, false] (fun s_ => [(6, .pointer (some ⟨s_.1, 0, none⟩)), (7, .pointer (some ⟨s_.2, 0, none⟩))]) (fun s_ w' => (w'.cell? ⟨gb256, 0, none⟩ = some (.int .i64 a0_0) ∧ w'.cell? ⟨gb256, 1, none⟩ = some (.slice (some ad258) l0_1.length c0_1) ∧ w'.cell? ⟨gb257, 0, none⟩ = some (.int .i64 a1_0) ∧ w'.cell? ⟨gb257, 1, none⟩ = some (.slice (some ad259) l1_1.length c1_1) ∧ w'.cell? (ad258.add ((x5_2).toNat * 3)) = some (.string ((rd_T52 l0_1 x5_2).f0)) ∧ w'.cell? ⟨(ad258.add ((x5_2).toNat * 3)).block, (ad258.add ((x5_2).toNat * 3)).off + 1, none⟩ = some (.int .i64 ((rd_T52 l0_1 x5_2).f1)) ∧ w'.cell? ⟨(ad258.add ((x5_2).toNat * 3)).block, (ad258.add ((x5_2).toNat * 3)).off + 2, none⟩ = some (.slice A258_2 ((rd_T52 l0_1 x5_2).f2).length c258_2) ∧ w'.cell? (ad259.add ((x5_2).toNat * 3)) = some (.string ((rd_T52 l1_1 x5_2).f0)) ∧ w'.cell? ⟨(ad259.add ((x5_2).toNat * 3)).block, (ad259.add ((x5_2).toNat * 3)).off + 1, none⟩ = some (.int .i64 ((rd_T52 l1_1 x5_2).f1)) ∧ w'.cell? ⟨(ad259.add ((x5_2).toNat * 3)).block, (ad259.add ((x5_2).toNat * 3)).off + 2, none⟩ = some (.slice A259_2 ((rd_T52 l1_1 x5_2).f2).length c259_2)) ∧ (w'.heap[gb256]? = some (.cells #[.int .i64 a0_0, .slice (some ad258) l0_1.length c0_1] 24 (0, 0))) ∧ (w'.heap[gb257]? = some (.cells #[.int .i64 a1_0, .slice (some ad259) l1_1.length c1_1] 24 (0, 0))) ∧ (w'.heap[s_.1]? = some (.cells #[.string (⟨#[]⟩ : ByteArray), .int .i64 0, .slice none 0 0] 52 (0, 0))) ∧ (w'.heap[s_.2]? = some (.cells #[.string (⟨#[]⟩ : ByteArray), .int .i64 0, .slice none 0 0] 52 (0, 0))) ∧ (w.heap.size ≤ s_.1) ∧ (w.heap.size ≤ s_.1) ∧ (gb256 ≠ s_.1) ∧ (s_.1 ≠ gb256) ∧ (gb257 ≠ s_.1) ∧ (s_.1 ≠ gb257) ∧ (s_.2 ≠ s_.1) ∧ (s_.1 ≠ s_.2) ∧ (w.heap.size ≤ s_.2) ∧ (w.heap.size ≤ s_.2) ∧ (gb256 ≠ s_.2) ∧ (s_.2 ≠ gb256) ∧ (gb257 ≠ s_.2) ∧ (s_.2 ≠ gb257) ∧ (Below w.heap.size w w')) ?_ ?_
           rotate_left
           ·intro hCont
            refine two_ (i := 10) (j := 11) (Ni := some 6) (Nj := some 7) #[true, true, true, true, true, true, true, true, true, true, true, false, false, false] #[true, true, true, true, true, true, true, true, true, true, false, true, false, false] rfl rfl rfl rfl (two_of HT_.out (by kernel_rfl)) (by decide) (by decide) (fun K hK => ?_) (fun K hK => ?_)
            ·skip
             refine box_step ?hg (N := 6) ?hd (cs := #[.string (⟨#[]⟩ : ByteArray), .int .i64 0, .slice none 0 0]) (t := 52) ?hr ?_; (case hd => rfl); (case hg => rfl); (case hr => first | (go_simp; done) | (go_simp; rfl))
             intro gb260 hg w62 hbox hb
             have BK260 := Aside0.mk (hbox)
             have GW260 := geB w hg
             have GE260 := geB w hg
             have NB256_260 := neL BK256 hg
             have NB260_256 := neG BK256 hg
             have NB257_260 := neL BK257 hg
             have NB260_257 := neG BK257 hg
             replace BK256 := blB BK256 hb
             replace BK257 := blB BK257 hb
             replace HB := Aside0.mk (below_step bel hb)
             clear hb hbox hg
             refine hK.out _ _ ⟨(blk_cell BK256.out 0).trans rfl, (blk_cell BK256.out 1).trans rfl, (blk_cell BK257.out 0).trans rfl, (blk_cell BK257.out 1).trans rfl, (oc hw258_0), (oc hw258_1), (oc hw258_2), (oc hw259_0), (oc hw259_1), (oc hw259_2)⟩ (fun hHeld => ?_)
             clear hK K
             refine norm_ (a' := ?_) ?_ ?_
             rotate_left
             ·show Act.put _ (some 6) _ = _
              simp only [Act.put, List.setIfInBounds_toArray, List.set_cons_zero, List.set_cons_succ, i64_w, i32_w]
              rfl
             refine sOn 11 (some 7) (fun K hK => ?_)
             refine box_step ?hg (N := 7) ?hd (cs := #[.string (⟨#[]⟩ : ByteArray), .int .i64 0, .slice none 0 0]) (t := 52) ?hr ?_; (case hd => rfl); (case hg => rfl); (case hr => first | (go_simp; done) | (go_simp; rfl))
             intro gb261 hg w63 hbox hb
             have BK261 := Aside0.mk (hbox)
             have GW261 := geB w hg
             have GE261 := geB w hg
             have NB256_261 := neL BK256 hg
             have NB261_256 := neG BK256 hg
             have NB257_261 := neL BK257 hg
             have NB261_257 := neG BK257 hg
             have NB260_261 := neL BK260 hg
             have NB261_260 := neG BK260 hg
             replace BK256 := blB BK256 hb
             replace BK257 := blB BK257 hb
             replace BK260 := blB BK260 hb
             replace HB := Aside0.mk (below_step bel hb)
             clear hb hbox hg
             refine hK.out _ _ ⟨(blk_cell BK256.out 0).trans rfl, (blk_cell BK256.out 1).trans rfl, (blk_cell BK257.out 0).trans rfl, (blk_cell BK257.out 1).trans rfl, (oc hw258_0), (oc hw258_1), (oc hw258_2), (oc hw259_0), (oc hw259_1), (oc hw259_2)⟩ (fun hHeld => ?_)
             clear hK K
             refine norm_ (a' := ?_) ?_ ?_
             rotate_left
             ·show Act.put _ (some 7) _ = _
              simp only [Act.put, List.setIfInBounds_toArray, List.set_cons_zero, List.set_cons_succ, i64_w, i32_w]
              rfl
             exact norm_ (by simp only [putAll, Act.put, List.setIfInBounds_toArray, List.set_cons_zero, List.set_cons_succ]) (hCont (gb260, gb261) _ ⟨hHeld, (bk BK256), (bk BK257), (bk BK260), (bk BK261), GW260.out, GE260.out, NB256_260.out, NB260_256.out, NB257_260.out, NB260_257.out, NB261_260.out, NB260_261.out, GW261.out, GE261.out, NB256_261.out, NB261_256.out, NB257_261.out, NB261_257.out, bel⟩)
            ·skip
             refine box_step ?hg (N := 7) ?hd (cs := #[.string (⟨#[]⟩ : ByteArray), .int .i64 0, .slice none 0 0]) (t := 52) ?hr ?_; (case hd => rfl); (case hg => rfl); (case hr => first | (go_simp; done) | (go_simp; rfl))
             intro gb261 hg w62 hbox hb
             have BK261 := Aside0.mk (hbox)
             have GW261 := geB w hg
             have GE261 := geB w hg
             have NB256_261 := neL BK256 hg
             have NB261_256 := neG BK256 hg
             have NB257_261 := neL BK257 hg
             have NB261_257 := neG BK257 hg
             replace BK256 := blB BK256 hb
             replace BK257 := blB BK257 hb
             replace HB := Aside0.mk (below_step bel hb)
             clear hb hbox hg
             refine hK.out _ _ ⟨(blk_cell BK256.out 0).trans rfl, (blk_cell BK256.out 1).trans rfl, (blk_cell BK257.out 0).trans rfl, (blk_cell BK257.out 1).trans rfl, (oc hw258_0), (oc hw258_1), (oc hw258_2), (oc hw259_0), (oc hw259_1), (oc hw259_2)⟩ (fun hHeld => ?_)
             clear hK K
             refine norm_ (a' := ?_) ?_ ?_
             rotate_left
             ·show Act.put _ (some 7) _ = _
              simp only [Act.put, List.setIfInBounds_toArray, List.set_cons_zero, List.set_cons_succ, i64_w, i32_w]
              rfl
             refine sOn 10 (some 6) (fun K hK => ?_)
             refine box_step ?hg (N := 6) ?hd (cs := #[.string (⟨#[]⟩ : ByteArray), .int .i64 0, .slice none 0 0]) (t := 52) ?hr ?_; (case hd => rfl); (case hg => rfl); (case hr => first | (go_simp; done) | (go_simp; rfl))
             intro gb260 hg w63 hbox hb
             have BK260 := Aside0.mk (hbox)
             have GW260 := geB w hg
             have GE260 := geB w hg
             have NB256_260 := neL BK256 hg
             have NB260_256 := neG BK256 hg
             have NB257_260 := neL BK257 hg
             have NB260_257 := neG BK257 hg
             have NB261_260 := neL BK261 hg
             have NB260_261 := neG BK261 hg
             replace BK256 := blB BK256 hb
             replace BK257 := blB BK257 hb
             replace BK261 := blB BK261 hb
             replace HB := Aside0.mk (below_step bel hb)
             clear hb hbox hg
             refine hK.out _ _ ⟨(blk_cell BK256.out 0).trans rfl, (blk_cell BK256.out 1).trans rfl, (blk_cell BK257.out 0).trans rfl, (blk_cell BK257.out 1).trans rfl, (oc hw258_0), (oc hw258_1), (oc hw258_2), (oc hw259_0), (oc hw259_1), (oc hw259_2)⟩ (fun hHeld => ?_)
             clear hK K
             refine norm_ (a' := ?_) ?_ ?_
             rotate_left
             ·show Act.put _ (some 6) _ = _
              simp only [Act.put, List.setIfInBounds_toArray, List.set_cons_zero, List.set_cons_succ, i64_w, i32_w]
              rfl
             exact norm_ (by simp only [putAll, Act.put, List.setIfInBounds_toArray, List.set_cons_zero, List.set_cons_succ]) (hCont (gb260, gb261) _ ⟨hHeld, (bk BK256), (bk BK257), (bk BK260), (bk BK261), GW260.out, GE260.out, NB256_260.out, NB260_256.out, NB257_260.out, NB260_257.out, NB261_260.out, NB260_261.out, GW261.out, GE261.out, NB256_261.out, NB261_256.out, NB257_261.out, NB261_257.out, bel⟩)
           rintro ⟨gb260, gb261⟩ w64 ⟨hS_, h0_, h1_, h2_, h3_, h4_, h5_, h6_, h7_, h8_, h9_, h10_, h11_, h12_, h13_, h14_, h15_, h16_, h17_, h18_⟩
           have n0_ : Aside0 (w64.heap[gb256]? = some (.cells #[.int .i64 a0_0, .slice (some ad258) l0_1.length c0_1] 24 (0, 0))) := ⟨h0_⟩
           have n1_ : Aside0 (w64.heap[gb257]? = some (.cells #[.int .i64 a1_0, .slice (some ad259) l1_1.length c1_1] 24 (0, 0))) := ⟨h1_⟩
           have n2_ : Aside0 (w64.heap[gb260]? = some (.cells #[.string (⟨#[]⟩ : ByteArray), .int .i64 0, .slice none 0 0] 52 (0, 0))) := ⟨h2_⟩
           have n3_ : Aside0 (w64.heap[gb261]? = some (.cells #[.string (⟨#[]⟩ : ByteArray), .int .i64 0, .slice none 0 0] 52 (0, 0))) := ⟨h3_⟩
           have n4_ : Aside0 (w.heap.size ≤ gb260) := ⟨h4_⟩
           have n5_ : Aside0 (w.heap.size ≤ gb260) := ⟨h5_⟩
           have n6_ : Aside0 (gb256 ≠ gb260) := ⟨h6_⟩
           have n7_ : Aside0 (gb260 ≠ gb256) := ⟨h7_⟩
           have n8_ : Aside0 (gb257 ≠ gb260) := ⟨h8_⟩
           have n9_ : Aside0 (gb260 ≠ gb257) := ⟨h9_⟩
           have n10_ : Aside0 (gb261 ≠ gb260) := ⟨h10_⟩
           have n11_ : Aside0 (gb260 ≠ gb261) := ⟨h11_⟩
           have n12_ : Aside0 (w.heap.size ≤ gb261) := ⟨h12_⟩
           have n13_ : Aside0 (w.heap.size ≤ gb261) := ⟨h13_⟩
           have n14_ : Aside0 (gb256 ≠ gb261) := ⟨h14_⟩
           have n15_ : Aside0 (gb261 ≠ gb256) := ⟨h15_⟩
           have n16_ : Aside0 (gb257 ≠ gb261) := ⟨h16_⟩
           have n17_ : Aside0 (gb261 ≠ gb257) := ⟨h17_⟩
           have n18_ : Aside0 (Below w.heap.size w w64) := ⟨h18_⟩
           clear BK256
           clear BK257
           clear HB
           clear h0_ h1_ h2_ h3_ h4_ h5_ h6_ h7_ h8_ h9_ h10_ h11_ h12_ h13_ h14_ h15_ h16_ h17_ h18_
           have BK256 := n0_
           have BK257 := n1_
           have BK260 := n2_
           have BK261 := n3_
           have GW260 := n4_
           have GE260 := n5_
           have NB256_260 := n6_
           have NB260_256 := n7_
           have NB257_260 := n8_
           have NB260_257 := n9_
           have NB261_260 := n10_
           have NB260_261 := n11_
           have GW261 := n12_
           have GE261 := n13_
           have NB256_261 := n14_
           have NB261_256 := n15_
           have NB257_261 := n16_
           have NB261_257 := n17_
           have HB := n18_
           clear n0_ n1_ n2_ n3_ n4_ n5_ n6_ n7_ n8_ n9_ n10_ n11_ n12_ n13_ n14_ n15_ n16_ n17_ n18_
           have hHeld : w64.cell? ⟨gb256, 0, none⟩ = some (.int .i64 a0_0) ∧ w64.cell? ⟨gb256, 1, none⟩ = some (.slice (some ad258) l0_1.length c0_1) ∧ w64.cell? ⟨gb257, 0, none⟩ = some (.int .i64 a1_0) ∧ w64.cell? ⟨gb257, 1, none⟩ = some (.slice (some ad259) l1_1.length c1_1) ∧ w64.cell? (ad258.add ((x5_2).toNat * 3)) = some (.string ((rd_T52 l0_1 x5_2).f0)) ∧ w64.cell? ⟨(ad258.add ((x5_2).toNat * 3)).block, (ad258.add ((x5_2).toNat * 3)).off + 1, none⟩ = some (.int .i64 ((rd_T52 l0_1 x5_2).f1)) ∧ w64.cell? ⟨(ad258.add ((x5_2).toNat * 3)).block, (ad258.add ((x5_2).toNat * 3)).off + 2, none⟩ = some (.slice A258_2 ((rd_T52 l0_1 x5_2).f2).length c258_2) ∧ w64.cell? (ad259.add ((x5_2).toNat * 3)) = some (.string ((rd_T52 l1_1 x5_2).f0)) ∧ w64.cell? ⟨(ad259.add ((x5_2).toNat * 3)).block, (ad259.add ((x5_2).toNat * 3)).off + 1, none⟩ = some (.int .i64 ((rd_T52 l1_1 x5_2).f1)) ∧ w64.cell? ⟨(ad259.add ((x5_2).toNat * 3)).block, (ad259.add ((x5_2).toNat * 3)).off + 2, none⟩ = some (.slice A259_2 ((rd_T52 l1_1 x5_2).f2).length c259_2) := hS_
           refine norm_ (a' := ?_) ?_ ?_
           rotate_left
           ·simp only [putAll, Act.put, List.setIfInBounds_toArray, List.set_cons_zero, List.set_cons_succ]
            rfl
           refine sOn 12 none (fun K hK => ?_)
           have hs65 : w64.cell? ⟨gb260, 0, none⟩ = some (.string (⟨#[]⟩ : ByteArray)) := (blk_cell BK260.out 0).trans rfl
           have hfs65 := blk_frozen BK260.out 0
           have hns65_0 := NB256_260.out
           have hns65_1 := NB257_260.out
           have hns65_3 := NB261_260.out
           have hms65_0 := NB260_256.out
           have hms65_1 := NB260_257.out
           have hms65_3 := NB260_261.out
           have hs66 : w64.cell? ⟨gb260, 1, none⟩ = some (.int .i64 0) := (blk_cell BK260.out 1).trans rfl
           have hfs66 := blk_frozen BK260.out 1
           have hns66_0 := NB256_260.out
           have hns66_1 := NB257_260.out
           have hns66_3 := NB261_260.out
           have hms66_0 := NB260_256.out
           have hms66_1 := NB260_257.out
           have hms66_3 := NB260_261.out
           have hs67 : w64.cell? ⟨gb260, 2, none⟩ = some (.slice none 0 0) := (blk_cell BK260.out 2).trans rfl
           have hfs67 := blk_frozen BK260.out 2
           have hns67_0 := NB256_260.out
           have hns67_1 := NB257_260.out
           have hns67_3 := NB261_260.out
           have hms67_0 := NB260_256.out
           have hms67_1 := NB260_257.out
           have hms67_3 := NB260_261.out
           refine skip_ (w1 := ?_) (by rfl) rfl ?_ ?_
           rotate_left
           ·go_simp
            rfl
           refine hK.out _ _ ⟨((cell_far (p := ⟨gb260, _, none⟩) NB256_260.out _).trans (((cell_far (p := ⟨gb260, _, none⟩) NB256_260.out _).trans (((cell_far (p := ⟨gb260, _, none⟩) NB256_260.out _).trans (hHeld.1)))))), ((cell_far (p := ⟨gb260, _, none⟩) NB256_260.out _).trans (((cell_far (p := ⟨gb260, _, none⟩) NB256_260.out _).trans (((cell_far (p := ⟨gb260, _, none⟩) NB256_260.out _).trans (hHeld.2.1)))))), ((cell_far (p := ⟨gb260, _, none⟩) NB257_260.out _).trans (((cell_far (p := ⟨gb260, _, none⟩) NB257_260.out _).trans (((cell_far (p := ⟨gb260, _, none⟩) NB257_260.out _).trans (hHeld.2.2.1)))))), ((cell_far (p := ⟨gb260, _, none⟩) NB257_260.out _).trans (((cell_far (p := ⟨gb260, _, none⟩) NB257_260.out _).trans (((cell_far (p := ⟨gb260, _, none⟩) NB257_260.out _).trans (hHeld.2.2.2.1)))))), ((cell_far (p := ⟨gb260, _, none⟩) (far_ne34 hw258_0 GW260.out) _).trans (((cell_far (p := ⟨gb260, _, none⟩) (far_ne34 hw258_0 GW260.out) _).trans (((cell_far (p := ⟨gb260, _, none⟩) (far_ne34 hw258_0 GW260.out) _).trans (hHeld.2.2.2.2.1)))))), ((cell_far (p := ⟨gb260, _, none⟩) (far_ne34 hw258_1 GW260.out) _).trans (((cell_far (p := ⟨gb260, _, none⟩) (far_ne34 hw258_1 GW260.out) _).trans (((cell_far (p := ⟨gb260, _, none⟩) (far_ne34 hw258_1 GW260.out) _).trans (hHeld.2.2.2.2.2.1)))))), ((cell_far (p := ⟨gb260, _, none⟩) (far_ne34 hw258_2 GW260.out) _).trans (((cell_far (p := ⟨gb260, _, none⟩) (far_ne34 hw258_2 GW260.out) _).trans (((cell_far (p := ⟨gb260, _, none⟩) (far_ne34 hw258_2 GW260.out) _).trans (hHeld.2.2.2.2.2.2.1)))))), ((cell_far (p := ⟨gb260, _, none⟩) (far_ne34 hw259_0 GW260.out) _).trans (((cell_far (p := ⟨gb260, _, none⟩) (far_ne34 hw259_0 GW260.out) _).trans (((cell_far (p := ⟨gb260, _, none⟩) (far_ne34 hw259_0 GW260.out) _).trans (hHeld.2.2.2.2.2.2.2.1)))))), ((cell_far (p := ⟨gb260, _, none⟩) (far_ne34 hw259_1 GW260.out) _).trans (((cell_far (p := ⟨gb260, _, none⟩) (far_ne34 hw259_1 GW260.out) _).trans (((cell_far (p := ⟨gb260, _, none⟩) (far_ne34 hw259_1 GW260.out) _).trans (hHeld.2.2.2.2.2.2.2.2.1)))))), ((cell_far (p := ⟨gb260, _, none⟩) (far_ne34 hw259_2 GW260.out) _).trans (((cell_far (p := ⟨gb260, _, none⟩) (far_ne34 hw259_2 GW260.out) _).trans (((cell_far (p := ⟨gb260, _, none⟩) (far_ne34 hw259_2 GW260.out) _).trans (hHeld.2.2.2.2.2.2.2.2.2))))))⟩ (fun hHeld => ?_)
           clear hK K
           refine sOn 13 none (fun K hK => ?_)
           have hs68 : w64.cell? ⟨gb261, 0, none⟩ = some (.string (⟨#[]⟩ : ByteArray)) := (blk_cell BK261.out 0).trans rfl
           have hfs68 := blk_frozen BK261.out 0
           have hns68_0 := NB256_261.out
           have hns68_1 := NB257_261.out
           have hns68_2 := NB260_261.out
           have hms68_0 := NB261_256.out
           have hms68_1 := NB261_257.out
           have hms68_2 := NB261_260.out
           have hs69 : w64.cell? ⟨gb261, 1, none⟩ = some (.int .i64 0) := (blk_cell BK261.out 1).trans rfl
           have hfs69 := blk_frozen BK261.out 1
           have hns69_0 := NB256_261.out
           have hns69_1 := NB257_261.out
           have hns69_2 := NB260_261.out
           have hms69_0 := NB261_256.out
           have hms69_1 := NB261_257.out
           have hms69_2 := NB261_260.out
           have hs70 : w64.cell? ⟨gb261, 2, none⟩ = some (.slice none 0 0) := (blk_cell BK261.out 2).trans rfl
           have hfs70 := blk_frozen BK261.out 2
           have hns70_0 := NB256_261.out
           have hns70_1 := NB257_261.out
           have hns70_2 := NB260_261.out
           have hms70_0 := NB261_256.out
           have hms70_1 := NB261_257.out
           have hms70_2 := NB261_260.out
           refine skip_ (w1 := ?_) (by rfl) rfl ?_ ?_
           rotate_left
           ·go_simp
            rfl
           refine hK.out _ _ ⟨((cell_far (p := ⟨gb261, _, none⟩) NB256_261.out _).trans (((cell_far (p := ⟨gb261, _, none⟩) NB256_261.out _).trans (((cell_far (p := ⟨gb261, _, none⟩) NB256_261.out _).trans (hHeld.1)))))), ((cell_far (p := ⟨gb261, _, none⟩) NB256_261.out _).trans (((cell_far (p := ⟨gb261, _, none⟩) NB256_261.out _).trans (((cell_far (p := ⟨gb261, _, none⟩) NB256_261.out _).trans (hHeld.2.1)))))), ((cell_far (p := ⟨gb261, _, none⟩) NB257_261.out _).trans (((cell_far (p := ⟨gb261, _, none⟩) NB257_261.out _).trans (((cell_far (p := ⟨gb261, _, none⟩) NB257_261.out _).trans (hHeld.2.2.1)))))), ((cell_far (p := ⟨gb261, _, none⟩) NB257_261.out _).trans (((cell_far (p := ⟨gb261, _, none⟩) NB257_261.out _).trans (((cell_far (p := ⟨gb261, _, none⟩) NB257_261.out _).trans (hHeld.2.2.2.1)))))), ((cell_far (p := ⟨gb261, _, none⟩) (far_ne34 hw258_0 GW261.out) _).trans (((cell_far (p := ⟨gb261, _, none⟩) (far_ne34 hw258_0 GW261.out) _).trans (((cell_far (p := ⟨gb261, _, none⟩) (far_ne34 hw258_0 GW261.out) _).trans (hHeld.2.2.2.2.1)))))), ((cell_far (p := ⟨gb261, _, none⟩) (far_ne34 hw258_1 GW261.out) _).trans (((cell_far (p := ⟨gb261, _, none⟩) (far_ne34 hw258_1 GW261.out) _).trans (((cell_far (p := ⟨gb261, _, none⟩) (far_ne34 hw258_1 GW261.out) _).trans (hHeld.2.2.2.2.2.1)))))), ((cell_far (p := ⟨gb261, _, none⟩) (far_ne34 hw258_2 GW261.out) _).trans (((cell_far (p := ⟨gb261, _, none⟩) (far_ne34 hw258_2 GW261.out) _).trans (((cell_far (p := ⟨gb261, _, none⟩) (far_ne34 hw258_2 GW261.out) _).trans (hHeld.2.2.2.2.2.2.1)))))), ((cell_far (p := ⟨gb261, _, none⟩) (far_ne34 hw259_0 GW261.out) _).trans (((cell_far (p := ⟨gb261, _, none⟩) (far_ne34 hw259_0 GW261.out) _).trans (((cell_far (p := ⟨gb261, _, none⟩) (far_ne34 hw259_0 GW261.out) _).trans (hHeld.2.2.2.2.2.2.2.1)))))), ((cell_far (p := ⟨gb261, _, none⟩) (far_ne34 hw259_1 GW261.out) _).trans (((cell_far (p := ⟨gb261, _, none⟩) (far_ne34 hw259_1 GW261.out) _).trans (((cell_far (p := ⟨gb261, _, none⟩) (far_ne34 hw259_1 GW261.out) _).trans (hHeld.2.2.2.2.2.2.2.2.1)))))), ((cell_far (p := ⟨gb261, _, none⟩) (far_ne34 hw259_2 GW261.out) _).trans (((cell_far (p := ⟨gb261, _, none⟩) (far_ne34 hw259_2 GW261.out) _).trans (((cell_far (p := ⟨gb261, _, none⟩) (far_ne34 hw259_2 GW261.out) _).trans (hHeld.2.2.2.2.2.2.2.2.2))))))⟩ (fun hHeld => ?_)
           clear hK K
           refine done_ (done_of HT_.out (by kernel_rfl)) ?_
           have hnb71 := NB260_256.out
           have hnc71 := NB256_260.out
           have hnb72 := NB260_257.out
           have hnc72 := NB257_260.out
           have hnb73 := NB260_261.out
           have hnc73 := NB261_260.out
           obtain ⟨hcz74_0, hcz74_1, hcz74_2, hfz74_0, hfz74_1, hfz74_2⟩ := bq3 BK260
           have hnb75 := NB261_256.out
           have hnc75 := NB256_261.out
           have hnb76 := NB261_257.out
           have hnc76 := NB257_261.out
           obtain ⟨hcz77_0, hcz77_1, hcz77_2, hfz77_0, hfz77_1, hfz77_2⟩ := bq3 BK261
           try go_wp2
           go_ret
           exact ⟨eN, bel⟩
         ·rw [if_neg c17] at H
          have c17b0 : (((rd_T52 l0_1 x5_2).f0).toList == ((rd_T52 l1_1 x5_2).f0).toList) = false := beq_eq_false_iff_ne.mpr c17
          have c17b1 : (((rd_T52 l0_1 x5_2).f0).toList != ((rd_T52 l1_1 x5_2).f0).toList) = true := bne_iff_ne.mpr c17
          obtain rfl := Option.some.inj H
          have hnb78 := NB256_257.out
          have hnc78 := NB257_256.out
          obtain ⟨hcz79_0, hcz79_1, hfz79_0, hfz79_1⟩ := bq2 BK256
          try go_wp2
          replace BK256 := Aside0.mk (blk_drew BK256.out)
          replace BK257 := Aside0.mk (blk_drew BK257.out)
          replace HB := Aside0.mk (below_drew1 HB.out)
          have p258 : 0 ≤ (x5_2 : Int) := dtr
          have q258 : x5_2 < (l0_1.length : Int) := dtr
          obtain ⟨ad258, A258_2, c258_2, e258, hx258_0, hx258_1, hx258_2, hl258_2, hi258_2⟩ := at_T52 HR0_1.out x5_2 p258 q258
          have hw258_2 := hx258_2
          have hw258_1 := hx258_1
          have hw258_0 := hx258_0
          cases e258
          replace hx258_0 := oc hx258_0
          replace hx258_1 := oc hx258_1
          replace hx258_2 := oc hx258_2
          have HR258_2 := Aside0.mk hi258_2
          have HC258_2 := Aside0.mk hl258_2
          clear hi258_2 hl258_2
          replace p258 := eq_true p258
          replace q258 := eq_true q258
          have p259 : 0 ≤ (x5_2 : Int) := dtr
          have q259 : x5_2 < (l1_1.length : Int) := dtr
          obtain ⟨ad259, A259_2, c259_2, e259, hx259_0, hx259_1, hx259_2, hl259_2, hi259_2⟩ := at_T52 HR1_1.out x5_2 p259 q259
          have hw259_2 := hx259_2
          have hw259_1 := hx259_1
          have hw259_0 := hx259_0
          cases e259
          replace hx259_0 := oc hx259_0
          replace hx259_1 := oc hx259_1
          replace hx259_2 := oc hx259_2
          have HR259_2 := Aside0.mk hi259_2
          have HC259_2 := Aside0.mk hl259_2
          clear hi259_2 hl259_2
          replace p259 := eq_true p259
          replace q259 := eq_true q259
          refine start_ (n := 14) (S := fun w' => w'.cell? ⟨gb256, 0, none⟩ = some (.int .i64 a0_0) ∧ w'.cell? ⟨gb256, 1, none⟩ = some (.slice (some ad258) l0_1.length c0_1) ∧ w'.cell? ⟨gb257, 0, none⟩ = some (.int .i64 a1_0) ∧ w'.cell? ⟨gb257, 1, none⟩ = some (.slice (some ad259) l1_1.length c1_1) ∧ w'.cell? (ad258.add ((x5_2).toNat * 3)) = some (.string ((rd_T52 l0_1 x5_2).f0)) ∧ w'.cell? ⟨(ad258.add ((x5_2).toNat * 3)).block, (ad258.add ((x5_2).toNat * 3)).off + 1, none⟩ = some (.int .i64 ((rd_T52 l0_1 x5_2).f1)) ∧ w'.cell? ⟨(ad258.add ((x5_2).toNat * 3)).block, (ad258.add ((x5_2).toNat * 3)).off + 2, none⟩ = some (.slice A258_2 ((rd_T52 l0_1 x5_2).f2).length c258_2) ∧ w'.cell? (ad259.add ((x5_2).toNat * 3)) = some (.string ((rd_T52 l1_1 x5_2).f0)) ∧ w'.cell? ⟨(ad259.add ((x5_2).toNat * 3)).block, (ad259.add ((x5_2).toNat * 3)).off + 1, none⟩ = some (.int .i64 ((rd_T52 l1_1 x5_2).f1)) ∧ w'.cell? ⟨(ad259.add ((x5_2).toNat * 3)).block, (ad259.add ((x5_2).toNat * 3)).off + 2, none⟩ = some (.slice A259_2 ((rd_T52 l1_1 x5_2).f2).length c259_2)) (ds := []) #[false, false, false, false, false, false, false, false, false, false, false, false, false, false] (by kernel_rfl) rfl rfl ⟨(blk_cell BK256.out 0).trans rfl, (blk_cell BK256.out 1).trans rfl, (blk_cell BK257.out 0).trans rfl, (blk_cell BK257.out 1).trans rfl, (oc hw258_0), (oc hw258_1), (oc hw258_2), (oc hw259_0), (oc hw259_1), (oc hw259_2)⟩ (fun hHeld => ?_); refine with_tabW paraphrastref01_Same.tab6 paraphrastref01_Same.bits6 (fun HT_ HW_ => ?_)
          generalize wr.drew = w80 at BK256 BK257 HB HR258_2 HR259_2 hx258_0 hx258_1 hx258_2 hx259_0 hx259_1 hx259_2 hHeld ⊢
          refine sPu 0 (some 29) ?_
          refine sPu 2 (some 31) ?_
          refine sPu 5 (some 34) ?_
          refine sPu 7 (some 36) ?_
          refine sTk 1 (some 30) ?_
          refine sPu 3 (some 32) ?_
          refine sTk 4 (some 33) ?_
          refine sTk 6 (some 35) ?_
          refine sPu 8 (some 37) ?_
          refine sTk 9 (some 38) ?_
          refine join_ (σ := Nat × Nat) 2 #[true, true, true, true, true, true, true, true, true, true, true, true, false, false] (fun s_ => [(6, .pointer (some ⟨s_.1, 0, none⟩)), (7, .pointer (some ⟨s_.2, 0, none⟩))]) (fun s_ w' => (w'.cell? ⟨gb256, 0, none⟩ = some (.int .i64 a0_0) ∧ w'.cell? ⟨gb256, 1, none⟩ = some (.slice (some ad258) l0_1.length c0_1) ∧ w'.cell? ⟨gb257, 0, none⟩ = some (.int .i64 a1_0) ∧ w'.cell? ⟨gb257, 1, none⟩ = some (.slice (some ad259) l1_1.length c1_1) ∧ w'.cell? (ad258.add ((x5_2).toNat * 3)) = some (.string ((rd_T52 l0_1 x5_2).f0)) ∧ w'.cell? ⟨(ad258.add ((x5_2).toNat * 3)).block, (ad258.add ((x5_2).toNat * 3)).off + 1, none⟩ = some (.int .i64 ((rd_T52 l0_1 x5_2).f1)) ∧ w'.cell? ⟨(ad258.add ((x5_2).toNat * 3)).block, (ad258.add ((x5_2).toNat * 3)).off + 2, none⟩ = some (.slice A258_2 ((rd_T52 l0_1 x5_2).f2).length c258_2) ∧ w'.cell? (ad259.add ((x5_2).toNat * 3)) = some (.string ((rd_T52 l1_1 x5_2).f0)) ∧ w'.cell? ⟨(ad259.add ((x5_2).toNat * 3)).block, (ad259.add ((x5_2).toNat * 3)).off + 1, none⟩ = some (.int .i64 ((rd_T52 l1_1 x5_2).f1)) ∧ w'.cell? ⟨(ad259.add ((x5_2).toNat * 3)).block, (ad259.add ((x5_2).toNat * 3)).off + 2, none⟩ = some (.slice A259_2 ((rd_T52 l1_1 x5_2).f2).length c259_2)) ∧ (w'.heap[gb256]? = some (.cells #[.int .i64 a0_0, .slice (some ad258) l0_1.length c0_1] 24 (0, 0))) ∧ (w'.heap[gb257]? = some (.cells #[.int .i64 a1_0, .slice (some ad259) l1_1.length c1_1] 24 (0, 0))) ∧ (w'.heap[s_.1]? = some (.cells #[.string (⟨#[]⟩ : ByteArray), .int .i64 0, .slice none 0 0] 52 (0, 0))) ∧ (w'.heap[s_.2]? = some (.cells #[.string (⟨#[]⟩ : ByteArray), .int .i64 0, .slice none 0 0] 52 (0, 0))) ∧ (w.heap.size ≤ s_.1) ∧ (w.heap.size ≤ s_.1) ∧ (gb256 ≠ s_.1) ∧ (s_.1 ≠ gb256) ∧ (gb257 ≠ s_.1) ∧ (s_.1 ≠ gb257) ∧ (s_.2 ≠ s_.1) ∧ (s_.1 ≠ s_.2) ∧ (w.heap.size ≤ s_.2) ∧ (w.heap.size ≤ s_.2) ∧ (gb256 ≠ s_.2) ∧ (s_.2 ≠ gb256) ∧ (gb257 ≠ s_.2) ∧ (s_.2 ≠ gb257) ∧ (Below w.heap.size w w')) ?_ ?_
          rotate_left
          ·intro hCont
           refine two_ (i := 10) (j := 11) (Ni := some 6) (Nj := some 7) #[true, true, true, true, true, true, true, true, true, true, true, false, false, false] #[true, true, true, true, true, true, true, true, true, true, false, true, false, false] rfl rfl rfl rfl (two_of HT_.out (by kernel_rfl)) (by decide) (by decide) (fun K hK => ?_) (fun K hK => ?_)
           ·skip
            refine box_step ?hg (N := 6) ?hd (cs := #[.string (⟨#[]⟩ : ByteArray), .int .i64 0, .slice none 0 0]) (t := 52) ?hr ?_; (case hd => rfl); (case hg => rfl); (case hr => first | (go_simp; done) | (go_simp; rfl))
            intro gb260 hg w81 hbox hb
            have BK260 := Aside0.mk (hbox)
            have GW260 := geB w hg
            have GE260 := geB w hg
            have NB256_260 := neL BK256 hg
            have NB260_256 := neG BK256 hg
            have NB257_260 := neL BK257 hg
            have NB260_257 := neG BK257 hg
            replace BK256 := blB BK256 hb
            replace BK257 := blB BK257 hb
            replace HB := Aside0.mk (below_step bel hb)
            clear hb hbox hg
            refine hK.out _ _ ⟨(blk_cell BK256.out 0).trans rfl, (blk_cell BK256.out 1).trans rfl, (blk_cell BK257.out 0).trans rfl, (blk_cell BK257.out 1).trans rfl, (oc hw258_0), (oc hw258_1), (oc hw258_2), (oc hw259_0), (oc hw259_1), (oc hw259_2)⟩ (fun hHeld => ?_)
            clear hK K
            refine norm_ (a' := ?_) ?_ ?_
            rotate_left
            ·show Act.put _ (some 6) _ = _
             simp only [Act.put, List.setIfInBounds_toArray, List.set_cons_zero, List.set_cons_succ, i64_w, i32_w]
             rfl
            refine sOn 11 (some 7) (fun K hK => ?_)
            refine box_step ?hg (N := 7) ?hd (cs := #[.string (⟨#[]⟩ : ByteArray), .int .i64 0, .slice none 0 0]) (t := 52) ?hr ?_; (case hd => rfl); (case hg => rfl); (case hr => first | (go_simp; done) | (go_simp; rfl))
            intro gb261 hg w82 hbox hb
            have BK261 := Aside0.mk (hbox)
            have GW261 := geB w hg
            have GE261 := geB w hg
            have NB256_261 := neL BK256 hg
            have NB261_256 := neG BK256 hg
            have NB257_261 := neL BK257 hg
            have NB261_257 := neG BK257 hg
            have NB260_261 := neL BK260 hg
            have NB261_260 := neG BK260 hg
            replace BK256 := blB BK256 hb
            replace BK257 := blB BK257 hb
            replace BK260 := blB BK260 hb
            replace HB := Aside0.mk (below_step bel hb)
            clear hb hbox hg
            refine hK.out _ _ ⟨(blk_cell BK256.out 0).trans rfl, (blk_cell BK256.out 1).trans rfl, (blk_cell BK257.out 0).trans rfl, (blk_cell BK257.out 1).trans rfl, (oc hw258_0), (oc hw258_1), (oc hw258_2), (oc hw259_0), (oc hw259_1), (oc hw259_2)⟩ (fun hHeld => ?_)
            clear hK K
            refine norm_ (a' := ?_) ?_ ?_
            rotate_left
            ·show Act.put _ (some 7) _ = _
             simp only [Act.put, List.setIfInBounds_toArray, List.set_cons_zero, List.set_cons_succ, i64_w, i32_w]
             rfl
            exact norm_ (by simp only [putAll, Act.put, List.setIfInBounds_toArray, List.set_cons_zero, List.set_cons_succ]) (hCont (gb260, gb261) _ ⟨hHeld, (bk BK256), (bk BK257), (bk BK260), (bk BK261), GW260.out, GE260.out, NB256_260.out, NB260_256.out, NB257_260.out, NB260_257.out, NB261_260.out, NB260_261.out, GW261.out, GE261.out, NB256_261.out, NB261_256.out, NB257_261.out, NB261_257.out, bel⟩)
           ·skip
            refine box_step ?hg (N := 7) ?hd (cs := #[.string (⟨#[]⟩ : ByteArray), .int .i64 0, .slice none 0 0]) (t := 52) ?hr ?_; (case hd => rfl); (case hg => rfl); (case hr => first | (go_simp; done) | (go_simp; rfl))
            intro gb261 hg w81 hbox hb
            have BK261 := Aside0.mk (hbox)
            have GW261 := geB w hg
            have GE261 := geB w hg
            have NB256_261 := neL BK256 hg
            have NB261_256 := neG BK256 hg
            have NB257_261 := neL BK257 hg
            have NB261_257 := neG BK257 hg
            replace BK256 := blB BK256 hb
            replace BK257 := blB BK257 hb
            replace HB := Aside0.mk (below_step bel hb)
            clear hb hbox hg
            refine hK.out _ _ ⟨(blk_cell BK256.out 0).trans rfl, (blk_cell BK256.out 1).trans rfl, (blk_cell BK257.out 0).trans rfl, (blk_cell BK257.out 1).trans rfl, (oc hw258_0), (oc hw258_1), (oc hw258_2), (oc hw259_0), (oc hw259_1), (oc hw259_2)⟩ (fun hHeld => ?_)
            clear hK K
            refine norm_ (a' := ?_) ?_ ?_
            rotate_left
            ·show Act.put _ (some 7) _ = _
             simp only [Act.put, List.setIfInBounds_toArray, List.set_cons_zero, List.set_cons_succ, i64_w, i32_w]
             rfl
            refine sOn 10 (some 6) (fun K hK => ?_)
            refine box_step ?hg (N := 6) ?hd (cs := #[.string (⟨#[]⟩ : ByteArray), .int .i64 0, .slice none 0 0]) (t := 52) ?hr ?_; (case hd => rfl); (case hg => rfl); (case hr => first | (go_simp; done) | (go_simp; rfl))
            intro gb260 hg w82 hbox hb
            have BK260 := Aside0.mk (hbox)
            have GW260 := geB w hg
            have GE260 := geB w hg
            have NB256_260 := neL BK256 hg
            have NB260_256 := neG BK256 hg
            have NB257_260 := neL BK257 hg
            have NB260_257 := neG BK257 hg
            have NB261_260 := neL BK261 hg
            have NB260_261 := neG BK261 hg
            replace BK256 := blB BK256 hb
            replace BK257 := blB BK257 hb
            replace BK261 := blB BK261 hb
            replace HB := Aside0.mk (below_step bel hb)
            clear hb hbox hg
            refine hK.out _ _ ⟨(blk_cell BK256.out 0).trans rfl, (blk_cell BK256.out 1).trans rfl, (blk_cell BK257.out 0).trans rfl, (blk_cell BK257.out 1).trans rfl, (oc hw258_0), (oc hw258_1), (oc hw258_2), (oc hw259_0), (oc hw259_1), (oc hw259_2)⟩ (fun hHeld => ?_)
            clear hK K
            refine norm_ (a' := ?_) ?_ ?_
            rotate_left
            ·show Act.put _ (some 6) _ = _
             simp only [Act.put, List.setIfInBounds_toArray, List.set_cons_zero, List.set_cons_succ, i64_w, i32_w]
             rfl
            exact norm_ (by simp only [putAll, Act.put, List.setIfInBounds_toArray, List.set_cons_zero, List.set_cons_succ]) (hCont (gb260, gb261) _ ⟨hHeld, (bk BK256), (bk BK257), (bk BK260), (bk BK261), GW260.out, GE260.out, NB256_260.out, NB260_256.out, NB257_260.out, NB260_257.out, NB261_260.out, NB260_261.out, GW261.out, GE261.out, NB256_261.out, NB261_256.out, NB257_261.out, NB261_257.out, bel⟩)
          rintro ⟨gb260, gb261⟩ w83 ⟨hS_, h0_, h1_, h2_, h3_, h4_, h5_, h6_, h7_, h8_, h9_, h10_, h11_, h12_, h13_, h14_, h15_, h16_, h17_, h18_⟩
          have n0_ : Aside0 (w83.heap[gb256]? = some (.cells #[.int .i64 a0_0, .slice (some ad258) l0_1.length c0_1] 24 (0, 0))) := ⟨h0_⟩
          have n1_ : Aside0 (w83.heap[gb257]? = some (.cells #[.int .i64 a1_0, .slice (some ad259) l1_1.length c1_1] 24 (0, 0))) := ⟨h1_⟩
          have n2_ : Aside0 (w83.heap[gb260]? = some (.cells #[.string (⟨#[]⟩ : ByteArray), .int .i64 0, .slice none 0 0] 52 (0, 0))) := ⟨h2_⟩
          have n3_ : Aside0 (w83.heap[gb261]? = some (.cells #[.string (⟨#[]⟩ : ByteArray), .int .i64 0, .slice none 0 0] 52 (0, 0))) := ⟨h3_⟩
          have n4_ : Aside0 (w.heap.size ≤ gb260) := ⟨h4_⟩
          have n5_ : Aside0 (w.heap.size ≤ gb260) := ⟨h5_⟩
          have n6_ : Aside0 (gb256 ≠ gb260) := ⟨h6_⟩
          have n7_ : Aside0 (gb260 ≠ gb256) := ⟨h7_⟩
          have n8_ : Aside0 (gb257 ≠ gb260) := ⟨h8_⟩
          have n9_ : Aside0 (gb260 ≠ gb257) := ⟨h9_⟩
          have n10_ : Aside0 (gb261 ≠ gb260) := ⟨h10_⟩
          have n11_ : Aside0 (gb260 ≠ gb261) := ⟨h11_⟩
          have n12_ : Aside0 (w.heap.size ≤ gb261) := ⟨h12_⟩
          have n13_ : Aside0 (w.heap.size ≤ gb261) := ⟨h13_⟩
          have n14_ : Aside0 (gb256 ≠ gb261) := ⟨h14_⟩
          have n15_ : Aside0 (gb261 ≠ gb256) := ⟨h15_⟩
          have n16_ : Aside0 (gb257 ≠ gb261) := ⟨h16_⟩
          have n17_ : Aside0 (gb261 ≠ gb257) := ⟨h17_⟩
          have n18_ : Aside0 (Below w.heap.size w w83) := ⟨h18_⟩
          clear BK256
          clear BK257
          clear HB
          clear h0_ h1_ h2_ h3_ h4_ h5_ h6_ h7_ h8_ h9_ h10_ h11_ h12_ h13_ h14_ h15_ h16_ h17_ h18_
          have BK256 := n0_
          have BK257 := n1_
          have BK260 := n2_
          have BK261 := n3_
          have GW260 := n4_
          have GE260 := n5_
          have NB256_260 := n6_
          have NB260_256 := n7_
          have NB257_260 := n8_
          have NB260_257 := n9_
          have NB261_260 := n10_
          have NB260_261 := n11_
          have GW261 := n12_
          have GE261 := n13_
          have NB256_261 := n14_
          have NB261_256 := n15_
          have NB257_261 := n16_
          have NB261_257 := n17_
          have HB := n18_
          clear n0_ n1_ n2_ n3_ n4_ n5_ n6_ n7_ n8_ n9_ n10_ n11_ n12_ n13_ n14_ n15_ n16_ n17_ n18_
          have hHeld : w83.cell? ⟨gb256, 0, none⟩ = some (.int .i64 a0_0) ∧ w83.cell? ⟨gb256, 1, none⟩ = some (.slice (some ad258) l0_1.length c0_1) ∧ w83.cell? ⟨gb257, 0, none⟩ = some (.int .i64 a1_0) ∧ w83.cell? ⟨gb257, 1, none⟩ = some (.slice (some ad259) l1_1.length c1_1) ∧ w83.cell? (ad258.add ((x5_2).toNat * 3)) = some (.string ((rd_T52 l0_1 x5_2).f0)) ∧ w83.cell? ⟨(ad258.add ((x5_2).toNat * 3)).block, (ad258.add ((x5_2).toNat * 3)).off + 1, none⟩ = some (.int .i64 ((rd_T52 l0_1 x5_2).f1)) ∧ w83.cell? ⟨(ad258.add ((x5_2).toNat * 3)).block, (ad258.add ((x5_2).toNat * 3)).off + 2, none⟩ = some (.slice A258_2 ((rd_T52 l0_1 x5_2).f2).length c258_2) ∧ w83.cell? (ad259.add ((x5_2).toNat * 3)) = some (.string ((rd_T52 l1_1 x5_2).f0)) ∧ w83.cell? ⟨(ad259.add ((x5_2).toNat * 3)).block, (ad259.add ((x5_2).toNat * 3)).off + 1, none⟩ = some (.int .i64 ((rd_T52 l1_1 x5_2).f1)) ∧ w83.cell? ⟨(ad259.add ((x5_2).toNat * 3)).block, (ad259.add ((x5_2).toNat * 3)).off + 2, none⟩ = some (.slice A259_2 ((rd_T52 l1_1 x5_2).f2).length c259_2) := hS_
          refine norm_ (a' := ?_) ?_ ?_
          rotate_left
          ·simp only [putAll, Act.put, List.setIfInBounds_toArray, List.set_cons_zero, List.set_cons_succ]
           rfl
          refine sOn 12 none (fun K hK => ?_)
          have hs84 : w83.cell? ⟨gb260, 0, none⟩ = some (.string (⟨#[]⟩ : ByteArray)) := (blk_cell BK260.out 0).trans rfl
          have hfs84 := blk_frozen BK260.out 0
          have hns84_0 := NB256_260.out
          have hns84_1 := NB257_260.out
          have hns84_3 := NB261_260.out
          have hms84_0 := NB260_256.out
          have hms84_1 := NB260_257.out
          have hms84_3 := NB260_261.out
          have hs85 : w83.cell? ⟨gb260, 1, none⟩ = some (.int .i64 0) := (blk_cell BK260.out 1).trans rfl
          have hfs85 := blk_frozen BK260.out 1
          have hns85_0 := NB256_260.out
          have hns85_1 := NB257_260.out
          have hns85_3 := NB261_260.out
          have hms85_0 := NB260_256.out
          have hms85_1 := NB260_257.out
          have hms85_3 := NB260_261.out
          have hs86 : w83.cell? ⟨gb260, 2, none⟩ = some (.slice none 0 0) := (blk_cell BK260.out 2).trans rfl
          have hfs86 := blk_frozen BK260.out 2
          have hns86_0 := NB256_260.out
          have hns86_1 := NB257_260.out
          have hns86_3 := NB261_260.out
          have hms86_0 := NB260_256.out
          have hms86_1 := NB260_257.out
          have hms86_3 := NB260_261.out
          refine skip_ (w1 := ?_) (by rfl) rfl ?_ ?_
          rotate_left
          ·go_simp
           rfl
          refine hK.out _ _ ⟨((cell_far (p := ⟨gb260, _, none⟩) NB256_260.out _).trans (((cell_far (p := ⟨gb260, _, none⟩) NB256_260.out _).trans (((cell_far (p := ⟨gb260, _, none⟩) NB256_260.out _).trans (hHeld.1)))))), ((cell_far (p := ⟨gb260, _, none⟩) NB256_260.out _).trans (((cell_far (p := ⟨gb260, _, none⟩) NB256_260.out _).trans (((cell_far (p := ⟨gb260, _, none⟩) NB256_260.out _).trans (hHeld.2.1)))))), ((cell_far (p := ⟨gb260, _, none⟩) NB257_260.out _).trans (((cell_far (p := ⟨gb260, _, none⟩) NB257_260.out _).trans (((cell_far (p := ⟨gb260, _, none⟩) NB257_260.out _).trans (hHeld.2.2.1)))))), ((cell_far (p := ⟨gb260, _, none⟩) NB257_260.out _).trans (((cell_far (p := ⟨gb260, _, none⟩) NB257_260.out _).trans (((cell_far (p := ⟨gb260, _, none⟩) NB257_260.out _).trans (hHeld.2.2.2.1)))))), ((cell_far (p := ⟨gb260, _, none⟩) (far_ne34 hw258_0 GW260.out) _).trans (((cell_far (p := ⟨gb260, _, none⟩) (far_ne34 hw258_0 GW260.out) _).trans (((cell_far (p := ⟨gb260, _, none⟩) (far_ne34 hw258_0 GW260.out) _).trans (hHeld.2.2.2.2.1)))))), ((cell_far (p := ⟨gb260, _, none⟩) (far_ne34 hw258_1 GW260.out) _).trans (((cell_far (p := ⟨gb260, _, none⟩) (far_ne34 hw258_1 GW260.out) _).trans (((cell_far (p := ⟨gb260, _, none⟩) (far_ne34 hw258_1 GW260.out) _).trans (hHeld.2.2.2.2.2.1)))))), ((cell_far (p := ⟨gb260, _, none⟩) (far_ne34 hw258_2 GW260.out) _).trans (((cell_far (p := ⟨gb260, _, none⟩) (far_ne34 hw258_2 GW260.out) _).trans (((cell_far (p := ⟨gb260, _, none⟩) (far_ne34 hw258_2 GW260.out) _).trans (hHeld.2.2.2.2.2.2.1)))))), ((cell_far (p := ⟨gb260, _, none⟩) (far_ne34 hw259_0 GW260.out) _).trans (((cell_far (p := ⟨gb260, _, none⟩) (far_ne34 hw259_0 GW260.out) _).trans (((cell_far (p := ⟨gb260, _, none⟩) (far_ne34 hw259_0 GW260.out) _).trans (hHeld.2.2.2.2.2.2.2.1)))))), ((cell_far (p := ⟨gb260, _, none⟩) (far_ne34 hw259_1 GW260.out) _).trans (((cell_far (p := ⟨gb260, _, none⟩) (far_ne34 hw259_1 GW260.out) _).trans (((cell_far (p := ⟨gb260, _, none⟩) (far_ne34 hw259_1 GW260.out) _).trans (hHeld.2.2.2.2.2.2.2.2.1)))))), ((cell_far (p := ⟨gb260, _, none⟩) (far_ne34 hw259_2 GW260.out) _).trans (((cell_far (p := ⟨gb260, _, none⟩) (far_ne34 hw259_2 GW260.out) _).trans (((cell_far (p := ⟨gb260, _, none⟩) (far_ne34 hw259_2 GW260.out) _).trans (hHeld.2.2.2.2.2.2.2.2.2))))))⟩ (fun hHeld => ?_)
          clear hK K
          refine sOn 13 none (fun K hK => ?_)
          have hs87 : w83.cell? ⟨gb261, 0, none⟩ = some (.string (⟨#[]⟩ : ByteArray)) := (blk_cell BK261.out 0).trans rfl
          have hfs87 := blk_frozen BK261.out 0
          have hns87_0 := NB256_261.out
          have hns87_1 := NB257_261.out
          have hns87_2 := NB260_261.out
          have hms87_0 := NB261_256.out
          have hms87_1 := NB261_257.out
          have hms87_2 := NB261_260.out
          have hs88 : w83.cell? ⟨gb261, 1, none⟩ = some (.int .i64 0) := (blk_cell BK261.out 1).trans rfl
          have hfs88 := blk_frozen BK261.out 1
          have hns88_0 := NB256_261.out
          have hns88_1 := NB257_261.out
          have hns88_2 := NB260_261.out
          have hms88_0 := NB261_256.out
          have hms88_1 := NB261_257.out
          have hms88_2 := NB261_260.out
          have hs89 : w83.cell? ⟨gb261, 2, none⟩ = some (.slice none 0 0) := (blk_cell BK261.out 2).trans rfl
          have hfs89 := blk_frozen BK261.out 2
          have hns89_0 := NB256_261.out
          have hns89_1 := NB257_261.out
          have hns89_2 := NB260_261.out
          have hms89_0 := NB261_256.out
          have hms89_1 := NB261_257.out
          have hms89_2 := NB261_260.out
          refine skip_ (w1 := ?_) (by rfl) rfl ?_ ?_
          rotate_left
          ·go_simp
           rfl
          refine hK.out _ _ ⟨((cell_far (p := ⟨gb261, _, none⟩) NB256_261.out _).trans (((cell_far (p := ⟨gb261, _, none⟩) NB256_261.out _).trans (((cell_far (p := ⟨gb261, _, none⟩) NB256_261.out _).trans (hHeld.1)))))), ((cell_far (p := ⟨gb261, _, none⟩) NB256_261.out _).trans (((cell_far (p := ⟨gb261, _, none⟩) NB256_261.out _).trans (((cell_far (p := ⟨gb261, _, none⟩) NB256_261.out _).trans (hHeld.2.1)))))), ((cell_far (p := ⟨gb261, _, none⟩) NB257_261.out _).trans (((cell_far (p := ⟨gb261, _, none⟩) NB257_261.out _).trans (((cell_far (p := ⟨gb261, _, none⟩) NB257_261.out _).trans (hHeld.2.2.1)))))), ((cell_far (p := ⟨gb261, _, none⟩) NB257_261.out _).trans (((cell_far (p := ⟨gb261, _, none⟩) NB257_261.out _).trans (((cell_far (p := ⟨gb261, _, none⟩) NB257_261.out _).trans (hHeld.2.2.2.1)))))), ((cell_far (p := ⟨gb261, _, none⟩) (far_ne34 hw258_0 GW261.out) _).trans (((cell_far (p := ⟨gb261, _, none⟩) (far_ne34 hw258_0 GW261.out) _).trans (((cell_far (p := ⟨gb261, _, none⟩) (far_ne34 hw258_0 GW261.out) _).trans (hHeld.2.2.2.2.1)))))), ((cell_far (p := ⟨gb261, _, none⟩) (far_ne34 hw258_1 GW261.out) _).trans (((cell_far (p := ⟨gb261, _, none⟩) (far_ne34 hw258_1 GW261.out) _).trans (((cell_far (p := ⟨gb261, _, none⟩) (far_ne34 hw258_1 GW261.out) _).trans (hHeld.2.2.2.2.2.1)))))), ((cell_far (p := ⟨gb261, _, none⟩) (far_ne34 hw258_2 GW261.out) _).trans (((cell_far (p := ⟨gb261, _, none⟩) (far_ne34 hw258_2 GW261.out) _).trans (((cell_far (p := ⟨gb261, _, none⟩) (far_ne34 hw258_2 GW261.out) _).trans (hHeld.2.2.2.2.2.2.1)))))), ((cell_far (p := ⟨gb261, _, none⟩) (far_ne34 hw259_0 GW261.out) _).trans (((cell_far (p := ⟨gb261, _, none⟩) (far_ne34 hw259_0 GW261.out) _).trans (((cell_far (p := ⟨gb261, _, none⟩) (far_ne34 hw259_0 GW261.out) _).trans (hHeld.2.2.2.2.2.2.2.1)))))), ((cell_far (p := ⟨gb261, _, none⟩) (far_ne34 hw259_1 GW261.out) _).trans (((cell_far (p := ⟨gb261, _, none⟩) (far_ne34 hw259_1 GW261.out) _).trans (((cell_far (p := ⟨gb261, _, none⟩) (far_ne34 hw259_1 GW261.out) _).trans (hHeld.2.2.2.2.2.2.2.2.1)))))), ((cell_far (p := ⟨gb261, _, none⟩) (far_ne34 hw259_2 GW261.out) _).trans (((cell_far (p := ⟨gb261, _, none⟩) (far_ne34 hw259_2 GW261.out) _).trans (((cell_far (p := ⟨gb261, _, none⟩) (far_ne34 hw259_2 GW261.out) _).trans (hHeld.2.2.2.2.2.2.2.2.2))))))⟩ (fun hHeld => ?_)
          clear hK K
          refine done_ (done_of HT_.out (by kernel_rfl)) ?_
          have hnb90 := NB260_256.out
          have hnc90 := NB256_260.out
          have hnb91 := NB260_257.out
          have hnc91 := NB257_260.out
          have hnb92 := NB260_261.out
          have hnc92 := NB261_260.out
          obtain ⟨hcz93_0, hcz93_1, hcz93_2, hfz93_0, hfz93_1, hfz93_2⟩ := bq3 BK260
          have hnb94 := NB261_256.out
          have hnc94 := NB256_261.out
          have hnb95 := NB261_257.out
          have hnc95 := NB257_261.out
          obtain ⟨hcz96_0, hcz96_1, hcz96_2, hfz96_0, hfz96_1, hfz96_2⟩ := bq3 BK261
          try go_wp2
          go_ret
          exact ⟨eN, bel⟩
        ·rw [if_neg c16] at H
         exact absurd H (by simp)
       ·rw [if_neg c15] at H
        exact absurd H (by simp)
      ·rw [if_neg c14] at H
       have c14b0 : decide (x5_2 < (l0_1.length : Int)) = false := decide_eq_false c14
       clear c14
       obtain rfl := Option.some.inj H
       have hnb97 := NB256_257.out
       have hnc97 := NB257_256.out
       obtain ⟨hcz98_0, hcz98_1, hfz98_0, hfz98_1⟩ := bq2 BK256
       go_wp2
       go_ret
       exact ⟨eN, bel⟩
end Go.Proofs.YtfmpaofbnjlniaaGreatDoor.F
/- Same, Text and Parse at structures: what they answer. -/
namespace Go.Proofs.YtfmpaofbnjlniaaGreatDoor.F
open Go.RowKit Go.Proofs.YtfmpaofbnjlniaaGreatDoorW.PrintWords Go.Proofs.YtfmpaofbnjlniaaGreatDoorW.PrintLast Go.Proofs.YtfmpaofbnjlniaaGreatDoorW.PrintMore
set_option linter.unusedVariables false
theorem rdL2_nat (l : List (List Int)) (i : Nat) (h : i < l.length) : rd_L2 l (i : Int) = l[i] := by unfold rd_L2; rw [Int.toNat_natCast, List.getD_eq_getElem?_getD, List.getElem?_eq_getElem h]; rfl
theorem sameTuples_loop (l : List (List Int)) (hl : l.length ≤ 100000) (ht : ∀ t ∈ l, t.length ≤ 1000) : ∀ (d i k : Nat), i + d = l.length → d + 1101 ≤ k → paraphrastref01_SameTuples.l0 k l l (i : Int) = some true
  | 0, i, k + 1, h, hk => by unfold paraphrastref01_SameTuples.l0; rw [if_neg (by omega)]
  | d + 1, i, k + 1, h, hk => by
    have hi : i < l.length := by omega
    unfold paraphrastref01_SameTuples.l0
    rw [if_pos (by omega), if_pos (by omega), if_pos (by omega), rdL2_nat l i hi, equal_same _ (ht _ (List.getElem_mem hi)) k (by omega), w64 (by omega) (by omega), show (i : Int) + 1 = ((i + 1 : Nat) : Int) by omega, sameTuples_loop l hl ht d (i + 1) k (by omega) (by omega)]
    simp
theorem sameTuples_refl (l : List (List Int)) (hl : l.length ≤ 100000) (ht : ∀ t ∈ l, t.length ≤ 1000) (k : Nat) (hk : 101200 ≤ k) : paraphrastref01_SameTuples.f k l l = some true := by
  unfold paraphrastref01_SameTuples.f
  rw [if_pos rfl]
  exact sameTuples_loop l hl ht l.length 0 k (by omega) (by omega)
theorem same_loop (n : Int) (l : List S52) (hl : l.length ≤ 1000) (hr : ∀ r ∈ l, r.f2.length ≤ 100000 ∧ ∀ t ∈ r.f2, t.length ≤ 1000) : ∀ (d i k : Nat), i + d = l.length → d + 101201 ≤ k → paraphrastref01_Same.l0 k (i : Int) n l n l = some true
  | 0, i, k + 1, h, hk => by unfold paraphrastref01_Same.l0; rw [if_neg (by omega)]
  | d + 1, i, k + 1, h, hk => by
    have hi : i < l.length := by omega
    obtain ⟨h1, h2⟩ := hr _ (List.getElem_mem hi)
    unfold paraphrastref01_Same.l0
    rw [if_pos (by omega), if_pos (by omega), if_pos (by omega), if_pos rfl, if_pos rfl, rdT_nat l i hi, sameTuples_refl _ h1 h2 k (by omega), w64 (by omega) (by omega), show (i : Int) + 1 = ((i + 1 : Nat) : Int) by omega, same_loop n l hl hr d (i + 1) k (by omega) (by omega)]
    simp
theorem same_refl (n : Int) (l : List S52) (hl : l.length ≤ 1000) (hr : ∀ r ∈ l, r.f2.length ≤ 100000 ∧ ∀ t ∈ r.f2, t.length ≤ 1000) (k : Nat) (hk : 102300 ≤ k) : paraphrastref01_Same.f k n l n l = some true := by
  obtain ⟨k, rfl⟩ : ∃ k', k = k' + 1 := ⟨k - 1, by omega⟩
  unfold paraphrastref01_Same.f
  rw [if_pos rfl, bne_self_eq_false]
  unfold paraphrastref01_Same.j0
  dsimp only
  rw [if_neg (by simp)]
  exact same_loop n l hl hr l.length 0 k (by omega) (by omega)
theorem same_valid (n : Int) (l : List S52) (h : validB n l = true) (k : Nat) (hk : 102300 ≤ k) : paraphrastref01_Same.f k n l n l = some true := by
  obtain ⟨h1, h2, h3, h4⟩ := valid_facts n l h
  refine same_refl n l (by omega) (fun r hr => ?_) k hk
  obtain ⟨_, g1, g2, g3⟩ := h4 r hr
  exact ⟨by omega, fun t ht => by have := (g2 t ht).1; omega⟩
end Go.Proofs.YtfmpaofbnjlniaaGreatDoor.F
/- slices.Clone at []int, by hand. -/
namespace Go.Proofs.YtfmpaofbnjlniaaGreatDoor.F
open Go.RowKit Go.Proofs.YtfmpaofbnjlniaaGreatDoorW.PrintWords Go.Proofs.YtfmpaofbnjlniaaGreatDoorW.PrintLast Go.Proofs.YtfmpaofbnjlniaaGreatDoorW.PrintMore
set_option linter.unusedVariables false
set_option linter.unusedSimpArgs false
def slices_Clone_int_int.f (l : List Int) : Option (List Int) := if l.length ≤ 100000 then some l else none
set_option maxHeartbeats 4000000 in
set_option maxRecDepth 100000 in
theorem slices_Clone_int_int.calls (A0 : Option Addr) (c0 : Nat) (l0 : List Int) (r1 : List Int) (w : World) (hr0 : Kd.C (Kd.int .i64) w A0 l0.length l0) (hc0 : l0.length ≤ c0) (h : slices_Clone_int_int.f l0 = some r1) :
    Calls Tryz.prog 60 #[.slice A0 l0.length c0] w fun e w' => ∃ v0_ : Value, e = .returned v0_ ∧ Kd.R (Kd.int .i64) 3 w' w.heap.size (fun _ => True) v0_ r1 ∧ Below w.heap.size w w' := by
  unfold slices_Clone_int_int.f at h
  by_cases hl : l0.length ≤ 100000
  case neg => rw [if_neg hl] at h; cases h
  rw [if_pos hl] at h
  obtain rfl := Option.some.inj h
  clear h
  have HR0 := Aside0.mk hr0
  have HC0 := Aside0.mk hc0
  clear hr0 hc0
  have hq : ∀ (n c : Nat) (W : World), (binOp .eql 46 (.slice A0 n c) (.slice none 0 0)).run Tryz.prog W = .ok (.bool A0.isNone) W := fun n c W => Lib.run_eql_slice_nil W 46 3 A0 n c 0 0 Tryz.underlying46
  go_enter Tryz.func60, Tryz.ntmps60
  cases A0 with
  | none =>
    have h0 : l0 = [] := by
      cases l0 with
      | nil => rfl
      | cons x xs => obtain ⟨ad, h, _⟩ := HR0.out.2.2 (by simp); cases h
    subst h0
    go_wp2
    go_ret
    exact ⟨_, rfl, Kd.R_nil _ _ _ _ _, Below.refl _ _⟩
  | some ad =>
    have HO := Aside0.mk (show Kd.R (Kd.int .i64) 3 (w.alloc (.cells #[] 3)) w.heap.size (fun _ => True) (.slice (some ⟨w.heap.size, 0, none⟩) 0 0) [] from Kd.R_of_own (h1 := fun _ => rfl) (ok := fun _ => True) (own_lit_of (enc := Value.int .i64) w w.heap.size 3 [] (Nat.le_refl _) (by simp)) (fun _ _ => trivial))
    have HC := Aside0.mk (Kd.C_alloc HR0.out (.cells #[] 3))
    have HB := Aside0.mk (below_alloc (Below.refl w.heap.size w) (.cells #[] 3))
    go_wp2_with (first | ((with_reducible refine gate_builtin (b := .append) (xs := #[.tmp 5, .tmp 6]) rfl ?_); at_builtin; refine Kd.R_append_rows (Kd.int .i64) (w0 := w) w.heap.size rfl (.tmp 5) (.tmp 6) 46 3 (.int .i64 0) 8 rfl Tryz.underlying46 infoInt rfl (by decide) (by omega) (.slice (some ⟨w.heap.size, 0, none⟩) 0 0) [] l0 _ _ _ (fun _ => True) (fun _ => False) rfl rfl ?aO ?aR (fun _ _ h => h) (fun _ h => h.elim) ?aF ?aB ?aS ?aL ?_; (case aO => exact HO.out); (case aR => exact HC.out); (case aF => exact fun _ _ => trivial); (case aB => exact HB.out); (case aS => exact HB.out.size); (case aL => simp; omega); intro v7 w7 ho hb hg hat; have n0_ := Aside0.mk ho; have n1_ := Aside0.mk hb; clear ho hb hg hat HO HC HB))
    go_ret
    exact ⟨_, rfl, n0_.out, n1_.out⟩
end Go.Proofs.YtfmpaofbnjlniaaGreatDoor.F
/- slices.Insert at [][]int, by hand (the walk turned from the kit's worked one at []string). -/
namespace Go.Proofs.YtfmpaofbnjlniaaGreatDoor.F
open Go.RowKit Go.Lib Go.Proofs.YtfmpaofbnjlniaaGreatDoorW.PrintWords Go.Proofs.YtfmpaofbnjlniaaGreatDoorW.PrintLast Go.Proofs.YtfmpaofbnjlniaaGreatDoorW.PrintMore
set_option linter.unusedVariables false
set_option linter.unusedSimpArgs false
theorem wp_copy_runI {P : Program} (w : World) {o : Oper} {a : Act} {K : Act → World → Prop} {Q : Exit → Act → World → Prop} (d s : Operand) (t t' : TypeId)
    (ho : o.op = .call { callee := .builtin .copy, args := #[d, s], argTypes := #[t, t'] }) (v u : Value) (hd : a.eval d = v) (hs : a.eval s = u) {v' : Value} {w' : World}
    (hr : (Builtin.copy_ #[t, t'] o.type #[v, u]).run P w = .ok v' w') (h : K (a.put o.dst v') w') : o.wp P a w K Q := by
  unfold Oper.wp execOp
  simp only [ho, resolve, invoke, builtin, Sem.run_bind, Sem.run_pure, Result.andThen_ok, List.map_toArray, List.map_cons, List.map_nil, hd, hs, hr]
  exact h
theorem wpList_copy_runI {P : Program} (w : World) {ops : Array Oper} {rest : List Oper} {o : Oper} {a : Act} {Q : Exit → Act → World → Prop} (hgd : o.guard = none) (d s : Operand) (t t' : TypeId)
    (ho : o.op = .call { callee := .builtin .copy, args := #[d, s], argTypes := #[t, t'] }) (v u : Value) (hd : a.eval d = v) (hs : a.eval s = u) {v' : Value} {w' : World}
    (hr : (Builtin.copy_ #[t, t'] o.type #[v, u]).run P w = .ok v' w') (h : wpList P ops Q rest (a.put o.dst v') w') : wpList P ops Q (o :: rest) a w :=
  wpList_plain hgd fun _ hK => wp_copy_runI w d s t t' ho v u hd hs hr (hK _ _ h)
theorem step_copy_runI {P : Program} {ops : Array Oper} {o : Oper} {a : Act} {w : World} {K : Act → World → Prop} {Q : Exit → Act → World → Prop} {E : Prop}
    (hg : o.guard = none) (d x : Operand) (dT sT : TypeId) (hop : o.op = Op.call { callee := Callee.builtin Builtin.copy, args := #[d, x], argTypes := #[dT, sT] })
    (v u : Value) (hd : a.eval d = v) (hx : a.eval x = u) {v' : Value} {w' : World} (hr : (Builtin.copy_ #[dT, sT] o.type #[v, u]).run P w = .ok v' w') (hK : K (a.put o.dst v') w') :
    if Region.wanted o (yielded ops a.tmps) = true then Oper.wp P o a w K Q else E := by
  have hw : Region.wanted o (yielded ops a.tmps) = true := by simp [Region.wanted, hg]
  rw [if_pos hw]
  unfold Oper.wp
  simp [execOp, hop, resolve, invoke, builtin, hd, hx, hr, Result.andThen]
  exact hK
theorem isSome_setCells (b : Nat) (vs : List Value) (o : Nat) (w : World) (h : ∀ j, j < vs.length → (w.cell? ⟨b, o + j, none⟩).isSome = true) (k : Nat) (hk : (w.cell? ⟨b, k, none⟩).isSome = true) : ((w.setCells b o vs).cell? ⟨b, k, none⟩).isSome = true := by
  by_cases hin : o ≤ k ∧ k < o + vs.length
  · have := World.cell?_setCells_in b vs o w h (k - o) (by omega)
    rw [show o + (k - o) = k by omega] at this
    rw [this]; rfl
  · rw [World.cell?_setCells_out b vs o w ⟨b, k, none⟩ (fun _ _ => by show k < o ∨ o + vs.length ≤ k; omega)]
    exact hk
set_option maxHeartbeats 4000000 in
set_option maxRecDepth 100000 in
theorem insert_shift (b off n c i vb voff m vc : Nat) (cs vs : List Value) (w : World) (hi : i < n) (hm : 0 < m) (hroom : n + m ≤ c) (hc63 : c ≤ 9223372036854775807) (hvb : vb ≠ b)
    (hcl : cs.length = n) (hvl : vs.length = m)
    (hcs : ∀ j v, cs[j]? = some v → w.cell? ⟨b, off + j, none⟩ = some v) (hsp : ∀ j, j < n + m → (w.cell? ⟨b, off + j, none⟩).isSome = true) (hfz : ∀ j, j < n + m → w.frozen? ⟨b, off + j, none⟩ = false)
    (hvs : ∀ j v, vs[j]? = some v → w.cell? ⟨vb, voff + j, none⟩ = some v) (h1c : ∀ v ∈ cs, v.oneCell' = true) (h1v : ∀ v ∈ vs, v.oneCell' = true)
    (tA tB : TypeId) (kA kB : Nat) (hsa : w.shape? vb = some (tA, kA)) (hsb : w.shape? b = some (tB, kB)) (hkB : kB ≠ 0) (hfa : w.frozen? ⟨vb, voff, none⟩ = false) (hfe : w.frozen? ⟨vb, kA, none⟩ = false) :
    Calls Tryz.prog 59 #[.slice (some ⟨b, off, none⟩) n c, .int .i64 i, .slice (some ⟨vb, voff, none⟩) m vc] w fun e w' =>
      e = .returned (.slice (some ⟨b, off, none⟩) (n + m) c) ∧ w' = (w.drew.setCells b (off + (i + m)) (cs.drop i)).setCells b (off + i) vs := by
  have hz1 : ¬ ((m : Int) = 0) := by omega
  have hz2 : ¬ ((i : Int) = (n : Int)) := by omega
  have hsz : (Tryz.prog.info? 46).map (·.size) = some 1 := by
    obtain ⟨i0, hi0, h0, h1, h2⟩ := info_parts infoInts
    rw [hi0]; simp [h1]
  have hov : ∀ lb cb, (callFunc 88 #[.slice (some ⟨vb, voff, none⟩) m vc, .slice (some ⟨b, off + (i + m), none⟩) lb cb]).run Tryz.prog w = .ok (.value (.bool false)) w := fun lb cb => by
    rw [run_callFunc_extern Tryz.func88 (by kernel_rfl) (by kernel_rfl) (by kernel_rfl) (e := Extern.SlicesOverlaps.overlaps #[50, 50] #[4]) (by kernel_rfl),
      Lib.run_overlaps_apart w 50 4 46 Tryz.underlying50 1 (fun w => by kernel_rfl) ⟨vb, voff, none⟩ ⟨b, off + (i + m), none⟩ m vc lb cb hvb tA tB kA kB hsa hsb hkB hfa hfe]
    rfl
  have hdl : (cs.drop i).length = n - i := by rw [List.length_drop, hcl]
  have hw1 : IntKind.i64.wrap ((i : Int) + (m : Int)) = (i : Int) + (m : Int) := by rw [IntKind.wrap_i64]; omega
  have hb1 : (0 : Int) ≤ (i : Int) + (m : Int) := by omega
  have hin : i ≤ n := by omega
  have htn : ((i : Int) + (m : Int)).toNat = i + m := by omega
  have hb2 : ¬ (c = i + m) := by omega
  have hb3 : (i : Int) ≤ (n : Int) + (m : Int) := by omega
  have hb4 : ¬ (c = i) := by omega
  have hcp1 : ∀ ty dc sc, (Builtin.copy_ #[50, 50] ty #[.slice (some ⟨b, off + (i + m), none⟩) (n + m - (i + m)) dc, .slice (some ⟨b, off + i, none⟩) (n + m - i) sc]).run Tryz.prog w.drew = .ok (goInt (cs.drop i).length) (w.drew.setCells b (off + (i + m)) (cs.drop i)) := fun ty dc sc =>
    run_copy_cells w.drew _ _ ty 46 b (off + (i + m)) (n + m - (i + m)) dc ⟨b, off + i, none⟩ (n + m - i) sc (cs.drop i) Tryz.underlying50 hsz (by rw [hdl]; simp only [Nat.min_def]; split <;> omega)
      (fun j v hj => by rw [Addr.add_lit, Nat.add_assoc]; exact hcs (i + j) v (by rwa [List.getElem?_drop] at hj))
      (fun j hj => by rw [Nat.add_assoc]; exact hsp _ (by omega)) (fun j hj => by rw [Nat.add_assoc]; exact hfz _ (by omega)) (fun v hv => h1c v (List.mem_of_mem_drop hv))
  obtain ⟨W1, hW1⟩ : ∃ W1, W1 = w.drew.setCells b (off + (i + m)) (cs.drop i) := ⟨_, rfl⟩
  have hsp1 : ∀ k, k < n + m → (W1.cell? ⟨b, off + k, none⟩).isSome = true := fun k hk => by
    rw [hW1]
    exact isSome_setCells b _ _ _ (fun j hj => by rw [Nat.add_assoc]; exact hsp _ (by omega)) _ (hsp k hk)
  have hcp2 : ∀ (W : World), (∀ x, W.cell? x = W1.cell? x) → (∀ x, W.frozen? x = W1.frozen? x) → ∀ ty dc, (Builtin.copy_ #[50, 50] ty #[.slice (some ⟨b, off + i, none⟩) (n + m - i) dc, .slice (some ⟨vb, voff, none⟩) m vc]).run Tryz.prog W = .ok (goInt vs.length) (W.setCells b (off + i) vs) := fun W hWc hWf ty dc =>
    run_copy_cells W _ _ ty 46 b (off + i) (n + m - i) dc ⟨vb, voff, none⟩ m vc vs Tryz.underlying50 hsz (by rw [hvl]; simp only [Nat.min_def]; split <;> omega)
      (fun j v hj => by
        rw [Addr.add_lit, hWc, hW1, World.cell?_setCells_out b _ _ _ _ (fun h _ => absurd h hvb)]
        exact hvs j v hj)
      (fun j hj => by rw [hWc, Nat.add_assoc]; exact hsp1 _ (by omega)) (fun j hj => by rw [hWf, hW1, World.frozen?_setCells, Nat.add_assoc]; exact hfz _ (by omega)) h1v
  rw [← hW1] at hcp1
  go_enter Tryz.func59, Tryz.ntmps59
  go_wp2_with (simp only [hov])
  go_region_law (refine step_copy_runI rfl _ _ 50 50 rfl _ _ (by simp [Act.eval, Act.put]) (by simp [Act.eval, Act.put]) (hcp1 _ _ _) ?_)
  go_wp2_with (at_builtin; refine wpList_copy_runI _ rfl _ _ 50 50 rfl _ _ rfl rfl (hcp2 _ (fun _ => rfl) (fun _ => rfl) _ _) ?_)
  go_ret
  first | exact ⟨rfl, rfl⟩ | exact ⟨rfl, by rw [hW1]⟩
set_option maxHeartbeats 4000000 in
set_option maxRecDepth 100000 in
theorem insert_grow (b off n c i vb voff m vc : Nat) (cs vs : List Value) (w : World) (hi : i < n) (hm : 0 < m) (hnc : n ≤ c) (hroom : c < n + m) (hbig : (n + m) * 24 ≤ 140737488355328)
    (hcl : cs.length = n) (hvl : vs.length = m)
    (hcs : ∀ j v, cs[j]? = some v → w.cell? ⟨b, off + j, none⟩ = some v)
    (hvs : ∀ j v, vs[j]? = some v → w.cell? ⟨vb, voff + j, none⟩ = some v) (h1c : ∀ v ∈ cs, v.oneCell' = true) (h1v : ∀ v ∈ vs, v.oneCell' = true) :
    Calls Tryz.prog 59 #[.slice (some ⟨b, off, none⟩) n c, .int .i64 i, .slice (some ⟨vb, voff, none⟩) m vc] w fun e w' =>
      e = .returned (.slice (some ⟨w.heap.size, 0, none⟩) (n + m) (grownCap w (n + m) c 46)) ∧
      w' = (((w.alloc (.cells ((cs.take i).toArray ++ Builtin.zeroCells (Value.slice none 0 0).cells (n + m - i) ++ Builtin.zeroCells (Value.slice none 0 0).cells (grownCap w (n + m) c 46 - (n + m))) 46)).drew.setCells w.heap.size i vs).drew).setCells w.heap.size (i + m) (cs.drop i) := by
  obtain ⟨i0, hi0, hz0, hzs, hzb⟩ := info_parts infoInts
  have hz1 : ¬ ((m : Int) = 0) := by omega
  have hz2 : ¬ ((i : Int) = (n : Int)) := by omega
  have hz3 : (c : Int) < (n : Int) + (m : Int) := by omega
  have hsz : (Tryz.prog.info? 46).map (·.size) = some 1 := by rw [hi0]; simp [hzs]
  have hbw : b < w.heap.size := block_lt_of_cell (hcs 0 _ (List.getElem?_eq_getElem (by omega)))
  have hvw : vb < w.heap.size := block_lt_of_cell (hvs 0 _ (List.getElem?_eq_getElem (by omega)))
  have hkk : (n : Int) + (m : Int) - (i : Int) = ((n + m - i : Nat) : Int) := by omega
  have hik : i + (n + m - i) = n + m := by omega
  have hold : (Builtin.firstCells i0.size i (.slice (some ⟨b, off, none⟩) i c)).run Tryz.prog w.drew = .ok (cs.take i).toArray w.drew := by
    rw [hzs]
    exact run_firstCells_some w.drew 1 i ⟨b, off, none⟩ i c (cs.take i) (by rw [List.length_take]; omega) (fun j v hj => by
      rw [Addr.add_lit]
      rw [List.getElem?_take] at hj
      split at hj
      · exact hcs j v hj
      · cases hj)
  have hrz : ∀ ty, (Builtin.append_ #[50, 3] ty #[.slice (some ⟨b, off, none⟩) i c, .int .i64 ((n : Int) + (m : Int) - (i : Int))]).run Tryz.prog w =
      .ok (.slice (some ⟨w.heap.size, 0, none⟩) (n + m) (grownCap w (n + m) c 46)) (w.drew.alloc (.cells ((cs.take i).toArray ++ Builtin.zeroCells (Value.slice none 0 0).cells (n + m - i) ++ Builtin.zeroCells (Value.slice none 0 0).cells (grownCap w (n + m) c 46 - (n + m))) 46)) := fun ty => by
    have h := Lib.run_append_grow_zeros w 50 3 ty 46 i0 _ .i64 .i64 Tryz.underlying50 Tryz.underlying3 hi0 hz0 (some ⟨b, off, none⟩) i c (cs.take i) hold (n + m - i) (by omega) (by omega) (by omega) (by omega) (by rw [hzb]; omega) (by rw [hzb, hik]; exact growslice_fits hroom hbig)
    rw [hik] at h
    rw [hkk]
    exact h
  obtain ⟨G, hG⟩ : ∃ G, G = grownCap w (n + m) c 46 := ⟨_, rfl⟩
  obtain ⟨ROW, hROW⟩ : ∃ ROW : Array Value, ROW = (cs.take i).toArray ++ Builtin.zeroCells (Value.slice none 0 0).cells (n + m - i) ++ Builtin.zeroCells (Value.slice none 0 0).cells (G - (n + m)) := ⟨_, rfl⟩
  rw [← hG] at hrz ⊢
  rw [← hROW] at hrz ⊢
  have hRl : n + m ≤ ROW.size := by
    rw [hROW]
    simp [Builtin.zeroCells, Value.cells]
    omega
  obtain ⟨W1, hW1⟩ : ∃ W1, W1 = w.drew.alloc (.cells ROW 46) := ⟨_, rfl⟩
  rw [← hW1] at hrz
  have hN : ∀ j, j < n + m → (W1.cell? ⟨w.heap.size, j, none⟩).isSome = true := fun j hj => by
    rw [hW1, World.cell?_alloc_at (w := w.drew) ROW _ w.heap.size j rfl, Array.getElem?_eq_getElem (by omega)]; rfl
  have hNf : ∀ j, W1.frozen? ⟨w.heap.size, j, none⟩ = false := fun j => by rw [hW1]; exact World.frozen?_alloc_at (w := w.drew) ROW _ w.heap.size j rfl
  have hOb : ∀ j v, w.cell? ⟨b, j, none⟩ = some v → W1.cell? ⟨b, j, none⟩ = some v := fun j v h => by rw [hW1, World.cell?_alloc_past (w := w.drew) _ b j hbw]; exact h
  have hOv : ∀ j v, w.cell? ⟨vb, j, none⟩ = some v → W1.cell? ⟨vb, j, none⟩ = some v := fun j v h => by rw [hW1, World.cell?_alloc_past (w := w.drew) _ vb j hvw]; exact h
  have hcpA : ∀ (W : World), (∀ x, W.cell? x = W1.cell? x) → (∀ x, W.frozen? x = W1.frozen? x) → ∀ ty dc, (Builtin.copy_ #[50, 50] ty #[.slice (some ⟨w.heap.size, i, none⟩) (n + m - i) dc, .slice (some ⟨vb, voff, none⟩) m vc]).run Tryz.prog W = .ok (goInt vs.length) (W.setCells w.heap.size i vs) := fun W hWc hWf ty dc =>
    run_copy_cells W _ _ ty 46 w.heap.size i (n + m - i) dc ⟨vb, voff, none⟩ m vc vs Tryz.underlying50 hsz (by rw [hvl]; simp only [Nat.min_def]; split <;> omega)
      (fun j v hj => by rw [Addr.add_lit, hWc]; exact hOv _ v (hvs j v hj))
      (fun j hj => by rw [hWc]; exact hN _ (by omega)) (fun j hj => by rw [hWf]; exact hNf _) h1v
  have hGn : n + m ≤ G := by rw [hG]; exact grownCap_ge w _ _ _
  have hG63 : G ≤ 9223372036854775807 := by
    have := grownCap_le_maxLen w (n + m) c 46 (by unfold maxLen; omega)
    rw [← hG] at this
    unfold maxLen at this
    omega
  have hGi : ¬ (G = i) := by omega
  have hGim : ¬ (G = i + m) := by omega
  have hci : ¬ (c = i) := by omega
  have hbN : b ≠ w.heap.size := by omega
  have hdl : (cs.drop i).length = n - i := by rw [List.length_drop, hcl]
  have hcpB : ∀ (W : World), (∀ x, W.cell? x = (W1.setCells w.heap.size i vs).cell? x) → (∀ x, W.frozen? x = (W1.setCells w.heap.size i vs).frozen? x) → ∀ ty dc sc, (Builtin.copy_ #[50, 50] ty #[.slice (some ⟨w.heap.size, i + m, none⟩) (n + m - (i + m)) dc, .slice (some ⟨b, off + i, none⟩) (n - i) sc]).run Tryz.prog W = .ok (goInt (cs.drop i).length) (W.setCells w.heap.size (i + m) (cs.drop i)) := fun W hWc hWf ty dc sc =>
    run_copy_cells W _ _ ty 46 w.heap.size (i + m) (n + m - (i + m)) dc ⟨b, off + i, none⟩ (n - i) sc (cs.drop i) Tryz.underlying50 hsz (by rw [hdl]; simp only [Nat.min_def]; split <;> omega)
      (fun j v hj => by
        rw [Addr.add_lit, hWc, World.cell?_setCells_out _ _ _ _ _ (fun h _ => absurd h hbN), Nat.add_assoc]
        exact hOb _ v (hcs (i + j) v (by rwa [List.getElem?_drop] at hj)))
      (fun j hj => by rw [hWc]; exact isSome_setCells _ _ _ _ (fun t ht => hN _ (by omega)) _ (hN _ (by omega)))
      (fun j hj => by rw [hWf, World.frozen?_setCells]; exact hNf _) (fun v hv => h1c v (List.mem_of_mem_drop hv))
  subst hW1
  have hE1 : ∀ x, ((w.alloc (.cells ROW 46)).drew).cell? x = (w.drew.alloc (.cells ROW 46)).cell? x := fun x => rfl
  have hE2 : ∀ x, ((w.alloc (.cells ROW 46)).drew).frozen? x = (w.drew.alloc (.cells ROW 46)).frozen? x := fun x => rfl
  have hF1 : ∀ x, (((w.alloc (.cells ROW 46)).drew.setCells w.heap.size i vs).drew).cell? x = ((w.drew.alloc (.cells ROW 46)).setCells w.heap.size i vs).cell? x := fun x => rfl
  have hF2 : ∀ x, (((w.alloc (.cells ROW 46)).drew.setCells w.heap.size i vs).drew).frozen? x = ((w.drew.alloc (.cells ROW 46)).setCells w.heap.size i vs).frozen? x := fun x => rfl
  have hw1 : IntKind.i64.wrap ((i : Int) + (m : Int)) = (i : Int) + (m : Int) := by rw [IntKind.wrap_i64]; omega
  have hb1 : (0 : Int) ≤ (i : Int) + (m : Int) := by omega
  have hin : i ≤ n := by omega
  have htn : ((i : Int) + (m : Int)).toNat = i + m := by omega
  have hb3 : (i : Int) ≤ (n : Int) := by omega
  clear hkk hik hold hROW hG hRl
  go_enter Tryz.func59, Tryz.ntmps59
  go_wp2_with (first
    | (at_builtin; refine Lib.wpList_append_run _ rfl _ _ _ _ rfl _ _ rfl rfl _ _ (hrz _) ?_)
    | (at_builtin; refine wpList_copy_runI _ rfl _ _ 50 50 rfl _ _ rfl rfl (hcpA _ hE1 hE2 _ _) ?_)
    | (at_builtin; refine wpList_copy_runI _ rfl _ _ 50 50 rfl _ _ rfl rfl (hcpB _ (fun _ => rfl) (fun _ => rfl) _ _ _) ?_))
  go_region_law (refine step_copy_runI rfl _ _ 50 50 rfl (.slice (some ⟨w.heap.size, i + m, none⟩) (n + m - (i + m)) (G - (i + m))) (.slice (some ⟨b, off + i, none⟩) (n - i) (c - i)) (by simp [Act.eval, Act.put]) (by simp [Act.eval, Act.put]) (hcpB _ hF1 hF2 3 (G - (i + m)) (c - i)) ?_)
  go_wp2
  go_ret
  exact ⟨rfl, rfl⟩
/-- How Insert ends: the row with the new cell at its place; nothing but the row's own block has turned. -/
def InsEnds (w : World) (base : Nat) (v : Value) (n i : Nat) (inner : List Value) (xv : Value) (e : Ending) (w' : World) : Prop :=
  ∃ v', e = .returned v' ∧ w'.ownsRow base 46 1 v' (n + 1) (inner.take i ++ [xv] ++ inner.drop i) ∧ w.grownBy w' v.ownBlock ∧ (v'.ownBlock = v.ownBlock ∨ ∃ b, v'.ownBlock = some b ∧ w.heap.size ≤ b)
abbrev OneV := { v : Value // v.oneCell' = true }
def vK : Kd OneV := Kd.scalar Subtype.val (fun x => x.2)
theorem oneVs : ∀ inner : List Value, (∀ u ∈ inner, u.oneCell' = true) → ∃ xs : List OneV, encs Subtype.val xs = inner
  | [], _ => ⟨[], rfl⟩
  | u :: us, h => by
    obtain ⟨xs, e⟩ := oneVs us (fun x hx => h x (List.mem_cons_of_mem _ hx))
    exact ⟨⟨u, h u List.mem_cons_self⟩ :: xs, congrArg (u :: ·) e⟩
set_option maxHeartbeats 4000000 in
set_option maxRecDepth 100000 in
theorem insert_last (A : Option Addr) (n c : Nat) (inner : List Value) (h1i : ∀ u ∈ inner, u.oneCell' = true) (g' : Nat) (xv : Value) (base : Nat) (w : World) (hown : w.ownsRow base 46 1 (.slice A n c) n inner) (hn : n ≤ 100000) (hbase : base ≤ w.heap.size)
    (hx : w.heap[g']? = some (.cells #[xv] 46 (0, 0))) (h1 : xv.oneCell' = true) :
    Calls Tryz.prog 59 #[.slice A n c, .int .i64 n, .slice (some ⟨g', 0, none⟩) 1 1] w (InsEnds w base (.slice A n c) n n inner xv) := by
  obtain ⟨xs, rfl⟩ := oneVs inner h1i
  have hlen : xs.length = n := by have := hown.1; rw [encs_length] at this; omega
  subst hlen
  obtain ⟨i0, hi0, _, hsz0, _⟩ := info_parts infoInts
  have hcut := cut_from (P := Tryz.prog) 50 46 .i64 Tryz.underlying50 hi0 1 hsz0 A xs.length c xs.length (by omega) (by omega)
  have hcx : w.cell? ⟨g', 0, none⟩ = some xv := by simp [World.cell?, hx]
  have HO := Aside0.mk (show vK.R 46 w base (fun _ => True) (.slice A xs.length c) xs from Kd.R_of_own (h1 := fun x => x.2) (ok := fun _ => True) hown (fun _ _ => trivial))
  have HX := Aside0.mk (show ReadsRow (fun (x : OneV) (cs : List Value) => cs = [x.1]) 1 w (some ⟨g', 0, none⟩) 1 [⟨xv, h1⟩] from ⟨rfl, by omega, fun _ => ⟨_, rfl, fun j p hj => by
    cases j with
    | zero =>
      simp at hj; subst hj
      exact ⟨[xv], rfl, rfl, fun i u hu => by
        cases i with
        | zero => simp at hu; subst hu; simpa [Addr.add] using hcx
        | succ i => simp at hu⟩
    | succ j => simp at hj⟩⟩)
  have HB := Aside0.mk (show Below base w w from Below.refl _ _)
  clear hown hx h1i
  go_enter Tryz.func59, Tryz.ntmps59
  go_wp2_with (first | ((with_reducible refine gate_builtin (b := .append) (xs := #[.tmp 23, .tmp 24]) rfl ?_); at_builtin; refine Kd.R_append_rows vK (w0 := w) base rfl (.tmp 23) (.tmp 24) 50 46 (.slice none 0 0) 24 rfl Tryz.underlying50 infoInts rfl (by decide) (by omega) (.slice A xs.length c) xs [⟨xv, h1⟩] (some ⟨g', 0, none⟩) 1 1 (fun _ => True) (fun _ => False) rfl rfl HO.out HX.out (fun _ _ h => h) (fun _ h => h.elim) (fun _ _ => trivial) HB.out hbase (by omega) ?_; intro v7 w7 ho hb hg hat; have n0_ := Aside0.mk ho; have n1_ := Aside0.mk hg; have n2_ := Aside0.mk hat; clear ho hb hg hat))
  all_goals
    go_ret
    refine ⟨_, rfl, ?_, by have h := n1_.out; cases A <;> exact h, by have h := n2_.out; cases A <;> exact h⟩
    have h := Kd.own_of_R n0_.out
    rw [List.length_append, encs_append] at h
    rw [List.take_of_length_le (by rw [encs_length]; exact Nat.le_refl _), List.drop_eq_nil_of_le (by rw [encs_length]; exact Nat.le_refl _), List.append_nil]
    exact h
theorem insert_row (A : Option Addr) (n c i : Nat) (inner : List Value) (h1i : ∀ u ∈ inner, u.oneCell' = true) (g' : Nat) (xv : Value) (base : Nat) (w : World) (hown : w.ownsRow base 46 1 (.slice A n c) n inner) (hi : i ≤ n) (hn : n ≤ 100000) (hbase : base ≤ w.heap.size)
    (hx : w.heap[g']? = some (.cells #[xv] 46 (0, 0))) (h1 : xv.oneCell' = true) (hne : some g' ≠ (Value.slice A n c).ownBlock) :
    Calls Tryz.prog 59 #[.slice A n c, .int .i64 i, .slice (some ⟨g', 0, none⟩) 1 1] w (InsEnds w base (.slice A n c) n i inner xv) := by
  by_cases hin : i = n
  · subst hin
    exact insert_last A i c inner h1i g' xv base w hown hn hbase hx h1
  have hil : inner.length = n := by have := hown.1; omega
  rcases hown.2 with ⟨hv, h0⟩ | ⟨g, cap, cur, hv, hbg, hg, hnc, hcm, hcs, htake⟩
  · omega
  · obtain ⟨rfl, rfl⟩ : A = some ⟨g, 0, none⟩ ∧ c = cap := by injection hv with h2 h3 h4; exact ⟨h2, h4⟩
    rw [Nat.mul_one] at htake hcs
    have hclen : cur.toList.length = c := by rw [Array.length_toList]; exact hcs
    have hcell : ∀ j v, inner[j]? = some v → w.cell? ⟨g, 0 + j, none⟩ = some v := by
      intro j v hj
      rw [← htake, List.getElem?_take] at hj
      split at hj
      · rw [Array.getElem?_toList] at hj; simp [World.cell?, hg, hj]
      · cases hj
    have hvcell : ∀ j v, [xv][j]? = some v → w.cell? ⟨g', 0 + j, none⟩ = some v := by
      intro j v hj
      cases j with
      | zero => simp at hj; subst hj; simp [World.cell?, hx]
      | succ j => simp at hj
    have h1v : ∀ v ∈ [xv], v.oneCell' = true := fun v hv => by rw [List.mem_singleton.1 hv]; exact h1
    have hgg : g' ≠ g := fun e => hne (by rw [e]; rfl)
    have hdl : (inner.drop i).length = n - i := by rw [List.length_drop, hil]
    have htl : (inner.take i).length = i := by rw [List.length_take, hil]; omega
    have hlen3 : (inner.take i ++ [xv] ++ inner.drop i).length = (n + 1) * 1 := by simp only [List.length_append, List.length_singleton, htl, hdl]; omega
    by_cases hroom : n + 1 ≤ c
    · refine (insert_shift g 0 n c i g' 0 1 1 inner [xv] w (by omega) (by omega) hroom (by unfold maxLen at hcm; omega) hgg hil rfl hcell
        (fun j hj => by simp [World.cell?, hg]; omega) (fun j hj => by simp [World.frozen?, hg]) hvcell h1i h1v 46 46 1 cur.size (by simp [World.shape?, hx]) (by simp [World.shape?, hg]) (by omega) (by simp [World.frozen?, hx]) (by simp [World.frozen?, hx])).mono ?_
      rintro e w' ⟨rfl, rfl⟩
      rw [Nat.zero_add, Nat.zero_add]
      obtain ⟨c1, hc1, hz1, hl1⟩ := setCells_row (inner.drop i) (i + 1) w.drew cur hg (by omega)
      obtain ⟨c2, hc2, hz2, hl2⟩ := setCells_row [xv] i (w.drew.setCells g (i + 1) (inner.drop i)) c1 hc1 (by simp; omega)
      obtain ⟨s1, s2, s3, s4⟩ := setCells_same g (inner.drop i) (i + 1) w.drew
      obtain ⟨t1, t2, t3, t4⟩ := setCells_same g [xv] i (w.drew.setCells g (i + 1) (inner.drop i))
      refine ⟨_, rfl, ⟨hlen3, .inr ⟨g, c, c2, rfl, hbg, hc2, hroom, hcm, by omega, ?_⟩⟩, ⟨t1.trans s1, t2.trans s2, t3.trans s3, by rw [t4, s4]; exact Nat.le_refl _, fun k hk hkr => ?_⟩, Or.inl rfl⟩
      · have e1 : c1.toList.take i = inner.take i := by
          rw [hl1, List.append_assoc, List.take_append_of_le_length (by rw [List.length_take]; omega), List.take_take, Nat.min_eq_left (by omega), ← htake, List.take_take, Nat.min_eq_left (by omega)]
        have e2 : c1.toList.drop (i + 1) = inner.drop i ++ cur.toList.drop (i + 1 + (inner.drop i).length) := by
          rw [hl1, List.append_assoc, List.drop_left' (by rw [List.length_take]; omega)]
        rw [hl2, List.length_singleton, e1, e2, ← List.append_assoc, ← hlen3]
        exact List.take_left
      · have hkg : k ≠ g := fun e => hkr (by rw [e]; rfl)
        exact (setCells_far [xv] i k hkg).trans (setCells_far (inner.drop i) (i + 1) k hkg)
    · refine (insert_grow g 0 n c i g' 0 1 1 inner [xv] w (by omega) (by omega) hnc (by omega) (by omega) hil rfl hcell hvcell h1i h1v).mono ?_
      rintro e w' ⟨rfl, rfl⟩
      generalize hG : grownCap w (n + 1) c 46 = G
      have hGn : n + 1 ≤ G := by rw [← hG]; exact grownCap_ge w _ _ _
      have hGm : G ≤ maxLen := by rw [← hG]; exact grownCap_le_maxLen w _ _ _ (by unfold maxLen; omega)
      generalize hR : (inner.take i).toArray ++ Builtin.zeroCells (Value.slice none 0 0).cells (n + 1 - i) ++ Builtin.zeroCells (Value.slice none 0 0).cells (G - (n + 1)) = ROW
      have hRs : ROW.size = G := by rw [← hR]; simp [Builtin.zeroCells, Value.cells, htl]; omega
      have hRl : ROW.toList.take i = inner.take i := by rw [← hR]; simp [List.take_append_of_le_length, htl]
      have hN : (w.alloc (.cells ROW 46)).drew.heap[w.heap.size]? = some (.cells ROW 46 (0, 0)) := heap_alloc_new w _
      obtain ⟨c1, hc1, hz1, hl1⟩ := setCells_row [xv] i (w.alloc (.cells ROW 46)).drew ROW hN (by simp; omega)
      obtain ⟨c2, hc2, hz2, hl2⟩ := setCells_row (inner.drop i) (i + 1) ((w.alloc (.cells ROW 46)).drew.setCells w.heap.size i [xv]).drew c1 hc1 (by omega)
      obtain ⟨s1, s2, s3, s4⟩ := setCells_same w.heap.size [xv] i (w.alloc (.cells ROW 46)).drew
      obtain ⟨t1, t2, t3, t4⟩ := setCells_same w.heap.size (inner.drop i) (i + 1) ((w.alloc (.cells ROW 46)).drew.setCells w.heap.size i [xv]).drew
      refine ⟨_, rfl, ⟨hlen3, .inr ⟨w.heap.size, G, c2, rfl, hbase, hc2, hGn, hGm, by omega, ?_⟩⟩, ⟨t1.trans s1, t2.trans s2, t3.trans s3, by rw [t4]; show _ ≤ ((w.alloc (.cells ROW 46)).drew.setCells w.heap.size i [xv]).heap.size; rw [s4]; simp, fun k hk hkr => ?_⟩, Or.inr ⟨_, rfl, Nat.le_refl _⟩⟩
      · have e1 : c1.toList.take (i + 1) = inner.take i ++ [xv] := by
          rw [hl1, hRl]
          exact List.take_left' (by simp [htl])
        rw [hl2, e1, ← hlen3]
        exact List.take_left
      · have hkg : k ≠ w.heap.size := by omega
        exact (setCells_far (inner.drop i) (i + 1) k hkg).trans ((setCells_far (w := (w.alloc (.cells ROW 46)).drew) [xv] i k hkg).trans (heap_alloc_old w _ hk))
end Go.Proofs.YtfmpaofbnjlniaaGreatDoor.F
/- slices.Delete at [][]int, one element, by hand (the walk turned from the kit's worked one). -/
namespace Go.Proofs.YtfmpaofbnjlniaaGreatDoor.F
open Go.RowKit Go.Lib Go.Proofs.YtfmpaofbnjlniaaGreatDoorW.PrintWords Go.Proofs.YtfmpaofbnjlniaaGreatDoorW.PrintLast Go.Proofs.YtfmpaofbnjlniaaGreatDoorW.PrintMore
set_option linter.unusedVariables false
set_option linter.unusedSimpArgs false
set_option maxHeartbeats 4000000 in
set_option maxRecDepth 100000 in
theorem delete_room (b n c i : Nat) (cs : List Value) (w : World) (hi : i < n) (hnc : n ≤ c) (hc63 : c ≤ 9223372036854775807) (hcl : cs.length = n)
    (hcs : ∀ j v, cs[j]? = some v → w.cell? ⟨b, 0 + j, none⟩ = some v) (hsp : ∀ j, j < c → (w.cell? ⟨b, j, none⟩).isSome = true) (hfz : ∀ j, w.frozen? ⟨b, j, none⟩ = false) (h1c : ∀ v ∈ cs, v.oneCell' = true) :
    Calls Tryz.prog 61 #[.slice (some ⟨b, 0, none⟩) n c, .int .i64 i, .int .i64 ((i : Int) + 1)] w fun e w' =>
      e = .returned (.slice (some ⟨b, 0, none⟩) (i + (n - (i + 1))) c) ∧ w' = (w.drew.setCells b (0 + i * 1) (cs.drop (i + 1))).setCells b ((i + (n - (i + 1)))) (List.replicate (n - (i + (n - (i + 1)))) (.slice none 0 0)) := by
  obtain ⟨i0, hi0, hz0, hz1, hzb⟩ := info_parts infoInts
  obtain ⟨news, hnews⟩ : ∃ news, news = cs.drop (i + 1) := ⟨_, rfl⟩
  have hlen : news.length = n - (i + 1) := by rw [hnews, List.length_drop, hcl]
  obtain ⟨A, hA, hsrc⟩ : ∃ A : Addr, (if c = i + 1 then some (⟨b, 0, none⟩ : Addr) else some ⟨b, i + 1, none⟩) = some A ∧ Hid (∀ t u, news[t]? = some u → w.drew.cell? (A.add t) = some u) := by
    by_cases h : c = i + 1
    · refine ⟨⟨b, 0, none⟩, by simp [h], fun t u hu => ?_⟩
      have h0 : news.length = 0 := by rw [hlen]; omega
      rw [List.length_eq_zero_iff.1 h0] at hu
      simp at hu
    · refine ⟨⟨b, i + 1, none⟩, by simp [h], fun t u hu => ?_⟩
      rw [hnews, List.getElem?_drop] at hu
      rw [Addr.add_lit]
      have := hcs (i + 1 + t) u hu
      rwa [Nat.zero_add] at this
  have s1 : Hid (news.length = (n - (i + 1)) * 1) := by rw [Nat.mul_one]; exact hlen
  have s2 : Hid (∀ u ∈ news, u.oneCell' = true) := fun u hu => h1c u (by rw [hnews] at hu; exact List.mem_of_mem_drop hu)
  have s3 : Hid (∀ t, t < news.length → (w.drew.cell? ⟨b, 0 + i * 1 + t, none⟩).isSome = true ∧ w.drew.frozen? ⟨b, 0 + i * 1 + t, none⟩ = false) := by
    intro t ht
    rw [hlen] at ht
    exact ⟨hsp _ (by omega), hfz _⟩
  obtain ⟨W1, hW1⟩ : ∃ W1, W1 = w.drew.setCells b (0 + i * 1) news := ⟨_, rfl⟩
  have hc1 : ∀ j, j < c → (W1.cell? ⟨b, j, none⟩).isSome = true := fun j hj => by rw [hW1]; exact isSome_setCells b news _ w.drew (fun t ht => (s3.out t ht).1) j (hsp j hj)
  have hf1 : ∀ j, W1.frozen? ⟨b, j, none⟩ = false := fun j => by rw [hW1, World.frozen?_setCells]; exact hfz j
  have hcl : ∀ ty, (Builtin.clear_ #[50] ty #[.slice (some ⟨b, (i + (n - (i + 1))), none⟩) (n - (i + (n - (i + 1)))) (c - (i + (n - (i + 1))))]).run Tryz.prog W1 = .ok (.tuple #[]) (W1.setCells b ((i + (n - (i + 1)))) (List.replicate (n - (i + (n - (i + 1)))) (.slice none 0 0))) :=
    fun ty => Lib.run_clear_slice W1 _ _ ty _ Tryz.underlying50 (fun w => by kernel_rfl) rfl rfl b ((i + (n - (i + 1)))) _ _ (by omega) (fun t ht => hc1 _ (by omega)) (fun t ht => hf1 _)
  have hW : Hid (W1 = w.drew.setCells b (0 + i * 1) news) := hW1
  have hic : i ≤ c := by omega
  have hjc : i + 1 ≤ c := by omega
  have hw1 : IntKind.i64.wrap ((i : Int) + 1) = (i : Int) + 1 := by rw [IntKind.wrap_i64]; omega
  have hp0 : (0 : Int) ≤ (i : Int) + 1 := by omega
  have hp1 : (i : Int) + 1 ≤ (n : Int) := by omega
  have hp2 : ((i : Int) + 1).toNat = i + 1 := by omega
  rw [← hnews, ← hW1]
  clear hW1 hcs hnews hlen hc1 hf1 hsp hfz
  go_enter Tryz.func61, Tryz.ntmps61
  go_wp2_with fail
  go_region_law (refine step_append_room rfl (.tmp 22) (.tmp 25) 50 rfl 46 i0 1 Tryz.underlying50 hi0 hz1 b 0 i c (by simp [Act.eval, Act.put]) A (n - (i + 1)) (c - (i + 1)) news (by simp [Act.eval, Act.put]) s1.out hsrc.out s2.out (by omega) s3.out ?_; rw [← hW.out])
  go_wp2
  go_ret
  exact ⟨rfl, rfl⟩
/-- How Delete ends: the row without its cell i; nothing but the row's own block has turned. -/
def DelEnds (w : World) (base : Nat) (v : Value) (n i : Nat) (inner : List Value) (e : Ending) (w' : World) : Prop :=
  ∃ v', e = .returned v' ∧ w'.ownsRow base 46 1 v' (n - 1) (inner.take i ++ inner.drop (i + 1)) ∧ w.grownBy w' v.ownBlock ∧ v'.ownBlock = v.ownBlock
theorem delete_row (A : Option Addr) (n c i : Nat) (inner : List Value) (h1i : ∀ u ∈ inner, u.oneCell' = true) (base : Nat) (w : World) (hown : w.ownsRow base 46 1 (.slice A n c) n inner) (hi : i < n) :
    Calls Tryz.prog 61 #[.slice A n c, .int .i64 i, .int .i64 ((i : Int) + 1)] w (DelEnds w base (.slice A n c) n i inner) := by
  have hil : inner.length = n := by have := hown.1; omega
  rcases hown.2 with ⟨hv, h0⟩ | ⟨g, cap, cur, hv, hbg, hg, hnc, hcm, hcs, htake⟩
  · omega
  · obtain ⟨rfl, rfl⟩ : A = some ⟨g, 0, none⟩ ∧ c = cap := by injection hv with h2 h3 h4; exact ⟨h2, h4⟩
    rw [Nat.mul_one] at htake hcs
    have hclen : cur.toList.length = c := by rw [Array.length_toList]; exact hcs
    have hcell : ∀ j v, inner[j]? = some v → w.cell? ⟨g, 0 + j, none⟩ = some v := by
      intro j v hj
      rw [← htake, List.getElem?_take] at hj
      split at hj
      · rw [Array.getElem?_toList] at hj; simp [World.cell?, hg, hj]
      · cases hj
    have hm : i + (n - (i + 1)) = n - 1 := by omega
    have h1n : n - (n - 1) = 1 := by omega
    have hdl : (inner.drop (i + 1)).length = n - (i + 1) := by rw [List.length_drop, hil]
    have htl : (inner.take i).length = i := by rw [List.length_take, hil]; omega
    have hlen3 : (inner.take i ++ inner.drop (i + 1)).length = (n - 1) * 1 := by simp only [List.length_append, htl, hdl]; omega
    refine (delete_room g n c i inner w hi hnc (by unfold maxLen at hcm; omega) hil hcell (fun j hj => by simp [World.cell?, hg]; omega) (fun j => by simp [World.frozen?, hg]) h1i).mono ?_
    rintro e w' ⟨rfl, rfl⟩
    rw [Nat.zero_add, Nat.mul_one, hm, h1n]
    obtain ⟨c1, hc1, hz1, hl1⟩ := setCells_row (inner.drop (i + 1)) i w.drew cur hg (by omega)
    obtain ⟨c2, hc2, hz2, hl2⟩ := setCells_row [.slice none 0 0] (n - 1) (w.drew.setCells g i (inner.drop (i + 1))) c1 hc1 (by simp; omega)
    obtain ⟨s1, s2, s3, s4⟩ := setCells_same g (inner.drop (i + 1)) i w.drew
    obtain ⟨t1, t2, t3, t4⟩ := setCells_same g [.slice none 0 0] (n - 1) (w.drew.setCells g i (inner.drop (i + 1)))
    refine ⟨_, rfl, ⟨hlen3, .inr ⟨g, c, c2, rfl, hbg, hc2, by omega, hcm, by omega, ?_⟩⟩, ⟨t1.trans s1, t2.trans s2, t3.trans s3, by rw [show List.replicate 1 (Value.slice none 0 0) = [.slice none 0 0] from rfl, t4, s4]; exact Nat.le_refl _, fun k hk hkr => ?_⟩, rfl⟩
    · have e1 : c1.toList.take (n - 1) = inner.take i ++ inner.drop (i + 1) := by
        rw [hl1]
        have e0 : cur.toList.take i = inner.take i := by rw [← htake, List.take_take, Nat.min_eq_left (by omega)]
        rw [e0]
        exact List.take_left' (by simp only [List.length_append, htl, hdl]; omega)
      rw [hl2, List.append_assoc, e1, ← hlen3]
      exact List.take_left
    · have hkg : k ≠ g := fun e => hkr (by rw [e]; rfl)
      exact (setCells_far [.slice none 0 0] (n - 1) k hkg).trans (setCells_far (inner.drop (i + 1)) i k hkg)
end Go.Proofs.YtfmpaofbnjlniaaGreatDoor.F
/- shape.Copy, by hand: the copy's relations lie apart from each other. -/
namespace Go.Proofs.YtfmpaofbnjlniaaGreatDoor.F
open Go.RowKit Go.Proofs.YtfmpaofbnjlniaaGreatDoorW.PrintWords Go.Proofs.YtfmpaofbnjlniaaGreatDoorW.PrintLast Go.Proofs.YtfmpaofbnjlniaaGreatDoorW.PrintMore
set_option linter.unusedVariables false
set_option linter.unusedSimpArgs false
def copyOk (l : List S52) : Prop := l.length ≤ 100000 ∧ ∀ r ∈ l, r.f2.length ≤ 100000 ∧ ∀ t ∈ r.f2, t.length ≤ 100000
theorem infoRel' : (Tryz.prog.info? 52).map (fun i => (i.zero, i.size, i.bytes)) = some (some (.agg #[.string ⟨#[]⟩, .int .i64 0, .slice none 0 0]), 3, 48) := by kernel_rfl
set_option maxHeartbeats 4000000 in
set_option maxRecDepth 100000 in
theorem copy_calls (n : Int) (A : Option Addr) (c : Nat) (l : List S52) (w : World) (hC : Kd.C k52 w A l.length l) (hlc : l.length ≤ c) (hok : copyOk l) :
    Calls Tryz.prog 54 #[.agg #[.int .i64 n, .slice A l.length c]] w fun e w' => ∃ v, e = .returned (.agg #[.int .i64 n, v]) ∧ Kd.S k52 52 w' w.heap.size (fun _ => True) v l ∧ Below w.heap.size w w' := by
  have hu38 := Tryz.underlying24
  have hu54 := Tryz.underlying52
  have HC := Aside0.mk hC
  have HL := Aside0.mk hlc
  have HOK := Aside0.mk hok
  have hl0 := hok.1
  clear hC hlc hok
  go_enter Tryz.func54, Tryz.ntmps54
  go_wp2
  have HB3 := Aside0.mk (below_alloc (below_alloc (below_alloc (Below.refl w.heap.size w) (.cells #[.int .i64 n, .slice A l.length c] 24)) (.cells #[.int .i64 0, .slice none 0 0] 24)) (.cells #[.int .i64 n, .slice none 0 0] 24))
  have H2 := Aside0.mk (show (((w.alloc (.cells #[.int .i64 n, .slice A l.length c] 24)).alloc (.cells #[.int .i64 0, .slice none 0 0] 24)).alloc (.cells #[.int .i64 n, .slice none 0 0] 24)).heap[w.heap.size + 1]? = some (.cells #[.int .i64 0, .slice none 0 0] 24 (0, 0)) from (heap_alloc_old _ _ (by simp)).trans (by have := heap_alloc_new (w.alloc (.cells #[.int .i64 n, .slice A l.length c] 24)) (.cells #[.int .i64 0, .slice none 0 0] 24); simpa using this))
  have H3 := Aside0.mk (show (((w.alloc (.cells #[.int .i64 n, .slice A l.length c] 24)).alloc (.cells #[.int .i64 0, .slice none 0 0] 24)).alloc (.cells #[.int .i64 n, .slice none 0 0] 24)).heap[w.heap.size + 1 + 1]? = some (.cells #[.int .i64 n, .slice none 0 0] 24 (0, 0)) from by have := heap_alloc_new ((w.alloc (.cells #[.int .i64 n, .slice A l.length c] 24)).alloc (.cells #[.int .i64 0, .slice none 0 0] 24)) (.cells #[.int .i64 n, .slice none 0 0] 24); simpa using this)
  generalize hW3 : ((w.alloc (.cells #[.int .i64 n, .slice A l.length c] 24)).alloc (.cells #[.int .i64 0, .slice none 0 0] 24)).alloc (.cells #[.int .i64 n, .slice none 0 0] 24) = W3 at *
  clear hW3
  generalize hg2 : w.heap.size + 1 = g2 at *
  generalize hg3 : g2 + 1 = g3 at *
  have hg2w : w.heap.size ≤ g2 := by omega
  have hg3w : w.heap.size ≤ g3 := by omega
  go_loopw [15] (fun v15 wr => ∃ (j : Nat) (v : Value), v15 = .int .i64 j ∧ j ≤ l.length ∧ Aside0 (wr.heap[g2]? = some (.cells #[.int .i64 0, .slice none 0 0] 24 (0, 0))) ∧ Aside0 (wr.heap[g3]? = some (.cells #[.int .i64 n, v] 24 (0, 0))) ∧ Aside0 (Kd.S k52 52 wr w.heap.size (fun _ => True) v (l.take j)) ∧ Aside0 (Below w.heap.size w wr)) (fun v15 _ => l.length - (intOf v15).toNat)
  case atStart => exact ⟨0, .slice none 0 0, rfl, Nat.zero_le _, H2, H3, ⟨Kd.S_nil _ _ _ _ _⟩, HB3⟩
  case round =>
    clear H2 H3 HB3
    obtain ⟨j, v, rfl, hj, H2, H3, HV, HB⟩ := hrel
    generalize wr = wq at *
    by_cases hlt : j < l.length
    · obtain ⟨ad, A2, c2, hA, hx0, hx1, hx2, hl2, hi2⟩ := at_T52 HC.out (j : Int) (by omega) (by omega)
      subst hA
      simp only [Int.toNat_natCast] at hx0 hx1 hx2
      have hrj : rd_T52 l (j : Int) = l[j] := by unfold rd_T52; rw [Int.toNat_natCast, List.getD_eq_getElem?_getD, List.getElem?_eq_getElem hlt]; rfl
      rw [hrj] at hx0 hx1 hx2 hl2 hi2
      have HRJ := Aside0.mk (show l[j]? = some l[j] from List.getElem?_eq_getElem hlt)
      have hrok := HOK.out.2 l[j] (List.getElem_mem hlt)
      generalize l[j] = r at *
      replace hx0 := (HB.out.cell (World.block_lt_of_cell? w _ hx0)).trans hx0
      replace hx1 := (HB.out.cell (World.block_lt_of_cell? w _ hx1)).trans hx1
      replace hx2 := (HB.out.cell (World.block_lt_of_cell? w _ hx2)).trans hx2
      have HT := Aside0.mk hi2
      have HL2 := Aside0.mk hl2
      have hr2 := hrok.1
      have HRT := Aside0.mk hrok.2
      clear hi2 hl2 hrj hrok
      have hlt2' : g2 < wq.heap.size := (Array.getElem?_eq_some_iff.1 H2.out).1
      have hlt3 : g3 < wq.heap.size := (Array.getElem?_eq_some_iff.1 H3.out).1
      go_wp2
      have HBa := Aside0.mk (below_alloc (below_alloc (Below.refl wq.heap.size wq) (.cells #[.string r.f0, .int .i64 r.f1, .slice A2 r.f2.length c2] 52)) (.cells #[.string r.f0, .int .i64 r.f1, .slice none 0 0] 52))
      have H6 := Aside0.mk (show ((wq.alloc (.cells #[.string r.f0, .int .i64 r.f1, .slice A2 r.f2.length c2] 52)).alloc (.cells #[.string r.f0, .int .i64 r.f1, .slice none 0 0] 52)).heap[wq.heap.size + 1]? = some (.cells #[.string r.f0, .int .i64 r.f1, .slice none 0 0] 52 (0, 0)) from by have := heap_alloc_new (wq.alloc (.cells #[.string r.f0, .int .i64 r.f1, .slice A2 r.f2.length c2] 52)) (.cells #[.string r.f0, .int .i64 r.f1, .slice none 0 0] 52); simpa using this)
      generalize hW5 : (wq.alloc (.cells #[.string r.f0, .int .i64 r.f1, .slice A2 r.f2.length c2] 52)).alloc (.cells #[.string r.f0, .int .i64 r.f1, .slice none 0 0] 52) = W5 at *
      clear hW5
      generalize hg6 : wq.heap.size + 1 = g6 at *
      have hg6w : wq.heap.size ≤ g6 := by omega
      clear hx0 hx1 hx2
      go_loopw [27] (fun v27 wl => ∃ (i : Nat) (vt : Value), v27 = .int .i64 i ∧ i ≤ r.f2.length ∧ Aside0 (wl.heap[g6]? = some (.cells #[.string r.f0, .int .i64 r.f1, vt] 52 (0, 0))) ∧ Aside0 (Kd.R (Kd.slice 3 (Kd.int .i64)) 46 wl wq.heap.size (fun _ => True) vt (r.f2.take i)) ∧ Aside0 (Below wq.heap.size wq wl)) (fun v27 _ => r.f2.length - (intOf v27).toNat)
      case atStart => exact ⟨0, .slice none 0 0, rfl, Nat.zero_le _, H6, ⟨Kd.R_nil _ _ _ _ _⟩, HBa⟩
      case round =>
        clear H6 HBa
        obtain ⟨i, vt, rfl, hi, H6, HR, HBl⟩ := hrel
        by_cases hlt2 : i < r.f2.length
        · obtain ⟨ad3, A4, c4, hA3, hy0, hl4, hi4⟩ := at_L2 HT.out (i : Int) (by omega) (by omega)
          subst hA3
          simp only [Int.toNat_natCast] at hy0
          have hrt : rd_L2 r.f2 (i : Int) = r.f2[i] := by unfold rd_L2; rw [Int.toNat_natCast, List.getD_eq_getElem?_getD, List.getElem?_eq_getElem hlt2]; rfl
          rw [hrt] at hy0 hl4 hi4
          have HTI := Aside0.mk (show r.f2[i]? = some r.f2[i] from List.getElem?_eq_getElem hlt2)
          have htl := HRT.out r.f2[i] (List.getElem_mem hlt2)
          generalize r.f2[i] = t at *
          have hb2 := below_step HB.out HBl.out
          replace hy0 := (hb2.cell (World.block_lt_of_cell? w _ hy0)).trans hy0
          have HC4 := Aside0.mk (Kd.C_below hi4 (hb2.mono (Nat.le_refl _)))
          have HL4 := Aside0.mk hl4
          clear hi4 hl4 hrt hb2
          have hc6 : wr.cell? ⟨g6, 2, none⟩ = some vt := (blk_cell H6.out 2).trans rfl
          have hf6 := blk_frozen H6.out 2
          go_upto_region 9 with (fail)
          have HBd := Aside0.mk (below_drew HBl.out)
          have H6d := Aside0.mk (show wr.drew.heap[g6]? = some (.cells #[.string r.f0, .int .i64 r.f1, vt] 52 (0, 0)) from H6.out)
          have HRd := Aside0.mk (Kd.R_drew HR.out)
          have HCd := Aside0.mk (Kd.C_drew HC4.out)
          have hg6d : g6 < wr.drew.heap.size := (Array.getElem?_eq_some_iff.1 H6d.out).1
          have hcd : wr.drew.cell? ⟨g6, 2, none⟩ = some vt := hc6
          refine wp_region_noPanic ?_
          refine start_ (n := 8) (S := fun w' => w'.cell? ⟨g6, 2, none⟩ = some vt) (ds := [7]) #[false, false, false, false, false, false, false, false] (by kernel_rfl) rfl rfl hcd (fun hHeld => ?_)
          generalize wr.drew = wd at *
          refine pure_ (i := 0) (N := some 31) (v := ?_) (a' := ?_) #[true, false, false, false, false, false, false, false] rfl rfl (by kernel_rfl) (fun _ _ _ h => h) (Or.inl ⟨by rfl, ?_⟩) ?_ ?_
          rotate_left
          · intro w'
            go_simp
            with_reducible rfl
          rotate_left
          · simp only [Act.put, List.setIfInBounds_toArray, List.set_cons_zero, List.set_cons_succ, i64_w, i32_w]
            rfl
          refine pure_ (i := 2) (N := some 33) (v := ?_) (a' := ?_) #[true, false, true, false, false, false, false, false] rfl rfl (by kernel_rfl) (fun _ _ _ h => h) (Or.inl ⟨by rfl, ?_⟩) ?_ ?_
          rotate_left
          · intro w'
            go_simp
            with_reducible rfl
          rotate_left
          · simp only [Act.put, List.setIfInBounds_toArray, List.set_cons_zero, List.set_cons_succ, i64_w, i32_w]
            rfl
          refine take_ (i := 1) (N := some 32) (v := ?_) (a' := ?_) #[true, true, true, false, false, false, false, false] rfl rfl (by kernel_rfl) (fun _ _ _ h => h) (Or.inl ⟨by rfl, ?_⟩) hHeld ?_ ?_
          rotate_left
          · intro w' s0
            go_simp
            with_reducible rfl
          rotate_left
          · simp only [Act.put, List.setIfInBounds_toArray, List.set_cons_zero, List.set_cons_succ, i64_w, i32_w]
            rfl
          refine one_ (i := 3) (N := some 34) #[true, true, true, true, false, false, false, false] rfl rfl (by kernel_rfl) (by decide) (fun K hK => ?_)
          refine callE_ 60 #[.slice A4 t.length c4] (by rfl) rfl (by go_simp) ?_
          refine (slices_Clone_int_int.calls A4 c4 t t _ HCd.out HL4.out (if_pos htl)).mono ?_
          rintro e w6 ⟨va, rfl, hRa, hb6⟩
          obtain ⟨Aa, ca, ea⟩ := Kd.R_slice hRa
          subst ea
          left
          refine ⟨_, rfl, ?_⟩
          have HB6 := Aside0.mk (below_step HBd.out hb6)
          have H66 := Aside0.mk ((hb6.block g6 hg6d).trans H6d.out)
          have HR6 := Aside0.mk (Kd.R_below HRd.out hb6)
          have HRa := Aside0.mk (Kd.R_lower (Kd.R_newR hRa HRd.out) HBd.out.size)
          refine hK.out _ _ (pw_cell_below hb6 hcd) (fun hHeld2 => ?_)
          clear hK K hb6 hRa HRd HR H6 H6d HBd HBl
          refine norm_ (a' := ?_) ?_ ?_
          rotate_left
          · show Act.put _ (some 34) _ = _
            simp only [Act.put, List.setIfInBounds_toArray, List.set_cons_zero, List.set_cons_succ, i64_w, i32_w]
            rfl
          refine one_ (i := 4) (N := some 35) #[true, true, true, true, true, false, false, false] rfl rfl (by kernel_rfl) (by decide) (fun K hK => ?_)
          refine value_ (w1 := ?_) (v := ?_) (by rfl) rfl ?_ ?_
          rotate_left 2
          · go_simp
            constructor
            · rfl
            · rfl
          refine hK.out _ _ ((blk_cell (blk_alloc H66.out _) 2).trans rfl) (fun hHeld => ?_)
          clear hK K
          refine norm_ (a' := ?_) ?_ ?_
          rotate_left
          · show Act.put _ (some 35) _ = _
            simp only [Act.put, List.setIfInBounds_toArray, List.set_cons_zero, List.set_cons_succ, i64_w, i32_w]
            rfl
          refine one_ (i := 5) (N := some 36) #[true, true, true, true, true, true, false, false] rfl rfl (by kernel_rfl) (by decide) (fun K hK => ?_)
          refine Kd.R_append_step (Kd.slice 3 (Kd.int .i64)) (w0 := wq) wq.heap.size (by rfl) (.tmp 32) (.tmp 35) 50 46 (.slice none 0 0) 24 rfl Tryz.underlying50 infoInts rfl (by decide) (by omega) vt (r.f2.take i) t [.slice Aa t.length ca] (fun _ => True) (fun k_ => True ∧ some k_ ≠ vt.ownBlock) rfl rfl ?aP (fun _ hk => hk) ?aF ?aO ?aB ?aS ?aL ?_
          (case aP => exact Kd.M_row HRa.out)
          (case aB => exact HB6.out)
          (case aF => exact (fun _ _ => trivial))
          (case aO => exact HR6.out)
          (case aS => exact HB6.out.size)
          (case aL => rw [List.length_take]; omega)
          intro v7 w7 ho hb hg hat
          have n0_ := Aside0.mk hb
          have n1_ := Aside0.mk ho
          have n2_ := Aside0.mk (blk_grown H66.out hg (Kd.R_ne HR6.out H66.out (by decide)))
          clear ho hb hg hat HB6 HR6 HRa
          obtain ⟨A7, c7, e7⟩ := Kd.R_slice n1_.out
          subst e7
          rw [show (r.f2.take i ++ [t]).length = i + 1 from by rw [List.length_append, List.length_singleton, List.length_take]; omega] at n1_ ⊢
          refine hK.out _ _ ((blk_cell n2_.out 2).trans rfl) (fun hHeld => ?_)
          clear hK K
          refine norm_ (a' := ?_) ?_ ?_
          rotate_left
          · show Act.put _ (some 36) _ = _
            simp only [Act.put, List.setIfInBounds_toArray, List.set_cons_zero, List.set_cons_succ, i64_w, i32_w]
            rfl
          refine pure_ (i := 6) (N := some 37) (v := ?_) (a' := ?_) #[true, true, true, true, true, true, true, false] rfl rfl (by kernel_rfl) (fun _ _ _ h => h) (Or.inl ⟨by rfl, ?_⟩) ?_ ?_
          rotate_left
          · intro w'
            go_simp
            with_reducible rfl
          rotate_left
          · simp only [Act.put, List.setIfInBounds_toArray, List.set_cons_zero, List.set_cons_succ, i64_w, i32_w]
            rfl
          refine last_ (i := 7) (N := none) #[true, true, true, true, true, true, true, true] rfl rfl (by kernel_rfl) (by decide) (fun K hK => ?_)
          have hs7 : w7.cell? ⟨g6, 2, none⟩ = some vt := (blk_cell n2_.out 2).trans rfl
          have hf7 := blk_frozen n2_.out 2
          refine skip_ (w1 := ?_) (by rfl) rfl ?_ ?_
          rotate_left
          · go_simp
            rfl
          refine hK.out _ _ ?_
          clear hK K
          refine done_ (by kernel_rfl) ?_
          refine NoPanic.normal ?_
          have n3_ := Aside0.mk (Kd.R_set n1_.out n2_.out (by decide) 2 (.slice A7 (i + 1) c7))
          have n4_ := Aside0.mk (blk_put (cs' := #[.string r.f0, .int .i64 r.f1, .slice A7 (i + 1) c7]) n2_.out 2 (.slice A7 (i + 1) c7) rfl)
          have n5_ := Aside0.mk (below_set (j := 2) (v := .slice A7 (i + 1) c7) n0_.out hg6w)
          rw [← take_snoc' HTI.out] at n3_
          try go_wp2
          go_roundw
          · exact ⟨i + 1, _, (by simp), hlt2, n4_, n3_, n5_⟩
          · simp [intOf]; omega
        · obtain rfl : i = r.f2.length := by omega
          rw [List.take_length] at HR
          have H3l := Aside0.mk ((HBl.out.block g3 hlt3).trans H3.out)
          have H2l := Aside0.mk ((HBl.out.block g2 hlt2').trans H2.out)
          obtain ⟨At, ct, hvt⟩ := Kd.R_slice HR.out
          subst hvt
          have hc3 : wr.cell? ⟨g3, 1, none⟩ = some v := (blk_cell H3l.out 1).trans rfl
          have hc6_0 : wr.cell? ⟨g6, 0, none⟩ = some (.string r.f0) := (blk_cell H6.out 0).trans rfl
          have hc6_1 : wr.cell? ⟨g6, 1, none⟩ = some (.int .i64 r.f1) := (blk_cell H6.out 1).trans rfl
          have hc6_2 : wr.cell? ⟨g6, 2, none⟩ = some (.slice At r.f2.length ct) := (blk_cell H6.out 2).trans rfl
          have HRb := Aside0.mk (Kd.R_lower (Kd.R_mono (Kd.R_bound HR.out) (fun k_ hk => (hk.2.1 : wq.heap.size ≤ k_))) HB.out.size)
          have HVl := Aside0.mk (Kd.S_mono (ok' := fun k_ => True ∧ ¬ wq.heap.size ≤ k_) (Kd.S_below (Kd.S_bound HV.out) HBl.out) (fun k_ hk => ⟨trivial, by have := hk.2.2.1; omega⟩))
          have HVN := Aside0.mk (Kd.S_lt HV.out)
          have HBw := Aside0.mk (below_step HB.out HBl.out)
          have hjl : (l.take j).length ≤ 100000 := by rw [List.length_take]; omega
          go_wp2_with (first | ((with_reducible refine gate_builtin (b := .append) (xs := #[.tmp 40, .tmp 42]) rfl ?_); at_builtin; refine Kd.S_append k52 (w0 := w) w.heap.size rfl (.tmp 40) (.tmp 42) 22 52 (.agg #[.string ⟨#[]⟩, .int .i64 0, .slice none 0 0]) 48 rfl Tryz.underlying22 infoRel' rfl (by decide) (by omega) v (l.take j) r [.string r.f0, .int .i64 r.f1, .slice At r.f2.length ct] (fun _ => True) (fun k_ => wq.heap.size ≤ k_) rfl rfl ?aP ?aK ?aF ?aO ?aB ?aS ?aL ?_; (case aP => exact k52_mkM _ _ _ r HRb.out); (case aK => exact fun k_ hk => ⟨trivial, fun e => by have := HVN.out k_ e.symm; omega⟩); (case aF => exact fun _ _ => trivial); (case aO => exact HVl.out); (case aB => exact HBw.out); (case aS => exact HBw.out.size); (case aL => omega); intro v7 w7 ho hb hg hat; have n0_ := Aside0.mk hb; have n1_ := Aside0.mk ho; have n2_ := Aside0.mk (blk_grown H3l.out hg (Kd.S_ne HVl.out H3l.out (by decide))); have n3_ := Aside0.mk (blk_grown H2l.out hg (Kd.S_ne HVl.out H2l.out (by decide))); clear ho hb hg hat; obtain ⟨A7, c7, e7⟩ := Kd.S_slice n1_.out; subst e7; have hc9 : w7.cell? ⟨g3, 1, none⟩ = some v := (blk_cell n2_.out 1).trans rfl; have hf9 := blk_frozen n2_.out 1))
          rw [show (l.take j ++ [r]).length = j + 1 from by rw [List.length_append, List.length_singleton, List.length_take]; omega] at n1_
          have n4_ := Aside0.mk (Kd.S_set n1_.out n2_.out (by decide) 1 (.slice A7 (j + 1) c7))
          have n5_ := Aside0.mk (blk_put (cs' := #[.int .i64 n, .slice A7 (j + 1) c7]) n2_.out 1 (.slice A7 (j + 1) c7) rfl)
          have n6_ := Aside0.mk ((Below.heap_setCell w7 ⟨g3, 1, none⟩ (.slice A7 (j + 1) c7) g2 (by show g2 ≠ g3; omega)).trans n3_.out)
          have n7_ := Aside0.mk (below_set (j := 1) (v := .slice A7 (j + 1) c7) n0_.out hg3w)
          rw [← take_snoc' HRJ.out] at n4_
          go_roundw
          · exact ⟨j + 1, _, (by simp), hlt, n6_, n5_, n4_, n7_⟩
          · simp [intOf]; omega
    · obtain rfl : j = l.length := by omega
      rw [List.take_length] at HV
      obtain ⟨Av, cv, hv⟩ := Kd.S_slice HV.out
      subst hv
      have hcz3_0 : wq.cell? ⟨g3, 0, none⟩ = some (.int .i64 n) := (blk_cell H3.out 0).trans rfl
      have hcz3_1 : wq.cell? ⟨g3, 1, none⟩ = some (.slice Av l.length cv) := (blk_cell H3.out 1).trans rfl
      have hcz2_0 : wq.cell? ⟨g2, 0, none⟩ = some (.int .i64 0) := (blk_cell H2.out 0).trans rfl
      have hcz2_1 : wq.cell? ⟨g2, 1, none⟩ = some (.slice none 0 0) := (blk_cell H2.out 1).trans rfl
      have hfz2_0 := blk_frozen H2.out 0
      have hfz2_1 := blk_frozen H2.out 1
      go_wp2
      have HX := blk_put (cs' := #[.int .i64 n, .slice Av l.length cv]) (blk_put (cs' := #[.int .i64 n, .slice none 0 0]) H2.out 0 (.int .i64 n) rfl) 1 (.slice Av l.length cv) rfl
      have HV1 := Kd.S_set HV.out H2.out (by decide) 0 (.int .i64 n)
      have HV2 := Kd.S_set HV1 (blk_put (cs' := #[.int .i64 n, .slice none 0 0]) H2.out 0 (.int .i64 n) rfl) (by decide) 1 (.slice Av l.length cv)
      have HBX := below_set (j := 1) (v := .slice Av l.length cv) (below_set (j := 0) (v := .int .i64 n) HB.out hg2w) hg2w
      refine bodyPost_ret (results_cell_row rfl _ _ g2 24 #[.int .i64 n, .slice Av l.length cv] (0, 0) _ rfl HX Tryz.underlying24 rfl (by kernel_rfl)) rfl ?_
      exact ⟨_, rfl, HV2, HBX⟩
end Go.Proofs.YtfmpaofbnjlniaaGreatDoor.F
/- slices.Insert and slices.Delete at rows of tuples: the walks' ends in the printed form. -/
namespace Go.Proofs.YtfmpaofbnjlniaaGreatDoor.F
open Go.RowKit Go.Proofs.YtfmpaofbnjlniaaGreatDoorW.PrintWords Go.Proofs.YtfmpaofbnjlniaaGreatDoorW.PrintLast Go.Proofs.YtfmpaofbnjlniaaGreatDoorW.PrintMore
set_option linter.unusedVariables false
set_option linter.unusedSimpArgs false
def insAt (ts : List (List Int)) (i : Nat) (t : List Int) : List (List Int) := ts.take i ++ [t] ++ ts.drop i
def delAt (ts : List (List Int)) (i : Nat) : List (List Int) := ts.take i ++ ts.drop (i + 1)
abbrev tK : Kd (List Int) := Kd.slice 3 (Kd.int .i64)
theorem tK_one {w : World} {base : Nat} {ok : Nat → Prop} {ts : List (List Int)} {inner : List Value} (hr : Reps (tK.M w base ok) 1 ts inner) : ∀ u ∈ inner, u.oneCell' = true := by
  intro u hu
  obtain ⟨j, hj, rfl⟩ := List.getElem_of_mem hu
  have hl := hr.1
  have hjt : j < ts.length := by omega
  have h := hr.2 j _ (List.getElem?_eq_getElem hjt)
  refine tK.K_one (tK.K_of_M h) _ ?_
  rw [Nat.mul_one, List.drop_eq_getElem_cons hj]
  exact List.mem_cons_self
theorem rowed {w w1 : World} {base : Nat} {ok : Nat → Prop} {v v1 : Value} {ts' : List (List Int)} {inner' : List Value} (h0 : ∀ k, v.ownBlock = some k → ok k) (hfresh : ∀ k, w.heap.size ≤ k → ok k)
    (hr : Reps (tK.M w base (fun k => ok k ∧ some k ≠ v.ownBlock)) 1 ts' inner') (hown : w1.ownsRow base 46 1 v1 ts'.length inner') (hg : w.grownBy w1 v.ownBlock) (hat : v1.ownBlock = v.ownBlock ∨ ∃ b, v1.ownBlock = some b ∧ w.heap.size ≤ b) : tK.R 46 w1 base ok v1 ts' := by
  have hne : ∀ k, some k ≠ v.ownBlock → k < w.heap.size → some k ≠ v1.ownBlock := by
    intro k hk hlt
    rcases hat with hat | ⟨b, hb, hle⟩
    · rw [hat]; exact hk
    · rw [hb]
      intro he
      injection he with he
      omega
  refine ⟨fun k hk => ?_, inner', hown, hr.imp_ (fun q c hq => ?_)⟩
  · rcases hat with hat | ⟨b, hb, hle⟩
    · exact h0 k (hat ▸ hk)
    · rw [hb] at hk
      injection hk with hk
      exact hfresh k (by omega)
  · have h1 := tK.M_move (w1 := w1) (fun k hk => hg.block k hk.2.2.1 hk.1.2) (tK.M_bound hq)
    exact tK.M_mono (fun k hk => ⟨hk.1.1, hne k hk.1.2 hk.2.2.1⟩) h1
theorem insert_calls (A : Option Addr) (c : Nat) (ts : List (List Int)) (i : Nat) (x : List Int) (gB : Nat) (vx : Value) (base : Nat) (ok okx : Nat → Prop) (w : World) (HO : tK.R 46 w base ok (.slice A ts.length c) ts) (hi : i ≤ ts.length) (hn : ts.length ≤ 100000) (hbase : base ≤ w.heap.size)
    (hx : w.heap[gB]? = some (.cells #[vx] 46 (0, 0))) (hvx : Kd.R (Kd.int .i64) 3 w base okx vx x) (hokx : ∀ k, okx k → ok k ∧ some k ≠ (Value.slice A ts.length c).ownBlock) (hfresh : ∀ k, w.heap.size ≤ k → ok k) (hne : some gB ≠ (Value.slice A ts.length c).ownBlock) :
    Calls Tryz.prog 59 #[.slice A ts.length c, .int .i64 i, .slice (some ⟨gB, 0, none⟩) 1 1] w fun e w' => ∃ v', e = .returned v' ∧ tK.R 46 w' base ok v' (insAt ts i x) ∧ w.grownBy w' (Value.slice A ts.length c).ownBlock ∧ (v'.ownBlock = (Value.slice A ts.length c).ownBlock ∨ ∃ b, v'.ownBlock = some b ∧ w.heap.size ≤ b) := by
  obtain ⟨h0, inner, hown, hr⟩ := HO
  have hvo : vx.oneCell' = true := tK.K_one (tK.K_of_M (Kd.M_row hvx)) vx (List.mem_singleton.2 rfl)
  refine (insert_row A ts.length c i inner (tK_one hr) gB vx base w hown hi hn hbase hx hvo hne).mono ?_
  rintro e w' ⟨v', rfl, hown', hg, hat⟩
  refine ⟨v', rfl, ?_, hg, hat⟩
  have r1 : Reps (tK.M w base (fun k => ok k ∧ some k ≠ (Value.slice A ts.length c).ownBlock)) 1 [x] [vx] := Reps.one (Kd.M_row (Kd.R_mono hvx hokx)) (Reps.none _ _)
  have hr' := Kd.reps_append (Kd.reps_append (Kd.reps_take hr hi) r1) (Kd.reps_drop (m := i) hr)
  rw [show i * tK.sz = i from Nat.mul_one i] at hr'
  refine rowed h0 hfresh hr' ?_ hg hat
  have hl : (insAt ts i x).length = ts.length + 1 := by simp [insAt]; omega
  rw [hl]
  exact hown'
theorem delete_calls (A : Option Addr) (c : Nat) (ts : List (List Int)) (i : Nat) (base : Nat) (ok : Nat → Prop) (w : World) (HO : tK.R 46 w base ok (.slice A ts.length c) ts) (hi : i < ts.length) (hfresh : ∀ k, w.heap.size ≤ k → ok k) :
    Calls Tryz.prog 61 #[.slice A ts.length c, .int .i64 i, .int .i64 ((i : Int) + 1)] w fun e w' => ∃ v', e = .returned v' ∧ tK.R 46 w' base ok v' (delAt ts i) ∧ w.grownBy w' (Value.slice A ts.length c).ownBlock ∧ (v'.ownBlock = (Value.slice A ts.length c).ownBlock ∨ ∃ b, v'.ownBlock = some b ∧ w.heap.size ≤ b) := by
  obtain ⟨h0, inner, hown, hr⟩ := HO
  refine (delete_row A ts.length c i inner (tK_one hr) base w hown hi).mono ?_
  rintro e w' ⟨v', rfl, hown', hg, hat⟩
  refine ⟨v', rfl, ?_, hg, Or.inl hat⟩
  have hr' := Kd.reps_append (Kd.reps_take hr (Nat.le_of_lt hi)) (Kd.reps_drop (m := i + 1) hr)
  rw [show i * tK.sz = i from Nat.mul_one i, show (i + 1) * tK.sz = i + 1 from Nat.mul_one _] at hr'
  refine rowed h0 hfresh hr' ?_ hg (Or.inl hat)
  have hl : (delAt ts i).length = ts.length - 1 := by simp [delAt]; omega
  rw [hl]
  exact hown'
end Go.Proofs.YtfmpaofbnjlniaaGreatDoor.F
