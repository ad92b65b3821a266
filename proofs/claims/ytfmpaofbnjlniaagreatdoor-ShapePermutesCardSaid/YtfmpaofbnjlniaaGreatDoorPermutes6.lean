/- ShapePermutes: Permute answers as the reference says, for all structures and lists. -/
import Derived.Test.YtfmpaofbnjlniaaGreatDoorPermutes5
import Derived.Test.YtfmpaofbnjlniaaGreatDoorCards
import Derived.Test.YtfmpaofbnjlniaaGreatDoorTie
import Derived.SevenTiedAt
/- ShapePermutes, the plain law. -/
namespace Go.Proofs.YtfmpaofbnjlniaaGreatDoor.F
open Go.RowKit Go.Maps Go.Proofs.YtfmpaofbnjlniaaGreatDoorW.PrintWords Go.Proofs.YtfmpaofbnjlniaaGreatDoorW.PrintLast Go.Proofs.YtfmpaofbnjlniaaGreatDoorW.PrintMore
set_option linter.unusedVariables false
/-! ### the keys of a map -/
theorem addKey_lenI : ∀ (xs acc : List Lit), acc.Nodup → (∀ x ∈ xs, WideAt.IsKeyLit x) → (xs.foldl addKey acc).length ≤ acc.length + xs.length ∧ ((xs.foldl addKey acc).length = acc.length + xs.length ↔ (acc ++ xs).Nodup)
  | [], acc, h, _ => ⟨Nat.le_refl _, by simpa using h⟩
  | x :: xs, acc, h, hk => by
    have hkx := hk x List.mem_cons_self
    have hks : ∀ y ∈ xs, WideAt.IsKeyLit y := fun y hy => hk y (List.mem_cons_of_mem _ hy)
    rw [List.foldl_cons]
    by_cases hm : x ∈ acc
    · have e : addKey acc x = acc := by
        show (if acc.any (fun y => y.sameKey x) = true then acc else acc ++ [x]) = acc
        have h2 : acc.any (fun y => y.sameKey x) = true := List.any_eq_true.2 ⟨x, hm, WideAt.sameKey_self hkx⟩
        rw [if_pos h2]
      rw [e]
      obtain ⟨h1, h2⟩ := addKey_lenI xs acc h hks
      refine ⟨by rw [List.length_cons]; omega, ⟨fun e2 => by rw [List.length_cons] at e2; omega, fun e2 => ?_⟩⟩
      rw [List.nodup_append] at e2
      exact absurd rfl (e2.2.2 x hm x List.mem_cons_self)
    · have e : addKey acc x = acc ++ [x] := by
        show (if acc.any (fun y => y.sameKey x) = true then acc else acc ++ [x]) = acc ++ [x]
        rw [if_neg (fun e2 => by
          obtain ⟨y, hy, hs⟩ := List.any_eq_true.1 e2
          exact hm (WideAt.sameKey_eq hs ▸ hy))]
      rw [e]
      have hn : (acc ++ [x]).Nodup := by
        rw [List.nodup_append]
        exact ⟨h, by simp, fun a ha b hb e3 => by rw [List.mem_singleton] at hb; subst hb; subst e3; exact hm ha⟩
      obtain ⟨h1, h2⟩ := addKey_lenI xs (acc ++ [x]) hn hks
      rw [List.length_append, List.length_singleton] at h1 h2
      rw [List.append_assoc, List.singleton_append] at h2
      rw [List.length_cons]
      refine ⟨by omega, ?_⟩
      rw [← h2]
      constructor
      · intro h3; omega
      · intro h3; omega
theorem count_nodupI (sy : List Int) : permCount sy = sy.length ↔ sy.Nodup := by
  unfold permCount permSet
  have hk : ∀ x ∈ sy.map keyI, WideAt.IsKeyLit x := fun x hx => by
    obtain ⟨y, _, rfl⟩ := List.mem_map.1 hx
    trivial
  rw [size_setOf _ _ hk]
  have h := (addKey_lenI (sy.map keyI) [] List.nodup_nil hk).2
  rw [List.length_nil, Nat.zero_add, List.length_map, List.nil_append] at h
  rw [h]
  unfold List.Nodup
  rw [List.pairwise_map]
  exact ⟨fun h => h.imp (fun h2 e2 => h2 (by rw [e2])), fun h => h.imp (fun h2 e2 => h2 (by injection e2))⟩
/-! ### Perm -/
theorem perm_mem (sy : List Int) (hs : sy.length ≤ 1000) (i : Nat) (hi : i < sy.length) : ∀ (d j : Nat), j + d = i → sy[i] ∈ (sy.take i).drop j → ∀ k, d + 1 ≤ k → paraphrastref01_Perm.l1 k sy (i : Int) (j : Int) = some false
  | 0, j, h, hm, k, hk => by rw [List.drop_eq_nil_of_le (by rw [List.length_take]; omega)] at hm; cases hm
  | d + 1, j, h, hm, k, hk => by
    obtain ⟨k, rfl⟩ : ∃ k', k = k' + 1 := ⟨k - 1, by omega⟩
    have hj : j < sy.length := by omega
    have hjt : j < (sy.take i).length := by rw [List.length_take]; omega
    unfold paraphrastref01_Perm.l1
    rw [if_pos (by omega), if_pos (by omega), if_pos (by omega), if_pos (by omega), if_pos (by omega), rd_nat sy j hj, rd_nat sy i hi]
    by_cases e : sy[j] = sy[i]
    · rw [if_pos e]
    · rw [if_neg e, w64 (by omega) (by omega), show (j : Int) + 1 = ((j + 1 : Nat) : Int) by omega]
      rw [List.drop_eq_getElem_cons hjt, List.getElem_take, List.mem_cons] at hm
      exact perm_mem sy hs i hi d (j + 1) (by omega) (hm.resolve_left (fun e3 => e e3.symm)) k (by omega)
theorem perm_not (sy : List Int) (hs : sy.length ≤ 1000) (i : Nat) (hi : i < sy.length) (m : Nat) : ∀ (d j : Nat), j + d = i → sy[i] ∉ (sy.take i).drop j → paraphrastref01_Perm.l1 (m + d + 1) sy (i : Int) (j : Int) = paraphrastref01_Perm.l0 m sy ((i + 1 : Nat) : Int)
  | 0, j, h, hm => by
    unfold paraphrastref01_Perm.l1
    rw [if_neg (by omega), w64 (by omega) (by omega), show (i : Int) + 1 = ((i + 1 : Nat) : Int) by omega]
  | d + 1, j, h, hm => by
    have hj : j < sy.length := by omega
    have hjt : j < (sy.take i).length := by rw [List.length_take]; omega
    rw [List.drop_eq_getElem_cons hjt, List.getElem_take, List.mem_cons, not_or] at hm
    unfold paraphrastref01_Perm.l1
    rw [if_pos (by omega), if_pos (by omega), if_pos (by omega), if_pos (by omega), if_pos (by omega), rd_nat sy j hj, rd_nat sy i hi, if_neg (fun e => hm.1 e.symm), w64 (by omega) (by omega), show (j : Int) + 1 = ((j + 1 : Nat) : Int) by omega]
    exact perm_not sy hs i hi m d (j + 1) (by omega) hm.2
theorem perm_l0 (sy : List Int) (hs : sy.length ≤ 1000) : ∀ (d i : Nat), i + d = sy.length → (sy.take i).Nodup → ∀ k, 1010 * d + 1 ≤ k → paraphrastref01_Perm.l0 k sy (i : Int) = some (decide sy.Nodup)
  | 0, i, h, hn, k, hk => by
    rw [List.take_of_length_le (by omega)] at hn
    obtain ⟨k, rfl⟩ : ∃ k', k = k' + 1 := ⟨k - 1, by omega⟩
    unfold paraphrastref01_Perm.l0
    rw [if_neg (by omega), decide_eq_true hn]
  | d + 1, i, h, hn, k, hk => by
    have hi : i < sy.length := by omega
    obtain ⟨k, rfl⟩ : ∃ k', k = k' + 1 := ⟨k - 1, by omega⟩
    have hsn : sy.take (i + 1) = sy.take i ++ [sy[i]] := take_snoc' (List.getElem?_eq_getElem hi)
    conv => lhs; unfold paraphrastref01_Perm.l0
    rw [if_pos (by omega)]
    by_cases hm : sy[i] ∈ sy.take i
    · have hd : ¬ sy.Nodup := fun hN => by
        have : (sy.take (i + 1)).Nodup := hN.sublist (List.take_sublist _ _)
        rw [hsn, List.nodup_append] at this
        exact absurd rfl (this.2.2 _ hm _ List.mem_cons_self)
      rw [decide_eq_false hd]
      exact perm_mem sy hs i hi i 0 (by omega) (by simpa using hm) k (by omega)
    · obtain ⟨m, rfl⟩ : ∃ m, k = m + i + 1 := ⟨k - i - 1, by omega⟩
      have h1 := perm_not sy hs i hi m i 0 (by omega) (by simpa using hm)
      rw [show (0 : Int) = ((0 : Nat) : Int) from rfl, h1]
      exact perm_l0 sy hs d (i + 1) (by omega) (by
        rw [hsn, List.nodup_append]
        exact ⟨hn, by simp, fun a ha c hc e => by rw [List.mem_singleton] at hc; subst hc; subst e; exact hm ha⟩) m (by omega)
theorem perm_eq (n : Int) (sy : List Int) (hs : sy.length ≤ 1000) (k : Nat) (hk : 1012000 ≤ k) : paraphrastref01_Perm.f k n sy = some (permYes n sy) := by
  obtain ⟨k, rfl⟩ : ∃ k', k = k' + 1 := ⟨k - 1, by omega⟩
  unfold paraphrastref01_Perm.f permYes
  by_cases hn : (sy.length : Int) = n
  · rw [if_pos hn, in_elements n sy (by omega) (k + 1) (by omega), elements_eq, Option.bind_some, decide_eq_true hn, Bool.true_and]
    unfold paraphrastref01_Perm.j0
    dsimp only
    have hc : decide ((permCount sy : Int) = n) = decide sy.Nodup := by
      rw [decide_eq_decide, ← count_nodupI]
      constructor <;> intro h <;> omega
    rw [hc]
    cases ho : sy.any (outB n) with
    | true => simp
    | false => rw [if_neg (by simp), show (0 : Int) = ((0 : Nat) : Int) from rfl, perm_l0 sy hs sy.length 0 (by omega) (by simp) k (by omega)]; simp
  · rw [if_neg hn, decide_eq_false hn]
    unfold paraphrastref01_Perm.j0
    dsimp only
    rw [if_pos rfl]
    rfl
/-! ### Permute -/
theorem renamed_from (sy t : List Int) (ht : t.length ≤ 1000) (hin : ∀ x ∈ t, 0 ≤ x ∧ x < (sy.length : Int)) : ∀ (d i k : Nat), i + d = t.length → d + 1 ≤ k → paraphrastref01_Renamed.l0 k t sy (renT sy (t.take i)) (i : Int) = some (renT sy t)
  | 0, i, k + 1, h, hk => by
    unfold paraphrastref01_Renamed.l0
    rw [if_neg (by omega), List.take_of_length_le (by omega)]
  | d + 1, i, k + 1, h, hk => by
    have hi : i < t.length := by omega
    have hx := hin _ (List.getElem_mem hi)
    unfold paraphrastref01_Renamed.l0
    rw [if_pos (by omega), if_pos (by omega), rd_nat t i hi, if_pos hx.1, if_pos hx.2, if_pos (by unfold renT; rw [List.length_map, List.length_take]; omega), w64 (by omega) (by omega), show (i : Int) + 1 = ((i + 1 : Nat) : Int) by omega,
      show renT sy (t.take i) ++ [rd sy t[i]] = renT sy (t.take (i + 1)) by unfold renT; rw [take_snoc' (List.getElem?_eq_getElem hi), List.map_append]; rfl]
    exact renamed_from sy t ht hin d (i + 1) k (by omega) (by omega)
theorem renamed_eq (sy t : List Int) (ht : t.length ≤ 1000) (hin : ∀ x ∈ t, 0 ≤ x ∧ x < (sy.length : Int)) (k : Nat) (hk : 1001 ≤ k) : paraphrastref01_Renamed.f k t sy = some (renT sy t) :=
  renamed_from sy t ht hin t.length 0 k (by omega) (by omega)
theorem rdL_nat (l : List (List Int)) (i : Nat) (h : i < l.length) : rd_L2 l (i : Int) = l[i] := by unfold rd_L2; rw [Int.toNat_natCast, List.getD_eq_getElem?_getD, List.getElem?_eq_getElem h]; rfl
theorem rpermute_l1 (n : Int) (l : List S52) (sy : List Int) (hl : l.length ≤ 1000) (i : Nat) (hi : i < l.length) (q : Nat) (hq : q ≤ 1000) (h1 : ∀ t ∈ l[i].f2, t.length = q ∧ ∀ x ∈ t, 0 ≤ x ∧ x < (sy.length : Int)) (h2 : l[i].f2.length ≤ 5000) (m : Nat) (hm : 1001 ≤ m) :
    ∀ (d j : Nat), j + d = l[i].f2.length → paraphrastref01_Permute.l1 (m + d + 1) sy (i : Int) ((l[i].f2.take j).map (renT sy)) (j : Int) n l n (mix (renR sy) l i) = paraphrastref01_Permute.l0 m sy ((i + 1 : Nat) : Int) n l n (mix (renR sy) l (i + 1))
  | 0, j, h => by
    have hal : ∀ a ∈ l[i].f2.map (renT sy), a.length = q := fun a ha => by
      obtain ⟨t, ht, rfl⟩ := List.mem_map.1 ha
      unfold renT
      rw [List.length_map]
      exact (h1 t ht).1
    unfold paraphrastref01_Permute.l1
    rw [if_pos (by omega), if_pos (by omega), rdT_nat l i hi, if_neg (by omega), List.take_of_length_le (by omega), (sorted_eq q hq _ hal (by rw [List.length_map]; omega)).1, Option.bind_some, if_pos (by rw [mix_len]; omega),
      rdT_nat _ i (by rw [mix_len]; omega), Int.toNat_natCast, w64 (by omega) (by omega), show (i : Int) + 1 = ((i + 1 : Nat) : Int) by omega]
    have e : (mix (renR sy) l i)[i]'(by rw [mix_len]; omega) = l[i] := by
      have := mix_at (g := renR sy) (List.getElem?_eq_getElem hi)
      rw [List.getElem?_eq_getElem (by rw [mix_len]; omega)] at this
      exact Option.some.inj this
    rw [e]
    show paraphrastref01_Permute.l0 m sy _ n l n ((mix (renR sy) l i).set i (renR sy l[i])) = _
    rw [mix_set (List.getElem?_eq_getElem hi)]
  | d + 1, j, h => by
    have hj : j < l[i].f2.length := by omega
    have ht := h1 _ (List.getElem_mem hj)
    unfold paraphrastref01_Permute.l1
    rw [if_pos (by omega), if_pos (by omega), rdT_nat l i hi, if_pos (by omega), if_pos (by omega), rdL_nat _ j hj, renamed_eq sy _ (by omega) ht.2 (m + (d + 1)) (by omega), Option.bind_some, if_pos (by rw [List.length_map, List.length_take]; omega), w64 (by omega) (by omega), show (j : Int) + 1 = ((j + 1 : Nat) : Int) by omega,
      show (l[i].f2.take j).map (renT sy) ++ [renT sy l[i].f2[j]] = (l[i].f2.take (j + 1)).map (renT sy) by rw [take_snoc' (List.getElem?_eq_getElem hj), List.map_append]; rfl]
    exact rpermute_l1 n l sy hl i hi q hq h1 h2 m hm d (j + 1) (by omega)
theorem rpermute_l0 (n : Int) (l : List S52) (hv : validB n l = true) (sy : List Int) (hn : (sy.length : Int) = n) : ∀ (d i k : Nat), i + d = l.length → 5000 * d + 1010 ≤ k → paraphrastref01_Permute.l0 k sy (i : Int) n l n (mix (renR sy) l i) = some (n, l.map (renR sy))
  | 0, i, k + 1, h, hk => by
    unfold paraphrastref01_Permute.l0
    rw [if_neg (by omega), show i = l.length by omega, mix_all]
  | d + 1, i, k + 1, h, hk => by
    have hi : i < l.length := by omega
    obtain ⟨_, _, h8, hr⟩ := valid_facts n l hv
    obtain ⟨_, g1, g2, g3⟩ := hr _ (List.getElem_mem hi)
    conv => lhs; unfold paraphrastref01_Permute.l0
    rw [if_pos (by omega)]
    obtain ⟨m, rfl⟩ : ∃ m, k = m + l[i].f2.length + 1 := ⟨k - l[i].f2.length - 1, by omega⟩
    have h1 := rpermute_l1 n l sy (by omega) i hi l[i].f1.toNat (by omega) (fun t ht => ⟨by have := (g2 t ht).1; omega, fun x hx => by rw [hn]; exact (g2 t ht).2 x hx⟩) (by omega) m (by omega) l[i].f2.length 0 (by omega)
    rw [List.take_zero, List.map_nil] at h1
    rw [show (0 : Int) = ((0 : Nat) : Int) from rfl, h1]
    exact rpermute_l0 n l hv sy hn d (i + 1) m (by omega) (by omega)
theorem rpermute_eq (n : Int) (l : List S52) (hv : validB n l = true) (sy : List Int) (hn : (sy.length : Int) = n) (k : Nat) (hk : 110000 ≤ k) : paraphrastref01_Permute.f k n l sy = some (n, l.map (renR sy)) := by
  have h8 := (valid_facts n l hv).2.2.1
  unfold paraphrastref01_Permute.f
  rw [copy_valid n l hv k (by omega), Option.bind_some]
  exact rpermute_l0 n l hv sy hn l.length 0 k (by omega) (by omega)
/-! ### what a permutation does to a valid structure -/
theorem renT_inj (sy : List Int) (hnd : sy.Nodup) (a b : List Int) (hl : a.length = b.length) (ha : ∀ x ∈ a, 0 ≤ x ∧ x < (sy.length : Int)) (hb : ∀ x ∈ b, 0 ≤ x ∧ x < (sy.length : Int)) (h : renT sy a = renT sy b) : a = b := by
  apply List.ext_getElem hl
  intro i h1 h2
  have e : (renT sy a)[i]? = (renT sy b)[i]? := by rw [h]
  unfold renT at e
  rw [List.getElem?_map, List.getElem?_map, List.getElem?_eq_getElem h1, List.getElem?_eq_getElem h2] at e
  have e2 : rd sy a[i] = rd sy b[i] := Option.some.inj e
  obtain ⟨a0, a1⟩ := ha _ (List.getElem_mem h1)
  obtain ⟨b0, b1⟩ := hb _ (List.getElem_mem h2)
  obtain ⟨p, hp⟩ : ∃ p : Nat, a[i] = (p : Int) := ⟨a[i].toNat, by omega⟩
  obtain ⟨q, hq⟩ : ∃ q : Nat, b[i] = (q : Int) := ⟨b[i].toNat, by omega⟩
  rw [hp, hq] at e2 ⊢
  have hpl : p < sy.length := by omega
  have hql : q < sy.length := by omega
  rw [rd_nat sy p hpl, rd_nat sy q hql] at e2
  have hpw := List.pairwise_iff_getElem.1 hnd
  rcases Nat.lt_trichotomy p q with h3 | h3 | h3
  · exact absurd e2 (hpw p q hpl hql h3)
  · rw [h3]
  · exact absurd e2.symm (hpw q p hql hpl h3)
theorem sorted_nodup {ts : List (List Int)} (h : Sorted ts) : ts.Nodup := by
  unfold List.Nodup
  exact List.Pairwise.imp (fun h2 e => by rw [e, lex_irr] at h2; cases h2) h
theorem permFit_of (n : Int) (l : List S52) (hv : validB n l = true) (sy : List Int) (hn : (sy.length : Int) = n) (hnd : sy.Nodup) : permFit l sy := fun r hr => by
  obtain ⟨_, _, _, hall⟩ := valid_facts n l hv
  obtain ⟨_, g1, g2, g3⟩ := hall r hr
  obtain ⟨i, hi, rfl⟩ := List.mem_iff_getElem.1 hr
  have hS := (rel_sorted n _ ((valid_parts n l hv).1 i hi)).1
  have hin : ∀ t ∈ l[i].f2, ∀ x ∈ t, 0 ≤ x ∧ x < (sy.length : Int) := fun t ht x hx => by rw [hn]; exact (g2 t ht).2 x hx
  refine ⟨fun t ht => ⟨?_, by have := (g2 t ht).1; omega, hin t ht⟩, ?_⟩
  · have h1 := (g2 t ht).1
    cases hq : l[i].f2 with
    | nil => rw [hq] at ht; cases ht
    | cons u us =>
      have h2 := (g2 u (by rw [hq]; exact List.mem_cons_self)).1
      show t.length = u.length
      omega
  · unfold List.Nodup
    rw [List.pairwise_map]
    refine List.Pairwise.imp_of_mem (fun {a b} ha hb hne e => hne ?_) (sorted_nodup hS)
    have h1 := (g2 a ha).1
    have h2 := (g2 b hb).1
    exact renT_inj sy hnd a b (by omega) (hin a ha) (hin b hb) e
theorem renR_ok (n : Int) (l : List S52) (hv : validB n l = true) (sy : List Int) : ∀ r ∈ l.map (renR sy), r.f2.length ≤ 100000 ∧ ∀ t ∈ r.f2, t.length ≤ 1000 := fun r hr => by
  obtain ⟨r0, hr0, rfl⟩ := List.mem_map.1 hr
  obtain ⟨_, g1, g2, g3⟩ := (valid_facts n l hv).2.2.2 r0 hr0
  have hal : ∀ a ∈ r0.f2.map (renT sy), a.length = r0.f1.toNat := fun a ha => by
    obtain ⟨t, ht, rfl⟩ := List.mem_map.1 ha
    have := (g2 t ht).1
    unfold renT
    rw [List.length_map]
    omega
  have h1 := sortedB_len (r0.f2.map (renT sy)) []
  rw [List.length_map, List.length_nil] at h1
  refine ⟨by show (sortedB _).length ≤ _; unfold sortedB; omega, fun t ht => ?_⟩
  have := hal t (((sorted_eq r0.f1.toNat (by omega) _ hal (by rw [List.length_map]; omega)).2.2 t).1 ht)
  omega
theorem permutes_law (n : Int) (l : List S52) (sy : List Int) (T : Nat) (hT : T ≤ 9223372036854775807) (hall : ∀ r ∈ l, r.f2.length ≤ T) (hR : ∀ x ∈ sy, -9223372036854775808 ≤ x ∧ x ≤ 9223372036854775807) : ∃ k, paraphrastlaw01_ShapePermutes.f k n l sy = some true := by
  obtain ⟨K, hA⟩ := alive_true
  obtain ⟨kf, bf, hf⟩ := few_ex n l (fun r hr => Nat.le_trans (hall r hr) hT)
  have hf' : ∀ k, kf ≤ k → paraphrastlaw01_Few.f k [⟨n, l⟩] = some bf := fun k hk => at_rounds (paraphrastlaw01_Few.mono _) hk hf
  have is_bad : ∀ (k : Nat) (e : Int), 102300 ≤ k → e ≠ 0 → paraphrastlaw01_is.f k 0 [] e 0 [] e = some true := fun k e hk he => by
    unfold paraphrastlaw01_is.f
    rw [if_neg he, if_pos rfl, same_empty k hk]; rfl
  have is_same : ∀ (k : Nat) (m : Int) (w : List S52), 102300 ≤ k → w.length ≤ 1000 → (∀ r ∈ w, r.f2.length ≤ 100000 ∧ ∀ t ∈ r.f2, t.length ≤ 1000) → paraphrastlaw01_is.f k m w 0 m w 0 = some true := fun k m w hk h1 h2 => by
    unfold paraphrastlaw01_is.f
    rw [if_pos rfl, if_pos rfl, same_refl m w h1 h2 k hk]; rfl
  have tail : ∀ k, K ≤ k → ((some true : Option Bool).bind fun t => if t = true then (paraphrastlaw01_alive.f k).bind fun t => some t else some false) = some true := fun k hk => by
    rw [Option.bind_some, if_pos rfl, hA k hk]; rfl
  refine ⟨kf + K + T + 1013000 + 1, ?_⟩
  unfold paraphrastlaw01_ShapePermutes.f
  rw [hf' _ (by omega), Option.bind_some]
  have hk : K ≤ kf + K + T + 1013000 ∧ T + 1013000 ≤ kf + K + T + 1013000 := by omega
  generalize kf + K + T + 1013000 = k at hk ⊢
  have jt : paraphrastlaw01_ShapePermutes.j0 (k + 1) sy true n l = some true := by
    conv => lhs; unfold paraphrastlaw01_ShapePermutes.j0
    dsimp only
    rw [if_pos rfl, hA k hk.1]; rfl
  cases bf with
  | false => rw [if_neg (by simp)]; exact jt
  | true =>
    rw [if_pos rfl]
    by_cases hs : sy.length ≤ 1000
    · rw [decide_eq_false (by omega)]
      conv => lhs; unfold paraphrastlaw01_ShapePermutes.j0
      dsimp only
      rw [if_neg (by simp), ref_valid_eq n l T hT hall k (by omega), Option.bind_some]
      cases hv : validB n l with
      | false =>
        have hp : shape_Permute.f k n l sy = some (0, [], 1) := by
          unfold shape_Permute.f
          rw [valid_eq n l T hT hall k (by omega), hv]; rfl
        rw [if_neg (by simp), hp, Option.bind_some, is_bad k 1 (by omega) (by omega)]
        exact tail k hk.1
      | true =>
        have hcp : copyOk l := by
          obtain ⟨v1, v2, v3, v4⟩ := valid_facts n l hv
          refine ⟨by omega, fun r hr => ?_⟩
          obtain ⟨_, g1, g2, g3⟩ := v4 r hr
          exact ⟨by omega, fun t ht => by have := (g2 t ht).1; omega⟩
        rw [if_pos rfl, perm_eq n sy hs k (by omega), Option.bind_some]
        cases hy : permYes n sy with
        | false =>
          have hp : shape_Permute.f k n l sy = some (0, [], 2) := by
            unfold shape_Permute.f
            rw [valid_eq n l T hT hall k (by omega), hv, Option.bind_some, if_pos rfl, if_pos ⟨hcp, hs, hR⟩, hy]; rfl
          rw [if_neg (by simp), hp, Option.bind_some, is_bad k 2 (by omega) (by omega)]
          exact tail k hk.1
        | true =>
          have hyy := hy
          unfold permYes at hyy
          rw [Bool.and_eq_true, Bool.and_eq_true, decide_eq_true_eq, decide_eq_true_eq, Bool.not_eq_true'] at hyy
          obtain ⟨hn, hc, hel⟩ := hyy
          have hnd : sy.Nodup := (count_nodupI sy).1 (by omega)
          have hp : shape_Permute.f k n l sy = some (n, l.map (renR sy), 0) := by
            unfold shape_Permute.f
            rw [valid_eq n l T hT hall k (by omega), hv, Option.bind_some, if_pos rfl, if_pos ⟨hcp, hs, hR⟩, hy, if_pos rfl, if_pos (permFit_of n l hv sy hn hnd)]
          rw [if_pos rfl, rpermute_eq n l hv sy hn k (by omega), Option.bind_some, hp, Option.bind_some, is_same k n (l.map (renR sy)) (by omega) (by rw [List.length_map]; have := (valid_facts n l hv).2.2.1; omega) (renR_ok n l hv sy)]
          exact tail k hk.1
    · rw [decide_eq_true (by omega)]
      exact jt
end Go.Proofs.YtfmpaofbnjlniaaGreatDoor.F
/- ShapePermutes: the row and its card. -/
namespace Go.Proofs.YtfmpaofbnjlniaaGreatDoor.F
open Go.RowKit Go.WideShapes Go.ChangeShapes Go.ChangeAt Go.Proofs.YtfmpaofbnjlniaaGreatDoorW.PrintWords Go.Proofs.YtfmpaofbnjlniaaGreatDoorW.PrintLast Go.Proofs.YtfmpaofbnjlniaaGreatDoorW.PrintMore
open Go.ChangeMaps (open_string shut_string)
set_option linter.unusedVariables false
set_option linter.unusedSimpArgs false
set_option maxHeartbeats 1000000 in
set_option maxRecDepth 100000 in
theorem shapePermutes_lifted (os : Os) (started : os.Started) (H : Type) (enc : TypeId × Value → H) :
    ReturnsInHanded {} Tryz.checked os 6 .any (fun w args => (Rows.shapePermutesSpec.pre enc Tryz.prog Tryz.f6 Rows.shapePermutesRow.domain false w args ∧ laidMetH Tryz.prog laidL w) ∧ sizedMet enc Tryz.prog Tryz.f6 (OpenSpec.ofChange Rows.shapePermutesSpec) false w args)
      (Rows.shapePermutesSpec.post enc Tryz.prog Tryz.f6 false true false false) := by
  refine returns_and_shaped (C := Tryz.checked) (X := fun w _ => laidMetH Tryz.prog laidL w) (fun _ _ _ hh h => h.of_heap hh) own started (by kernel_rfl) Tryz.func6
    (ChangeSpec.witness_shaped (enc := enc) (C := Tryz.checked) (os := os) (X := fun w _ => laidMetH Tryz.prog laidL w) false (World.laidAll Tryz.prog os laidL) #[.agg #[.int .i64 0, .slice none 0 0], .slice none 0 0] 8 (World.laidAll_os _ _ _)
      (World.shaped_of_ZipB (by kernel_rfl) (by kernel_rfl)) (by kernel_rfl) (by kernel_rfl) (by kernel_rfl)
      (by rw [MakeChecks.laidMetH_plain _ _ _ (by kernel_rfl)]; exact laidMet_laidAll _ (by kernel_rfl) (by kernel_rfl))) ?_
  intro W base args ds gs before hval0 hW hsh hL
  have hval : ∀ (j : Nat) t v, Tryz.f6.params[j]? = some t → args[j]? = some v → Value.okWide Tryz.prog W .any base t v := hval0
  have hW' := hW
  obtain ⟨p, q, hA0, hV, rfl, hfz, hnd⟩ := hW
  have hA : DataW.TrodAll enc Tryz.prog W 0 (fun _ => true) true Tryz.f6.params.toList args.toList ds p := hA0
  rw [Tryz.params6] at hA hval
  obtain ⟨v0, vs0, d0, ds0, p0, q0, hargs, rfl, rfl, h0, r0⟩ := trodAll_cons hA
  obtain ⟨v1, vs1, d1, ds1, p1, q1, rfl, rfl, rfl, h1, r1⟩ := trodAll_cons r0
  obtain ⟨rfl, rfl, rfl⟩ := trodAll_nil r1
  obtain rfl : args = #[v0, v1] := by cases args; simp_all
  obtain ⟨rfl, rfl⟩ := trodVars_none hV
  have k0 := h0
  have lt0 : ∀ x ∈ p0, x.block < W.heap.size := by obtain ⟨m, hm⟩ := k0; exact DataW.trod_lt m _ _ _ hm
  obtain ⟨cs0, rfl, _⟩ := okWide_struct Tryz.underlying24 (hval 0 24 v0 rfl rfl)
  obtain ⟨m0, e0⟩ := h0
  obtain ⟨⟨x0, l0⟩, hK0⟩ := opens_structure enc _ _ _ e0
  obtain ⟨A0, c0, ec0, hlc0, hC0⟩ := k24_open hK0
  obtain rfl : cs0 = #[.int .i64 x0, .slice A0 l0.length c0] := Array.ext' (by simpa [Value.cells] using ec0)
  have k1 := h1
  have lt1 : ∀ x ∈ p1, x.block < W.heap.size := by obtain ⟨m, hm⟩ := k1; exact DataW.trod_lt m _ _ _ hm
  obtain ⟨a1, len1, cap1, rfl⟩ := okWide_slice Tryz.underlying46 (hval 1 46 v1 rfl rfl)
  obtain ⟨m1, e1⟩ := h1
  obtain ⟨l1, A1, c1, ec1, hlc1, hC1, hR1⟩ := opens_intsR enc _ _ _ e1
  obtain ⟨rfl, rfl, rfl⟩ : a1 = A1 ∧ len1 = l1.length ∧ cap1 = c1 := by simpa [Value.cells] using ec1
  obtain ⟨k, hk⟩ := permutes_law x0 l0 l1 9223372036854775807 (Nat.le_refl _) (rels_max hC0) hR1
  refine (paraphrastlaw01_ShapePermutes.calls k x0 (fun k => k < W.heap.size) A0 c0 l0 a1 cap1 l1 true W (glob_of_laid hsh hL) (Kd.V_mk hlc0 (Kd.C_F k52_heap hC0)) hC1 hlc1 hk).mono fun e W' he => ?_
  obtain ⟨he, bel⟩ := he
  subst he
  exact ⟨_, rfl, _, _, _, [], _, [], hW', trodAll_mk1 (shut_bool Tryz.underlying4 _), (trodAll_cons_mk (Below.trod laidOut (by kernel_rfl) (of_decide_eq_true (by kernel_rfl)) k0 bel lt0) (trodAll_cons_mk (Below.trod laidOut (by kernel_rfl) (of_decide_eq_true (by kernel_rfl)) k1 bel lt1) trodAll_mk0)), rfl, bel.frame _, fun h => by cases h⟩
theorem shapePermutes_holds : Rows.ShapePermutesSaid :=
  OpenClaim.holds_of_wide 6 Tryz.f6 rfl rfl rfl rfl rfl rfl rfl ⟨rfl, rfl, rfl, rfl, rfl⟩ rfl rfl rfl rfl rfl (by kernel_rfl) Tryz.func6 (by kernel_rfl)
    (of_decide_eq_true (by kernel_rfl)) (by unfold Func.isWrapper; first | (rw [if_pos (by decide +kernel)]; kernel_rfl) | (rw [if_neg (by decide +kernel)]; exact ⟨rfl, rfl⟩))
    (fun os started H enc _ => shapePermutes_lifted os started H enc)
end Go.Proofs.YtfmpaofbnjlniaaGreatDoor.F
namespace Go.Proofs.YtfmpaofbnjlniaaGreatDoor
open F
theorem shapePermutes_card : Rows.ShapePermutesCardSaid :=
  Claim7.holds_tied_plain_at .later [] [.data, .data, .data, .data, .sentinel, .sentinel, .pinned] true (true, "0b2e56867fdebc6e4a4706954466a18a4e5a5153ee6e2b3ed723d8acf71f299f") true shapePermutes_holds (fun _ h => by cases h) (by kernel_rfl) (fun _ h => by cases h) shapePermutes_row_tie rfl ⟨rfl, rfl⟩ (by kernel_rfl) rfl
    (fun f fn hf hfn => by
      obtain rfl : f = 6 := Option.some.inj ((show Tryz.prog.funcNamed "paraphrast/paraphrastlaw01.ShapePermutes" = some 6 by kernel_rfl).symm.trans hf) |>.symm
      obtain rfl : fn = Tryz.f6 := (Option.some.inj (Tryz.func6.symm.trans hfn)).symm
      exact ⟨by kernel_rfl, fun j t ht => by
        rw [Tryz.params6] at ht
        have hm : t ∈ [24, 46] := by simpa using Array.mem_of_getElem? ht
        have hall : ([24, 46].all fun u => !Tryz.prog.wantsStandIn u) = true := by kernel_rfl
        exact (show Tryz.prog.wantsStandIn t = false by simpa using List.all_eq_true.1 hall t hm)⟩)
    (by kernel_rfl)
#print axioms shapePermutes_card
end Go.Proofs.YtfmpaofbnjlniaaGreatDoor
