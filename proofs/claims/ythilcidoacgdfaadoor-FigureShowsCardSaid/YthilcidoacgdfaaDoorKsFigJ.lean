/- The document's numbers as texts: plain. -/
import Derived.Test.YthilcidoacgdfaaDoorKsFigB
namespace Go.Proofs.YthilcidoacgdfaaDoor.CharB
end Go.Proofs.YthilcidoacgdfaaDoor.CharB
namespace Go.Proofs.YthilcidoacgdfaaDoor.CharC
end Go.Proofs.YthilcidoacgdfaaDoor.CharC
namespace Go.Proofs.YthilcidoacgdfaaDoor.CharD
end Go.Proofs.YthilcidoacgdfaaDoor.CharD
namespace Go.Proofs.YthilcidoacgdfaaDoor.CharF
end Go.Proofs.YthilcidoacgdfaaDoor.CharF
namespace Go.Proofs.YthilcidoacgdfaaDoor.DecA
end Go.Proofs.YthilcidoacgdfaaDoor.DecA
namespace Go.Proofs.YthilcidoacgdfaaDoor.DecB
end Go.Proofs.YthilcidoacgdfaaDoor.DecB
namespace Go.Proofs.YthilcidoacgdfaaDoor.DecE
end Go.Proofs.YthilcidoacgdfaaDoor.DecE
namespace Go.Proofs.YthilcidoacgdfaaDoor.DecF
end Go.Proofs.YthilcidoacgdfaaDoor.DecF
namespace Go.Proofs.YthilcidoacgdfaaDoor.FigA
end Go.Proofs.YthilcidoacgdfaaDoor.FigA
namespace Go.Proofs.YthilcidoacgdfaaDoor.FigB
end Go.Proofs.YthilcidoacgdfaaDoor.FigB
namespace Go.Proofs.YthilcidoacgdfaaDoor.PF
end Go.Proofs.YthilcidoacgdfaaDoor.PF
namespace Go.Proofs.YthilcidoacgdfaaDoor.SpanA
end Go.Proofs.YthilcidoacgdfaaDoor.SpanA
namespace Go.Proofs.YthilcidoacgdfaaDoorW.PrintLast
end Go.Proofs.YthilcidoacgdfaaDoorW.PrintLast
namespace Go.Proofs.YthilcidoacgdfaaDoorW.PrintMore
end Go.Proofs.YthilcidoacgdfaaDoorW.PrintMore
namespace Go.Proofs.YthilcidoacgdfaaDoorW.PrintWords
end Go.Proofs.YthilcidoacgdfaaDoorW.PrintWords
namespace Go.Proofs.YthilcidoacgdfaaDoor.FigJ
open Go.RowKit Go.Proofs.YthilcidoacgdfaaDoorW.PrintWords Go.Proofs.YthilcidoacgdfaaDoorW.PrintLast Go.Proofs.YthilcidoacgdfaaDoorW.PrintMore Go.Proofs.YthilcidoacgdfaaDoor.CharB Go.Proofs.YthilcidoacgdfaaDoor.CharC Go.Proofs.YthilcidoacgdfaaDoor.CharD Go.Proofs.YthilcidoacgdfaaDoor.CharF Go.Proofs.YthilcidoacgdfaaDoor.SpanA Go.Proofs.YthilcidoacgdfaaDoor.DecA Go.Proofs.YthilcidoacgdfaaDoor.DecB Go.Proofs.YthilcidoacgdfaaDoor.DecE Go.Proofs.YthilcidoacgdfaaDoor.DecF Go.Proofs.YthilcidoacgdfaaDoor.FigA Go.Proofs.YthilcidoacgdfaaDoor.FigB Go.Proofs.YthilcidoacgdfaaDoor.PF
set_option linter.unusedVariables false
set_option linter.unusedSimpArgs false
theorem w6 {n : Int} (h0 : -9223372036854775808 ≤ n) (h1 : n ≤ 9223372036854775807) : wrap64 n = n := by unfold wrap64; omega
theorem bs {α β : Type} (a : α) (f : α → Option β) : (some a).bind f = f a := rfl
/-! ### digits -/
theorem cut_dig (d : Int) (h : 0 ≤ d ∧ d ≤ 9) : (⟨#[48, 49, 50, 51, 52, 53, 54, 55, 56, 57]⟩ : ByteArray).extract d.toNat (d + 1).toNat = ba [chD d] := by
  have : ∀ d : Fin 10, (⟨#[48, 49, 50, 51, 52, 53, 54, 55, 56, 57]⟩ : ByteArray).extract ((d.1 : Nat) : Int).toNat (((d.1 : Nat) : Int) + 1).toNat = ba [chD ((d.1 : Nat) : Int)] := by decide +kernel
  obtain ⟨n, rfl⟩ : ∃ n : Nat, d = (n : Int) := ⟨d.toNat, by omega⟩
  exact this ⟨n, by omega⟩
theorem pad_at (m : Nat) (l : List Int) (i : Nat) (h : i < max m l.length) : (padL m l).drop i = (l.getD i 0) :: (padL m l).drop (i + 1) := by
  have hl : i < (padL m l).length := by rw [pad_len]; exact h
  have h2 : (padL m l)[i]? = some (l.getD i 0) := by
    unfold padL
    by_cases hi : i < l.length
    · rw [List.getElem?_append_left hi]; simp [List.getD, hi]
    · rw [List.getElem?_append_right (by omega), List.getElem?_replicate, if_pos (by omega)]; simp [List.getD, List.getElem?_eq_none (show l.length ≤ i by omega)]
  rw [List.drop_eq_getElem_cons hl, (List.getElem?_eq_some_iff.1 h2).2]
theorem digits_l0 (l : List Int) (m : Nat) (hd : Dig l) (hl : l.length ≤ 100) (hm : m ≤ 100) : ∀ (d i k : Nat) (out : List UInt8), max m l.length = i + d → 2 * d + 3 < k → out.length ≤ i → breviaryref04_digits.l0 k l (m : Int) (ba out) (i : Int) = some (ba (ascL ((padL m l).drop i) ++ out)) := by
  intro d
  induction d with
  | zero =>
    intro i k out h hk ho
    obtain ⟨k, rfl⟩ : ∃ j, k = j + 2 := ⟨k - 2, by omega⟩
    rw [breviaryref04_digits.l0, if_neg (by omega), show decide ((i : Int) < (m : Int)) = false by simp; omega, breviaryref04_digits.j1, if_neg (by simp), List.drop_eq_nil_of_le (by rw [pad_len]; omega)]
    rfl
  | succ d ih =>
    intro i k out h hk ho
    obtain ⟨k, rfl⟩ : ∃ j, k = j + 2 := ⟨k - 2, by omega⟩
    have hz : (ba out).size = out.length := ba_size out
    have hg := dig_get hd i
    have hnext : breviaryref04_digits.l0 k l (m : Int) (ba [chD (l.getD i 0)] ++ ba out) (wrap64 ((i : Int) + 1)) = some (ba (ascL ((padL m l).drop i) ++ out)) := by
      rw [w6 (by omega) (by omega), show ((i : Int) + 1) = ((i + 1 : Nat) : Int) by omega, ba_app, ih (i + 1) k _ (by omega) (by omega) (by simp; omega), pad_at m l i (by omega), asc_cons, List.append_assoc]
    have hj : breviaryref04_digits.j1 (k + 1) l (m : Int) (ba out) (i : Int) true = some (ba (ascL ((padL m l).drop i) ++ out)) := by
      rw [breviaryref04_digits.j1, if_pos rfl]
      by_cases hi : i < l.length
      · rw [if_pos (by omega), if_pos (by omega), rd_eq]
        generalize hgg : l.getD i 0 = g at *
        rw [if_pos hg.1, w6 (n := g + 1) (by omega) (by omega), if_pos (by omega), if_pos (by omega), cut_dig g hg, if_pos (by rw [ba_size, hz]; simp; omega)]
        exact hnext
      · rw [if_neg (by omega), if_pos (by omega), if_pos (by omega)]
        have e0 : l.getD i 0 = 0 := by simp [List.getD, List.getElem?_eq_none (show l.length ≤ i by omega)]
        rw [e0] at hnext
        have e1 : (⟨#[48, 49, 50, 51, 52, 53, 54, 55, 56, 57]⟩ : ByteArray).extract 0 (((0 : Int) + 1)).toNat = ba [chD 0] := by decide +kernel
        rw [e1, if_pos (by rw [ba_size, hz]; simp; omega)]
        exact hnext
    rw [breviaryref04_digits.l0]
    by_cases hi : i < l.length
    · rw [if_pos (by omega)]; exact hj
    · rw [if_neg (by omega), show decide ((i : Int) < (m : Int)) = true by simp; omega]; exact hj
theorem ref_digits (n m k : Nat) (hn : n < 18446744073709551616) (hm : m ≤ 100) (hk : 300 < k) : breviaryref04_digits.f k (dg n) (m : Int) = some (ba (decP m n)) := by
  have hl := dg_le_length 20 n (Nat.lt_trans hn (by decide))
  unfold breviaryref04_digits.f
  have := digits_l0 (dg n) m (dg_dig n) (by omega) hm (max m (dg n).length) 0 k [] (by omega) (by omega) (by simp)
  rw [List.drop_zero, List.append_nil] at this
  exact this
/-! ### Show -/
theorem trimZ_snoc (z : List UInt8) (c : UInt8) : trimZ (z ++ [c]) = if c = 48 then trimZ z else z ++ [c] := by
  unfold trimZ
  rw [List.reverse_append, List.reverse_singleton, List.singleton_append, List.dropWhile_cons]
  by_cases h : c = 48
  · rw [if_pos (by simpa using h), if_pos h]
  · rw [if_neg (by simpa using h), if_neg h, List.reverse_cons, List.reverse_reverse]
theorem bt_last (z : List UInt8) (c : UInt8) : bt (ba (z ++ [c])) (z.length : Int) = (c.toNat : Int) := by
  rw [bt_n, ba_list]
  simp [List.getD]
theorem show_l0 (a : List UInt8) (t v : Int) (X : Option ByteArray) : ∀ (n k : Nat) (z : List UInt8), z.length = n → n ≤ 1000 → n + 5 < k → (∀ k', 3 ≤ k' → breviaryref04_Show.j2 k' (ba a) (ba (trimZ z)) t v = X) → breviaryref04_Show.l0 k (ba a) (ba z) t v = X := by
  intro n
  induction n with
  | zero =>
    intro k z hz hn hk hX
    obtain ⟨k, rfl⟩ : ∃ j, k = j + 1 := ⟨k - 1, by omega⟩
    obtain rfl : z = [] := List.length_eq_zero_iff.1 hz
    rw [breviaryref04_Show.l0, if_neg (by simp [ba_size])]
    exact hX k (by omega)
  | succ n ih =>
    intro k z hz hn hk hX
    obtain ⟨k, rfl⟩ : ∃ j, k = j + 1 := ⟨k - 1, by omega⟩
    obtain ⟨y, c, rfl⟩ : ∃ y c, z = y ++ [c] := ⟨z.dropLast, z.getLast (by intro e; rw [e] at hz; simp at hz), (List.dropLast_concat_getLast _).symm⟩
    have hy : y.length = n := by simp at hz; exact hz
    have hs : (ba (y ++ [c])).size = n + 1 := by rw [ba_size]; exact hz
    have e1 : wrap64 (((ba (y ++ [c])).size : Int) - 1) = (y.length : Int) := by rw [hs, w6 (by omega) (by omega)]; omega
    rw [breviaryref04_Show.l0, if_pos (by rw [hs]; omega), e1, if_pos (by omega), if_pos (by rw [hs]; omega), bt_last]
    rw [trimZ_snoc] at hX
    by_cases hc : c = 48
    · rw [if_pos (by rw [hc]; rfl), if_pos (by rw [hs]; omega)]
      rw [if_pos hc] at hX
      have e2 : (ba (y ++ [c])).extract 0 ((y.length : Int)).toNat = ba y := ext_list (by rw [extract_list, ba_list, ba_list]; simp)
      rw [e2]
      exact ih k y hy (by omega) (by omega) hX
    · rw [if_neg (fun e => hc (by apply UInt8.toNat_inj.1; have : c.toNat = 48 := by omega
                                  rw [this]; rfl))]
      rw [if_neg hc] at hX
      exact hX k (by omega)
theorem show_j2 (a z : List UInt8) (ha : a.length ≤ 100) (hz : z.length ≤ 100) (t v : Int) (k : Nat) (hk : 3 ≤ k) : breviaryref04_Show.j2 k (ba a) (ba z) t v = some (ba ((if v < 0 then [45] else []) ++ (a ++ (if z = [] then [] else 46 :: z)))) := by
  obtain ⟨k, rfl⟩ : ∃ j, k = j + 1 := ⟨k - 1, by omega⟩
  have tz : (ba z).toList = z := by rw [ByteArray.toList_eq, ba_list]
  have sa : (ba a).size = a.length := ba_size a
  have sz : (ba z).size = z.length := ba_size z
  have e1 : ba a ++ (⟨#[46]⟩ : ByteArray) = ba (a ++ [46]) := ba_app a [46]
  have s1 : (ba (a ++ [46])).size = a.length + 1 := by rw [ba_size]; simp
  have s2 : (ba (a ++ [46] ++ z)).size = a.length + 1 + z.length := by rw [ba_size]; simp; omega
  rw [breviaryref04_Show.j2, tz]
  by_cases h0 : z = []
  · rw [if_pos h0, if_pos h0, List.append_nil]
    by_cases hv : v < 0
    · rw [if_pos hv, if_pos hv, if_pos (by omega)]; exact congrArg some (ba_app [45] a)
    · rw [if_neg hv, if_neg hv]; rfl
  · rw [if_neg h0, if_neg h0, if_pos (by omega), e1, if_pos (by omega), ba_app]
    have e3 : a ++ [46] ++ z = a ++ 46 :: z := by simp
    by_cases hv : v < 0
    · rw [if_pos hv, if_pos hv, if_pos (by omega), e3]; exact congrArg some (ba_app [45] (a ++ 46 :: z))
    · rw [if_neg hv, if_neg hv, e3]; rfl
theorem ref_show (t v : Int) (hv : I64 v) (k : Nat) (hk : 2000 < k) : breviaryref04_Show.f k t v = some (ba (showS (t, v))) := by
  unfold breviaryref04_Show.f
  rw [ref_Right_f, bs]
  obtain ⟨k, rfl⟩ : ∃ j, k = j + 1 := ⟨k - 1, by omega⟩
  cases hr : rightB (t, v) with
  | false =>
    rw [if_neg (by simp), breviaryref04_Show.j0, if_pos rfl]
    unfold showS
    rw [if_pos (.inl hr)]
    rfl
  | true =>
    rw [if_pos rfl, breviaryref04_Show.j0]
    by_cases h1 : t = 1
    · have e : showS (t, v) = [78, 97, 78] := by unfold showS; rw [if_pos (.inr h1)]
      rw [if_pos (by simpa using h1), e]; rfl
    have hsh : showS (t, v) = if t = 2 then [73, 110, 102, 105, 110, 105, 116, 121] else if t = 3 then [45, 73, 110, 102, 105, 110, 105, 116, 121] else (if v < 0 then [45] else []) ++ showN (ab v).toNat := by
      unfold showS
      rw [if_neg (show ¬ (rightB (t, v) = false ∨ t = 1) from fun q => by rcases q with q | q; exact absurd (hr.symm.trans q) (by simp); exact h1 q)]
    rw [if_neg (by simpa using h1), hsh]
    by_cases h2 : t = 2
    · rw [if_pos h2, if_pos h2]; rfl
    rw [if_neg h2, if_neg h2]
    by_cases h3 : t = 3
    · rw [if_pos h3, if_pos h3]; rfl
    rw [if_neg h3, if_neg h3]
    have hvb : -9223372036854775807 ≤ v ∧ v ≤ 9223372036854775807 := by
      unfold I64 at hv
      unfold rightB at hr
      by_cases h0 : t = 0
      · rw [if_pos h0] at hr
        have : v ≠ -9223372036854775808 := by simpa using hr
        omega
      · rw [if_neg h0] at hr
        simp at hr
        omega
    obtain ⟨n, hn, hmax⟩ := ab_nat hvb
    rw [ref_Size_f (by omega) hvb, bs, hn, Int.toNat_natCast]
    have hd := ref_digits n 7 k (by omega) (by omega) (by omega)
    rw [show ((7 : Nat) : Int) = 7 from rfl] at hd
    rw [hd, bs, decP_split 1 6 n, show (10 : Nat) ^ 6 = 1000000 from rfl]
    have h6 := decP6_len n
    have hla : (decP 1 (n / 1000000)).length ≤ 20 := by
      rw [decP_len]
      have := dg_le_length 20 (n / 1000000) (Nat.lt_of_le_of_lt (Nat.div_le_self _ _) (Nat.lt_of_le_of_lt hmax (by decide)))
      omega
    have hne := decP_ne 1 (n / 1000000) (by omega)
    unfold showN
    generalize decP 1 (n / 1000000) = a at *
    generalize decP 6 (n % 1000000) = z at *
    have hs : (ba (a ++ z)).size = a.length + 6 := by rw [ba_size, List.length_append, h6]
    have e1 : wrap64 (((ba (a ++ z)).size : Int) - 6) = (a.length : Int) := by rw [hs, w6 (by omega) (by omega)]; omega
    have e2 : (ba (a ++ z)).extract 0 ((a.length : Int)).toNat = ba a := ext_list (by rw [extract_list, ba_list, ba_list]; simp)
    have e3 : (ba (a ++ z)).extract ((a.length : Int)).toNat (ba (a ++ z)).size = ba z := ext_list (by rw [extract_list, ba_list, ba_list, hs]; simp; exact List.take_of_length_le (by omega))
    rw [e1, if_pos (by omega), if_pos (by rw [hs]; omega), e2, e3]
    have hk' := trimZ_spec z
    obtain ⟨j, hj⟩ := hk'
    have hjl := congrArg List.length hj
    rw [h6, List.length_append] at hjl
    refine show_l0 a t v _ 6 k z h6 (by omega) (by omega) (fun k' hk' => ?_)
    rw [show_j2 a (trimZ z) (by omega) (by omega) t v k' hk']
/-! ### Lit -/
/-! ### Read -/
end Go.Proofs.YthilcidoacgdfaaDoor.FigJ
