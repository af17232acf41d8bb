/- The reference's product and quotient of lists of digits. -/
import Derived.Test.YticpobgkbapdmaaCdDecB
namespace Go.Proofs.Yticpobgkbapdmaa.DecA
end Go.Proofs.Yticpobgkbapdmaa.DecA
namespace Go.Proofs.Yticpobgkbapdmaa.DecB
end Go.Proofs.Yticpobgkbapdmaa.DecB
namespace Go.Proofs.Yticpobgkbapdmaa.PD
end Go.Proofs.Yticpobgkbapdmaa.PD
namespace Go.Proofs.YticpobgkbapdmaaW.PrintLast
end Go.Proofs.YticpobgkbapdmaaW.PrintLast
namespace Go.Proofs.YticpobgkbapdmaaW.PrintMore
end Go.Proofs.YticpobgkbapdmaaW.PrintMore
namespace Go.Proofs.YticpobgkbapdmaaW.PrintWords
end Go.Proofs.YticpobgkbapdmaaW.PrintWords
namespace Go.Proofs.Yticpobgkbapdmaa.DecC
open Go.RowKit Go.Proofs.Yticpobgkbapdmaa.PD Go.Proofs.YticpobgkbapdmaaW.PrintWords Go.Proofs.YticpobgkbapdmaaW.PrintLast Go.Proofs.YticpobgkbapdmaaW.PrintMore Go.Proofs.Yticpobgkbapdmaa.DecA Go.Proofs.Yticpobgkbapdmaa.DecB

theorem val_set : ∀ (l : List Int) (m : Nat) (v : Int), m < l.length → val (l.set m v) = val l + 10 ^ m * (v - l.getD m 0)
  | [], m, v, h => by simp at h
  | d :: l, 0, v, _ => by simp [val]; omega
  | d :: l, m + 1, v, h => by
    have := val_set l m v (by simpa using h)
    simp only [List.set_cons_succ, val, this, Int.pow_succ, List.getD_cons_succ]
    grind
theorem getD_set (l : List Int) (m j : Nat) (v : Int) (h : m < l.length) : (l.set m v).getD j 0 = if m = j then v else l.getD j 0 := by
  simp only [List.getD, List.getElem?_set]
  by_cases e : m = j
  · subst e; simp [h]
  · simp [e]

theorem alg_end {V E p P a Y : Int} (h : V + E * 0 = p * Y + P * (a * Y)) : V = (p + P * a) * Y := by grind
theorem alg_step {V Ei Ej c p Y a t b g q r : Int} (h : V + (Ei * Ej) * c = p * Y + Ei * (a * t)) (hs : g + a * b + c = 10 * q + r) :
    (V + (Ei * Ej) * (r - g)) + (Ei * Ej * 10) * q = p * Y + Ei * (a * (t + Ej * b)) := by
  have e : r = g + a * b + c - 10 * q := by omega
  subst e
  grind
/-! ### product -/
/-- One digit of the first number, times the second one. -/
theorem product_l1 (x y : List Int) (hx : x.length ≤ 40) (hy : y.length ≤ 40) (hdx : Dig x) (hdy : Dig y) (i : Nat) (hi : i < x.length) : ∀ (d : Nat) (j : Nat) (l : List Int) (c : Int) (k : Nat),
    j + d = y.length + 1 → d < k → l.length = x.length + y.length + 1 → Dig l → 0 ≤ c → c ≤ 9 → (j = y.length + 1 → c = 0) → (∀ m, i + y.length ≤ m → i + j ≤ m → l.getD m 0 = 0) →
    val l + 10 ^ (i + j) * c = val (x.take i) * val y + 10 ^ i * (x.getD i 0 * val (y.take j)) →
    ∃ l' k', breviaryref03_product.l1 k x y l (i : Int) c (j : Int) = breviaryref03_product.l0 k' x y l' ((i + 1 : Nat) : Int) ∧ k ≤ k' + d + 1 ∧ l'.length = x.length + y.length + 1 ∧ Dig l' ∧
      (∀ m, i + 1 + y.length ≤ m → l'.getD m 0 = 0) ∧ val l' = val (x.take (i + 1)) * val y := by
  intro d
  induction d with
  | zero =>
    intro j l c k hd hk hl hdl h0 h9 hc hz hv
    obtain ⟨k, rfl, _⟩ := succ_of hk
    have hc0 := hc (by omega)
    simp only [breviaryref03_product.l1]
    rw [if_neg (by omega), if_neg (by omega), w64 (by omega) (by omega)]
    refine ⟨l, k, by congr 1, by omega, hl, hdl, fun m hm => hz m (by omega) (by omega), ?_⟩
    rw [show y.take j = y from List.take_of_length_le (by omega), hc0] at hv
    rw [val_take_succ]
    exact alg_end hv
  | succ d ih =>
    intro j l c k hd hk hl hdl h0 h9 hc hz hv
    obtain ⟨k, rfl, hk'⟩ := succ_of hk
    have gx := dig_get hdx i
    have gy := dig_get hdy j
    have gl := dig_get hdl (i + j)
    have zy : y.length ≤ j → y.getD j 0 = 0 := fun h => getD_ge h
    have hsum : (i : Int) + (j : Int) = ((i + j : Nat) : Int) := by omega
    have e1 : ((j : Int) + 1) = ((j + 1 : Nat) : Int) := by omega
    have hmul : 0 ≤ x.getD i 0 * y.getD j 0 ∧ x.getD i 0 * y.getD j 0 ≤ 81 := by
      refine ⟨Int.mul_nonneg gx.1 gy.1, ?_⟩
      have := Int.mul_le_mul gx.2 gy.2 gy.1 (by omega : (0 : Int) ≤ 9)
      omega
    have step : ∀ (hlt : i + j < l.length), (j = y.length → c ≤ 9 ∧ l.getD (i + j) 0 = 0) →
        ∃ l' k', breviaryref03_product.l1 k x y (l.set (((i : Int) + (j : Int)).toNat) (Int.tmod (wrap64 (wrap64 (rd l ((i : Int) + (j : Int)) + wrap64 (rd x (i : Int) * y.getD j 0)) + c)) 10)) (i : Int) (wrap64 (Int.tdiv (wrap64 (wrap64 (rd l ((i : Int) + (j : Int)) + wrap64 (rd x (i : Int) * y.getD j 0)) + c)) 10)) (wrap64 ((j : Int) + 1)) = breviaryref03_product.l0 k' x y l' ((i + 1 : Nat) : Int) ∧ k ≤ k' + d + 1 ∧ l'.length = x.length + y.length + 1 ∧ Dig l' ∧
          (∀ m, i + 1 + y.length ≤ m → l'.getD m 0 = 0) ∧ val l' = val (x.take (i + 1)) * val y := by
      intro hlt hlast
      rw [hsum, rd_eq, rd_eq, Int.toNat_natCast]
      have hP : ∃ P, P = x.getD i 0 * y.getD j 0 := ⟨_, rfl⟩
      obtain ⟨P, hP⟩ := hP
      have hPz : j = y.length → P = 0 := fun h => by rw [hP, zy (by omega), Int.mul_zero]
      rw [← hP] at hmul ⊢
      have hw1 : wrap64 P = P := w64 (by omega) (by omega)
      have hw2 : wrap64 (l.getD (i + j) 0 + P) = l.getD (i + j) 0 + P := w64 (by omega) (by omega)
      have hw3 : wrap64 (l.getD (i + j) 0 + P + c) = l.getD (i + j) 0 + P + c := w64 (by omega) (by omega)
      rw [hw1, hw2, hw3, Int.tmod_eq_emod_of_nonneg (by omega), Int.tdiv_eq_ediv_of_nonneg (by omega), w64 (x := (j : Int) + 1) (by omega) (by omega), e1]
      have hw4 : wrap64 ((l.getD (i + j) 0 + P + c) / 10) = (l.getD (i + j) 0 + P + c) / 10 := w64 (by omega) (by omega)
      rw [hw4]
      refine ih (j + 1) _ _ k (by omega) (by omega) (by simp [hl]) (dig_set hdl _ (by omega) (by omega)) (by omega) (by omega) ?_ ?_ ?_
      · intro he
        have h1 := hlast (by omega)
        have h2 := hPz (by omega)
        omega
      · intro m h1 h2
        rw [getD_set _ _ _ _ hlt, if_neg (by omega)]
        exact hz m h1 (by omega)
      · rw [val_set _ _ _ hlt, val_take_succ y j, show i + (j + 1) = (i + j) + 1 by omega, Int.pow_succ, Int.pow_add]
        rw [Int.pow_add] at hv
        exact alg_step hv (by rw [← hP]; omega)
    have hend : c = 0 → y.length ≤ j → val l = val (x.take (i + 1)) * val y := fun hc0 hj => by
      rw [show y.take j = y from List.take_of_length_le hj, hc0] at hv
      rw [val_take_succ]
      exact alg_end hv
    have hzj := hz (i + y.length) (Nat.le_refl _)
    clear hv hmul gx gy gl zy
    simp only [breviaryref03_product.l1]
    have hwrap : wrap64 ((i : Int) + (j : Int)) = (i : Int) + (j : Int) := w64 (by omega) (by omega)
    by_cases hj : j < y.length
    · rw [if_pos (by omega), hwrap, if_pos (by omega), if_pos (by omega), if_pos (by omega), if_pos (by omega), at_f]
      simp only [Option.bind_some]
      obtain ⟨l', k', h1, h2, h3⟩ := step (by omega) (by omega)
      exact ⟨l', k', h1, by omega, h3⟩
    · rw [if_neg (by omega)]
      have hj' : j = y.length := by omega
      by_cases hc' : c > 0
      · rw [if_pos hc', hwrap, if_pos (by omega), if_pos (by omega), if_pos (by omega), if_pos (by omega), at_f]
        simp only [Option.bind_some]
        obtain ⟨l', k', h1, h2, h3⟩ := step (by omega) (fun _ => ⟨h9, hz _ (by omega) (by omega)⟩)
        exact ⟨l', k', h1, by omega, h3⟩
      · rw [if_neg hc', w64 (by omega) (by omega)]
        refine ⟨l, k, by congr 1, by omega, hl, hdl, fun m hm => hz m (by omega) (by omega), ?_⟩
        exact hend (by omega) (by omega)
theorem product_l0 (x y : List Int) (hx : x.length ≤ 40) (hy : y.length ≤ 40) (hdx : Dig x) (hdy : Dig y) : ∀ (d : Nat) (i : Nat) (l : List Int) (k : Nat),
    i + d = x.length → d * 50 + 1005 < k → l.length = x.length + y.length + 1 → Dig l → (∀ m, i + y.length ≤ m → l.getD m 0 = 0) → val l = val (x.take i) * val y →
    breviaryref03_product.l0 k x y l (i : Int) = some (dg (val x * val y).toNat) := by
  intro d
  induction d with
  | zero =>
    intro i l k hd hk hl hdl hz hv
    obtain ⟨k, rfl, _⟩ := succ_of (show 1004 < k by omega)
    simp only [breviaryref03_product.l0]
    rw [if_neg (by omega), trim_f (by omega) (by omega) hdl, hv, List.take_of_length_le (by omega)]
    rfl
  | succ d ih =>
    intro i l k hd hk hl hdl hz hv
    obtain ⟨k, rfl, hk'⟩ := succ_of (show d * 50 + 1054 < k by omega)
    simp only [breviaryref03_product.l0]
    rw [if_pos (by omega)]
    obtain ⟨l', k', h1, h2, h3, h4, h5, h6⟩ := product_l1 x y hx hy hdx hdy i (by omega) (y.length + 1) 0 l 0 k (by omega) (by omega) hl hdl (by omega) (by omega) (by omega) (fun m hm _ => hz m (by omega)) (by simp [hv, val])
    rw [show ((0 : Nat) : Int) = 0 from rfl] at h1
    rw [h1]
    exact ih (i + 1) l' k' (by omega) (by omega) h3 h4 (fun m hm => h5 m (by omega)) h6
theorem product_f {x y : List Int} {k : Nat} (hx : x.length ≤ 40) (hy : y.length ≤ 40) (hk : 4000 < k) (hdx : Dig x) (hdy : Dig y) :
    breviaryref03_product.f k x y = some (dg (val x * val y).toNat) := by
  unfold breviaryref03_product.f
  rw [w64 (x := (x.length : Int) + y.length) (by omega) (by omega), w64 (x := (x.length : Int) + y.length + 1) (by omega) (by omega), if_pos (by omega), if_pos (by omega)]
  have e : ((x.length : Int) + y.length + 1).toNat = x.length + y.length + 1 := by omega
  rw [e]
  refine product_l0 x y hx hy hdx hdy x.length 0 _ k (by omega) (by omega) (by simp) (dig_replicate _) ?_ (by simp [val, val_replicate])
  intro m _
  simp [List.getD, List.getElem?_replicate]
  split <;> rfl

theorem alg_quot {B D m a R w : Int} (h : B * D + m = a + 10 * R) : a + 10 * (w * B + R) = (D + 10 * w) * B + m := by
  have e : a = B * D + m - 10 * R := by omega
  subst e
  grind
/-! ### quotient -/
theorem dg_length_mono {a b : Nat} (h : a ≤ b) : (dg a).length ≤ (dg b).length := by
  apply Decidable.byContradiction
  intro hn
  have := dg_length_lt (a := b) (b := a) (by omega)
  omega
theorem quotient_l1 (x : List Int) (B : Nat) (hB : 0 < B) (lb : (dg B).length ≤ 60) (i : Nat) : ∀ (d : Nat) (q : List Int) (R t : Nat) (k : Nat),
    R / B = d → d + 2005 < k → i < q.length → q.length ≤ 100 → (dg R).length ≤ 70 → q.getD i 0 = (t : Int) → t + d ≤ 1000 →
    ∃ k', breviaryref03_quotient.l1 k x (dg B) q (dg R) (i : Int) = breviaryref03_quotient.l0 k' x (dg B) (q.set i ((t + R / B : Nat) : Int)) (dg (R % B)) ((i : Int) - 1) ∧ k ≤ k' + d + 1 := by
  intro d
  induction d with
  | zero =>
    intro q R t k hd hk hi hq hR ht _
    obtain ⟨k, rfl, _⟩ := succ_of (show 2004 < k by omega)
    have hlt : R < B := by
      apply Decidable.byContradiction; intro hn
      have := Nat.div_pos (Nat.le_of_not_lt hn) hB
      omega
    simp only [breviaryref03_quotient.l1]
    rw [least_f (by omega) (by omega) (by omega) (dg_dig R) (dg_dig B) (val_lt_big (by omega) (dg_dig R)) (val_lt_big (by omega) (dg_dig B)), val_dg, val_dg]
    simp only [Option.bind_some]
    rw [if_pos (by simp; omega), w64 (by omega) (by omega)]
    refine ⟨k, ?_, by omega⟩
    rw [hd, Nat.mod_eq_of_lt hlt, Nat.add_zero, ← ht]
    congr 1
    rw [List.ext_getElem?_iff]
    intro m
    rw [List.getElem?_set]
    by_cases e : i = m
    · subst e; simp [hi, List.getD]
    · simp [e]
  | succ d ih =>
    intro q R t k hd hk hi hq hR ht ht'
    obtain ⟨k, rfl, _⟩ := succ_of (show d + 2005 < k by omega)
    have hge : B ≤ R := by
      apply Decidable.byContradiction; intro hn
      rw [Nat.div_eq_of_lt (by omega)] at hd
      omega
    have hsub : (R - B) / B = d := by have := Nat.div_eq_sub_div hB hge; omega
    simp only [breviaryref03_quotient.l1]
    rw [least_f (by omega) (by omega) (by omega) (dg_dig R) (dg_dig B) (val_lt_big (by omega) (dg_dig R)) (val_lt_big (by omega) (dg_dig B)), val_dg, val_dg]
    simp only [Option.bind_some]
    rw [if_neg (by simp; omega), minus_f (by omega) (dg_length_mono hge) (by omega) (dg_dig R) (dg_dig B) (by rw [val_dg, val_dg]; omega), val_dg, val_dg]
    simp only [Option.bind_some]
    rw [if_pos (by omega), if_pos (by omega), rd_eq, ht, w64 (by omega) (by omega), Int.toNat_natCast, show ((R : Int) - (B : Int)).toNat = R - B by omega]
    have e : ((t : Int) + 1) = ((t + 1 : Nat) : Int) := by omega
    rw [e]
    obtain ⟨k', h1, h2⟩ := ih (q.set i ((t + 1 : Nat) : Int)) (R - B) (t + 1) k hsub (by omega) (by simpa using hi) (by simpa using hq) (by have := dg_length_mono (show R - B ≤ R by omega); omega) (by rw [getD_set _ _ _ _ hi, if_pos rfl]) (by omega)
    refine ⟨k', ?_, by omega⟩
    rw [h1, List.set_set, hsub, hd, show t + 1 + d = t + (d + 1) by omega, ← Nat.mod_eq_sub_mod hge]
theorem quotient_l0 (x : List Int) (hx : x.length ≤ 60) (hdx : Dig x) (B : Nat) (hB : 0 < B) (lb : (dg B).length ≤ 60) : ∀ (i : Nat) (q : List Int) (R : Nat) (k : Nat),
    i ≤ x.length → i * 12 + 2020 < k → q.length = x.length → Dig q → (∀ m, m < i → q.getD m 0 = 0) → R < B → val (x.drop i) = val (q.drop i) * B + R →
    breviaryref03_quotient.l0 k x (dg B) q (dg R) ((i : Int) - 1) = some (dg ((val x).toNat / B), dg ((val x).toNat % B))
  | 0, q, R, k, _, hk, hq, hdq, _, hR, hv => by
    obtain ⟨k, rfl, _⟩ := succ_of (show 2019 < k by omega)
    simp only [breviaryref03_quotient.l0]
    rw [if_neg (by omega), trim_f (by omega) (by omega) hdq]
    simp only [Option.bind_some]
    simp only [List.drop_zero] at hv
    obtain ⟨a, ha⟩ := Int.eq_ofNat_of_zero_le (val_nonneg x hdx)
    obtain ⟨c, hc⟩ := Int.eq_ofNat_of_zero_le (val_nonneg q hdq)
    rw [ha, hc] at hv
    have hv' : a = c * B + R := by exact_mod_cast hv
    rw [ha, hc, Int.toNat_natCast, Int.toNat_natCast, hv']
    have h1 : (c * B + R) / B = c := by rw [Nat.mul_comm, Nat.mul_add_div hB, Nat.div_eq_of_lt hR, Nat.add_zero]
    have h2 : (c * B + R) % B = R := by rw [Nat.mul_comm, Nat.mul_add_mod, Nat.mod_eq_of_lt hR]
    rw [h1, h2]
  | i + 1, q, R, k, hi, hk, hq, hdq, hz, hR, hv => by
    obtain ⟨k, rfl, _⟩ := succ_of (show i * 12 + 2031 < k by omega)
    have e : ((i + 1 : Nat) : Int) - 1 = (i : Int) := by omega
    have g := dig_get hdx i
    obtain ⟨a, ha⟩ := Int.eq_ofNat_of_zero_le g.1
    have hRl := dg_length_mono (Nat.le_of_lt hR)
    simp only [breviaryref03_quotient.l0]
    rw [e, if_pos (by omega), if_pos (by omega), if_pos (by omega), rd_eq]
    simp only [Option.bind_some]
    rw [if_pos (by simp; omega)]
    have hda : Dig ([x.getD i 0] ++ dg R) := dig_append (dig_one g.1 g.2) (dg_dig R)
    rw [trim_f (by simp; omega) (by omega) hda]
    simp only [Option.bind_some]
    have hval : (val ([x.getD i 0] ++ dg R)).toNat = a + 10 * R := by
      simp only [List.cons_append, List.nil_append, val, val_dg, ha]; omega
    rw [hval]
    have hbound : a + 10 * R < 10 * B := by omega
    have hdiv : (a + 10 * R) / B ≤ 9 := by
      have : (a + 10 * R) / B < 10 := (Nat.div_lt_iff_lt_mul hB).2 (by omega)
      omega
    have hlen : (dg (a + 10 * R)).length ≤ 70 := by
      refine dg_le_length _ _ ?_
      have h1 := dg_lt B
      have h2 : (10 : Int) ^ (dg B).length ≤ 10 ^ 60 := pow10_le lb
      have h3 : (B : Int) < 10 ^ 60 := by omega
      have h4 : B < 10 ^ 60 := by exact_mod_cast h3
      have h5 : (10 : Nat) * 10 ^ 60 ≤ 10 ^ 70 := by decide
      omega
    obtain ⟨k', h1, h2⟩ := quotient_l1 x B hB lb i _ q (a + 10 * R) 0 k rfl (by omega) (by omega) (by omega) hlen (by rw [hz i (by omega)]; rfl) (by omega)
    have hD : ∃ D, D = (a + 10 * R) / B := ⟨_, rfl⟩
    obtain ⟨D, hD⟩ := hD
    have h3 := Nat.div_add_mod (a + 10 * R) B
    rw [← hD] at h1 h2 h3 hdiv
    rw [h1, Nat.zero_add]
    refine quotient_l0 x hx hdx B hB lb i _ _ k' (by omega) (by omega) (by simpa using hq) (dig_set hdq _ (by omega) (by omega)) ?_ (Nat.mod_lt _ hB) ?_
    · intro m hm
      rw [getD_set _ _ _ _ (by omega), if_neg (by omega)]
      exact hz m (by omega)
    · have hdx' : x.drop i = x.getD i 0 :: x.drop (i + 1) := by
        rw [List.drop_eq_getElem_cons (by omega)]; simp [List.getD, List.getElem?_eq_getElem (show i < x.length by omega)]
      have hdq' : (q.set i (D : Int)).drop i = (D : Int) :: q.drop (i + 1) := by
        rw [List.drop_eq_getElem_cons (by simp; omega)]
        simp [List.drop_set_of_lt]
      rw [hdx', hdq']
      simp only [val]
      rw [hv, ha]
      have h4 : ((B * D + (a + 10 * R) % B : Nat) : Int) = ((a + 10 * R : Nat) : Int) := by rw [h3]
      simp only [Int.natCast_add, Int.natCast_mul] at h4 ⊢
      exact alg_quot h4
theorem quotient_f {x : List Int} {B k : Nat} (hx : x.length ≤ 60) (hdx : Dig x) (hB : 0 < B) (lb : (dg B).length ≤ 60) (hk : 4000 < k) :
    breviaryref03_quotient.f k x (dg B) = some (dg ((val x).toNat / B), dg ((val x).toNat % B)) := by
  unfold breviaryref03_quotient.f
  rw [if_pos (by omega), if_pos (by omega), w64 (by omega) (by omega), Int.toNat_natCast]
  have h := quotient_l0 x hx hdx B hB lb x.length (List.replicate x.length 0) 0 k (Nat.le_refl _) (by omega) (by simp) (dig_replicate _) (by intro m _; simp [List.getD, List.getElem?_replicate]; split <;> rfl) hB (by simp [val])
  rw [dg_zero] at h
  exact h
end Go.Proofs.Yticpobgkbapdmaa.DecC
