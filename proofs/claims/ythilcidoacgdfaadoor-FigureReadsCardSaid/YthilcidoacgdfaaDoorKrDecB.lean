/- The reference's functions over lists of digits come to the numbers' own sums, differences, products and quotients. -/
import Derived.Test.YthilcidoacgdfaaDoorKrDecA
namespace Go.Proofs.YthilcidoacgdfaaDoor.DecA
end Go.Proofs.YthilcidoacgdfaaDoor.DecA
namespace Go.Proofs.YthilcidoacgdfaaDoor.PF
end Go.Proofs.YthilcidoacgdfaaDoor.PF
namespace Go.Proofs.YthilcidoacgdfaaDoorW.PrintLast
end Go.Proofs.YthilcidoacgdfaaDoorW.PrintLast
namespace Go.Proofs.YthilcidoacgdfaaDoorW.PrintMore
end Go.Proofs.YthilcidoacgdfaaDoorW.PrintMore
namespace Go.Proofs.YthilcidoacgdfaaDoorW.PrintWords
end Go.Proofs.YthilcidoacgdfaaDoorW.PrintWords
namespace Go.Proofs.YthilcidoacgdfaaDoor.DecB
open Go.RowKit Go.Proofs.YthilcidoacgdfaaDoor.PF Go.Proofs.YthilcidoacgdfaaDoorW.PrintWords Go.Proofs.YthilcidoacgdfaaDoorW.PrintLast Go.Proofs.YthilcidoacgdfaaDoorW.PrintMore Go.Proofs.YthilcidoacgdfaaDoor.DecA

theorem succ_of {k n : Nat} (h : n < k) : ∃ m, k = m + 1 ∧ n ≤ m := ⟨k - 1, by omega, by omega⟩

/-! ### trim -/
theorem trim_l0 : ∀ (n : Nat) (l : List Int) (k : Nat), l.length = n → n ≤ 1000 → n < k → Dig l → breviaryref03_trim.l0 k l = some (dg (val l).toNat)
  | 0, l, k, hl, _, hk, _ => by
    obtain ⟨k, rfl, _⟩ := succ_of hk
    have : l = [] := List.eq_nil_of_length_eq_zero hl
    subst this
    simp only [breviaryref03_trim.l0]
    rw [if_neg (by simp)]
    simp [val, dg_zero]
  | n + 1, l, k, hl, hn, hk, hd => by
    obtain ⟨k, rfl, hk'⟩ := succ_of hk
    have hw : wrap64 ((l.length : Int) - 1) = ((n : Nat) : Int) := by rw [hl]; rw [w64] <;> omega
    have hsplit : l = l.take n ++ [l.getD n 0] := by rw [← getD_take_succ l n (by omega), List.take_of_length_le (by omega)]
    simp only [breviaryref03_trim.l0]
    rw [hw, if_pos (by omega), if_pos (by omega), if_pos (by omega), rd_eq]
    by_cases h0 : l.getD n 0 = 0
    · rw [if_pos h0, if_pos (by omega), show ((n : Nat) : Int).toNat = n by omega]
      rw [trim_l0 n (l.take n) k (by rw [List.length_take]; omega) (by omega) (by omega) (dig_take hd n)]
      congr 3
      conv => rhs; rw [hsplit, val_append, h0]
      simp [val]
    · rw [if_neg h0]
      congr 1
      refine canon l hd (.inr ?_)
      rw [hsplit]
      simpa using h0
theorem trim_f {l : List Int} {k : Nat} (hl : l.length ≤ 1000) (hk : 1000 < k) (hd : Dig l) : breviaryref03_trim.f k l = some (dg (val l).toNat) :=
  trim_l0 l.length l k rfl hl (by omega) hd

/-! ### least -/
theorem least_l0 : ∀ (i : Nat) (x y : List Int) (k : Nat), i ≤ x.length → x.length = y.length → x.length ≤ 1000 → i < k → Dig x → Dig y →
    breviaryref03_least.l0 k x y ((i : Int) - 1) = some (decide (val (x.take i) < val (y.take i)))
  | 0, x, y, k, _, _, _, hk, _, _ => by
    obtain ⟨k, rfl, _⟩ := succ_of hk
    simp only [breviaryref03_least.l0]
    rw [if_neg (by omega)]
    simp
  | i + 1, x, y, k, hi, hxy, hx, hk, hdx, hdy => by
    obtain ⟨k, rfl, hk'⟩ := succ_of hk
    simp only [breviaryref03_least.l0]
    have e : ((i + 1 : Nat) : Int) - 1 = (i : Int) := by omega
    rw [e, if_pos (by omega), if_pos (by omega), if_pos (by omega), if_pos (by omega), rd_eq, rd_eq]
    have hvx := val_take_succ x i
    have hvy := val_take_succ y i
    have h1 := val_take_lt hdx i
    have h2 := val_take_lt hdy i
    have h3 := val_take_nonneg hdx i
    have h4 := val_take_nonneg hdy i
    by_cases h : x.getD i 0 = y.getD i 0
    · rw [if_pos h, w64 (by omega) (by omega), least_l0 i x y k (by omega) hxy hx (by omega) hdx hdy, hvx, hvy, h]
      congr 1
      simp only [decide_eq_decide]
      omega
    · rw [if_neg h, hvx, hvy]
      congr 1
      simp only [decide_eq_decide]
      have hp : (0 : Int) < 10 ^ i := Int.pow_pos (by omega)
      generalize x.getD i 0 = a at *
      generalize y.getD i 0 = b at *
      generalize (10 : Int) ^ i = p at *
      constructor
      · intro hab
        have : p * (a + 1) ≤ p * b := Int.mul_le_mul_of_nonneg_left (by omega) (by omega)
        rw [Int.mul_add] at this
        omega
      · intro hab
        apply Decidable.byContradiction
        intro hn
        have : p * (b + 1) ≤ p * a := Int.mul_le_mul_of_nonneg_left (by omega) (by omega)
        rw [Int.mul_add] at this
        omega
theorem dg_length_lt {a b : Nat} (h : (dg a).length < (dg b).length) : a < b := by
  have h1 := dg_lt a
  have hb : b ≠ 0 := by intro h0; subst h0; rw [dg_zero] at h; simp at h
  have h2 := dg_ge b hb
  have h3 : (10 : Int) ^ (dg a).length ≤ 10 ^ ((dg b).length - 1) := pow10_le (by omega)
  omega
/-- How many digits at most. -/
def manyD : Nat := 900
theorem manyD_eq : manyD = 900 := rfl
theorem least_f {x y : List Int} {k : Nat} (hx : x.length ≤ 1000) (hy : y.length ≤ 1000) (hk : 1001 < k) (hdx : Dig x) (hdy : Dig y)
    (bx : val x < 10 ^ manyD) (by_ : val y < 10 ^ manyD) : breviaryref03_least.f k x y = some (decide (val x < val y)) := by
  unfold breviaryref03_least.f
  rw [trim_f hx (by omega) hdx, trim_f hy (by omega) hdy]
  simp only [Option.bind_some]
  have vx := val_nonneg x hdx
  have vy := val_nonneg y hdy
  obtain ⟨a, ha⟩ := Int.eq_ofNat_of_zero_le vx
  obtain ⟨b, hb⟩ := Int.eq_ofNat_of_zero_le vy
  rw [ha] at bx
  rw [hb] at by_
  rw [ha, hb, show ((a : Nat) : Int).toNat = a by omega, show ((b : Nat) : Int).toNat = b by omega]
  have la : (dg a).length ≤ manyD := by generalize manyD = M at *; exact dg_le_length _ _ (by exact_mod_cast bx)
  have lb : (dg b).length ≤ manyD := by generalize manyD = M at *; exact dg_le_length _ _ (by exact_mod_cast by_)
  rw [manyD_eq] at la lb
  by_cases h : (dg a).length = (dg b).length
  · rw [if_pos (by omega), w64 (by omega) (by omega), least_l0 _ _ _ _ (Nat.le_refl _) h (by omega) (by omega) (dg_dig a) (dg_dig b)]
    rw [List.take_of_length_le (Nat.le_refl _), h, List.take_of_length_le (Nat.le_refl _), val_dg, val_dg]
  · rw [if_neg (by omega)]
    congr 1
    simp only [decide_eq_decide]
    constructor
    · intro hlt
      have := dg_length_lt (a := a) (b := b) (by omega)
      omega
    · intro hlt
      apply Decidable.byContradiction
      intro hn
      have := dg_length_lt (a := b) (b := a) (by omega)
      omega

/-! ### plus -/
/-! ### Digits, unit -/
theorem digits_l0 : ∀ (n : Nat) (o : List Int) (k : Nat), n < 18446744073709551616 → o.length + (dg n).length ≤ 100 → (dg n).length < k → breviaryref03_Digits.l0 k (n : Int) o = some (o ++ dg n) := by
  intro n
  induction n using Nat.strongRecOn with
  | _ n ih =>
    intro o k hn ho hk
    obtain ⟨k, rfl, hk'⟩ := succ_of hk
    simp only [breviaryref03_Digits.l0]
    by_cases h : n = 0
    · subst h
      rw [if_neg (by omega), dg_zero, List.append_nil]
    · have hl : (dg n).length = (dg (n / 10)).length + 1 := by rw [dg_pos n h]; rfl
      rw [if_pos (by omega), if_pos (by omega), Int.tdiv_eq_ediv_of_nonneg (by omega), Int.tmod_eq_emod_of_nonneg (by omega)]
      rw [u64 (by omega) (by omega), w64 (by omega) (by omega)]
      have e : (n : Int) / 10 = ((n / 10 : Nat) : Int) := by omega
      rw [e, ih (n / 10) (by omega) _ k (by omega) (by simp; omega) (by omega), dg_pos n h]
      simp
theorem dg_len64 {n : Nat} (h : n < 18446744073709551616) : (dg n).length ≤ 20 := dg_le_length 20 n (Nat.lt_trans h (by decide))
theorem digits_f {n : Nat} {k : Nat} (h : n < 18446744073709551616) (hk : 30 < k) : breviaryref03_Digits.f k (n : Int) = some (dg n) := by
  have := dg_len64 h
  unfold breviaryref03_Digits.f
  rw [digits_l0 n [] k h (by simp; omega) (by omega), List.nil_append]
/-! ### Made -/
theorem made_l0 (b : Bool) (x : List Int) (hx : x.length ≤ 800) (hdx : Dig x) (hm : val x ≤ 9223372036854775807) : ∀ (i : Nat) (n : Int) (k : Nat), i ≤ x.length → i < k → n = val (x.drop i) →
    breviaryref03_Made.l0 k b x n ((i : Int) - 1) = some (0, if b then -(val x) else val x)
  | 0, n, k, _, hk, hn => by
    obtain ⟨k, rfl, _⟩ := succ_of hk
    simp only [breviaryref03_Made.l0]
    have h0 := val_nonneg x hdx
    simp only [List.drop_zero] at hn
    rw [if_neg (by omega), hn]
    cases b
    · simp
    · simp; rw [w64 (by omega) (by omega)]
  | i + 1, n, k, hi, hk, hn => by
    obtain ⟨k, rfl, hk'⟩ := succ_of hk
    simp only [breviaryref03_Made.l0]
    have e : ((i + 1 : Nat) : Int) - 1 = (i : Int) := by omega
    have hd : x.drop i = x.getD i 0 :: x.drop (i + 1) := by
      rw [List.drop_eq_getElem_cons (by omega)]; simp [List.getD, List.getElem?_eq_getElem (show i < x.length by omega)]
    have hv : val (x.drop i) = x.getD i 0 + 10 * n := by rw [hd, hn]; rfl
    have hsum : val x = val (x.take i) + 10 ^ i * val (x.drop i) := by
      conv => lhs; rw [← List.take_append_drop i x]
      rw [val_append, List.length_take, Nat.min_eq_left (by omega)]
    have h1 := val_take_nonneg hdx i
    have g := dig_get hdx i
    have hnn : 0 ≤ n := by rw [hn]; exact val_nonneg _ (fun d hd => hdx d (List.mem_of_mem_drop hd))
    have hp : (1 : Int) ≤ 10 ^ i := Int.pow_pos (by omega)
    have hb : val (x.drop i) ≤ 9223372036854775807 := by
      have : 1 * val (x.drop i) ≤ 10 ^ i * val (x.drop i) := Int.mul_le_mul_of_nonneg_right hp (by omega)
      omega
    rw [e, if_pos (by omega), if_pos (by omega), if_pos (by omega), rd_eq]
    generalize x.getD i 0 = a at *
    rw [w64 (x := n * 10) (by omega) (by omega), w64 (x := n * 10 + a) (by omega) (by omega), w64 (x := (i : Int) - 1) (by omega) (by omega)]
    exact made_l0 b x hx hdx hm i _ k (by omega) (by omega) (by omega)
theorem val_lt_big {x : List Int} (hx : x.length ≤ 800) (hdx : Dig x) : val x < 10 ^ manyD :=
  Int.lt_of_lt_of_le (val_lt x hdx) (pow10_le (by rw [manyD_eq]; omega))
theorem made_f {b : Bool} {x : List Int} {k : Nat} (hx : x.length ≤ 800) (hk : 2000 < k) (hdx : Dig x) :
    breviaryref03_Made.f k b x = some (if val x > 9223372036854775807 then ((if b then 3 else 2), 0) else (0, if b then -(val x) else val x)) := by
  unfold breviaryref03_Made.f
  have e : breviaryref03_Digits.f k 9223372036854775807 = some (dg 9223372036854775807) := digits_f (n := 9223372036854775807) (by decide) (by omega)
  rw [e]
  simp only [Option.bind_some]
  rw [least_f (by have := dg_len64 (n := 9223372036854775807) (by omega); omega) (by omega) (by omega) (dg_dig _) hdx (val_lt_big (by have := dg_len64 (n := 9223372036854775807) (by omega); omega) (dg_dig _)) (val_lt_big hx hdx), val_dg]
  simp only [Option.bind_some]
  by_cases h : val x > 9223372036854775807
  · rw [if_pos (by simpa using h), if_pos h]
    cases b <;> simp
  · rw [if_neg (by simpa using h), if_neg h, w64 (by omega) (by omega)]
    exact made_l0 b x hx hdx (by omega) x.length 0 k (Nat.le_refl _) (by omega) (by simp [val])
end Go.Proofs.YthilcidoacgdfaaDoor.DecB
