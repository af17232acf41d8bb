import Derived.Test.YthilcidoacgdfaaGreatDoorZwCharD
import Derived.Test.YthilcidoacgdfaaGreatDoorZwPFx3
import Derived.Test.YthilcidoacgdfaaGreatDoorZwPFx4
import Derived.Test.YthilcidoacgdfaaGreatDoorZwPFx5
import Derived.Test.YthilcidoacgdfaaGreatDoorZwPFx6
import Derived.Test.YthilcidoacgdfaaGreatDoorZwPFx7
import Derived.Test.YthilcidoacgdfaaGreatDoorZwPFx8
import Derived.Test.YthilcidoacgdfaaGreatDoorZwPFx9
import Derived.Test.YthilcidoacgdfaaGreatDoorZwPFx10
import Derived.Test.YthilcidoacgdfaaGreatDoorZwPFx11
import Derived.Test.YthilcidoacgdfaaGreatDoorZwPFx12
import Derived.Test.YthilcidoacgdfaaGreatDoorZwPFx13
import Derived.Test.YthilcidoacgdfaaGreatDoorZwPFx14
import Derived.Test.YthilcidoacgdfaaGreatDoorZwPFx15
namespace Go.Proofs.YthilcidoacgdfaaGreatDoor.CharA
end Go.Proofs.YthilcidoacgdfaaGreatDoor.CharA
namespace Go.Proofs.YthilcidoacgdfaaGreatDoor.CharB
end Go.Proofs.YthilcidoacgdfaaGreatDoor.CharB
namespace Go.Proofs.YthilcidoacgdfaaGreatDoor.CharC
end Go.Proofs.YthilcidoacgdfaaGreatDoor.CharC
namespace Go.Proofs.YthilcidoacgdfaaGreatDoor.CharD
end Go.Proofs.YthilcidoacgdfaaGreatDoor.CharD
namespace Go.Proofs.YthilcidoacgdfaaGreatDoorW.PrintLast
end Go.Proofs.YthilcidoacgdfaaGreatDoorW.PrintLast
namespace Go.Proofs.YthilcidoacgdfaaGreatDoorW.PrintMore
end Go.Proofs.YthilcidoacgdfaaGreatDoorW.PrintMore
namespace Go.Proofs.YthilcidoacgdfaaGreatDoorW.PrintWords
end Go.Proofs.YthilcidoacgdfaaGreatDoorW.PrintWords
namespace Go.Proofs.YthilcidoacgdfaaGreatDoor.CharF
open Go.RowKit YthilcidoacgdfaaGreatDoorW.PrintWords YthilcidoacgdfaaGreatDoorW.PrintLast YthilcidoacgdfaaGreatDoorW.PrintMore CharA CharB CharC CharD
set_option linter.unusedVariables false
set_option linter.unusedSimpArgs false
set_option linter.unnecessarySimpa false
theorem dec_more (n n' b0 b1 b2 b3 c1 c2 c3 : Nat) (hn : n ≤ n') (h1 : 1 < n → c1 = b1) (h2 : 2 < n → c2 = b2) (h3 : 3 < n → c3 = b3) (hg : Lib.decodeN n b0 b1 b2 b3 ≠ (65533, 1)) :
  Lib.decodeN n' b0 c1 c2 c3 = Lib.decodeN n b0 b1 b2 b3 := by
 unfold Lib.decodeN at hg ⊢
 by_cases e0 : b0 < 128
 ·rw [if_pos e0, if_pos e0]
 rw [if_neg e0] at hg ⊢
 rw [if_neg e0]
 by_cases e1 : b0 / 32 = 6 ∧ (1 < n ∧ b1 / 64 = 2)
 ·obtain rfl := h1 e1.2.1
  rw [if_pos e1, if_pos ⟨e1.1, by omega, e1.2.2⟩]
 rw [if_neg e1] at hg ⊢
 by_cases e2 : b0 / 16 = 14 ∧ (1 < n ∧ b1 / 64 = 2) ∧ (2 < n ∧ b2 / 64 = 2)
 ·obtain rfl := h1 e2.2.1.1
  obtain rfl := h2 e2.2.2.1
  rw [if_pos e2, if_neg (by omega), if_pos ⟨e2.1, ⟨by omega, e2.2.1.2⟩, by omega, e2.2.2.2⟩]
 rw [if_neg e2] at hg ⊢
 by_cases e3 : b0 / 8 = 30 ∧ (1 < n ∧ b1 / 64 = 2) ∧ (2 < n ∧ b2 / 64 = 2) ∧ (3 < n ∧ b3 / 64 = 2)
 ·obtain rfl := h1 e3.2.1.1
  obtain rfl := h2 e3.2.2.1.1
  obtain rfl := h3 e3.2.2.2.1
  rw [if_pos e3, if_neg (by omega), if_neg (by omega), if_pos ⟨e3.1, ⟨by omega, e3.2.1.2⟩, ⟨by omega, e3.2.2.1.2⟩, by omega, e3.2.2.2.2⟩]
 ·rw [if_neg e3] at hg
  exact absurd rfl hg
theorem app_list (a b : ByteArray) : (a ++ b).data.toList = a.data.toList ++ b.data.toList := by simp
theorem app_size (a b : ByteArray) : (a ++ b).size = a.size + b.size := by simp
theorem decode_app (a b : ByteArray) (pos : Nat) (hp : pos < a.size) (hg : Utf8.decode a pos ≠ (65533, 1)) : Utf8.decode (a ++ b) pos = Utf8.decode a pos := by
 rw [Lib.decode_N] at hg ⊢
 rw [Lib.decode_N]
 have hb : ∀ i, i < a.size - pos → (a ++ b).data.toList.getD (pos + i) 0 = a.data.toList.getD (pos + i) 0 := by
  intro i hi
  rw [app_list]
  have : pos + i < a.data.toList.length := by rw [← Lib.size_eq]; omega
  simp [List.getD, List.getElem?_append_left this]
 have h0 := hb 0 (by omega)
 rw [Nat.add_zero] at h0
 rw [h0]
 refine dec_more _ _ _ _ _ _ _ _ _ ?_ ?_ ?_ ?_ hg
 ·rw [app_list, List.length_append]; omega
 ·intro h; rw [hb 1 (by rw [← Lib.size_eq] at h; omega)]
 ·intro h; rw [hb 2 (by rw [← Lib.size_eq] at h; omega)]
 ·intro h; rw [hb 3 (by rw [← Lib.size_eq] at h; omega)]
theorem decode_shift (a b : ByteArray) (p : Nat) : Utf8.decode (a ++ b) (a.size + p) = Utf8.decode b p := by
 rw [← Lib.decodeL_drop, ← Lib.decodeL_drop, app_list]
 congr 1
 rw [Lib.size_eq, List.drop_append]
 simp
theorem chars_shift (a b : ByteArray) : ∀ n p, qd1 (a ++ b) n (a.size + p) = qd1 b n p := by
 intro n
 induction n with
 | zero => intro p; rfl
 | succ n ih =>
  intro p
  simp only [qd1]
  rw [decode_shift, app_size, Nat.add_assoc, ih]
  by_cases h : p < b.size
  ·rw [if_pos h, if_pos (by omega)]
  ·rw [if_neg h, if_neg (by omega)]
theorem chars_fuel (s : ByteArray) : ∀ n m p, s.size ≤ p + n → qd1 s (n + m) p = qd1 s n p := by
 intro n
 induction n with
 | zero =>
  intro m p h
  rw [charsL_end _ _ _ (by omega), charsL_end _ _ _ (by omega)]
 | succ n ih =>
  intro m p h
  rw [show n + 1 + m = (n + m) + 1 by omega]
  simp only [qd1]
  by_cases hp : p < s.size
  ·have := qu1 s p hp
   rw [ih m _ (by omega)]
  ·rw [if_neg hp, if_neg hp]
theorem chars_app (a b : ByteArray) : ∀ n pos l, pos ≤ a.size → a.size ≤ pos + n → qd1 a n pos = some l → qd1 (a ++ b) (n + b.size) pos = (qd1 b b.size 0).map (l ++ ·) := by
 intro n
 induction n with
 | zero =>
  intro pos l h1 h2 h
  obtain rfl : pos = a.size := by omega
  simp only [qd1] at h
  cases h
  have := chars_shift a b b.size 0
  rw [Nat.add_zero] at this
  rw [Nat.zero_add, this]
  simp
 | succ n ih =>
  intro pos l h1 h2 h
  by_cases hp : pos < a.size
  ·simp only [qd1, if_pos hp] at h
   split at h
   ·cases h
   ·rename_i hd
    obtain ⟨l', hl', rfl⟩ := Option.map_eq_some_iff.1 h
    have hw := qu1 a pos hp
    rw [show n + 1 + b.size = (n + b.size) + 1 by omega]
    simp only [qd1]
    rw [if_pos (by rw [app_size]; omega), decode_app a b pos hp hd, if_neg hd, ih _ l' (width_le a pos hp) (by omega) hl']
    cases qd1 b b.size 0 <;> simp
  ·obtain rfl : pos = a.size := by omega
   rw [charsL_end _ _ _ (by omega)] at h
   cases h
   have := chars_shift a b (n + 1 + b.size) 0
   rw [show a.size + 0 = a.size from rfl] at this
   rw [this, show n + 1 + b.size = b.size + (n + 1) by omega, chars_fuel b _ _ _ (by omega)]
   simp
theorem textB_chars (s : ByteArray) : textB s = (match qd1 s s.size 0 with | none => false | some l => l.all isB) := by
 unfold textB
 have hv := valid_chars s s.size 0 (by omega)
 rw [List.drop_zero] at hv
 rw [hv]
 cases hc : qd1 s s.size 0 with
 | none => rfl
 | some l => rw [allR_chars isB s _ _ _ hc]; simp
theorem text_app (a b : ByteArray) (h : textB a = true) : textB (a ++ b) = textB b := by
 rw [textB_chars] at h ⊢
 rw [textB_chars b]
 cases hc : qd1 a a.size 0 with
 | none => rw [hc] at h; cases h
 | some l =>
  rw [hc] at h
  have := chars_app a b a.size 0 l (by omega) (by omega) hc
  rw [app_size, this]
  cases qd1 b b.size 0 with
  | none => rfl
  | some lb =>
   simp only [Option.map_some, List.all_append]
   simp only at h
   rw [h]
   rfl
end Go.Proofs.YthilcidoacgdfaaGreatDoor.CharF
namespace Go.Proofs.YthilcidoacgdfaaGreatDoor.PF
end Go.Proofs.YthilcidoacgdfaaGreatDoor.PF
namespace Go.Proofs.YthilcidoacgdfaaGreatDoorW.PrintLast
end Go.Proofs.YthilcidoacgdfaaGreatDoorW.PrintLast
namespace Go.Proofs.YthilcidoacgdfaaGreatDoorW.PrintMore
end Go.Proofs.YthilcidoacgdfaaGreatDoorW.PrintMore
namespace Go.Proofs.YthilcidoacgdfaaGreatDoorW.PrintWords
end Go.Proofs.YthilcidoacgdfaaGreatDoorW.PrintWords
namespace Go.Proofs.YthilcidoacgdfaaGreatDoor.DecA
open Go.RowKit PF YthilcidoacgdfaaGreatDoorW.PrintWords YthilcidoacgdfaaGreatDoorW.PrintLast YthilcidoacgdfaaGreatDoorW.PrintMore

theorem pow10_le {m n : Nat} (h : m ≤ n) : (10 : Int) ^ m ≤ 10 ^ n := by exact_mod_cast Nat.pow_le_pow_right (n := 10) (by omega) h
def val : List Int → Int
 | [] => 0
 | d :: l => d + 10 * val l
def Dig (l : List Int) : Prop := ∀ d ∈ l, 0 ≤ d ∧ d ≤ 9
def dg : Nat → List Int
 | 0 => []
 | n + 1 => (((n + 1) % 10 : Nat) : Int) :: dg ((n + 1) / 10)
termination_by n => n
decreasing_by omega

theorem dg_zero : dg 0 = [] := by unfold dg; rfl
theorem dg_pos (n : Nat) (h : n ≠ 0) : dg n = ((n % 10 : Nat) : Int) :: dg (n / 10) := by
 obtain ⟨m, rfl⟩ : ∃ m, n = m + 1 := ⟨n - 1, by omega⟩
 rw [dg]
theorem dg_dig (n : Nat) : Dig (dg n) := by
 induction n using Nat.strongRecOn with
 | _ n ih =>
  by_cases h : n = 0
  ·subst h; rw [dg_zero]; intro d hd; cases hd
  ·rw [dg_pos n h]
   intro d hd
   rcases List.mem_cons.1 hd with rfl | hd
   ·omega
   ·exact ih (n / 10) (by omega) d hd
theorem val_dg (n : Nat) : val (dg n) = n := by
 induction n using Nat.strongRecOn with
 | _ n ih =>
  by_cases h : n = 0
  ·subst h; rw [dg_zero]; rfl
  ·rw [dg_pos n h, val, ih (n / 10) (by omega)]; omega
theorem val_nonneg : ∀ l, Dig l → 0 ≤ val l
 | [], _ => Int.le_refl 0
 | d :: l, h => by
  have h1 := h d (by simp)
  have h2 := val_nonneg l (fun x hx => h x (by simp [hx]))
  simp only [val]; omega
theorem val_append : ∀ a b, val (a ++ b) = val a + 10 ^ a.length * val b
 | [], b => by simp [val]
 | d :: a, b => by
  have h := val_append a b
  simp only [List.cons_append, val, h, List.length_cons, Int.pow_succ]
  grind
theorem val_lt : ∀ l, Dig l → val l < 10 ^ l.length
 | [], _ => by simp [val]
 | d :: l, h => by
  have h1 := h d (by simp)
  have h2 := val_lt l (fun x hx => h x (by simp [hx]))
  simp only [val, List.length_cons, Int.pow_succ]; omega
theorem dig_append {a b : List Int} (ha : Dig a) (hb : Dig b) : Dig (a ++ b) := fun d hd => (List.mem_append.1 hd).elim (ha d) (hb d)
theorem dig_take {l : List Int} (h : Dig l) (n : Nat) : Dig (l.take n) := fun d hd => h d (List.mem_of_mem_take hd)
theorem dig_one {d : Int} (h0 : 0 ≤ d) (h9 : d ≤ 9) : Dig [d] := by intro x hx; simp at hx; subst hx; exact ⟨h0, h9⟩
theorem dig_get {l : List Int} (h : Dig l) (i : Nat) : 0 ≤ l.getD i 0 ∧ l.getD i 0 ≤ 9 := by
 by_cases hi : i < l.length
 ·have := h (l.getD i 0) (by simp [List.getD, List.getElem?_eq_getElem hi])
  exact this
 ·simp [List.getD, List.getElem?_eq_none (Nat.le_of_not_lt hi)]
theorem canon : ∀ l, Dig l → (l = [] ∨ l.getLastD 0 ≠ 0) → l = dg (val l).toNat
 | [], _, _ => by rw [show val [] = 0 from rfl]; exact dg_zero.symm
 | [d], h, hl => by
  have h1 := h d (by simp)
  have h2 : d ≠ 0 := by rcases hl with hl | hl; cases hl; simpa using hl
  rw [show val [d] = d by simp [val], dg_pos _ (by omega), show d.toNat / 10 = 0 by omega, dg_zero]
  congr 1; omega
 | d :: e :: l, h, hl => by
  have h1 := h d (by simp)
  have h' : Dig (e :: l) := fun x hx => h x (by simp [hx])
  have hl' : (e :: l).getLastD 0 ≠ 0 := by
   rcases hl with hl | hl
   ·cases hl
   ·simpa [List.getLastD] using hl
  have ih := canon (e :: l) h' (.inr hl')
  have hv := val_nonneg _ h'
  have hne : val (e :: l) ≠ 0 := by
   intro h0
   rw [h0] at ih
   rw [show (0 : Int).toNat = 0 from rfl, dg_zero] at ih
   cases ih
  rw [show val (d :: e :: l) = d + 10 * val (e :: l) from rfl, dg_pos _ (by omega)]
  rw [show (d + 10 * val (e :: l)).toNat / 10 = (val (e :: l)).toNat by omega, ← ih]
  congr 1; omega
theorem dg_lt (n : Nat) : (n : Int) < 10 ^ (dg n).length := by rw [← val_dg n]; have := val_lt _ (dg_dig n); rwa [val_dg] at this ⊢
theorem dg_le_length : ∀ (m n : Nat), n < 10 ^ m → (dg n).length ≤ m
 | 0, n, h => by
  have : n = 0 := by simpa using h
  subst this; rw [dg_zero]; simp
 | m + 1, n, h => by
  by_cases h0 : n = 0
  ·subst h0; rw [dg_zero]; simp
  ·rw [dg_pos n h0, List.length_cons]
   have := dg_le_length m (n / 10) (by rw [Nat.pow_succ] at h; omega)
   omega
theorem dg_ge (n : Nat) (h : n ≠ 0) : (10 : Int) ^ ((dg n).length - 1) ≤ n := by
 induction n using Nat.strongRecOn with
 | _ n ih =>
  rw [dg_pos n h, List.length_cons, Nat.add_sub_cancel]
  by_cases h2 : n / 10 = 0
  ·rw [h2, dg_zero]; simp; omega
  ·have := ih (n / 10) (by omega) h2
   obtain ⟨m, hm⟩ : ∃ m, (dg (n / 10)).length = m + 1 := ⟨(dg (n / 10)).length - 1, by rw [dg_pos _ h2]; simp⟩
   rw [hm] at this ⊢
   rw [Nat.add_sub_cancel] at this
   rw [Int.pow_succ]
   omega
theorem getD_take_succ (l : List Int) (i : Nat) (h : i < l.length) : l.take (i + 1) = l.take i ++ [l.getD i 0] := by
 rw [List.take_add_one]; simp [List.getD, List.getElem?_eq_getElem h]
theorem val_take_succ (l : List Int) (i : Nat) : val (l.take (i + 1)) = val (l.take i) + 10 ^ i * l.getD i 0 := by
 by_cases h : i < l.length
 ·rw [getD_take_succ l i h, val_append, List.length_take, Nat.min_eq_left (Nat.le_of_lt h)]
  simp [val]
 ·rw [List.take_of_length_le (by omega), List.take_of_length_le (by omega)]
  simp [List.getD, List.getElem?_eq_none (Nat.le_of_not_lt h)]
theorem val_take_lt {l : List Int} (h : Dig l) (i : Nat) : val (l.take i) < 10 ^ i := by
 have h1 := val_lt _ (dig_take h i)
 have h2 : (10 : Int) ^ (l.take i).length ≤ 10 ^ i := pow10_le (by rw [List.length_take]; omega)
 omega
theorem val_take_nonneg {l : List Int} (h : Dig l) (i : Nat) : 0 ≤ val (l.take i) := val_nonneg _ (dig_take h i)

theorem w64 {x : Int} (h : -9223372036854775808 ≤ x) (h' : x ≤ 9223372036854775807) : wrap64 x = x := by unfold wrap64; omega
theorem u64 {x : Int} (h : 0 ≤ x) (h' : x ≤ 18446744073709551615) : IntKind.u64.wrap x = x := by
 simp [IntKind.wrap, IntKind.signed, IntKind.bits] <;> omega
theorem rd_eq (l : List Int) (i : Nat) : rd l (i : Int) = l.getD i 0 := by simp [rd]
end Go.Proofs.YthilcidoacgdfaaGreatDoor.DecA
namespace Go.Proofs.YthilcidoacgdfaaGreatDoor.DecA
end Go.Proofs.YthilcidoacgdfaaGreatDoor.DecA
namespace Go.Proofs.YthilcidoacgdfaaGreatDoor.PF
end Go.Proofs.YthilcidoacgdfaaGreatDoor.PF
namespace Go.Proofs.YthilcidoacgdfaaGreatDoorW.PrintLast
end Go.Proofs.YthilcidoacgdfaaGreatDoorW.PrintLast
namespace Go.Proofs.YthilcidoacgdfaaGreatDoorW.PrintMore
end Go.Proofs.YthilcidoacgdfaaGreatDoorW.PrintMore
namespace Go.Proofs.YthilcidoacgdfaaGreatDoorW.PrintWords
end Go.Proofs.YthilcidoacgdfaaGreatDoorW.PrintWords
namespace Go.Proofs.YthilcidoacgdfaaGreatDoor.DecB
open Go.RowKit PF YthilcidoacgdfaaGreatDoorW.PrintWords YthilcidoacgdfaaGreatDoorW.PrintLast YthilcidoacgdfaaGreatDoorW.PrintMore DecA

theorem qk1 {k n : Nat} (h : n < k) : ∃ m, k = m + 1 ∧ n ≤ m := ⟨k - 1, by omega, by omega⟩

theorem trim_l0 : ∀ (n : Nat) (l : List Int) (k : Nat), l.length = n → n ≤ 1000 → n < k → Dig l → breviaryref03_trim.l0 k l = some (dg (val l).toNat)
 | 0, l, k, hl, _, hk, _ => by
  obtain ⟨k, rfl, _⟩ := qk1 hk
  have : l = [] := List.eq_nil_of_length_eq_zero hl
  subst this
  simp only [breviaryref03_trim.l0]
  rw [if_neg (by simp)]
  simp [val, dg_zero]
 | n + 1, l, k, hl, hn, hk, hd => by
  obtain ⟨k, rfl, hk'⟩ := qk1 hk
  have hw : wrap64 ((l.length : Int) - 1) = ((n : Nat) : Int) := by rw [hl]; rw [w64] <;> omega
  have hsplit : l = l.take n ++ [l.getD n 0] := by rw [← getD_take_succ l n (by omega), List.take_of_length_le (by omega)]
  simp only [breviaryref03_trim.l0]
  rw [hw, if_pos (by omega), if_pos (by omega), if_pos (by omega), rd_eq]
  by_cases h0 : l.getD n 0 = 0
  ·rw [if_pos h0, if_pos (by omega), show ((n : Nat) : Int).toNat = n by omega]
   rw [trim_l0 n (l.take n) k (by rw [List.length_take]; omega) (by omega) (by omega) (dig_take hd n)]
   congr 3
   conv => rhs; rw [hsplit, val_append, h0]
   simp [val]
  ·rw [if_neg h0]
   congr 1
   refine canon l hd (.inr ?_)
   rw [hsplit]
   simpa using h0
theorem trim_f {l : List Int} {k : Nat} (hl : l.length ≤ 1000) (hk : 1000 < k) (hd : Dig l) : breviaryref03_trim.f k l = some (dg (val l).toNat) :=
 trim_l0 l.length l k rfl hl (by omega) hd

theorem least_l0 : ∀ (i : Nat) (x y : List Int) (k : Nat), i ≤ x.length → x.length = y.length → x.length ≤ 1000 → i < k → Dig x → Dig y →
  breviaryref03_least.l0 k x y ((i : Int) - 1) = some (decide (val (x.take i) < val (y.take i)))
 | 0, x, y, k, _, _, _, hk, _, _ => by
  obtain ⟨k, rfl, _⟩ := qk1 hk
  simp only [breviaryref03_least.l0]
  rw [if_neg (by omega)]
  simp
 | i + 1, x, y, k, hi, hxy, hx, hk, hdx, hdy => by
  obtain ⟨k, rfl, hk'⟩ := qk1 hk
  simp only [breviaryref03_least.l0]
  have e : ((i + 1 : Nat) : Int) - 1 = (i : Int) := by omega
  rw [e, if_pos (by omega), if_pos (by omega), if_pos (by omega), if_pos (by omega), rd_eq, rd_eq]
  have hvx := val_take_succ x i
  have hvy := val_take_succ y i
  have h1 := val_take_lt hdx i
  have h2 := val_take_lt hdy i
  have h3 := val_take_nonneg hdx i
  have h4 := val_take_nonneg hdy i
  by_cases h : x.getD i 0 = y.getD i 0
  ·rw [if_pos h, w64 (by omega) (by omega), least_l0 i x y k (by omega) hxy hx (by omega) hdx hdy, hvx, hvy, h]
   congr 1
   simp only [decide_eq_decide]
   omega
  ·rw [if_neg h, hvx, hvy]
   congr 1
   simp only [decide_eq_decide]
   have hp : (0 : Int) < 10 ^ i := Int.pow_pos (by omega)
   generalize x.getD i 0 = a at *
   generalize y.getD i 0 = b at *
   generalize (10 : Int) ^ i = p at *
   constructor
   ·intro hab
    have : p * (a + 1) ≤ p * b := Int.mul_le_mul_of_nonneg_left (by omega) (by omega)
    rw [Int.mul_add] at this
    omega
   ·intro hab
    apply Decidable.byContradiction
    intro hn
    have : p * (b + 1) ≤ p * a := Int.mul_le_mul_of_nonneg_left (by omega) (by omega)
    rw [Int.mul_add] at this
    omega
theorem dg_length_lt {a b : Nat} (h : (dg a).length < (dg b).length) : a < b := by
 have h1 := dg_lt a
 have hb : b ≠ 0 := by intro h0; subst h0; rw [dg_zero] at h; simp at h
 have h2 := dg_ge b hb
 have h3 : (10 : Int) ^ (dg a).length ≤ 10 ^ ((dg b).length - 1) := pow10_le (by omega)
 omega
def manyD : Nat := 900
theorem manyD_eq : manyD = 900 := rfl
theorem least_f {x y : List Int} {k : Nat} (hx : x.length ≤ 1000) (hy : y.length ≤ 1000) (hk : 1001 < k) (hdx : Dig x) (hdy : Dig y)
  (bx : val x < 10 ^ manyD) (by_ : val y < 10 ^ manyD) : breviaryref03_least.f k x y = some (decide (val x < val y)) := by
 unfold breviaryref03_least.f
 rw [trim_f hx (by omega) hdx, trim_f hy (by omega) hdy]
 simp only [Option.bind_some]
 have vx := val_nonneg x hdx
 have vy := val_nonneg y hdy
 obtain ⟨a, ha⟩ := Int.eq_ofNat_of_zero_le vx
 obtain ⟨b, hb⟩ := Int.eq_ofNat_of_zero_le vy
 rw [ha] at bx
 rw [hb] at by_
 rw [ha, hb, show ((a : Nat) : Int).toNat = a by omega, show ((b : Nat) : Int).toNat = b by omega]
 have la : (dg a).length ≤ manyD := by generalize manyD = M at *; exact dg_le_length _ _ (by exact_mod_cast bx)
 have lb : (dg b).length ≤ manyD := by generalize manyD = M at *; exact dg_le_length _ _ (by exact_mod_cast by_)
 rw [manyD_eq] at la lb
 by_cases h : (dg a).length = (dg b).length
 ·rw [if_pos (by omega), w64 (by omega) (by omega), least_l0 _ _ _ _ (Nat.le_refl _) h (by omega) (by omega) (dg_dig a) (dg_dig b)]
  rw [List.take_of_length_le (Nat.le_refl _), h, List.take_of_length_le (Nat.le_refl _), val_dg, val_dg]
 ·rw [if_neg (by omega)]
  congr 1
  simp only [decide_eq_decide]
  constructor
  ·intro hlt
   have := dg_length_lt (a := a) (b := b) (by omega)
   omega
  ·intro hlt
   apply Decidable.byContradiction
   intro hn
   have := dg_length_lt (a := b) (b := a) (by omega)
   omega

theorem digits_l0 : ∀ (n : Nat) (o : List Int) (k : Nat), n < 18446744073709551616 → o.length + (dg n).length ≤ 100 → (dg n).length < k → breviaryref03_Digits.l0 k (n : Int) o = some (o ++ dg n) := by
 intro n
 induction n using Nat.strongRecOn with
 | _ n ih =>
  intro o k hn ho hk
  obtain ⟨k, rfl, hk'⟩ := qk1 hk
  simp only [breviaryref03_Digits.l0]
  by_cases h : n = 0
  ·subst h
   rw [if_neg (by omega), dg_zero, List.append_nil]
  ·have hl : (dg n).length = (dg (n / 10)).length + 1 := by rw [dg_pos n h]; rfl
   rw [if_pos (by omega), if_pos (by omega), Int.tdiv_eq_ediv_of_nonneg (by omega), Int.tmod_eq_emod_of_nonneg (by omega)]
   rw [u64 (by omega) (by omega), w64 (by omega) (by omega)]
   have e : (n : Int) / 10 = ((n / 10 : Nat) : Int) := by omega
   rw [e, ih (n / 10) (by omega) _ k (by omega) (by simp; omega) (by omega), dg_pos n h]
   simp
theorem dg_len64 {n : Nat} (h : n < 18446744073709551616) : (dg n).length ≤ 20 := dg_le_length 20 n (Nat.lt_trans h (by decide))
theorem digits_f {n : Nat} {k : Nat} (h : n < 18446744073709551616) (hk : 30 < k) : breviaryref03_Digits.f k (n : Int) = some (dg n) := by
 have := dg_len64 h
 unfold breviaryref03_Digits.f
 rw [digits_l0 n [] k h (by simp; omega) (by omega), List.nil_append]
theorem made_l0 (b : Bool) (x : List Int) (hx : x.length ≤ 800) (hdx : Dig x) (hm : val x ≤ 9223372036854775807) : ∀ (i : Nat) (n : Int) (k : Nat), i ≤ x.length → i < k → n = val (x.drop i) →
  breviaryref03_Made.l0 k b x n ((i : Int) - 1) = some (0, if b then -(val x) else val x)
 | 0, n, k, _, hk, hn => by
  obtain ⟨k, rfl, _⟩ := qk1 hk
  simp only [breviaryref03_Made.l0]
  have h0 := val_nonneg x hdx
  simp only [List.drop_zero] at hn
  rw [if_neg (by omega), hn]
  cases b
  ·simp
  ·simp; rw [w64 (by omega) (by omega)]
 | i + 1, n, k, hi, hk, hn => by
  obtain ⟨k, rfl, hk'⟩ := qk1 hk
  simp only [breviaryref03_Made.l0]
  have e : ((i + 1 : Nat) : Int) - 1 = (i : Int) := by omega
  have hd : x.drop i = x.getD i 0 :: x.drop (i + 1) := by
   rw [List.drop_eq_getElem_cons (by omega)]; simp [List.getD, List.getElem?_eq_getElem (show i < x.length by omega)]
  have hv : val (x.drop i) = x.getD i 0 + 10 * n := by rw [hd, hn]; rfl
  have hsum : val x = val (x.take i) + 10 ^ i * val (x.drop i) := by
   conv => lhs; rw [← List.take_append_drop i x]
   rw [val_append, List.length_take, Nat.min_eq_left (by omega)]
  have h1 := val_take_nonneg hdx i
  have g := dig_get hdx i
  have hnn : 0 ≤ n := by rw [hn]; exact val_nonneg _ (fun d hd => hdx d (List.mem_of_mem_drop hd))
  have hp : (1 : Int) ≤ 10 ^ i := Int.pow_pos (by omega)
  have hb : val (x.drop i) ≤ 9223372036854775807 := by
   have : 1 * val (x.drop i) ≤ 10 ^ i * val (x.drop i) := Int.mul_le_mul_of_nonneg_right hp (by omega)
   omega
  rw [e, if_pos (by omega), if_pos (by omega), if_pos (by omega), rd_eq]
  generalize x.getD i 0 = a at *
  rw [w64 (x := n * 10) (by omega) (by omega), w64 (x := n * 10 + a) (by omega) (by omega), w64 (x := (i : Int) - 1) (by omega) (by omega)]
  exact made_l0 b x hx hdx hm i _ k (by omega) (by omega) (by omega)
theorem val_lt_big {x : List Int} (hx : x.length ≤ 800) (hdx : Dig x) : val x < 10 ^ manyD :=
 Int.lt_of_lt_of_le (val_lt x hdx) (pow10_le (by rw [manyD_eq]; omega))
theorem made_f {b : Bool} {x : List Int} {k : Nat} (hx : x.length ≤ 800) (hk : 2000 < k) (hdx : Dig x) :
  breviaryref03_Made.f k b x = some (if val x > 9223372036854775807 then ((if b then 3 else 2), 0) else (0, if b then -(val x) else val x)) := by
 unfold breviaryref03_Made.f
 have e : breviaryref03_Digits.f k 9223372036854775807 = some (dg 9223372036854775807) := digits_f (n := 9223372036854775807) (by decide) (by omega)
 rw [e]
 simp only [Option.bind_some]
 rw [least_f (by have := dg_len64 (n := 9223372036854775807) (by omega); omega) (by omega) (by omega) (dg_dig _) hdx (val_lt_big (by have := dg_len64 (n := 9223372036854775807) (by omega); omega) (dg_dig _)) (val_lt_big hx hdx), val_dg]
 simp only [Option.bind_some]
 by_cases h : val x > 9223372036854775807
 ·rw [if_pos (by simpa using h), if_pos h]
  cases b <;> simp
 ·rw [if_neg (by simpa using h), if_neg h, w64 (by omega) (by omega)]
  exact made_l0 b x hx hdx (by omega) x.length 0 k (Nat.le_refl _) (by omega) (by simp [val])
end Go.Proofs.YthilcidoacgdfaaGreatDoor.DecB
