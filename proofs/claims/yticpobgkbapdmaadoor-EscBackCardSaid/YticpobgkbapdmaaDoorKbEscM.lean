/- Plain laws of esc: what was put is what it was; the digits of a number are its reference. -/
import Derived.Test.YticpobgkbapdmaaDoorKbEscK
namespace Go.Proofs.YticpobgkbapdmaaDoor.CharA
end Go.Proofs.YticpobgkbapdmaaDoor.CharA
namespace Go.Proofs.YticpobgkbapdmaaDoor.CharB
end Go.Proofs.YticpobgkbapdmaaDoor.CharB
namespace Go.Proofs.YticpobgkbapdmaaDoor.CharC
end Go.Proofs.YticpobgkbapdmaaDoor.CharC
namespace Go.Proofs.YticpobgkbapdmaaDoor.CharD
end Go.Proofs.YticpobgkbapdmaaDoor.CharD
namespace Go.Proofs.YticpobgkbapdmaaDoor.CharF
end Go.Proofs.YticpobgkbapdmaaDoor.CharF
namespace Go.Proofs.YticpobgkbapdmaaDoor.CharH
end Go.Proofs.YticpobgkbapdmaaDoor.CharH
namespace Go.Proofs.YticpobgkbapdmaaDoor.EscB
end Go.Proofs.YticpobgkbapdmaaDoor.EscB
namespace Go.Proofs.YticpobgkbapdmaaDoor.EscC
end Go.Proofs.YticpobgkbapdmaaDoor.EscC
namespace Go.Proofs.YticpobgkbapdmaaDoor.EscD
end Go.Proofs.YticpobgkbapdmaaDoor.EscD
namespace Go.Proofs.YticpobgkbapdmaaDoor.EscF
end Go.Proofs.YticpobgkbapdmaaDoor.EscF
namespace Go.Proofs.YticpobgkbapdmaaDoor.EscG
end Go.Proofs.YticpobgkbapdmaaDoor.EscG
namespace Go.Proofs.YticpobgkbapdmaaDoor.EscI
end Go.Proofs.YticpobgkbapdmaaDoor.EscI
namespace Go.Proofs.YticpobgkbapdmaaDoor.EscJ
end Go.Proofs.YticpobgkbapdmaaDoor.EscJ
namespace Go.Proofs.YticpobgkbapdmaaDoor.EscK
end Go.Proofs.YticpobgkbapdmaaDoor.EscK
namespace Go.Proofs.YticpobgkbapdmaaDoor.PR1
end Go.Proofs.YticpobgkbapdmaaDoor.PR1
namespace Go.Proofs.YticpobgkbapdmaaDoor.SpanA
end Go.Proofs.YticpobgkbapdmaaDoor.SpanA
namespace Go.Proofs.YticpobgkbapdmaaDoor.SpanD
end Go.Proofs.YticpobgkbapdmaaDoor.SpanD
namespace Go.Proofs.YticpobgkbapdmaaDoorW.PrintLast
end Go.Proofs.YticpobgkbapdmaaDoorW.PrintLast
namespace Go.Proofs.YticpobgkbapdmaaDoorW.PrintMore
end Go.Proofs.YticpobgkbapdmaaDoorW.PrintMore
namespace Go.Proofs.YticpobgkbapdmaaDoorW.PrintWords
end Go.Proofs.YticpobgkbapdmaaDoorW.PrintWords
namespace Go.Proofs.YticpobgkbapdmaaDoor.EscM
open Go.RowKit Go.Proofs.YticpobgkbapdmaaDoorW.PrintWords Go.Proofs.YticpobgkbapdmaaDoorW.PrintLast Go.Proofs.YticpobgkbapdmaaDoorW.PrintMore Go.Proofs.YticpobgkbapdmaaDoor.CharA Go.Proofs.YticpobgkbapdmaaDoor.CharB Go.Proofs.YticpobgkbapdmaaDoor.CharC Go.Proofs.YticpobgkbapdmaaDoor.CharD Go.Proofs.YticpobgkbapdmaaDoor.CharF Go.Proofs.YticpobgkbapdmaaDoor.CharH Go.Proofs.YticpobgkbapdmaaDoor.SpanA Go.Proofs.YticpobgkbapdmaaDoor.SpanD Go.Proofs.YticpobgkbapdmaaDoor.EscB Go.Proofs.YticpobgkbapdmaaDoor.EscC Go.Proofs.YticpobgkbapdmaaDoor.EscD Go.Proofs.YticpobgkbapdmaaDoor.EscF Go.Proofs.YticpobgkbapdmaaDoor.EscG Go.Proofs.YticpobgkbapdmaaDoor.EscI Go.Proofs.YticpobgkbapdmaaDoor.EscJ Go.Proofs.YticpobgkbapdmaaDoor.EscK Go.Proofs.YticpobgkbapdmaaDoor.PR1
set_option linter.unusedVariables false
set_option linter.unusedSimpArgs false
/-! ### a text's first character -/
theorem dec_L (l : List UInt8) : Utf8.decode (ba l) 0 = Lib.decodeL l := by
  have := Lib.decodeL_drop (ba l) 0
  rw [List.drop_zero, ba_list] at this
  exact this.symm
theorem textB_step (l : List UInt8) (h : l ≠ []) : textB (ba l) = if Lib.decodeL l = (65533, 1) then false else isB ((Lib.decodeL l).1 : Int) && textB (ba (l.drop (Lib.decodeL l).2)) := by
  have hp : 0 < (ba l).size := by rw [ba_size]; exact List.length_pos_iff.2 h
  have hw := width_le (ba l) 0 hp
  have hw0 := width_pos (ba l) 0 hp
  rw [dec_L, ba_size] at hw
  rw [dec_L] at hw0
  obtain ⟨n, hn⟩ : ∃ n, (ba l).size = n + 1 := ⟨(ba l).size - 1, by omega⟩
  rw [textB_chars]
  rw [hn]
  simp only [charsL, if_pos hp, dec_L]
  rw [ba_size] at hn
  by_cases hd : Lib.decodeL l = (65533, 1)
  · rw [if_pos hd, if_pos hd]
  · rw [if_neg hd, if_neg hd, textB_chars]
    generalize hwd : (Lib.decodeL l).2 = w at *
    have e1 : ba l = ba (l.take w) ++ ba (l.drop w) := by rw [ba_app, List.take_append_drop]
    have e2 : (ba (l.take w)).size = w := by rw [ba_size, List.length_take]; omega
    have e3 : charsL (ba l) n (0 + w) = charsL (ba (l.drop w)) (ba (l.drop w)).size 0 := by
      have h1 := chars_shift (ba (l.take w)) (ba (l.drop w)) n 0
      rw [← e1, e2, Nat.add_zero] at h1
      rw [Nat.zero_add, h1]
      have h2 := chars_fuel (ba (l.drop w)) (ba (l.drop w)).size (n - (ba (l.drop w)).size) 0 (by omega)
      rw [← h2]
      congr 1
      rw [ba_size, List.length_drop]
      omega
    rw [e3]
    cases charsL (ba (l.drop w)) (ba (l.drop w)).size 0 with
    | none => simp
    | some q => simp
theorem dec_low (c : UInt8) (t : List UInt8) (h : c.toNat < 128) : Lib.decodeL (c :: t) = (c.toNat, 1) := Lib.decodeL_ascii c t h
theorem textB_low (c : UInt8) (t : List UInt8) (h : c.toNat < 128) : textB (ba (c :: t)) = (isB (c.toNat : Int) && textB (ba t)) := by
  rw [textB_step _ (by simp), dec_low c t h, if_neg (by simp; omega)]
  rfl
/-! ### what was put is a text just if it was -/
theorem put_nil (attr : Bool) : putL attr [] = [] := rfl
theorem put_cons (attr : Bool) (c : UInt8) (t : List UInt8) : putL attr (c :: t) = putC attr c ++ putL attr t := by unfold putL; rw [List.flatMap_cons]
theorem putC_high (attr : Bool) (c : UInt8) (h : 128 ≤ c.toNat) : putC attr c = [c] := by
  have n : ∀ d : UInt8, d.toNat < 128 → c ≠ d := fun d hd e => by rw [e] at h; omega
  unfold putC
  rw [if_neg (n 38 (by decide)), if_neg (n 60 (by decide)), if_neg (n 13 (by decide)), if_neg (fun q => n 62 (by decide) q.1), if_neg (fun q => n 34 (by decide) q.1), if_neg (fun q => n 9 (by decide) q.1), if_neg (fun q => n 10 (by decide) q.1)]
theorem put_high (attr : Bool) (c : UInt8) (t : List UInt8) (h : 128 ≤ c.toNat) : putL attr (c :: t) = c :: putL attr t := by rw [put_cons, putC_high attr c h]; rfl
/-- What a byte below 128 is put as begins with such a byte. -/
theorem put_low (attr : Bool) (c : UInt8) (t : List UInt8) (h : c.toNat < 128) : ∃ d q, putL attr (c :: t) = d :: q ∧ d.toNat < 128 := by
  rw [put_cons]
  unfold putC
  repeat' split
  all_goals first | exact ⟨_, _, rfl, by decide⟩ | exact ⟨_, _, rfl, h⟩
theorem dn1 (n b0 : Nat) (b2 b3 b1 : Nat) (h : 128 ≤ b0) (h1 : ¬ (1 < n ∧ b1 / 64 = 2)) : Lib.decodeN n b0 b1 b2 b3 = (65533, 1) := by
  unfold Lib.decodeN
  rw [if_neg (by omega), if_neg (fun q => h1 q.2), if_neg (fun q => h1 q.2.1), if_neg (fun q => h1 q.2.1)]
theorem pT {p : Prop} (h : p) : p = True := propext ⟨fun _ => trivial, fun _ => h⟩
theorem pF {p : Prop} (h : ¬ p) : p = False := propext ⟨h, False.elim⟩
theorem dn2 (n m b0 b1 b2 b3 c2 c3 : Nat) (h : 128 ≤ b0) (hn : 1 < n) (hm : 1 < m) (h1 : ¬ (2 < n ∧ b2 / 64 = 2)) (h2 : ¬ (2 < m ∧ c2 / 64 = 2)) : Lib.decodeN n b0 b1 b2 b3 = Lib.decodeN m b0 b1 c2 c3 := by
  unfold Lib.decodeN
  simp only [pT hn, pT hm, pF h1, pF h2, and_false, false_and, if_false]
theorem dn3 (n m b0 b1 b2 b3 c3 : Nat) (h : 128 ≤ b0) (hn : 2 < n) (hm : 2 < m) (h1 : ¬ (3 < n ∧ b3 / 64 = 2)) (h2 : ¬ (3 < m ∧ c3 / 64 = 2)) : Lib.decodeN n b0 b1 b2 b3 = Lib.decodeN m b0 b1 b2 c3 := by
  unfold Lib.decodeN
  simp only [pT hn, pT hm, pT (show 1 < n by omega), pT (show 1 < m by omega), pF h1, pF h2, and_false, false_and, if_false]
theorem dn4 (n m b0 b1 b2 b3 : Nat) (hn : 3 < n) (hm : 3 < m) : Lib.decodeN n b0 b1 b2 b3 = Lib.decodeN m b0 b1 b2 b3 := by
  unfold Lib.decodeN
  simp only [pT hn, pT hm, pT (show 1 < n by omega), pT (show 1 < m by omega), pT (show 2 < n by omega), pT (show 2 < m by omega)]
theorem low64 (c : UInt8) (h : c.toNat < 128) : ¬ c.toNat / 64 = 2 := by omega
theorem dn_wide (n b0 b1 b2 b3 : Nat) (h : 128 ≤ b0) (hg : Lib.decodeN n b0 b1 b2 b3 ≠ (65533, 1)) :
    ((Lib.decodeN n b0 b1 b2 b3).2 = 2 ∧ 1 < n ∧ b1 / 64 = 2) ∨ ((Lib.decodeN n b0 b1 b2 b3).2 = 3 ∧ 2 < n ∧ b1 / 64 = 2 ∧ b2 / 64 = 2) ∨ ((Lib.decodeN n b0 b1 b2 b3).2 = 4 ∧ 3 < n ∧ b1 / 64 = 2 ∧ b2 / 64 = 2 ∧ b3 / 64 = 2) := by
  revert hg
  unfold Lib.decodeN
  repeat' split
  all_goals
    intro hg
    first | exact absurd rfl hg | (simp; omega) | omega
/-- At a byte from 128 on what was put is decoded as it was, and stands on alike behind it. -/
theorem put_dec (attr : Bool) (c : UInt8) (t : List UInt8) (h : 128 ≤ c.toNat) :
    Lib.decodeL (putL attr (c :: t)) = Lib.decodeL (c :: t) ∧ (Lib.decodeL (c :: t) ≠ (65533, 1) → (putL attr (c :: t)).drop (Lib.decodeL (c :: t)).2 = putL attr ((c :: t).drop (Lib.decodeL (c :: t)).2)) := by
  rw [put_high attr c t h]
  match t with
  | [] => exact ⟨rfl, fun hg => absurd (by rw [Lib.decodeL_N]; exact dn1 _ _ _ _ _ h (by simp)) hg⟩
  | c1 :: t =>
    by_cases h1 : c1.toNat < 128
    · obtain ⟨d, q, e, hd⟩ := put_low attr c1 t h1
      have e1 : Lib.decodeL (c :: c1 :: t) = (65533, 1) := by rw [Lib.decodeL_N]; exact dn1 _ _ _ _ _ h (fun z => low64 c1 h1 z.2)
      have e2 : Lib.decodeL (c :: putL attr (c1 :: t)) = (65533, 1) := by rw [e, Lib.decodeL_N]; exact dn1 _ _ _ _ _ h (fun z => low64 d hd z.2)
      exact ⟨e2.trans e1.symm, fun hg => absurd e1 hg⟩
    rw [put_high attr c1 t (by omega)]
    have hg1 : ∀ z : List UInt8, ((c :: c1 :: z).getD 1 0) = c1 := fun _ => rfl
    have hg0 : ∀ z : List UInt8, ((c :: z).getD 0 0) = c := fun _ => rfl
    have fall : Lib.decodeL (c :: c1 :: putL attr t) = Lib.decodeL (c :: c1 :: t) → ((Lib.decodeL (c :: c1 :: t)).2 = 2 → True) → (2 < (c :: c1 :: t).length → (t.getD 0 0).toNat / 64 = 2 → False) →
        Lib.decodeL (c :: c1 :: putL attr t) = Lib.decodeL (c :: c1 :: t) ∧ (Lib.decodeL (c :: c1 :: t) ≠ (65533, 1) → (c :: c1 :: putL attr t).drop (Lib.decodeL (c :: c1 :: t)).2 = putL attr ((c :: c1 :: t).drop (Lib.decodeL (c :: c1 :: t)).2)) := by
      intro he _ hf
      refine ⟨he, fun hg => ?_⟩
      rw [Lib.decodeL_N] at hg ⊢
      simp only [hg0] at hg ⊢
      rcases dn_wide _ _ _ _ _ h hg with ⟨e, _⟩ | ⟨e, a, b, d⟩ | ⟨e, a, b, d, f⟩
      · rw [e]; rfl
      · exact (hf a (by cases t <;> exact d)).elim
      · exact (hf (by omega) (by cases t <;> exact d)).elim
    match t with
    | [] => exact fall rfl (fun _ => trivial) (by simp)
    | c2 :: t =>
      by_cases h2 : c2.toNat < 128
      · obtain ⟨d, q, e, hd⟩ := put_low attr c2 t h2
        refine fall ?_ (fun _ => trivial) (fun _ z => low64 c2 h2 z)
        rw [e, Lib.decodeL_N, Lib.decodeL_N]
        exact dn2 _ _ _ _ _ _ _ _ h (by simp) (by simp) (fun z => low64 d hd z.2) (fun z => low64 c2 h2 z.2)
      rw [put_high attr c2 t (by omega)]
      have fall3 : Lib.decodeL (c :: c1 :: c2 :: putL attr t) = Lib.decodeL (c :: c1 :: c2 :: t) → (3 < (c :: c1 :: c2 :: t).length → (t.getD 0 0).toNat / 64 = 2 → False) →
          Lib.decodeL (c :: c1 :: c2 :: putL attr t) = Lib.decodeL (c :: c1 :: c2 :: t) ∧ (Lib.decodeL (c :: c1 :: c2 :: t) ≠ (65533, 1) → (c :: c1 :: c2 :: putL attr t).drop (Lib.decodeL (c :: c1 :: c2 :: t)).2 = putL attr ((c :: c1 :: c2 :: t).drop (Lib.decodeL (c :: c1 :: c2 :: t)).2)) := by
        intro he hf
        refine ⟨he, fun hg => ?_⟩
        rw [Lib.decodeL_N] at hg ⊢
        simp only [hg0] at hg ⊢
        rcases dn_wide _ _ _ _ _ h hg with ⟨e, _⟩ | ⟨e, a, b, d⟩ | ⟨e, a, b, d, f⟩
        · rw [e]; exact (put_high attr c2 t (by omega)).symm
        · rw [e]; rfl
        · exact (hf (by omega) (by cases t <;> exact f)).elim
      match t with
      | [] => exact fall3 rfl (by simp)
      | c3 :: t =>
        by_cases h3 : c3.toNat < 128
        · obtain ⟨d, q, e, hd⟩ := put_low attr c3 t h3
          refine fall3 ?_ (fun _ z => low64 c3 h3 z)
          rw [e, Lib.decodeL_N, Lib.decodeL_N]
          exact dn3 _ _ _ _ _ _ _ h (by simp) (by simp) (fun z => low64 d hd z.2) (fun z => low64 c3 h3 z.2)
        rw [put_high attr c3 t (by omega)]
        have he : Lib.decodeL (c :: c1 :: c2 :: c3 :: putL attr t) = Lib.decodeL (c :: c1 :: c2 :: c3 :: t) := by
          rw [Lib.decodeL_N, Lib.decodeL_N]
          exact dn4 _ _ _ _ _ _ (by simp) (by simp)
        refine ⟨he, fun hg => ?_⟩
        rw [Lib.decodeL_N] at hg ⊢
        simp only [hg0] at hg ⊢
        rcases dn_wide _ _ _ _ _ h hg with ⟨e, _⟩ | ⟨e, a, b, d⟩ | ⟨e, a, b, d, f⟩
        · rw [e]; exact ((put_high attr c2 (c3 :: t) (by omega)).trans (by rw [put_high attr c3 t (by omega)]; rfl)).symm
        · rw [e]; exact (put_high attr c3 t (by omega)).symm
        · rw [e]; rfl
/-- A byte's marks are a text, if it is a character's. -/
theorem putC_text (attr : Bool) (c : UInt8) (h : c.toNat < 128) (z : List UInt8) : textB (ba (putC attr c ++ z)) = (isB (c.toNat : Int) && textB (ba z)) := by
  have sp : ∀ (d : UInt8) (m : List UInt8), textB (ba m) = true → isB (d.toNat : Int) = true → textB (ba (m ++ z)) = (isB (d.toNat : Int) && textB (ba z)) := by
    intro d m hm hd
    rw [← ba_app, text_app _ _ hm, hd, Bool.true_and]
  unfold putC
  split
  · rename_i e; rw [e]; exact sp 38 _ (by decide +kernel) (by decide +kernel)
  split
  · rename_i e; rw [e]; exact sp 60 _ (by decide +kernel) (by decide +kernel)
  split
  · rename_i e; rw [e]; exact sp 13 _ (by decide +kernel) (by decide +kernel)
  split
  · rename_i e; rw [e.1]; exact sp 62 _ (by decide +kernel) (by decide +kernel)
  split
  · rename_i e; rw [e.1]; exact sp 34 _ (by decide +kernel) (by decide +kernel)
  split
  · rename_i e; rw [e.1]; exact sp 9 _ (by decide +kernel) (by decide +kernel)
  split
  · rename_i e; rw [e.1]; exact sp 10 _ (by decide +kernel) (by decide +kernel)
  · exact textB_low c z h
theorem put_text (attr : Bool) : ∀ (n : Nat) (l : List UInt8), l.length ≤ n → textB (ba (putL attr l)) = textB (ba l) := by
  intro n
  induction n with
  | zero => intro l h; rw [List.length_eq_zero_iff.1 (Nat.le_zero.1 h)]; rfl
  | succ n ih =>
    intro l h
    match l with
    | [] => rfl
    | c :: t =>
      by_cases hc : c.toNat < 128
      · rw [put_cons, putC_text attr c hc, textB_low c t hc, ih t (by simpa using h)]
      · obtain ⟨h1, h2⟩ := put_dec attr c t (by omega)
        have hw := Lib.decodeL_width (c :: t)
        rw [textB_step (c :: t) (by simp), textB_step _ (by rw [put_high attr c t (by omega)]; simp), h1]
        by_cases hd : Lib.decodeL (c :: t) = (65533, 1)
        · rw [if_pos hd, if_pos hd]
        · rw [if_neg hd, if_neg hd, h2 hd, ih _ (by rw [List.length_drop]; simp only [List.length_cons] at h ⊢; omega)]
/-! ### and stands for what it was -/
theorem back_run (attr : Bool) : ∀ (l : List UInt8) (n : Nat) (out : List UInt8), l.length ≤ n → runL attr n (putL attr l) out = (out ++ l, 0)
  | [], n, out, _ => by rw [put_nil, run_nil, List.append_nil]
  | c :: t, n, out, h => by
    obtain ⟨n, rfl⟩ : ∃ m, n = m + 1 := ⟨n - 1, by simp only [List.length_cons] at h; omega⟩
    have ht : t.length ≤ n := by simpa using h
    have ih := fun o => back_run attr t n o ht
    have sp : ∀ (d : UInt8) (m : List UInt8), refR (m ++ putL attr t) = some ([d], putL attr t) → runL attr (n + 1) (38 :: m ++ putL attr t) out = (out ++ d :: t, 0) := by
      intro d m hm
      rw [List.cons_append]
      simp only [runL]
      rw [if_neg (by decide), if_pos trivial, hm]
      simp only
      rw [ih, List.append_assoc]
      rfl
    have rf : ∀ (d : UInt8) (m : List UInt8), cutS (m ++ [59] ++ putL attr t) = some (m, putL attr t) → chr m = some [d] → refR ((m ++ [59]) ++ putL attr t) = some ([d], putL attr t) := by
      intro d m h1 h2
      rw [refR_S, h1]
      simp only [h2]
    have pl : c ≠ 38 → c ≠ 60 → c ≠ 13 → plU attr c = c → runL attr (n + 1) ([c] ++ putL attr t) out = (out ++ c :: t, 0) := by
      intro h1 h2 h3 h4
      rw [List.singleton_append]
      simp only [runL]
      rw [if_neg h2, if_neg h1, if_neg h3, ih, h4, List.append_assoc]
      rfl
    rw [put_cons]
    unfold putC
    split
    · rename_i e; rw [e]; exact sp 38 [97, 109, 112, 59] (rf 38 [97, 109, 112] (by simp [cutS]) (by decide +kernel))
    rename_i n38
    split
    · rename_i e; rw [e]; exact sp 60 [108, 116, 59] (rf 60 [108, 116] (by simp [cutS]) (by decide +kernel))
    rename_i n60
    split
    · rename_i e; rw [e]; exact sp 13 [35, 49, 51, 59] (rf 13 [35, 49, 51] (by simp [cutS]) (by decide +kernel))
    rename_i n13
    split
    · rename_i e; rw [e.1]; exact sp 62 [103, 116, 59] (rf 62 [103, 116] (by simp [cutS]) (by decide +kernel))
    split
    · rename_i e; rw [e.1]; exact sp 34 [113, 117, 111, 116, 59] (rf 34 [113, 117, 111, 116] (by simp [cutS]) (by decide +kernel))
    split
    · rename_i e; rw [e.1]; exact sp 9 [35, 57, 59] (rf 9 [35, 57] (by simp [cutS]) (by decide +kernel))
    rename_i n9
    split
    · rename_i e; rw [e.1]; exact sp 10 [35, 49, 48, 59] (rf 10 [35, 49, 48] (by simp [cutS]) (by decide +kernel))
    rename_i n10
    refine pl n38 n60 n13 ?_
    unfold plU
    rw [if_neg]
    rintro ⟨e, h | h⟩
    · exact n9 ⟨h, e⟩
    · exact n10 ⟨h, e⟩
theorem put_len (attr : Bool) : ∀ l : List UInt8, l.length ≤ (putL attr l).length ∧ (putL attr l).length ≤ 6 * l.length
  | [] => ⟨Nat.le_refl _, Nat.le_refl _⟩
  | c :: t => by
    have := put_len attr t
    have := putC_len attr c
    rw [put_cons, List.length_append, List.length_cons]
    omega
/-- What was put is what it was. -/
theorem get_put (attr : Bool) (s : ByteArray) : getB attr (ba (putL attr s.data.toList)) = if textB s = true then (s.data.toList, 0) else ([], 10) := by
  unfold getB
  rw [put_text attr _ s.data.toList (Nat.le_refl _), ba_data, ba_list, back_run attr _ _ _ (by rw [ba_size]; exact (put_len attr _).1)]
  rfl
/-! ### the digits of a number -/
end Go.Proofs.YticpobgkbapdmaaDoor.EscM
