/- Plain laws of span, the third part: words with one blank between. -/
import Derived.Lib.FieldsP
import Derived.Lib.SpaceUEq
import Derived.Test.YticpobgkbapdmaaDoorZpSpanD
namespace Go.Proofs.YticpobgkbapdmaaDoor.CharA
end Go.Proofs.YticpobgkbapdmaaDoor.CharA
namespace Go.Proofs.YticpobgkbapdmaaDoor.CharB
end Go.Proofs.YticpobgkbapdmaaDoor.CharB
namespace Go.Proofs.YticpobgkbapdmaaDoor.CharC
end Go.Proofs.YticpobgkbapdmaaDoor.CharC
namespace Go.Proofs.YticpobgkbapdmaaDoor.CharD
end Go.Proofs.YticpobgkbapdmaaDoor.CharD
namespace Go.Proofs.YticpobgkbapdmaaDoor.CharF
end Go.Proofs.YticpobgkbapdmaaDoor.CharF
namespace Go.Proofs.YticpobgkbapdmaaDoor.PR1
end Go.Proofs.YticpobgkbapdmaaDoor.PR1
namespace Go.Proofs.YticpobgkbapdmaaDoor.SpanA
end Go.Proofs.YticpobgkbapdmaaDoor.SpanA
namespace Go.Proofs.YticpobgkbapdmaaDoor.SpanB
end Go.Proofs.YticpobgkbapdmaaDoor.SpanB
namespace Go.Proofs.YticpobgkbapdmaaDoor.SpanC
end Go.Proofs.YticpobgkbapdmaaDoor.SpanC
namespace Go.Proofs.YticpobgkbapdmaaDoor.SpanD
end Go.Proofs.YticpobgkbapdmaaDoor.SpanD
namespace Go.Proofs.YticpobgkbapdmaaDoorW.PrintLast
end Go.Proofs.YticpobgkbapdmaaDoorW.PrintLast
namespace Go.Proofs.YticpobgkbapdmaaDoorW.PrintMore
end Go.Proofs.YticpobgkbapdmaaDoorW.PrintMore
namespace Go.Proofs.YticpobgkbapdmaaDoorW.PrintWords
end Go.Proofs.YticpobgkbapdmaaDoorW.PrintWords
namespace Go.Proofs.YticpobgkbapdmaaDoor.SpanE
open Go.RowKit Go.Proofs.YticpobgkbapdmaaDoorW.PrintWords Go.Proofs.YticpobgkbapdmaaDoorW.PrintLast Go.Proofs.YticpobgkbapdmaaDoorW.PrintMore Go.Proofs.YticpobgkbapdmaaDoor.CharA Go.Proofs.YticpobgkbapdmaaDoor.CharB Go.Proofs.YticpobgkbapdmaaDoor.CharC Go.Proofs.YticpobgkbapdmaaDoor.CharD Go.Proofs.YticpobgkbapdmaaDoor.CharF Go.Proofs.YticpobgkbapdmaaDoor.SpanA Go.Proofs.YticpobgkbapdmaaDoor.SpanB Go.Proofs.YticpobgkbapdmaaDoor.SpanC Go.Proofs.YticpobgkbapdmaaDoor.SpanD Go.Proofs.YticpobgkbapdmaaDoor.PR1
set_option linter.unusedVariables false
set_option linter.unusedSimpArgs false
set_option linter.unnecessarySimpa false
def spc (b : UInt8) : Bool := spaceB (b.toNat : Int)
def spR (n : Nat) : Bool := spaceB (n : Int)
def fieldsB : List UInt8 → List UInt8 → List (List UInt8)
  | cur, [] => if cur = [] then [] else [cur]
  | cur, b :: l => if spc b then (if cur = [] then fieldsB [] l else cur :: fieldsB [] l) else fieldsB (cur ++ [b]) l
theorem fieldsB_skip : ∀ (ws cur l : List UInt8), (∀ b ∈ ws, spc b = false) → fieldsB cur (ws ++ l) = fieldsB (cur ++ ws) l
  | [], cur, l, _ => by simp
  | b :: ws, cur, l, h => by
    have hb := h b (by simp)
    rw [List.cons_append]
    simp only [fieldsB, hb, Bool.false_eq_true, if_false]
    rw [fieldsB_skip ws (cur ++ [b]) l (fun x hx => h x (by simp [hx]))]
    simp
theorem big_nospace (b : UInt8) (h : 128 ≤ b.toNat) : spc b = false := by
  unfold spc spaceB
  generalize b.toNat = q at *
  simp
  omega
theorem rune_bytes (s : ByteArray) (pos : Nat) (hp : pos < s.size) (hs : spR (Utf8.decode s pos).1 = false) : ∀ b ∈ (s.data.toList.drop pos).take (Utf8.decode s pos).2, spc b = false := by
  intro b hb
  have hp' : pos < s.data.toList.length := by rw [← Lib.size_eq]; exact hp
  by_cases ha : (s[pos]'hp).toNat < 128
  · rw [decode_ascii s pos hp ha] at hs hb
    rw [List.drop_eq_getElem_cons hp'] at hb
    simp only [List.take_succ_cons, List.take_zero, List.mem_cons, List.not_mem_nil, or_false] at hb
    subst hb
    exact hs
  · obtain ⟨j, hj, rfl⟩ := List.mem_iff_getElem.1 hb
    have hjl : j < (Utf8.decode s pos).2 ∧ pos + j < s.data.toList.length := by
      rw [List.length_take, List.length_drop] at hj; omega
    have hc := Lib.decodeN_conts (s.data.toList.length - pos) (s.data.toList.getD pos 0).toNat (s.data.toList.getD (pos + 1) 0).toNat (s.data.toList.getD (pos + 2) 0).toNat (s.data.toList.getD (pos + 3) 0).toNat
    rw [← Lib.decode_N] at hc
    have hget : ((s.data.toList.drop pos).take (Utf8.decode s pos).2)[j] = s.data.toList.getD (pos + j) 0 := by
      rw [List.getElem_take, List.getElem_drop, List.getD_eq_getElem?_getD, List.getElem?_eq_getElem hjl.2]
      rfl
    rw [hget]
    obtain ⟨c1, c2, c3, c4⟩ := hc
    have h0 : 128 ≤ (s.data.toList.getD (pos + 0) 0).toNat := by
      rw [List.getD_eq_getElem?_getD, List.getElem?_eq_getElem (by omega)]
      simp only [Nat.add_zero, Option.getD_some, Array.getElem_toList]
      have : s.data[pos] = s[pos] := rfl
      rw [this]; omega
    apply big_nospace
    have : j = 0 ∨ j = 1 ∨ j = 2 ∨ j = 3 := by omega
    rcases this with rfl | rfl | rfl | rfl
    · exact h0
    · have := (c1 (by omega)).1; omega
    · have := (c2 (by omega)).1; omega
    · have := (c3 (by omega)).1; omega
theorem spans_b (s : ByteArray) : ∀ (f pos : Nat) (st : Option Nat) (acc : List (Nat × Nat)), s.size ≤ pos + f → pos ≤ s.size → (∀ a, st = some a → a < pos) →
    acc.map (fun p => Lib.pieceU s.data.toList p.1 p.2) ++ fieldsB (Lib.openPiece s.data.toList st pos) (s.data.toList.drop pos) = (Lib.closeSpans s (Lib.spansFromP spR s f pos st acc)).map (fun p => Lib.pieceU s.data.toList p.1 p.2) := by
  intro f
  induction f with
  | zero =>
    intro pos st acc h hp hst
    obtain rfl : pos = s.size := by omega
    have hd : s.data.toList.drop s.size = [] := List.drop_eq_nil_of_le (by rw [← Lib.size_eq]; exact Nat.le_refl _)
    rw [hd]
    simp only [fieldsB]
    cases st with
    | none => simp [Lib.spansFromP, Lib.closeSpans, Lib.openPiece]
    | some a =>
      have := Lib.pieceU_ne s.data.toList a s.size (hst a rfl) (by rw [← Lib.size_eq]; exact Nat.le_refl _)
      simp [Lib.spansFromP, Lib.closeSpans, Lib.openPiece, this]
  | succ f ih0 =>
    intro pos st acc h hp hst
    by_cases hlt : pos < s.size
    · have hw := width_pos s pos hlt
      have hwn := width_le s pos hlt
      have hp' : pos < s.data.toList.length := by rw [← Lib.size_eq]; exact hlt
      simp only [Lib.spansFromP, if_pos hlt]
      cases hsp : spR (Utf8.decode s pos).1 with
      | true =>
        have hone : (Utf8.decode s pos) = ((s[pos]'hlt).toNat, 1) := by
          by_cases ha : (s[pos]'hlt).toNat < 128
          · exact decode_ascii s pos hlt ha
          · have := decode_big s pos hlt (by omega)
            unfold spR at hsp
            rw [this] at hsp
            cases hsp
        have hsb : spc s.data.toList[pos] = true := by rw [hone] at hsp; exact hsp
        rw [List.drop_eq_getElem_cons hp']
        simp only [fieldsB, hsb, if_true]
        rw [hone]
        cases st with
        | none =>
          have ih := ih0 (pos + 1) none acc (by omega) (by omega) (fun a h => by cases h)
          simpa [Lib.openPiece] using ih
        | some a =>
          have hpn := Lib.pieceU_ne s.data.toList a pos (hst a rfl) (by omega)
          have ih := ih0 (pos + 1) none (acc ++ [(a, pos)]) (by omega) (by omega) (fun a h => by cases h)
          simpa [Lib.openPiece, hpn] using ih
      | false =>
        have hrb := rune_bytes s pos hlt hsp
        have hsplit : s.data.toList.drop pos = (s.data.toList.drop pos).take (Utf8.decode s pos).2 ++ s.data.toList.drop (pos + (Utf8.decode s pos).2) := by
          rw [← List.drop_drop, List.take_append_drop]
        rw [hsplit, fieldsB_skip _ _ _ hrb]
        simp only [Bool.false_eq_true, if_false]
        cases st with
        | none =>
          have ih := ih0 (pos + (Utf8.decode s pos).2) (some pos) acc (by omega) hwn (fun a h => by cases h; omega)
          have e : ([] : List UInt8) ++ (s.data.toList.drop pos).take (Utf8.decode s pos).2 = Lib.pieceU s.data.toList pos (pos + (Utf8.decode s pos).2) := by
            unfold Lib.pieceU
            rw [List.nil_append, Nat.add_sub_cancel_left]
          simp only [Lib.openPiece] at ih ⊢
          rw [e]
          exact ih
        | some a =>
          have ih := ih0 (pos + (Utf8.decode s pos).2) (some a) acc (by omega) hwn (fun b h => by cases h; have := hst a rfl; omega)
          simp only [Lib.openPiece] at ih ⊢
          rw [Lib.pieceU_grow _ _ _ _ (Nat.le_of_lt (hst a rfl))]
          exact ih
    · obtain rfl : pos = s.size := by omega
      have hd : s.data.toList.drop s.size = [] := List.drop_eq_nil_of_le (by rw [← Lib.size_eq]; exact Nat.le_refl _)
      rw [hd, Lib.spansFromP_end _ s _ _ _ _ hlt]
      simp only [fieldsB]
      cases st with
      | none => simp [Lib.closeSpans, Lib.openPiece]
      | some a =>
        have := Lib.pieceU_ne s.data.toList a s.size (hst a rfl) (by rw [← Lib.size_eq]; exact Nat.le_refl _)
        simp [Lib.closeSpans, Lib.openPiece, this]
theorem fields_b (s : ByteArray) : (Lib.goFieldsP spR s).map (·.data.toList) = fieldsB [] s.data.toList := by
  have h := spans_b s s.size 0 none [] (by omega) (by omega) (fun a h => by cases h)
  simp only [List.map_nil, List.nil_append, Lib.openPiece, List.drop_zero] at h
  rw [h]
  unfold Lib.goFieldsP Lib.spansOfP
  rw [List.map_map]
  apply List.map_congr_left
  intro x _
  show (s.extract x.1 x.2).data.toList = _
  rw [extract_list]
  rfl
def normB (s : ByteArray) : List UInt8 := Lib.join (fieldsB [] s.data.toList) [32]
/-! ### the document's -/
/-! ### once more -/
theorem fieldsB_words : ∀ (l cur : List UInt8), (∀ b ∈ cur, spc b = false) → ∀ w ∈ fieldsB cur l, w ≠ [] ∧ ∀ b ∈ w, spc b = false
  | [], cur, hc, w, hw => by
    simp only [fieldsB] at hw
    split at hw
    · cases hw
    · simp at hw; subst hw; exact ⟨by assumption, hc⟩
  | b :: l, cur, hc, w, hw => by
    simp only [fieldsB] at hw
    split at hw
    · split at hw
      · exact fieldsB_words l [] (by simp) w hw
      · rcases List.mem_cons.1 hw with rfl | hw
        · exact ⟨by assumption, hc⟩
        · exact fieldsB_words l [] (by simp) w hw
    · rename_i hb
      refine fieldsB_words l (cur ++ [b]) ?_ w hw
      intro x hx
      rcases List.mem_append.1 hx with h | h
      · exact hc x h
      · simp at h; subst h; simpa using hb
theorem fields_join : ∀ (ws : List (List UInt8)), (∀ w ∈ ws, w ≠ [] ∧ ∀ b ∈ w, spc b = false) → fieldsB [] (Lib.join ws [32]) = ws
  | [], _ => rfl
  | x :: r, h => by
    have hx := h x (by simp)
    rw [Lib.join_cons, fieldsB_skip x [] _ hx.2, List.nil_append]
    cases r with
    | nil =>
      simp only [Lib.joinTail, List.map_nil, List.flatten_nil, fieldsB]
      rw [if_neg hx.1]
    | cons y r =>
      have ih := fields_join (y :: r) (fun w hw => h w (by simp [hw]))
      rw [Lib.join_cons] at ih
      have hjt : Lib.joinTail [32] (y :: r) = 32 :: (y ++ Lib.joinTail [32] r) := by simp [Lib.joinTail]
      rw [hjt]
      have h32 : spc 32 = true := by decide +kernel
      simp only [fieldsB, h32, if_true]
      rw [if_neg hx.1, ih]
theorem norm_again (s : ByteArray) : normB (ba (normB s)) = normB s := by
  unfold normB
  rw [ba_list, fields_join _ (fieldsB_words _ [] (by simp))]
theorem fields_len : ∀ (l cur : List UInt8), (Lib.join (fieldsB cur l) [32]).length ≤ cur.length + l.length := by
  intro l
  induction l with
  | nil => intro cur; simp only [fieldsB]; split <;> simp [Lib.join_nil, Lib.join_one]
  | cons b l ih =>
    intro cur
    simp only [fieldsB]
    split
    · split
      · have := ih []; simp at this ⊢; omega
      · rename_i hc
        have h := ih []
        rw [Lib.join_cons]
        have hjt : (Lib.joinTail [32] (fieldsB [] l)).length ≤ (Lib.join (fieldsB [] l) [32]).length + 1 := by
          cases fieldsB [] l with
          | nil => simp [Lib.joinTail]
          | cons x r => rw [Lib.join_cons]; simp [Lib.joinTail]
        simp at h ⊢
        omega
    · have := ih (cur ++ [b]); simp at this ⊢; omega
theorem norm_len (s : ByteArray) : (normB s).length ≤ s.size := by
  have := fields_len s.data.toList []
  rw [← Lib.size_eq] at this
  simpa [normB] using this
end Go.Proofs.YticpobgkbapdmaaDoor.SpanE
