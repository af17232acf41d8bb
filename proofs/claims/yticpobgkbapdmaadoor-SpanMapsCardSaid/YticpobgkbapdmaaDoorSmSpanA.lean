/- Plain laws of span: the characters of a text, and a cut. -/
import Derived.Test.YticpobgkbapdmaaDoorSmCharF
namespace Go.Proofs.YticpobgkbapdmaaDoor.CharA
end Go.Proofs.YticpobgkbapdmaaDoor.CharA
namespace Go.Proofs.YticpobgkbapdmaaDoor.CharB
end Go.Proofs.YticpobgkbapdmaaDoor.CharB
namespace Go.Proofs.YticpobgkbapdmaaDoor.CharC
end Go.Proofs.YticpobgkbapdmaaDoor.CharC
namespace Go.Proofs.YticpobgkbapdmaaDoor.CharD
end Go.Proofs.YticpobgkbapdmaaDoor.CharD
namespace Go.Proofs.YticpobgkbapdmaaDoor.CharF
end Go.Proofs.YticpobgkbapdmaaDoor.CharF
namespace Go.Proofs.YticpobgkbapdmaaDoor.PR1
end Go.Proofs.YticpobgkbapdmaaDoor.PR1
namespace Go.Proofs.YticpobgkbapdmaaDoorW.PrintLast
end Go.Proofs.YticpobgkbapdmaaDoorW.PrintLast
namespace Go.Proofs.YticpobgkbapdmaaDoorW.PrintMore
end Go.Proofs.YticpobgkbapdmaaDoorW.PrintMore
namespace Go.Proofs.YticpobgkbapdmaaDoorW.PrintWords
end Go.Proofs.YticpobgkbapdmaaDoorW.PrintWords
namespace Go.Proofs.YticpobgkbapdmaaDoor.SpanA
open Go.RowKit Go.Proofs.YticpobgkbapdmaaDoorW.PrintWords Go.Proofs.YticpobgkbapdmaaDoorW.PrintLast Go.Proofs.YticpobgkbapdmaaDoorW.PrintMore Go.Proofs.YticpobgkbapdmaaDoor.CharA Go.Proofs.YticpobgkbapdmaaDoor.CharB Go.Proofs.YticpobgkbapdmaaDoor.CharC Go.Proofs.YticpobgkbapdmaaDoor.CharD Go.Proofs.YticpobgkbapdmaaDoor.CharF Go.Proofs.YticpobgkbapdmaaDoor.PR1
set_option linter.unusedVariables false
set_option linter.unusedSimpArgs false
set_option linter.unnecessarySimpa false
/-- A string of bytes. -/
def ba (l : List UInt8) : ByteArray := ⟨l.toArray⟩
theorem ba_list (l : List UInt8) : (ba l).data.toList = l := rfl
theorem ba_data (s : ByteArray) : ba s.data.toList = s := rfl
theorem extract_list (s : ByteArray) (i j : Nat) : (s.extract i j).data.toList = (s.data.toList.drop i).take (j - i) := by
  rw [ByteArray.data_extract, Array.toList_extract]
theorem extract_size (s : ByteArray) (i j : Nat) (h : j ≤ s.size) : (s.extract i j).size = j - i := by
  rw [Lib.size_eq, extract_list, List.length_take, List.length_drop, ← Lib.size_eq]
  omega
/-- The characters of a string, from a byte on. -/
def pcs (s : ByteArray) : Nat → Nat → List ByteArray
  | 0, _ => []
  | n + 1, pos => if pos < s.size then s.extract pos (pos + (Utf8.decode s pos).2) :: pcs s n (pos + (Utf8.decode s pos).2) else []
def pieces (s : ByteArray) : List ByteArray := pcs s s.size 0
theorem pcs_end (s : ByteArray) (n pos : Nat) (h : ¬ pos < s.size) : pcs s n pos = [] := by
  cases n with
  | zero => rfl
  | succ n => simp [pcs, h]
theorem pcs_length (s : ByteArray) : ∀ n pos, (pcs s n pos).length ≤ s.size - pos := by
  intro n
  induction n with
  | zero => intro pos; simp [pcs]
  | succ n ih =>
    intro pos
    by_cases h : pos < s.size
    · have := ih (pos + (Utf8.decode s pos).2)
      have hw := width_pos s pos h
      simp only [pcs, if_pos h, List.length_cons]
      omega
    · rw [pcs_end _ _ _ h]; simp
theorem chars2_l0 (s : ByteArray) (hs : s.size < 1000000000000) : ∀ (n pos k : Nat) (acc : List ByteArray), s.size ≤ pos + n → pos ≤ s.size → n + 50 < k → acc.length ≤ pos →
    breviaryref02_Chars.l0 k s acc (pos : Int) = some (acc ++ pcs s n pos) := by
  intro n
  induction n with
  | zero =>
    intro pos k acc h hp hk ha
    obtain ⟨k, rfl⟩ : ∃ j, k = j + 1 := ⟨k - 1, by omega⟩
    rw [breviaryref02_Chars.l0, if_neg (by omega)]
    simp [pcs]
  | succ n ih =>
    intro pos k acc h hp hk ha
    obtain ⟨k, rfl⟩ : ∃ j, k = j + 1 := ⟨k - 1, by omega⟩
    by_cases hlt : pos < s.size
    · rw [breviaryref02_Chars.l0, if_pos (by omega), if_pos (by omega), if_pos (by omega), Int.toNat_natCast, one_at k (by omega) s pos hlt (by omega), bs]
      simp only [pcs, if_pos hlt]
      by_cases hd : Utf8.decode s pos = (65533, 1)
      · rw [if_pos hd, if_pos rfl, w64 (by omega) (by omega), if_pos (by omega), if_pos (by omega), if_pos (by omega), hd]
        have := ih (pos + 1) k (acc ++ [s.extract pos (pos + 1)]) (by omega) (by omega) (by omega) (by simp; omega)
        rw [show ((pos : Int) + 1) = ((pos + 1 : Nat) : Int) by simp, Int.toNat_natCast, this]
        simp
      · rw [if_neg hd]
        have hw := width_pos s pos hlt
        have hle : pos + (Utf8.decode s pos).2 ≤ s.size := width_le s pos hlt
        generalize (Utf8.decode s pos).1 = q at *
        generalize (Utf8.decode s pos).2 = q2 at *
        simp only
        rw [if_neg (by omega), w64 (by omega) (by omega), if_pos (by omega), if_pos (by omega), if_pos (by omega)]
        have := ih (pos + q2) k (acc ++ [s.extract pos (pos + q2)]) (by omega) hle (by omega) (by simp; omega)
        rw [show ((pos : Int) + (q2 : Int)) = ((pos + q2 : Nat) : Int) by simp, Int.toNat_natCast, this]
        simp
    · rw [pcs_end _ _ _ hlt, breviaryref02_Chars.l0, if_neg (by omega)]
      simp
theorem ref_chars (s : ByteArray) (hs : s.size < 1000000000000) (k : Nat) (hk : s.size + 50 < k) : breviaryref02_Chars.f k s = some (pieces s) := by
  unfold breviaryref02_Chars.f
  have := chars2_l0 s hs s.size 0 k [] (by omega) (by omega) hk (by simp)
  simpa [pieces] using this
/-! ### a cut -/
def keepB (k : Nat) (a m : Int) : Bool := decide (a ≤ (k : Int)) && (decide (a < 0) && decide ((k : Int) < m + a) || decide (0 ≤ a) && decide ((k : Int) - a < m))
def cutL (a m : Int) : List ByteArray → Nat → List UInt8
  | [], _ => []
  | p :: ps, k => (if keepB k a m then p.data.toList else []) ++ cutL a m ps (k + 1)
def cutB (s : ByteArray) (a m : Int) : List UInt8 := if m < 1 then [] else cutL a m (pieces s) 0
theorem rd_at (L : List ByteArray) (i : Nat) (h : i < L.length) : rdOf ByteArray.empty L (i : Int) = L[i] := by
  unfold rdOf
  simp [h]
end Go.Proofs.YticpobgkbapdmaaDoor.SpanA
