/- The laws of span that join and part texts, and the one that finds. -/
import Derived.Test.YticpobgkbapdmaaDoorZpSpanF
namespace Go.Proofs.YticpobgkbapdmaaDoor.CharA
end Go.Proofs.YticpobgkbapdmaaDoor.CharA
namespace Go.Proofs.YticpobgkbapdmaaDoor.CharB
end Go.Proofs.YticpobgkbapdmaaDoor.CharB
namespace Go.Proofs.YticpobgkbapdmaaDoor.CharC
end Go.Proofs.YticpobgkbapdmaaDoor.CharC
namespace Go.Proofs.YticpobgkbapdmaaDoor.CharD
end Go.Proofs.YticpobgkbapdmaaDoor.CharD
namespace Go.Proofs.YticpobgkbapdmaaDoor.CharE
end Go.Proofs.YticpobgkbapdmaaDoor.CharE
namespace Go.Proofs.YticpobgkbapdmaaDoor.CharF
end Go.Proofs.YticpobgkbapdmaaDoor.CharF
namespace Go.Proofs.YticpobgkbapdmaaDoor.SpanA
end Go.Proofs.YticpobgkbapdmaaDoor.SpanA
namespace Go.Proofs.YticpobgkbapdmaaDoor.SpanB
end Go.Proofs.YticpobgkbapdmaaDoor.SpanB
namespace Go.Proofs.YticpobgkbapdmaaDoor.SpanC
end Go.Proofs.YticpobgkbapdmaaDoor.SpanC
namespace Go.Proofs.YticpobgkbapdmaaDoor.SpanD
end Go.Proofs.YticpobgkbapdmaaDoor.SpanD
namespace Go.Proofs.YticpobgkbapdmaaDoor.SpanE
end Go.Proofs.YticpobgkbapdmaaDoor.SpanE
namespace Go.Proofs.YticpobgkbapdmaaDoor.SpanF
end Go.Proofs.YticpobgkbapdmaaDoor.SpanF
namespace Go.Proofs.YticpobgkbapdmaaDoorW.PrintLast
end Go.Proofs.YticpobgkbapdmaaDoorW.PrintLast
namespace Go.Proofs.YticpobgkbapdmaaDoorW.PrintMore
end Go.Proofs.YticpobgkbapdmaaDoorW.PrintMore
namespace Go.Proofs.YticpobgkbapdmaaDoorW.PrintWords
end Go.Proofs.YticpobgkbapdmaaDoorW.PrintWords
namespace Go.Proofs.YticpobgkbapdmaaDoor.SpanG
open Go.RowKit Go.Shelf Go.Proofs.YticpobgkbapdmaaDoorW.PrintWords Go.Proofs.YticpobgkbapdmaaDoorW.PrintLast Go.Proofs.YticpobgkbapdmaaDoorW.PrintMore Go.Proofs.YticpobgkbapdmaaDoor.CharA Go.Proofs.YticpobgkbapdmaaDoor.CharB Go.Proofs.YticpobgkbapdmaaDoor.CharC Go.Proofs.YticpobgkbapdmaaDoor.CharD Go.Proofs.YticpobgkbapdmaaDoor.CharE Go.Proofs.YticpobgkbapdmaaDoor.CharF Go.Proofs.YticpobgkbapdmaaDoor.SpanA Go.Proofs.YticpobgkbapdmaaDoor.SpanB Go.Proofs.YticpobgkbapdmaaDoor.SpanC Go.Proofs.YticpobgkbapdmaaDoor.SpanD Go.Proofs.YticpobgkbapdmaaDoor.SpanE Go.Proofs.YticpobgkbapdmaaDoor.SpanF
set_option linter.unusedVariables false
set_option linter.unusedSimpArgs false
set_option linter.unnecessarySimpa false
theorem cutL_app (a m : Int) : ∀ (ps qs : List ByteArray) (j : Nat), cutL a m (ps ++ qs) j = cutL a m ps j ++ cutL a m qs (j + ps.length)
  | [], qs, j => by simp [cutL]
  | p :: ps, qs, j => by
    simp only [List.cons_append, cutL, cutL_app a m ps qs (j + 1), List.length_cons, List.append_assoc]
    rw [show j + 1 + ps.length = j + (ps.length + 1) by omega]
theorem cutL_none (a m : Int) : ∀ (ps : List ByteArray) (j : Nat), (∀ i, j ≤ i → i < j + ps.length → keepB i a m = false) → cutL a m ps j = []
  | [], _, _ => rfl
  | p :: ps, j, h => by
    simp only [cutL]
    rw [h j (by omega) (by simp), cutL_none a m ps (j + 1) (fun i h1 h2 => h i (by omega) (by simp; omega))]
    simp
theorem cutL_all (a m : Int) : ∀ (ps : List ByteArray) (j : Nat), (∀ i, j ≤ i → i < j + ps.length → keepB i a m = true) → cutL a m ps j = flatB ps
  | [], _, _ => rfl
  | p :: ps, j, h => by
    simp only [cutL, flatB, List.flatMap_cons]
    rw [h j (by omega) (by simp), cutL_all a m ps (j + 1) (fun i h1 h2 => h i (by omega) (by simp; omega))]
    simp [flatB]
theorem parts_eq (s : ByteArray) (k : Nat) (hs : s.size ≤ 3000) (hk : k ≤ 255) : cutB s 0 k ++ cutB s k 4000 = s.data.toList := by
  have hl := pieces_length s
  have hpart : (pieces s) = (pieces s).take k ++ (pieces s).drop k := (List.take_append_drop _ _).symm
  have h1 : cutL 0 k (pieces s) 0 = flatB ((pieces s).take k) := by
    conv => lhs; rw [hpart]
    rw [cutL_app, cutL_all _ _ _ _ (fun i h1 h2 => by rw [List.length_take] at h2; unfold keepB; simp; omega), cutL_none _ _ _ _ (fun i h1 h2 => by rw [List.length_drop, List.length_take] at h2; rw [List.length_take] at h1; unfold keepB; simp; omega)]
    simp
  have h2 : cutL k 4000 (pieces s) 0 = flatB ((pieces s).drop k) := by
    conv => lhs; rw [hpart]
    rw [cutL_app, cutL_none _ _ _ _ (fun i h1 h2 => by rw [List.length_take] at h2; unfold keepB; simp; omega), cutL_all _ _ _ _ (fun i h1 h2 => by rw [List.length_drop, List.length_take] at h2; rw [List.length_take] at h1; unfold keepB; simp; omega)]
    simp
  have h3 : flatB ((pieces s).take k) ++ flatB ((pieces s).drop k) = s.data.toList := by
    rw [← pieces_flat s]
    unfold flatB
    rw [← List.flatMap_append, List.take_append_drop]
  unfold cutB
  rw [if_neg (show ¬ (4000 : Int) < 1 by omega), h2]
  by_cases h0 : (k : Int) < 1
  · rw [if_pos h0]
    obtain rfl : k = 0 := by omega
    simpa [flatB] using h3
  · rw [if_neg h0, h1, h3]
theorem cutB_le (s : ByteArray) (a m : Int) : (cutB s a m).length ≤ s.size := by
  have : ∀ (ps : List ByteArray) (j : Nat), (cutL a m ps j).length ≤ (flatB ps).length := by
    intro ps
    induction ps with
    | nil => intro j; simp [cutL]
    | cons p ps ih =>
      intro j
      have := ih (j + 1)
      simp only [cutL, flatB, List.flatMap_cons, List.length_append] at this ⊢
      split <;> (try simp only [List.length_nil]) <;> omega
  have h := this (pieces s) 0
  rw [pieces_flat, ← Lib.size_eq] at h
  unfold cutB
  split
  · simp
  · exact h
set_option maxHeartbeats 8000000 in
set_option maxRecDepth 100000 in
theorem parts_calls (s : ByteArray) (n : Int) (w : World) (hT : Tabs w) (hw2 : 2 ≤ w.heap.size) (hn0 : 0 ≤ n) (hn1 : n ≤ 255) (hs : s.size ≤ 9223372036854775807) :
    Calls Tryd.prog 11 #[.string s, .int .u8 n] w fun e w' => e = .returned (.bool true) ∧ Below w.heap.size w w' := by
  by_cases hl : s.size ≤ 3000
  · have hlb : decide ((3000 : Int) < (s.size : Int)) = false := by simp; omega
    obtain ⟨k, rfl⟩ : ∃ k : Nat, n = (k : Int) := ⟨n.toNat, by omega⟩
    have hpe := parts_eq s k hl (by omega)
    have hn := norm_len s
    have l1 := cutB_le s 0 k
    have l2 := cutB_le s k 4000
    have c1 := norm_calls s w (by omega)
    have c2 : ∀ w', Below w.heap.size w w' → _ := fun w' hb => cut_calls s 0 k w' (by omega) (tabs_below hT hb) (Nat.le_trans hw2 hb.size) (by omega) (by omega) (by omega) (by omega)
    have c3 : ∀ w', Below w.heap.size w w' → _ := fun w' hb => cut_calls s k 4000 w' (by omega) (tabs_below hT hb) (Nat.le_trans hw2 hb.size) (by omega) (by omega) (by omega) (by omega)
    have c4 := fun w' => norm_calls (ba (normB s)) w' (by rw [ba_size]; omega)
    rw [norm_again] at c4
    have c5 : ∀ w', Below w.heap.size w w' → _ := fun w' hb => works_calls w' (tabs_below hT hb) (Nat.le_trans hw2 hb.size)
    have hw : wrap64 (k : Int) = (k : Int) := w64 (by omega) (by omega)
    generalize normB s = nb at *
    generalize cutB s 0 k = x at *
    generalize cutB s k 4000 = y at *
    have t1 : (ba x ++ ba y).toList = s.toList := by rw [ba_app, ba_tl, tl, hpe]
    have t2 : (ba nb).toList = nb := ba_tl _
    have hsz : (ba x).size + (ba y).size ≤ 9223372036854775807 := by rw [ba_size, ba_size]; omega
    clear hT hpe
    go_enter Tryd.func11, Tryd.ntmps11
    go_wp2_with fail
    refine c1.mono ?_
    rintro e w1 ⟨rfl, b1⟩
    go_wp2_with fail
    refine (c2 w1 b1).mono ?_
    rintro e w2 ⟨rfl, b2⟩
    have b12 := chain b1 (Nat.le_refl _) b2
    clear b1 b2 c1 c2
    go_wp2_with fail
    refine (c3 w2 b12).mono ?_
    rintro e w3 ⟨rfl, b3⟩
    have b13 := chain b12 (Nat.le_refl _) b3
    go_wp2_with fail
    refine (c4 w3).mono ?_
    rintro e w4 ⟨rfl, b4⟩
    have b14 := chain b13 (Nat.le_refl _) b4
    clear b12 b3 b4 c3 c4 b13
    go_wp2_with fail
    refine (c5 w4 b14).mono ?_
    rintro e w5 ⟨rfl, b5⟩
    go_wp2_with fail
    go_ret
    exact ⟨rfl, chain b14 (Nat.le_refl _) b5⟩
  · have hlb : decide ((3000 : Int) < (s.size : Int)) = true := by simp; omega
    have c5 := works_calls w hT hw2
    clear hT
    go_enter Tryd.func11, Tryd.ntmps11
    go_wp2_with fail
    refine c5.mono ?_
    rintro e w5 ⟨rfl, b5⟩
    go_wp2_with fail
    go_ret
    exact ⟨rfl, b5⟩
/-! ### two texts -/
theorem tabs_two {w : World} (hT : Tabs w) : 2 ≤ w.heap.size := World.block_lt_of_cell? w _ (hT.2 0 (by omega)).1
/-! ### finding -/
/-! ### as the rows want them -/
theorem u8_of {n : Int} (h : (Lit.int .u8 n).wf = true) : 0 ≤ n ∧ n ≤ 255 := by simpa [Lit.wf, IntKind.min, IntKind.max, IntKind.bits, IntKind.signed] using h
theorem partsW (s : ByteArray) (n : Int) (w : World) (hT : Tabs w) (hs : s.size ≤ 9223372036854775807) (hn : (Lit.int .u8 n).wf = true) : Calls Tryd.prog 11 #[.string s, .int .u8 n] w fun e w' => e = .returned (.bool true) ∧ Below w.heap.size w w' :=
  parts_calls s n w hT (tabs_two hT) (u8_of hn).1 (u8_of hn).2 hs
end Go.Proofs.YticpobgkbapdmaaDoor.SpanG
