/- The laws of span that join and part texts, and the one that finds. -/
import Derived.Test.YticpobgkbapdmaaDoorZjSpanF
namespace Go.Proofs.YticpobgkbapdmaaDoor.CharA
end Go.Proofs.YticpobgkbapdmaaDoor.CharA
namespace Go.Proofs.YticpobgkbapdmaaDoor.CharB
end Go.Proofs.YticpobgkbapdmaaDoor.CharB
namespace Go.Proofs.YticpobgkbapdmaaDoor.CharC
end Go.Proofs.YticpobgkbapdmaaDoor.CharC
namespace Go.Proofs.YticpobgkbapdmaaDoor.CharD
end Go.Proofs.YticpobgkbapdmaaDoor.CharD
namespace Go.Proofs.YticpobgkbapdmaaDoor.CharE
end Go.Proofs.YticpobgkbapdmaaDoor.CharE
namespace Go.Proofs.YticpobgkbapdmaaDoor.CharF
end Go.Proofs.YticpobgkbapdmaaDoor.CharF
namespace Go.Proofs.YticpobgkbapdmaaDoor.SpanA
end Go.Proofs.YticpobgkbapdmaaDoor.SpanA
namespace Go.Proofs.YticpobgkbapdmaaDoor.SpanB
end Go.Proofs.YticpobgkbapdmaaDoor.SpanB
namespace Go.Proofs.YticpobgkbapdmaaDoor.SpanC
end Go.Proofs.YticpobgkbapdmaaDoor.SpanC
namespace Go.Proofs.YticpobgkbapdmaaDoor.SpanD
end Go.Proofs.YticpobgkbapdmaaDoor.SpanD
namespace Go.Proofs.YticpobgkbapdmaaDoor.SpanE
end Go.Proofs.YticpobgkbapdmaaDoor.SpanE
namespace Go.Proofs.YticpobgkbapdmaaDoor.SpanF
end Go.Proofs.YticpobgkbapdmaaDoor.SpanF
namespace Go.Proofs.YticpobgkbapdmaaDoorW.PrintLast
end Go.Proofs.YticpobgkbapdmaaDoorW.PrintLast
namespace Go.Proofs.YticpobgkbapdmaaDoorW.PrintMore
end Go.Proofs.YticpobgkbapdmaaDoorW.PrintMore
namespace Go.Proofs.YticpobgkbapdmaaDoorW.PrintWords
end Go.Proofs.YticpobgkbapdmaaDoorW.PrintWords
namespace Go.Proofs.YticpobgkbapdmaaDoor.SpanG
open Go.RowKit Go.Shelf Go.Proofs.YticpobgkbapdmaaDoorW.PrintWords Go.Proofs.YticpobgkbapdmaaDoorW.PrintLast Go.Proofs.YticpobgkbapdmaaDoorW.PrintMore Go.Proofs.YticpobgkbapdmaaDoor.CharA Go.Proofs.YticpobgkbapdmaaDoor.CharB Go.Proofs.YticpobgkbapdmaaDoor.CharC Go.Proofs.YticpobgkbapdmaaDoor.CharD Go.Proofs.YticpobgkbapdmaaDoor.CharE Go.Proofs.YticpobgkbapdmaaDoor.CharF Go.Proofs.YticpobgkbapdmaaDoor.SpanA Go.Proofs.YticpobgkbapdmaaDoor.SpanB Go.Proofs.YticpobgkbapdmaaDoor.SpanC Go.Proofs.YticpobgkbapdmaaDoor.SpanD Go.Proofs.YticpobgkbapdmaaDoor.SpanE Go.Proofs.YticpobgkbapdmaaDoor.SpanF
set_option linter.unusedVariables false
set_option linter.unusedSimpArgs false
set_option linter.unnecessarySimpa false
theorem cutL_app (a m : Int) : ∀ (ps qs : List ByteArray) (j : Nat), cutL a m (ps ++ qs) j = cutL a m ps j ++ cutL a m qs (j + ps.length)
  | [], qs, j => by simp [cutL]
  | p :: ps, qs, j => by
    simp only [List.cons_append, cutL, cutL_app a m ps qs (j + 1), List.length_cons, List.append_assoc]
    rw [show j + 1 + ps.length = j + (ps.length + 1) by omega]
theorem cutL_none (a m : Int) : ∀ (ps : List ByteArray) (j : Nat), (∀ i, j ≤ i → i < j + ps.length → keepB i a m = false) → cutL a m ps j = []
  | [], _, _ => rfl
  | p :: ps, j, h => by
    simp only [cutL]
    rw [h j (by omega) (by simp), cutL_none a m ps (j + 1) (fun i h1 h2 => h i (by omega) (by simp; omega))]
    simp
theorem cutL_all (a m : Int) : ∀ (ps : List ByteArray) (j : Nat), (∀ i, j ≤ i → i < j + ps.length → keepB i a m = true) → cutL a m ps j = flatB ps
  | [], _, _ => rfl
  | p :: ps, j, h => by
    simp only [cutL, flatB, List.flatMap_cons]
    rw [h j (by omega) (by simp), cutL_all a m ps (j + 1) (fun i h1 h2 => h i (by omega) (by simp; omega))]
    simp [flatB]
/-! ### two texts -/
theorem extract_app (a b : ByteArray) (i j : Nat) (h : j ≤ a.size) : (a ++ b).extract i j = a.extract i j := by
  apply ext_list
  rw [extract_list, extract_list, app_list]
  by_cases hi : i ≤ a.size
  · rw [List.drop_append_of_le_length (by rw [← Lib.size_eq]; exact hi), List.take_append_of_le_length (by rw [List.length_drop, ← Lib.size_eq]; omega)]
  · rw [show j - i = 0 by omega]; simp
theorem extract_shift (a b : ByteArray) (i j : Nat) : (a ++ b).extract (a.size + i) (a.size + j) = b.extract i j := by
  apply ext_list
  rw [extract_list, extract_list, app_list, ← List.drop_drop, List.drop_append_of_le_length (by rw [← Lib.size_eq]; exact Nat.le_refl _), show a.data.toList.drop a.size = [] from List.drop_eq_nil_of_le (by rw [← Lib.size_eq]; exact Nat.le_refl _), List.nil_append]
  congr 1; omega
theorem pcs_shift (a b : ByteArray) : ∀ n p, pcs (a ++ b) n (a.size + p) = pcs b n p := by
  intro n
  induction n with
  | zero => intro p; rfl
  | succ n ih =>
    intro p
    simp only [pcs, app_size, decode_shift]
    by_cases h : p < b.size
    · rw [if_pos (by omega), if_pos h, Nat.add_assoc, ih, extract_shift]
    · rw [if_neg (by omega), if_neg h]
theorem pcs_app (a b : ByteArray) : ∀ n pos l, pos ≤ a.size → a.size ≤ pos + n → charsL a n pos = some l → pcs (a ++ b) (n + b.size) pos = pcs a n pos ++ pcs b b.size 0 := by
  intro n
  induction n with
  | zero =>
    intro pos l h1 h2 hc
    obtain rfl : pos = a.size := by omega
    have := pcs_shift a b b.size 0
    rw [Nat.add_zero] at this
    rw [Nat.zero_add, this]
    simp [pcs]
  | succ n ih =>
    intro pos l h1 h2 hc
    by_cases hp : pos < a.size
    · simp only [charsL, if_pos hp] at hc
      by_cases hd : Utf8.decode a pos = (65533, 1)
      · rw [if_pos hd] at hc; cases hc
      · rw [if_neg hd] at hc
        obtain ⟨l', hl', _⟩ := Option.map_eq_some_iff.1 hc
        have hw := width_le a pos hp
        rw [show n + 1 + b.size = (n + b.size) + 1 by omega]
        simp only [pcs, if_pos hp, app_size, decode_app a b pos hp hd]
        rw [if_pos (by omega), ih _ l' hw (by have := width_pos a pos hp; omega) hl', extract_app a b _ _ hw]
        rfl
    · obtain rfl : pos = a.size := by omega
      have h3 : pcs (a ++ b) (n + 1 + b.size) a.size = pcs b (n + 1 + b.size) 0 := pcs_shift a b (n + 1 + b.size) 0
      rw [h3, show n + 1 + b.size = b.size + (n + 1) by omega, pcs_fuel b _ _ _ (by omega), pcs_end a _ _ hp]
      rfl
theorem pieces_app (a b : ByteArray) (l : List Int) (h : charsL a a.size 0 = some l) : pieces (a ++ b) = pieces a ++ pieces b := by
  unfold pieces
  rw [app_size]
  exact pcs_app a b a.size 0 l (by omega) (by omega) h
theorem join_len (a b : ByteArray) (l : List Int) (h : charsL a a.size 0 = some l) : (pieces (a ++ b)).length = (pieces a).length + (pieces b).length := by rw [pieces_app a b l h, List.length_append]
theorem join_first (a b : ByteArray) (l : List Int) (h : charsL a a.size 0 = some l) : cutB (a ++ b) 0 ((pieces a).length : Int) = a.data.toList := by
  unfold cutB
  rw [pieces_app a b l h]
  split
  · rename_i h0
    have : pieces a = [] := List.length_eq_zero_iff.1 (by omega)
    rw [← pieces_flat, this]
    rfl
  · rw [cutL_app, cutL_all _ _ _ _ (fun i h1 h2 => by unfold keepB; simp; omega), cutL_none _ _ _ _ (fun i h1 h2 => by unfold keepB; simp; omega), List.append_nil, pieces_flat]
theorem join_second (a b : ByteArray) (l : List Int) (h : charsL a a.size 0 = some l) (hb : b.size ≤ 1500) : cutB (a ++ b) ((pieces a).length : Int) 4000 = b.data.toList := by
  have hl := pieces_length b
  unfold cutB
  rw [pieces_app a b l h, if_neg (by omega), cutL_app, cutL_none _ _ _ _ (fun i h1 h2 => by unfold keepB; simp; omega), cutL_all _ _ _ _ (fun i h1 h2 => by unfold keepB; simp; omega), List.nil_append, pieces_flat]
theorem tabs_two {w : World} (hT : Tabs w) : 2 ≤ w.heap.size := World.block_lt_of_cell? w _ (hT.2 0 (by omega)).1
theorem chars_ok (a : ByteArray) (ha : a.size < 100000000) (w : World) : Calls Tryd.prog 37 #[.string a] w fun e w' => ∃ v, e = .returned (.tuple #[v, .bool (charsL a a.size 0).isSome]) ∧ Below w.heap.size w w' := by
  refine (PR1.breviaryref01_Chars.calls (a.size + 51) a _ _ w (chars_f a (by omega) _ (by omega))).mono ?_
  rintro e w1 ⟨v, rfl, _, hb⟩
  refine ⟨v, ?_, hb⟩
  cases charsL a a.size 0 <;> rfl
set_option maxHeartbeats 8000000 in
set_option maxRecDepth 100000 in
theorem join_calls (a b : ByteArray) (w : World) (hT : Tabs w) (hw2 : 2 ≤ w.heap.size) (ha : a.size < 100000000) (hb : b.size < 100000000) :
    Calls Tryd.prog 9 #[.string a, .string b] w fun e w' => e = .returned (.bool true) ∧ Below w.heap.size w w' := by
  have c1 := chars_ok a ha
  have c2 := chars_ok b hb
  have c5 : ∀ w', Below w.heap.size w w' → _ := fun w' hb => works_calls w' (tabs_below hT hb) (Nat.le_trans hw2 hb.size)
  have cases5 : (charsL a a.size 0).isSome = false ∨ ((charsL a a.size 0).isSome = true ∧ (charsL b b.size 0).isSome = false) ∨ ((charsL a a.size 0).isSome = true ∧ (charsL b b.size 0).isSome = true ∧ decide ((1500 : Int) < (a.size : Int)) = true) ∨
      ((charsL a a.size 0).isSome = true ∧ (charsL b b.size 0).isSome = true ∧ decide ((1500 : Int) < (a.size : Int)) = false ∧ decide ((1500 : Int) < (b.size : Int)) = true) ∨ ((charsL a a.size 0).isSome = true ∧ (charsL b b.size 0).isSome = true ∧ decide ((1500 : Int) < (a.size : Int)) = false ∧ decide ((1500 : Int) < (b.size : Int)) = false) := by
    cases (charsL a a.size 0).isSome <;> cases (charsL b b.size 0).isSome <;> cases decide ((1500 : Int) < (a.size : Int)) <;> cases decide ((1500 : Int) < (b.size : Int)) <;> simp
  rcases cases5 with h1 | ⟨h1, h2⟩ | ⟨h1, h2, h3⟩ | ⟨h1, h2, h3, h4⟩ | ⟨h1, h2, h3, h4⟩
  · rw [h1] at c1
    generalize (charsL b b.size 0).isSome = q at c2
    clear hT h1
    go_enter Tryd.func9, Tryd.ntmps9
    go_wp2_with fail
    refine (c1 _).mono ?_
    rintro e w1 ⟨v1, rfl, b1⟩
    go_wp2_with fail
    refine (c2 _).mono ?_
    rintro e w2 ⟨v2, rfl, b2⟩
    have b12 := chain b1 (Nat.le_refl _) b2
    clear b1 b2 c1 c2
    go_wp2_with fail
    refine (c5 _ b12).mono ?_
    rintro e w5 ⟨rfl, b5⟩
    go_wp2_with fail
    go_ret
    exact ⟨rfl, chain b12 (Nat.le_refl _) b5⟩
  · rw [h1] at c1
    rw [h2] at c2
    clear hT h1 h2
    go_enter Tryd.func9, Tryd.ntmps9
    go_wp2_with fail
    refine (c1 _).mono ?_
    rintro e w1 ⟨v1, rfl, b1⟩
    go_wp2_with fail
    refine (c2 _).mono ?_
    rintro e w2 ⟨v2, rfl, b2⟩
    have b12 := chain b1 (Nat.le_refl _) b2
    clear b1 b2 c1 c2
    go_wp2_with fail
    refine (c5 _ b12).mono ?_
    rintro e w5 ⟨rfl, b5⟩
    go_wp2_with fail
    go_ret
    exact ⟨rfl, chain b12 (Nat.le_refl _) b5⟩
  · rw [h1] at c1
    rw [h2] at c2
    clear hT h1 h2
    go_enter Tryd.func9, Tryd.ntmps9
    go_wp2_with fail
    refine (c1 _).mono ?_
    rintro e w1 ⟨v1, rfl, b1⟩
    go_wp2_with fail
    refine (c2 _).mono ?_
    rintro e w2 ⟨v2, rfl, b2⟩
    have b12 := chain b1 (Nat.le_refl _) b2
    clear b1 b2 c1 c2
    go_wp2_with fail
    refine (c5 _ b12).mono ?_
    rintro e w5 ⟨rfl, b5⟩
    go_wp2_with fail
    go_ret
    exact ⟨rfl, chain b12 (Nat.le_refl _) b5⟩
  · rw [h1] at c1
    rw [h2] at c2
    clear hT h1 h2
    go_enter Tryd.func9, Tryd.ntmps9
    go_wp2_with fail
    refine (c1 _).mono ?_
    rintro e w1 ⟨v1, rfl, b1⟩
    go_wp2_with fail
    refine (c2 _).mono ?_
    rintro e w2 ⟨v2, rfl, b2⟩
    have b12 := chain b1 (Nat.le_refl _) b2
    clear b1 b2 c1 c2
    go_wp2_with fail
    refine (c5 _ b12).mono ?_
    rintro e w5 ⟨rfl, b5⟩
    go_wp2_with fail
    go_ret
    exact ⟨rfl, chain b12 (Nat.le_refl _) b5⟩
  · obtain ⟨la, hla⟩ := Option.isSome_iff_exists.1 h1
    have ha15 : a.size ≤ 1500 := by have := of_decide_eq_false h3; omega
    have hb15 : b.size ≤ 1500 := by have := of_decide_eq_false h4; omega
    have hab : (a ++ b).size < 1000000000 := by rw [app_size]; omega
    have n1 := pieces_length a
    have n2 := pieces_length b
    have d1 := len_calls a
    have d2 : ∀ w', _ := fun w' => len_calls (a ++ b) w' (by omega)
    have d3 := len_calls b
    have d4 : ∀ w', Below w.heap.size w w' → _ := fun w' hb => cut_calls (a ++ b) 0 ((pieces a).length : Int) w' (by omega) (tabs_below hT hb) (Nat.le_trans hw2 hb.size) (by omega) (by omega) (by omega) (by omega)
    have d5 : ∀ w', Below w.heap.size w w' → _ := fun w' hb => cut_calls (a ++ b) ((pieces a).length : Int) 4000 w' (by omega) (tabs_below hT hb) (Nat.le_trans hw2 hb.size) (by omega) (by omega) (by omega) (by omega)
    rw [join_len a b la hla] at d2
    rw [join_first a b la hla] at d4
    rw [join_second a b la hla hb15] at d5
    simp only [ba_data] at d4 d5
    have hsz : a.size + b.size ≤ 9223372036854775807 := by omega
    have hw : wrap64 (((pieces a).length : Int) + ((pieces b).length : Int)) = (((pieces a).length + (pieces b).length : Nat) : Int) := by rw [w64 (by omega) (by omega)]; omega
    have tt : ∀ s : ByteArray, (s.toList == s.toList) = true := fun s => by simp
    generalize (pieces a).length = na at *
    generalize (pieces b).length = nb at *
    rw [h1] at c1
    rw [h2] at c2
    clear hT h1 h2 hla
    go_enter Tryd.func9, Tryd.ntmps9
    go_wp2_with fail
    refine (c1 _).mono ?_
    rintro e w1 ⟨v1, rfl, b1⟩
    go_wp2_with fail
    refine (c2 _).mono ?_
    rintro e w2 ⟨v2, rfl, b2⟩
    have b12 := chain b1 (Nat.le_refl _) b2
    clear b1 b2 c1 c2
    go_wp2_with fail
    refine (d1 _ (by omega)).mono ?_
    rintro e w3 ⟨rfl, b3⟩
    have b13 := chain b12 (Nat.le_refl _) b3
    clear b12 b3
    go_wp2_with fail
    refine (d2 _).mono ?_
    rintro e w4 ⟨rfl, b4⟩
    have b14 := chain b13 (Nat.le_refl _) b4
    clear b13 b4
    go_wp2_with fail
    refine (d3 _ (by omega)).mono ?_
    rintro e w5 ⟨rfl, b5⟩
    have b15 := chain b14 (Nat.le_refl _) b5
    clear b14 b5
    go_wp2_with fail
    refine (d4 _ b15).mono ?_
    rintro e w6 ⟨rfl, b6⟩
    have b16 := chain b15 (Nat.le_refl _) b6
    clear b15 b6
    go_wp2_with fail
    refine (d5 _ b16).mono ?_
    rintro e w7 ⟨rfl, b7⟩
    have b17 := chain b16 (Nat.le_refl _) b7
    clear b16 b7 d1 d2 d3 d4 d5
    go_wp2_with fail
    refine (c5 _ b17).mono ?_
    rintro e w8 ⟨rfl, b8⟩
    go_wp2_with fail
    go_ret
    exact ⟨rfl, chain b17 (Nat.le_refl _) b8⟩
/-! ### finding -/
/-! ### as the rows want them -/
theorem joinW (a b : ByteArray) (w : World) (hT : Tabs w) (ha : a.size < 100000000) (hb : b.size < 100000000) : Calls Tryd.prog 9 #[.string a, .string b] w fun e w' => e = .returned (.bool true) ∧ Below w.heap.size w w' :=
  join_calls a b w hT (tabs_two hT) ha hb
end Go.Proofs.YticpobgkbapdmaaDoor.SpanG
