/- The lexer's ways variable, name and number. -/
import Derived.Test.YthilcidoacgdfaaDoorLqLexH
namespace Go.Proofs.YthilcidoacgdfaaDoor.CharA
end Go.Proofs.YthilcidoacgdfaaDoor.CharA
namespace Go.Proofs.YthilcidoacgdfaaDoor.CharB
end Go.Proofs.YthilcidoacgdfaaDoor.CharB
namespace Go.Proofs.YthilcidoacgdfaaDoor.CharD
end Go.Proofs.YthilcidoacgdfaaDoor.CharD
namespace Go.Proofs.YthilcidoacgdfaaDoor.CharF
end Go.Proofs.YthilcidoacgdfaaDoor.CharF
namespace Go.Proofs.YthilcidoacgdfaaDoor.FigA
end Go.Proofs.YthilcidoacgdfaaDoor.FigA
namespace Go.Proofs.YthilcidoacgdfaaDoor.FigC
end Go.Proofs.YthilcidoacgdfaaDoor.FigC
namespace Go.Proofs.YthilcidoacgdfaaDoor.FigD
end Go.Proofs.YthilcidoacgdfaaDoor.FigD
namespace Go.Proofs.YthilcidoacgdfaaDoor.FigG
end Go.Proofs.YthilcidoacgdfaaDoor.FigG
namespace Go.Proofs.YthilcidoacgdfaaDoor.FigI
end Go.Proofs.YthilcidoacgdfaaDoor.FigI
namespace Go.Proofs.YthilcidoacgdfaaDoor.LexA
end Go.Proofs.YthilcidoacgdfaaDoor.LexA
namespace Go.Proofs.YthilcidoacgdfaaDoor.LexF
end Go.Proofs.YthilcidoacgdfaaDoor.LexF
namespace Go.Proofs.YthilcidoacgdfaaDoor.LexG
end Go.Proofs.YthilcidoacgdfaaDoor.LexG
namespace Go.Proofs.YthilcidoacgdfaaDoor.LexH
end Go.Proofs.YthilcidoacgdfaaDoor.LexH
namespace Go.Proofs.YthilcidoacgdfaaDoor.SpanA
end Go.Proofs.YthilcidoacgdfaaDoor.SpanA
namespace Go.Proofs.YthilcidoacgdfaaDoorW.PrintLast
end Go.Proofs.YthilcidoacgdfaaDoorW.PrintLast
namespace Go.Proofs.YthilcidoacgdfaaDoorW.PrintMore
end Go.Proofs.YthilcidoacgdfaaDoorW.PrintMore
namespace Go.Proofs.YthilcidoacgdfaaDoorW.PrintWords
end Go.Proofs.YthilcidoacgdfaaDoorW.PrintWords
namespace Go.Proofs.YthilcidoacgdfaaDoor.LexJ
open Go.RowKit Go.Shelf Go.Proofs.YthilcidoacgdfaaDoorW.PrintWords Go.Proofs.YthilcidoacgdfaaDoorW.PrintLast Go.Proofs.YthilcidoacgdfaaDoorW.PrintMore Go.Proofs.YthilcidoacgdfaaDoor.CharA Go.Proofs.YthilcidoacgdfaaDoor.CharB Go.Proofs.YthilcidoacgdfaaDoor.CharD Go.Proofs.YthilcidoacgdfaaDoor.CharF Go.Proofs.YthilcidoacgdfaaDoor.SpanA Go.Proofs.YthilcidoacgdfaaDoor.FigA Go.Proofs.YthilcidoacgdfaaDoor.FigC Go.Proofs.YthilcidoacgdfaaDoor.FigD Go.Proofs.YthilcidoacgdfaaDoor.FigG Go.Proofs.YthilcidoacgdfaaDoor.FigI Go.Proofs.YthilcidoacgdfaaDoor.LexA Go.Proofs.YthilcidoacgdfaaDoor.LexF Go.Proofs.YthilcidoacgdfaaDoor.LexG Go.Proofs.YthilcidoacgdfaaDoor.LexH
set_option linter.unusedVariables false
set_option linter.unusedSimpArgs false
/-! ### variable -/
set_option maxHeartbeats 1600000 in
set_option maxRecDepth 100000 in
theorem variable_no (b B : Nat) (s t : ByteArray) (c : UInt8) (l : List Wd) (w : World) (h : LB b B s l false w) (hd : Head s c t) (hc : ¬ c = 36) :
    Calls Tryd.prog 47 #[selfL b] w fun e w' => e = .returned (.bool false) ∧ w = w' := by
  obtain ⟨v, h1, _⟩ := h
  have c0 : w.cell? ⟨b, 0, none⟩ = some (.string s) := by rw [cell_h h1]; rfl
  have hp := hd.pos
  have q1 : (((s[0]'hp).toNat : Int) != 36) = true := by rw [hd.at0, bne_iff_ne]; intro q; exact hc ((u8i c 36 (by omega)).1 q)
  clear hd h1 hc
  unfold selfL
  go_enter Tryd.func47, Tryd.ntmps47
  go_wp2_with fail
  go_ret
  exact ⟨rfl, rfl⟩
set_option maxHeartbeats 1600000 in
set_option maxRecDepth 100000 in
theorem variable_yes (b B : Nat) (s t : ByteArray) (c : UInt8) (l : List Wd) (w : World) (h : LB b B s l false w) (hb : b < B) (hB : B ≤ w.heap.size) (hl : l.length ≤ 1000) (hs : s.size ≤ 1000000000) (hT : Tabs w) (hd : Head s c t) (hc : c = 36) :
    Calls Tryd.prog 47 #[selfL b] w fun e w' => e = .returned (.bool true) ∧ (if nameB (ba (runS t.data.toList)) = true then LB b B (ba (t.data.toList.drop (runS t.data.toList).length)) (l ++ [(10, runS t.data.toList, 0, 0)]) false w' else LB b B s l true w') ∧ Fr b B w w' := by
  have hsz := hd.size
  have hr := run_call t w (by omega) hT
  have hn : ∀ W, Below w.heap.size w W → _ := fun W hW => name_calls (ba (runS t.data.toList)) W (tabs_below hT hW)
  have hf : ∀ W, Below w.heap.size w W → _ := fun W hW => fail_call b B s l W (h.below hW) hb
  have hy : ∀ r W, Below w.heap.size w W → _ := fun r W hW => say_call b B s l 10 (ba (runS t.data.toList)) r W (h.below hW) hb (Nat.le_trans hB hW.size) hl
  rw [ba_list] at hy
  have HF2 : Aside0 (∀ W, Below w.heap.size w W → Fr b B w W) := ⟨fun W hW => Fr.of_below hW hB (Nat.le_of_lt hb)⟩
  have c0 : w.cell? ⟨b, 0, none⟩ = some (.string s) := by obtain ⟨v, h1, _⟩ := h; rw [cell_h h1]; rfl
  have hp := hd.pos
  have x2 := hd.rest
  have x3 : (1 : Int) ≤ (s.size : Int) := by omega
  have q1 : (((s[0]'hp).toNat : Int) != 36) = false := by rw [hd.at0, hc]; rfl
  clear hd h hc hsz hT
  generalize runS t.data.toList = R at *
  generalize ba (t.data.toList.drop R.length) = r at *
  have HN := Aside0.mk hn
  have HY := Aside0.mk (hy r)
  have HL := Aside0.mk hf
  clear hn hy hf
  unfold selfL at HY HL ⊢
  cases hq : nameB (ba R) with
  | true =>
    rw [hq] at HN
    simp only [if_true]
    clear hq HL
    go_enter Tryd.func47, Tryd.ntmps47
    go_wp2_with fail
    refine hr.mono ?_
    rintro e w1 ⟨rfl, b1⟩
    have hN := HN.out _ b1
    have B1 := Aside0.mk b1
    clear b1
    go_wp2_with fail
    refine hN.mono ?_
    rintro e w2 ⟨rfl, b2⟩
    have b3 := chain B1.out (Nat.le_refl _) b2
    have hS := HY.out _ b3
    have F1 := Aside0.mk (HF2.out _ b3)
    clear b2 b3
    go_wp2_with fail
    refine hS.mono ?_
    rintro e w3 ⟨rfl, h2, f2⟩
    go_wp2_with fail
    go_ret
    exact ⟨rfl, h2, F1.out.trans f2⟩
  | false =>
    rw [hq] at HN
    simp only [Bool.false_eq_true, if_false]
    clear hq HY
    go_enter Tryd.func47, Tryd.ntmps47
    go_wp2_with fail
    refine hr.mono ?_
    rintro e w1 ⟨rfl, b1⟩
    have hN := HN.out _ b1
    have B1 := Aside0.mk b1
    clear b1
    go_wp2_with fail
    refine hN.mono ?_
    rintro e w2 ⟨rfl, b2⟩
    have b3 := chain B1.out (Nat.le_refl _) b2
    have hS := HL.out _ b3
    have F1 := Aside0.mk (HF2.out _ b3)
    clear b2 b3
    go_wp2_with fail
    refine hS.mono ?_
    rintro e w3 ⟨rfl, h2, f2⟩
    go_wp2_with fail
    go_ret
    exact ⟨rfl, h2, F1.out.trans f2⟩
/-! ### name -/
theorem four_eq (x : List UInt8) : fourL.contains x = (x == [97, 110, 100] || x == [111, 114] || x == [109, 111, 100] || x == [100, 105, 118]) := by
  unfold fourL
  simp only [List.contains_cons, List.contains_nil, Bool.or_false, Bool.or_assoc]
set_option maxHeartbeats 1600000 in
set_option maxRecDepth 100000 in
theorem name_no (b B : Nat) (s : ByteArray) (l : List Wd) (w : World) (h : LB b B s l false w) (hs : s.size ≤ 1000000000) (hT : Tabs w) (hr0 : runS s.data.toList = []) :
    Calls Tryd.prog 48 #[selfL b] w fun e w' => e = .returned (.bool false) ∧ Below w.heap.size w w' := by
  have hr := run_call s w hs hT
  rw [hr0] at hr
  have c0 : w.cell? ⟨b, 0, none⟩ = some (.string s) := by obtain ⟨v, h1, _⟩ := h; rw [cell_h h1]; rfl
  have e0 : (ba []).toList = [] := by rw [ByteArray.toList_eq]; rfl
  generalize ba (s.data.toList.drop (List.length ([] : List UInt8))) = r at *
  generalize ba [] = z at *
  clear h hT hr0
  unfold selfL
  go_enter Tryd.func48, Tryd.ntmps48
  go_wp2_with fail
  refine hr.mono ?_
  rintro e w1 ⟨rfl, b1⟩
  go_wp2_with fail
  go_ret
  exact ⟨rfl, b1⟩
/-- What becomes of a run: a word, or nothing. -/
def nameR2 (b B : Nat) (s : ByteArray) (l : List Wd) (R r : List UInt8) (w' : World) : Prop :=
  if nameB (ba R) = true then (if endsW l = true then (if fourL.contains R = true then LB b B (ba r) (l ++ [(5, R, 0, 0)]) false w' else LB b B s l true w') else LB b B (ba r) (l ++ [(kindW R r, R, 0, 0)]) false w') else LB b B s l true w'
set_option maxHeartbeats 4000000 in
set_option maxRecDepth 100000 in
theorem name_yes (b B : Nat) (s : ByteArray) (l : List Wd) (w : World) (h : LB b B s l false w) (hb : b < B) (hB : B ≤ w.heap.size) (hl : l.length ≤ 1000) (hs : s.size ≤ 1000000000) (hT : Tabs w) (hr0 : runS s.data.toList ≠ []) :
    Calls Tryd.prog 48 #[selfL b] w fun e w' => e = .returned (.bool true) ∧ nameR2 b B s l (runS s.data.toList) (s.data.toList.drop (runS s.data.toList).length) w' ∧ Fr b B w w' := by
  have hr := run_call s w hs hT
  have hn : ∀ W, Below w.heap.size w W → _ := fun W hW => name_calls (ba (runS s.data.toList)) W (tabs_below hT hW)
  have hf : ∀ W, Below w.heap.size w W → _ := fun W hW => fail_call b B s l W (h.below hW) hb
  have he : ∀ W, Below w.heap.size w W → _ := fun W hW => ends_call b B s l W (h.below hW) hl
  have hk := fun W => kind_call (ba (runS s.data.toList)) (ba (s.data.toList.drop (runS s.data.toList).length)) W
  have hy : ∀ k r W, Below w.heap.size w W → _ := fun k r W hW => say_call b B s l k (ba (runS s.data.toList)) r W (h.below hW) hb (Nat.le_trans hB hW.size) hl
  rw [ba_list] at hy
  rw [ba_list, ba_list] at hk
  have HF2 : Aside0 (∀ W, Below w.heap.size w W → Fr b B w W) := ⟨fun W hW => Fr.of_below hW hB (Nat.le_of_lt hb)⟩
  have c0 : w.cell? ⟨b, 0, none⟩ = some (.string s) := by obtain ⟨v, h1, _⟩ := h; rw [cell_h h1]; rfl
  generalize s.data.toList.drop (runS s.data.toList).length = r at *
  generalize runS s.data.toList = R at *
  have d0 : (ba R).toList.isEmpty = false := by rw [ByteArray.toList_eq, ba_list]; cases R with | nil => exact absurd rfl hr0 | cons _ _ => rfl
  have eR : (ba R).toList = R := by rw [ByteArray.toList_eq, ba_list]
  have HN := Aside0.mk hn
  have HY := Aside0.mk (fun k => hy k (ba r))
  have HL := Aside0.mk hf
  have HE := Aside0.mk he
  clear hn hy hf he h hT hr0
  unfold selfL at HY HL HE ⊢
  unfold nameR2
  cases hq : nameB (ba R) with
  | false =>
    rw [hq] at HN
    simp only [Bool.false_eq_true, if_false]
    clear hq HY HE hk eR
    generalize ba R = z at *
    generalize ba r = y at *
    go_enter Tryd.func48, Tryd.ntmps48
    go_wp2_with fail
    refine hr.mono ?_
    rintro e w1 ⟨rfl, b1⟩
    have hN := HN.out _ b1
    have B1 := Aside0.mk b1
    clear b1
    go_wp2_with fail
    refine hN.mono ?_
    rintro e w2 ⟨rfl, b2⟩
    have b3 := chain B1.out (Nat.le_refl _) b2
    have hS := HL.out _ b3
    have F1 := Aside0.mk (HF2.out _ b3)
    clear b2 b3
    go_wp2_with fail
    refine hS.mono ?_
    rintro e w3 ⟨rfl, h2, f2⟩
    go_wp2_with fail
    go_ret
    exact ⟨rfl, h2, F1.out.trans f2⟩
  | true =>
    rw [hq] at HN
    simp only [if_true]
    clear hq
    cases hE : endsW l with
    | false =>
      rw [hE] at HE
      simp only [Bool.false_eq_true, if_false]
      clear hE HL eR
      have HK := Aside0.mk hk
      clear hk
      generalize ba R = z at *
      generalize ba r = y at *
      generalize kindW R r = K at *
      go_enter Tryd.func48, Tryd.ntmps48
      go_wp2_with fail
      refine hr.mono ?_
      rintro e w1 ⟨rfl, b1⟩
      have hN := HN.out _ b1
      have B1 := Aside0.mk b1
      clear b1
      go_wp2_with fail
      refine hN.mono ?_
      rintro e w2 ⟨rfl, b2⟩
      have b3 := chain B1.out (Nat.le_refl _) b2
      have hS := HE.out _ b3
      have B3 := Aside0.mk b3
      clear b2 b3 B1 hN
      go_wp2_with fail
      refine hS.mono ?_
      rintro e w3 ⟨rfl, b3⟩
      have B4 := Aside0.mk (chain B3.out (Nat.le_refl _) b3)
      have hK := HK.out w3
      clear b3 B3 hS
      go_wp2_with fail
      refine hK.mono ?_
      rintro e w4 ⟨rfl, b4⟩
      have b5 := chain B4.out (Nat.le_refl _) b4
      have hS := HY.out K _ b5
      have F1 := Aside0.mk (HF2.out _ b5)
      clear b4 b5 B4 hK
      go_wp2_with fail
      refine hS.mono ?_
      rintro e w5 ⟨rfl, h2, f2⟩
      go_wp2_with fail
      go_ret
      exact ⟨rfl, h2, F1.out.trans f2⟩
    | true =>
      rw [hE] at HE
      simp only [if_true]
      rw [four_eq, ← eR]
      clear hE hk
      obtain ⟨q, hq⟩ : ∃ q, ((ba R).toList == [97, 110, 100] || (ba R).toList == [111, 114] || (ba R).toList == [109, 111, 100] || (ba R).toList == [100, 105, 118]) = q := ⟨_, rfl⟩
      rw [hq]
      have HQ := Aside0.mk hq
      rw [eR]
      clear hq eR
      have HY5 := Aside0.mk (HY.out 5)
      clear HY
      generalize ba R = z at *
      generalize ba r = y at *
      cases q
      all_goals
        simp only [Bool.false_eq_true, if_false, if_true]
        go_enter Tryd.func48, Tryd.ntmps48
        go_wp2_with fail
        refine hr.mono ?_
        rintro e w1 ⟨rfl, b1⟩
        have hN := HN.out _ b1
        have B1 := Aside0.mk b1
        clear b1
        go_wp2_with fail
        refine hN.mono ?_
        rintro e w2 ⟨rfl, b2⟩
        have b3 := chain B1.out (Nat.le_refl _) b2
        have hS := HE.out _ b3
        have B3 := Aside0.mk b3
        clear b2 b3 B1 hN
        go_wp2_with fail
        refine hS.mono ?_
        rintro e w3 ⟨rfl, b3⟩
        have b4 := chain B3.out (Nat.le_refl _) b3
        have hY := HY5.out _ b4
        have hL := HL.out _ b4
        have F1 := Aside0.mk (HF2.out _ b4)
        clear b3 B3 hS b4
        go_wp2_with fail
        all_goals
          first
          | (refine hY.mono ?_
             rintro e w5 ⟨rfl, h2, f2⟩
             go_wp2_with fail
             go_ret
             first | exact ⟨rfl, h2, F1.out.trans f2⟩ | (exfalso; have := HQ.out; simp_all; done))
          | (refine hL.mono ?_
             rintro e w5 ⟨rfl, h2, f2⟩
             go_wp2_with fail
             go_ret
             first | exact ⟨rfl, h2, F1.out.trans f2⟩ | (exfalso; have := HQ.out; simp_all; done))
end Go.Proofs.YthilcidoacgdfaaDoor.LexJ
