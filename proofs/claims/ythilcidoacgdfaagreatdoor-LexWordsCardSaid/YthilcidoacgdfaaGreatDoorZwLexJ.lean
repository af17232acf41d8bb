import Derived.Test.YthilcidoacgdfaaGreatDoorZwLexH
set_option maxHeartbeats 16000000
set_option maxRecDepth 100000
namespace Go.Proofs.YthilcidoacgdfaaGreatDoor.CharA
end Go.Proofs.YthilcidoacgdfaaGreatDoor.CharA
namespace Go.Proofs.YthilcidoacgdfaaGreatDoor.CharB
end Go.Proofs.YthilcidoacgdfaaGreatDoor.CharB
namespace Go.Proofs.YthilcidoacgdfaaGreatDoor.CharD
end Go.Proofs.YthilcidoacgdfaaGreatDoor.CharD
namespace Go.Proofs.YthilcidoacgdfaaGreatDoor.CharF
end Go.Proofs.YthilcidoacgdfaaGreatDoor.CharF
namespace Go.Proofs.YthilcidoacgdfaaGreatDoor.FigA
end Go.Proofs.YthilcidoacgdfaaGreatDoor.FigA
namespace Go.Proofs.YthilcidoacgdfaaGreatDoor.FigC
end Go.Proofs.YthilcidoacgdfaaGreatDoor.FigC
namespace Go.Proofs.YthilcidoacgdfaaGreatDoor.FigD
end Go.Proofs.YthilcidoacgdfaaGreatDoor.FigD
namespace Go.Proofs.YthilcidoacgdfaaGreatDoor.FigG
end Go.Proofs.YthilcidoacgdfaaGreatDoor.FigG
namespace Go.Proofs.YthilcidoacgdfaaGreatDoor.FigI
end Go.Proofs.YthilcidoacgdfaaGreatDoor.FigI
namespace Go.Proofs.YthilcidoacgdfaaGreatDoor.LexA
end Go.Proofs.YthilcidoacgdfaaGreatDoor.LexA
namespace Go.Proofs.YthilcidoacgdfaaGreatDoor.LexF
end Go.Proofs.YthilcidoacgdfaaGreatDoor.LexF
namespace Go.Proofs.YthilcidoacgdfaaGreatDoor.LexG
end Go.Proofs.YthilcidoacgdfaaGreatDoor.LexG
namespace Go.Proofs.YthilcidoacgdfaaGreatDoor.LexH
end Go.Proofs.YthilcidoacgdfaaGreatDoor.LexH
namespace Go.Proofs.YthilcidoacgdfaaGreatDoor.SpanA
end Go.Proofs.YthilcidoacgdfaaGreatDoor.SpanA
namespace Go.Proofs.YthilcidoacgdfaaGreatDoorW.PrintLast
end Go.Proofs.YthilcidoacgdfaaGreatDoorW.PrintLast
namespace Go.Proofs.YthilcidoacgdfaaGreatDoorW.PrintMore
end Go.Proofs.YthilcidoacgdfaaGreatDoorW.PrintMore
namespace Go.Proofs.YthilcidoacgdfaaGreatDoorW.PrintWords
end Go.Proofs.YthilcidoacgdfaaGreatDoorW.PrintWords
namespace Go.Proofs.YthilcidoacgdfaaGreatDoor.LexI
open Go.RowKit Go.Shelf YthilcidoacgdfaaGreatDoorW.PrintWords YthilcidoacgdfaaGreatDoorW.PrintLast YthilcidoacgdfaaGreatDoorW.PrintMore CharA CharB CharD CharF SpanA FigA FigC FigD FigG FigI LexA LexF LexG LexH
set_option linter.unusedVariables false
set_option linter.unusedSimpArgs false
theorem first_cons (p : List UInt8) (rest : List (List UInt8)) (s : List UInt8) : qv (p :: rest) s = if p.isPrefixOf s = true then some p else qv rest s := by
  unfold qv
  rw [List.find?_cons]
  cases p.isPrefixOf s <;> rfl
theorem none_cons {p : List UInt8} {rest : List (List UInt8)} {s : List UInt8} (h : qv (p :: rest) s = none) : p.isPrefixOf s = false ∧ qv rest s = none := by
  rw [first_cons] at h
  cases hp : p.isPrefixOf s with
  | true => rw [hp] at h; cases h
  | false => rw [hp] at h; exact ⟨rfl, h⟩
theorem some_cons {p : List UInt8} {rest : List (List UInt8)} {s m : List UInt8} (h : qv (p :: rest) s = some m) : (p.isPrefixOf s = true ∧ m = p) ∨ (p.isPrefixOf s = false ∧ qv rest s = some m) := by
  rw [first_cons] at h
  cases hp : p.isPrefixOf s with
  | true => rw [hp] at h; exact .inl ⟨rfl, (Option.some.inj h).symm⟩
  | false => rw [hp] at h; exact .inr ⟨rfl, h⟩
theorem drop_at (l : List (List UInt8)) (k : Nat) (h : k < l.length) : l.drop k = l.getD k [] :: l.drop (k + 1) := by
  rw [List.drop_eq_getElem_cons h]
  simp [List.getD, List.getElem?_eq_getElem h]

theorem ix9 (k : Nat) (hk : k < 9) (w : World) : (Instr.index 83 (.agg #[.string ⟨#[46, 46]⟩, .string ⟨#[58, 58]⟩, .string ⟨#[40]⟩, .string ⟨#[41]⟩, .string ⟨#[91]⟩, .string ⟨#[93]⟩, .string ⟨#[46]⟩, .string ⟨#[64]⟩, .string ⟨#[44]⟩]) (.int .i64 (k : Int))).run Tryz.prog w = .ok (.string (ba (marksL.getD k []))) w := by
  rcases (show k = 0 ∨ k = 1 ∨ k = 2 ∨ k = 3 ∨ k = 4 ∨ k = 5 ∨ k = 6 ∨ k = 7 ∨ k = 8 by omega) with rfl | rfl | rfl | rfl | rfl | rfl | rfl | rfl | rfl
  all_goals kernel_rfl
theorem ix11 (k : Nat) (hk : k < 11) (w : World) : (Instr.index 86 (.agg #[.string ⟨#[47, 47]⟩, .string ⟨#[33, 61]⟩, .string ⟨#[60, 61]⟩, .string ⟨#[62, 61]⟩, .string ⟨#[47]⟩, .string ⟨#[124]⟩, .string ⟨#[43]⟩, .string ⟨#[45]⟩, .string ⟨#[61]⟩, .string ⟨#[60]⟩, .string ⟨#[62]⟩]) (.int .i64 (k : Int))).run Tryz.prog w = .ok (.string (ba (opsL.getD k []))) w := by
  rcases (show k = 0 ∨ k = 1 ∨ k = 2 ∨ k = 3 ∨ k = 4 ∨ k = 5 ∨ k = 6 ∨ k = 7 ∨ k = 8 ∨ k = 9 ∨ k = 10 by omega) with rfl | rfl | rfl | rfl | rfl | rfl | rfl | rfl | rfl | rfl | rfl
  all_goals kernel_rfl
theorem mark_one (b B : Nat) (s : ByteArray) (m : List UInt8) (l : List Wd) (w : World) (h : LB b B s l false w) (hb : b < B) (hB : B ≤ w.heap.size) (hl : l.length ≤ 1000) (hm : qv marksL s.data.toList = some m) :
    Calls Tryz.prog 28 #[selfL b] w fun e w' => e = .returned (.bool true) ∧ LB b B (ba (s.data.toList.drop m.length)) (l ++ [(1, m, 0, 0)]) false w' ∧ Fr b B w w' := by
  have HS : Aside0 (∀ t r, Calls Tryz.prog 53 #[.pointer (some ⟨b, 0, none⟩), .int .i64 1, .string t, .string r] w fun e w' => e = .returned (.bool true) ∧ LB b B r (l ++ [(1, t.data.toList, 0, 0)]) false w' ∧ Fr b B w w') := ⟨fun t r => say_call b B s l 1 t r w h hb hB hl⟩
  obtain ⟨v, h1, _⟩ := h
  have c0 : w.cell? ⟨b, 0, none⟩ = some (.string s) := by rw [qt h1]; rfl
  clear h1
  have HmarksL : Aside0 (0 ≤ 9 ∧ qv (marksL.drop 0) s.data.toList = some m) := ⟨by omega, hm⟩
  clear hm hl
  unfold selfL
  go_enter Tryz.func28, Tryz.ntmps28
  go_wp2_with fail
  go_loop [12] (fun i => ∃ k : Nat, i = .int .i64 (k : Int) ∧ Aside0 (k ≤ 9 ∧ qv (marksL.drop k) s.data.toList = some m)) (fun i => 9 - (intOf i).toNat)
  case atStart => exact ⟨0, rfl, HmarksL⟩
  case round =>
    obtain ⟨k, rfl, H⟩ := hrel
    have hk := H.out.1
    have hF := H.out.2
    clear H
    by_cases hlt : k < 9
    · rw [drop_at marksL k hlt] at hF
      have hx := ix9 k hlt w
      rcases some_cons hF with ⟨hp, hm⟩ | ⟨hp, hn⟩
      · rw [← hm] at hp hx
        have hc := pre_yes s (ba m) (ba (s.data.toList.drop m.length)) hp rfl w
        have hS := HS.out (ba m) (ba (s.data.toList.drop m.length))
        rw [qu] at hS
        clear hF hp HS hm
        go_wp2_with fail
        refine hc.mono ?_
        rintro e w1 ⟨rfl, rfl⟩
        go_wp2_with fail
        refine hS.mono ?_
        rintro e w2 ⟨rfl, h2, f2⟩
        go_wp2_with fail
        go_ret
        exact ⟨rfl, h2, f2⟩
      · have HN := Aside0.mk hn
        clear hF hn
        have hc := pre_no s (ba (marksL.getD k [])) hp w
        clear hp
        generalize ba (marksL.getD k []) = p at *
        go_wp2_with fail
        refine hc.mono ?_
        rintro e w1 ⟨rfl, rfl⟩
        go_wp2_with fail
        go_round
        case rel => exact ⟨k + 1, by go_num, ⟨by omega, HN.out⟩⟩
        case measure => simp [intOf]; omega
    · obtain rfl : k = 9 := by omega
      cases hF
theorem mark_two (b B : Nat) (s : ByteArray) (m : List UInt8) (l : List Wd) (w : World) (h : LB b B s l false w) (hb : b < B) (hB : B ≤ w.heap.size) (hl : l.length ≤ 1000) (h0 : qv marksL s.data.toList = none) (hm : qv opsL s.data.toList = some m) :
    Calls Tryz.prog 28 #[selfL b] w fun e w' => e = .returned (.bool true) ∧ LB b B (ba (s.data.toList.drop m.length)) (l ++ [(5, m, 0, 0)]) false w' ∧ Fr b B w w' := by
  have HS : Aside0 (∀ t r, Calls Tryz.prog 53 #[.pointer (some ⟨b, 0, none⟩), .int .i64 5, .string t, .string r] w fun e w' => e = .returned (.bool true) ∧ LB b B r (l ++ [(5, t.data.toList, 0, 0)]) false w' ∧ Fr b B w w') := ⟨fun t r => say_call b B s l 5 t r w h hb hB hl⟩
  obtain ⟨v, h1, _⟩ := h
  have c0 : w.cell? ⟨b, 0, none⟩ = some (.string s) := by rw [qt h1]; rfl
  clear h1
  have HmarksL : Aside0 (0 ≤ 9 ∧ qv (marksL.drop 0) s.data.toList = none) := ⟨by omega, h0⟩
  have HopsL : Aside0 (0 ≤ 11 ∧ qv (opsL.drop 0) s.data.toList = some m) := ⟨by omega, hm⟩
  clear hm h0 hl
  unfold selfL
  go_enter Tryz.func28, Tryz.ntmps28
  go_wp2_with fail
  go_loop [12] (fun i => ∃ k : Nat, i = .int .i64 (k : Int) ∧ Aside0 (k ≤ 9 ∧ qv (marksL.drop k) s.data.toList = none)) (fun i => 9 - (intOf i).toNat)
  case atStart => exact ⟨0, rfl, HmarksL⟩
  case round =>
    obtain ⟨k, rfl, H⟩ := hrel
    have hk := H.out.1
    have hF := H.out.2
    clear H
    by_cases hlt : k < 9
    · rw [drop_at marksL k hlt] at hF
      have hx := ix9 k hlt w
      obtain ⟨hp, hn⟩ := none_cons hF
      have HN := Aside0.mk hn
      clear hF hn
      have hc := pre_no s (ba (marksL.getD k [])) hp w
      clear hp
      generalize ba (marksL.getD k []) = p at *
      go_wp2_with fail
      refine hc.mono ?_
      rintro e w1 ⟨rfl, rfl⟩
      go_wp2_with fail
      go_round
      case rel => exact ⟨k + 1, by go_num, ⟨by omega, HN.out⟩⟩
      case measure => simp [intOf]; omega
    · obtain rfl : k = 9 := by omega
      clear hF hlt
      go_wp2_with fail
      go_loop [31] (fun i => ∃ k : Nat, i = .int .i64 (k : Int) ∧ Aside0 (k ≤ 11 ∧ qv (opsL.drop k) s.data.toList = some m)) (fun i => 11 - (intOf i).toNat)
      case atStart => exact ⟨0, rfl, HopsL⟩
      case round =>
        obtain ⟨k, rfl, H⟩ := hrel
        have hk := H.out.1
        have hF := H.out.2
        clear H
        by_cases hlt : k < 11
        · rw [drop_at opsL k hlt] at hF
          have hx := ix11 k hlt w
          rcases some_cons hF with ⟨hp, hm⟩ | ⟨hp, hn⟩
          · rw [← hm] at hp hx
            have hc := pre_yes s (ba m) (ba (s.data.toList.drop m.length)) hp rfl w
            have hS := HS.out (ba m) (ba (s.data.toList.drop m.length))
            rw [qu] at hS
            clear hF hp HS hm
            go_wp2_with fail
            refine hc.mono ?_
            rintro e w1 ⟨rfl, rfl⟩
            go_wp2_with fail
            refine hS.mono ?_
            rintro e w2 ⟨rfl, h2, f2⟩
            go_wp2_with fail
            go_ret
            exact ⟨rfl, h2, f2⟩
          · have HN := Aside0.mk hn
            clear hF hn
            have hc := pre_no s (ba (opsL.getD k [])) hp w
            clear hp
            generalize ba (opsL.getD k []) = p at *
            go_wp2_with fail
            refine hc.mono ?_
            rintro e w1 ⟨rfl, rfl⟩
            go_wp2_with fail
            go_round
            case rel => exact ⟨k + 1, by go_num, ⟨by omega, HN.out⟩⟩
            case measure => simp [intOf]; omega
        · obtain rfl : k = 11 := by omega
          cases hF
theorem mark_no (b B : Nat) (s : ByteArray) (l : List Wd) (w : World) (h : LB b B s l false w) (h0 : qv marksL s.data.toList = none) (hm : qv opsL s.data.toList = none) :
    Calls Tryz.prog 28 #[selfL b] w fun e w' => e = .returned (.bool false) ∧ w = w' := by
  obtain ⟨v, h1, _⟩ := h
  have c0 : w.cell? ⟨b, 0, none⟩ = some (.string s) := by rw [qt h1]; rfl
  clear h1
  have HmarksL : Aside0 (0 ≤ 9 ∧ qv (marksL.drop 0) s.data.toList = none) := ⟨by omega, h0⟩
  have HopsL : Aside0 (0 ≤ 11 ∧ qv (opsL.drop 0) s.data.toList = none) := ⟨by omega, hm⟩
  clear hm h0
  unfold selfL
  go_enter Tryz.func28, Tryz.ntmps28
  go_wp2_with fail
  go_loop [12] (fun i => ∃ k : Nat, i = .int .i64 (k : Int) ∧ Aside0 (k ≤ 9 ∧ qv (marksL.drop k) s.data.toList = none)) (fun i => 9 - (intOf i).toNat)
  case atStart => exact ⟨0, rfl, HmarksL⟩
  case round =>
    obtain ⟨k, rfl, H⟩ := hrel
    have hk := H.out.1
    have hF := H.out.2
    clear H
    by_cases hlt : k < 9
    · rw [drop_at marksL k hlt] at hF
      have hx := ix9 k hlt w
      obtain ⟨hp, hn⟩ := none_cons hF
      have HN := Aside0.mk hn
      clear hF hn
      have hc := pre_no s (ba (marksL.getD k [])) hp w
      clear hp
      generalize ba (marksL.getD k []) = p at *
      go_wp2_with fail
      refine hc.mono ?_
      rintro e w1 ⟨rfl, rfl⟩
      go_wp2_with fail
      go_round
      case rel => exact ⟨k + 1, by go_num, ⟨by omega, HN.out⟩⟩
      case measure => simp [intOf]; omega
    · obtain rfl : k = 9 := by omega
      clear hF hlt
      go_wp2_with fail
      go_loop [31] (fun i => ∃ k : Nat, i = .int .i64 (k : Int) ∧ Aside0 (k ≤ 11 ∧ qv (opsL.drop k) s.data.toList = none)) (fun i => 11 - (intOf i).toNat)
      case atStart => exact ⟨0, rfl, HopsL⟩
      case round =>
        obtain ⟨k, rfl, H⟩ := hrel
        have hk := H.out.1
        have hF := H.out.2
        clear H
        by_cases hlt : k < 11
        · rw [drop_at opsL k hlt] at hF
          have hx := ix11 k hlt w
          obtain ⟨hp, hn⟩ := none_cons hF
          have HN := Aside0.mk hn
          clear hF hn
          have hc := pre_no s (ba (opsL.getD k [])) hp w
          clear hp
          generalize ba (opsL.getD k []) = p at *
          go_wp2_with fail
          refine hc.mono ?_
          rintro e w1 ⟨rfl, rfl⟩
          go_wp2_with fail
          go_round
          case rel => exact ⟨k + 1, by go_num, ⟨by omega, HN.out⟩⟩
          case measure => simp [intOf]; omega
        · obtain rfl : k = 11 := by omega
          clear hF hlt
          go_wp2_with fail
          go_ret
          exact ⟨rfl, rfl⟩
end Go.Proofs.YthilcidoacgdfaaGreatDoor.LexI
namespace Go.Proofs.YthilcidoacgdfaaGreatDoor.CharA
end Go.Proofs.YthilcidoacgdfaaGreatDoor.CharA
namespace Go.Proofs.YthilcidoacgdfaaGreatDoor.CharB
end Go.Proofs.YthilcidoacgdfaaGreatDoor.CharB
namespace Go.Proofs.YthilcidoacgdfaaGreatDoor.CharD
end Go.Proofs.YthilcidoacgdfaaGreatDoor.CharD
namespace Go.Proofs.YthilcidoacgdfaaGreatDoor.CharF
end Go.Proofs.YthilcidoacgdfaaGreatDoor.CharF
namespace Go.Proofs.YthilcidoacgdfaaGreatDoor.FigA
end Go.Proofs.YthilcidoacgdfaaGreatDoor.FigA
namespace Go.Proofs.YthilcidoacgdfaaGreatDoor.FigC
end Go.Proofs.YthilcidoacgdfaaGreatDoor.FigC
namespace Go.Proofs.YthilcidoacgdfaaGreatDoor.FigD
end Go.Proofs.YthilcidoacgdfaaGreatDoor.FigD
namespace Go.Proofs.YthilcidoacgdfaaGreatDoor.FigG
end Go.Proofs.YthilcidoacgdfaaGreatDoor.FigG
namespace Go.Proofs.YthilcidoacgdfaaGreatDoor.FigI
end Go.Proofs.YthilcidoacgdfaaGreatDoor.FigI
namespace Go.Proofs.YthilcidoacgdfaaGreatDoor.LexA
end Go.Proofs.YthilcidoacgdfaaGreatDoor.LexA
namespace Go.Proofs.YthilcidoacgdfaaGreatDoor.LexF
end Go.Proofs.YthilcidoacgdfaaGreatDoor.LexF
namespace Go.Proofs.YthilcidoacgdfaaGreatDoor.LexG
end Go.Proofs.YthilcidoacgdfaaGreatDoor.LexG
namespace Go.Proofs.YthilcidoacgdfaaGreatDoor.LexH
end Go.Proofs.YthilcidoacgdfaaGreatDoor.LexH
namespace Go.Proofs.YthilcidoacgdfaaGreatDoor.SpanA
end Go.Proofs.YthilcidoacgdfaaGreatDoor.SpanA
namespace Go.Proofs.YthilcidoacgdfaaGreatDoorW.PrintLast
end Go.Proofs.YthilcidoacgdfaaGreatDoorW.PrintLast
namespace Go.Proofs.YthilcidoacgdfaaGreatDoorW.PrintMore
end Go.Proofs.YthilcidoacgdfaaGreatDoorW.PrintMore
namespace Go.Proofs.YthilcidoacgdfaaGreatDoorW.PrintWords
end Go.Proofs.YthilcidoacgdfaaGreatDoorW.PrintWords
namespace Go.Proofs.YthilcidoacgdfaaGreatDoor.LexJ
open Go.RowKit Go.Shelf YthilcidoacgdfaaGreatDoorW.PrintWords YthilcidoacgdfaaGreatDoorW.PrintLast YthilcidoacgdfaaGreatDoorW.PrintMore CharA CharB CharD CharF SpanA FigA FigC FigD FigG FigI LexA LexF LexG LexH
set_option linter.unusedVariables false
set_option linter.unusedSimpArgs false
theorem variable_no (b B : Nat) (s t : ByteArray) (c : UInt8) (l : List Wd) (w : World) (h : LB b B s l false w) (hd : Head s c t) (hc : ¬ c = 36) :
    Calls Tryz.prog 30 #[selfL b] w fun e w' => e = .returned (.bool false) ∧ w = w' := by
  obtain ⟨v, h1, _⟩ := h
  have c0 : w.cell? ⟨b, 0, none⟩ = some (.string s) := by rw [qt h1]; rfl
  have hp := hd.pos
  have q1 : (((s[0]'hp).toNat : Int) != 36) = true := by rw [hd.at0, bne_iff_ne]; intro q; exact hc ((u8i c 36 (by omega)).1 q)
  clear hd h1 hc
  unfold selfL
  go_enter Tryz.func30, Tryz.ntmps30
  go_wp2_with fail
  go_ret
  exact ⟨rfl, rfl⟩
theorem variable_yes (b B : Nat) (s t : ByteArray) (c : UInt8) (l : List Wd) (w : World) (h : LB b B s l false w) (hb : b < B) (hB : B ≤ w.heap.size) (hl : l.length ≤ 1000) (hs : s.size ≤ 1000000000) (hT : Tabs w) (hd : Head s c t) (hc : c = 36) :
    Calls Tryz.prog 30 #[selfL b] w fun e w' => e = .returned (.bool true) ∧ (if nameB (ba (runS t.data.toList)) = true then LB b B (ba (t.data.toList.drop (runS t.data.toList).length)) (l ++ [(10, runS t.data.toList, 0, 0)]) false w' else LB b B s l true w') ∧ Fr b B w w' := by
  have hsz := hd.size
  have hr := run_call t w (by omega) hT
  have hn : ∀ W, Below w.heap.size w W → _ := fun W hW => name_calls (ba (runS t.data.toList)) W (tabs_below hT hW)
  have hf : ∀ W, Below w.heap.size w W → _ := fun W hW => fail_call b B s l W (h.below hW) hb
  have hy : ∀ r W, Below w.heap.size w W → _ := fun r W hW => say_call b B s l 10 (ba (runS t.data.toList)) r W (h.below hW) hb (Nat.le_trans hB hW.size) hl
  rw [qu] at hy
  have HF2 : Aside0 (∀ W, Below w.heap.size w W → Fr b B w W) := ⟨fun W hW => Fr.of_below hW hB (Nat.le_of_lt hb)⟩
  have c0 : w.cell? ⟨b, 0, none⟩ = some (.string s) := by obtain ⟨v, h1, _⟩ := h; rw [qt h1]; rfl
  have hp := hd.pos
  have x2 := hd.rest
  have x3 : (1 : Int) ≤ (s.size : Int) := by omega
  have q1 : (((s[0]'hp).toNat : Int) != 36) = false := by rw [hd.at0, hc]; rfl
  clear hd h hc hsz hT
  generalize runS t.data.toList = R at *
  generalize ba (t.data.toList.drop R.length) = r at *
  have HN := Aside0.mk hn
  have HY := Aside0.mk (hy r)
  have HL := Aside0.mk hf
  clear hn hy hf
  unfold selfL at HY HL ⊢
  cases hq : nameB (ba R) with
  | true =>
    rw [hq] at HN
    simp only [if_true]
    clear hq HL
    go_enter Tryz.func30, Tryz.ntmps30
    go_wp2_with fail
    refine hr.mono ?_
    rintro e w1 ⟨rfl, b1⟩
    have hN := HN.out _ b1
    have B1 := Aside0.mk b1
    clear b1
    go_wp2_with fail
    refine hN.mono ?_
    rintro e w2 ⟨rfl, b2⟩
    have b3 := chain B1.out (Nat.le_refl _) b2
    have hS := HY.out _ b3
    have F1 := Aside0.mk (HF2.out _ b3)
    clear b2 b3
    go_wp2_with fail
    refine hS.mono ?_
    rintro e w3 ⟨rfl, h2, f2⟩
    go_wp2_with fail
    go_ret
    exact ⟨rfl, h2, F1.out.trans f2⟩
  | false =>
    rw [hq] at HN
    simp only [Bool.false_eq_true, if_false]
    clear hq HY
    go_enter Tryz.func30, Tryz.ntmps30
    go_wp2_with fail
    refine hr.mono ?_
    rintro e w1 ⟨rfl, b1⟩
    have hN := HN.out _ b1
    have B1 := Aside0.mk b1
    clear b1
    go_wp2_with fail
    refine hN.mono ?_
    rintro e w2 ⟨rfl, b2⟩
    have b3 := chain B1.out (Nat.le_refl _) b2
    have hS := HL.out _ b3
    have F1 := Aside0.mk (HF2.out _ b3)
    clear b2 b3
    go_wp2_with fail
    refine hS.mono ?_
    rintro e w3 ⟨rfl, h2, f2⟩
    go_wp2_with fail
    go_ret
    exact ⟨rfl, h2, F1.out.trans f2⟩
theorem four_eq (x : List UInt8) : fourL.contains x = (x == [97, 110, 100] || x == [111, 114] || x == [109, 111, 100] || x == [100, 105, 118]) := by
  unfold fourL
  simp only [List.contains_cons, List.contains_nil, Bool.or_false, Bool.or_assoc]
theorem name_no (b B : Nat) (s : ByteArray) (l : List Wd) (w : World) (h : LB b B s l false w) (hs : s.size ≤ 1000000000) (hT : Tabs w) (hr0 : runS s.data.toList = []) :
    Calls Tryz.prog 31 #[selfL b] w fun e w' => e = .returned (.bool false) ∧ Below w.heap.size w w' := by
  have hr := run_call s w hs hT
  rw [hr0] at hr
  have c0 : w.cell? ⟨b, 0, none⟩ = some (.string s) := by obtain ⟨v, h1, _⟩ := h; rw [qt h1]; rfl
  have e0 : (ba []).toList = [] := by rw [ByteArray.toList_eq]; rfl
  generalize ba (s.data.toList.drop (List.length ([] : List UInt8))) = r at *
  generalize ba [] = z at *
  clear h hT hr0
  unfold selfL
  go_enter Tryz.func31, Tryz.ntmps31
  go_wp2_with fail
  refine hr.mono ?_
  rintro e w1 ⟨rfl, b1⟩
  go_wp2_with fail
  go_ret
  exact ⟨rfl, b1⟩
def nameR2 (b B : Nat) (s : ByteArray) (l : List Wd) (R r : List UInt8) (w' : World) : Prop :=
  if nameB (ba R) = true then (if endsW l = true then (if fourL.contains R = true then LB b B (ba r) (l ++ [(5, R, 0, 0)]) false w' else LB b B s l true w') else LB b B (ba r) (l ++ [(kindW R r, R, 0, 0)]) false w') else LB b B s l true w'
theorem name_yes (b B : Nat) (s : ByteArray) (l : List Wd) (w : World) (h : LB b B s l false w) (hb : b < B) (hB : B ≤ w.heap.size) (hl : l.length ≤ 1000) (hs : s.size ≤ 1000000000) (hT : Tabs w) (hr0 : runS s.data.toList ≠ []) :
    Calls Tryz.prog 31 #[selfL b] w fun e w' => e = .returned (.bool true) ∧ nameR2 b B s l (runS s.data.toList) (s.data.toList.drop (runS s.data.toList).length) w' ∧ Fr b B w w' := by
  have hr := run_call s w hs hT
  have hn : ∀ W, Below w.heap.size w W → _ := fun W hW => name_calls (ba (runS s.data.toList)) W (tabs_below hT hW)
  have hf : ∀ W, Below w.heap.size w W → _ := fun W hW => fail_call b B s l W (h.below hW) hb
  have he : ∀ W, Below w.heap.size w W → _ := fun W hW => ends_call b B s l W (h.below hW) hl
  have hk := fun W => kind_call (ba (runS s.data.toList)) (ba (s.data.toList.drop (runS s.data.toList).length)) W
  have hy : ∀ k r W, Below w.heap.size w W → _ := fun k r W hW => say_call b B s l k (ba (runS s.data.toList)) r W (h.below hW) hb (Nat.le_trans hB hW.size) hl
  rw [qu] at hy
  rw [qu, qu] at hk
  have HF2 : Aside0 (∀ W, Below w.heap.size w W → Fr b B w W) := ⟨fun W hW => Fr.of_below hW hB (Nat.le_of_lt hb)⟩
  have c0 : w.cell? ⟨b, 0, none⟩ = some (.string s) := by obtain ⟨v, h1, _⟩ := h; rw [qt h1]; rfl
  generalize s.data.toList.drop (runS s.data.toList).length = r at *
  generalize runS s.data.toList = R at *
  have d0 : (ba R).toList.isEmpty = false := by rw [ByteArray.toList_eq, qu]; cases R with | nil => exact absurd rfl hr0 | cons _ _ => rfl
  have eR : (ba R).toList = R := by rw [ByteArray.toList_eq, qu]
  have HN := Aside0.mk hn
  have HY := Aside0.mk (fun k => hy k (ba r))
  have HL := Aside0.mk hf
  have HE := Aside0.mk he
  clear hn hy hf he h hT hr0
  unfold selfL at HY HL HE ⊢
  unfold nameR2
  cases hq : nameB (ba R) with
  | false =>
    rw [hq] at HN
    simp only [Bool.false_eq_true, if_false]
    clear hq HY HE hk eR
    generalize ba R = z at *
    generalize ba r = y at *
    go_enter Tryz.func31, Tryz.ntmps31
    go_wp2_with fail
    refine hr.mono ?_
    rintro e w1 ⟨rfl, b1⟩
    have hN := HN.out _ b1
    have B1 := Aside0.mk b1
    clear b1
    go_wp2_with fail
    refine hN.mono ?_
    rintro e w2 ⟨rfl, b2⟩
    have b3 := chain B1.out (Nat.le_refl _) b2
    have hS := HL.out _ b3
    have F1 := Aside0.mk (HF2.out _ b3)
    clear b2 b3
    go_wp2_with fail
    refine hS.mono ?_
    rintro e w3 ⟨rfl, h2, f2⟩
    go_wp2_with fail
    go_ret
    exact ⟨rfl, h2, F1.out.trans f2⟩
  | true =>
    rw [hq] at HN
    simp only [if_true]
    clear hq
    cases hE : endsW l with
    | false =>
      rw [hE] at HE
      simp only [Bool.false_eq_true, if_false]
      clear hE HL eR
      have HK := Aside0.mk hk
      clear hk
      generalize ba R = z at *
      generalize ba r = y at *
      generalize kindW R r = K at *
      go_enter Tryz.func31, Tryz.ntmps31
      go_wp2_with fail
      refine hr.mono ?_
      rintro e w1 ⟨rfl, b1⟩
      have hN := HN.out _ b1
      have B1 := Aside0.mk b1
      clear b1
      go_wp2_with fail
      refine hN.mono ?_
      rintro e w2 ⟨rfl, b2⟩
      have b3 := chain B1.out (Nat.le_refl _) b2
      have hS := HE.out _ b3
      have B3 := Aside0.mk b3
      clear b2 b3 B1 hN
      go_wp2_with fail
      refine hS.mono ?_
      rintro e w3 ⟨rfl, b3⟩
      have B4 := Aside0.mk (chain B3.out (Nat.le_refl _) b3)
      have hK := HK.out w3
      clear b3 B3 hS
      go_wp2_with fail
      refine hK.mono ?_
      rintro e w4 ⟨rfl, b4⟩
      have b5 := chain B4.out (Nat.le_refl _) b4
      have hS := HY.out K _ b5
      have F1 := Aside0.mk (HF2.out _ b5)
      clear b4 b5 B4 hK
      go_wp2_with fail
      refine hS.mono ?_
      rintro e w5 ⟨rfl, h2, f2⟩
      go_wp2_with fail
      go_ret
      exact ⟨rfl, h2, F1.out.trans f2⟩
    | true =>
      rw [hE] at HE
      simp only [if_true]
      rw [four_eq, ← eR]
      clear hE hk
      obtain ⟨q, hq⟩ : ∃ q, ((ba R).toList == [97, 110, 100] || (ba R).toList == [111, 114] || (ba R).toList == [109, 111, 100] || (ba R).toList == [100, 105, 118]) = q := ⟨_, rfl⟩
      rw [hq]
      have HQ := Aside0.mk hq
      rw [eR]
      clear hq eR
      have HY5 := Aside0.mk (HY.out 5)
      clear HY
      generalize ba R = z at *
      generalize ba r = y at *
      cases q
      all_goals
        simp only [Bool.false_eq_true, if_false, if_true]
        go_enter Tryz.func31, Tryz.ntmps31
        go_wp2_with fail
        refine hr.mono ?_
        rintro e w1 ⟨rfl, b1⟩
        have hN := HN.out _ b1
        have B1 := Aside0.mk b1
        clear b1
        go_wp2_with fail
        refine hN.mono ?_
        rintro e w2 ⟨rfl, b2⟩
        have b3 := chain B1.out (Nat.le_refl _) b2
        have hS := HE.out _ b3
        have B3 := Aside0.mk b3
        clear b2 b3 B1 hN
        go_wp2_with fail
        refine hS.mono ?_
        rintro e w3 ⟨rfl, b3⟩
        have b4 := chain B3.out (Nat.le_refl _) b3
        have hY := HY5.out _ b4
        have hL := HL.out _ b4
        have F1 := Aside0.mk (HF2.out _ b4)
        clear b3 B3 hS b4
        go_wp2_with fail
        all_goals
          first
          | (refine hY.mono ?_
             rintro e w5 ⟨rfl, h2, f2⟩
             go_wp2_with fail
             go_ret
             first | exact ⟨rfl, h2, F1.out.trans f2⟩ | (exfalso; have := HQ.out; simp_all; done))
          | (refine hL.mono ?_
             rintro e w5 ⟨rfl, h2, f2⟩
             go_wp2_with fail
             go_ret
             first | exact ⟨rfl, h2, F1.out.trans f2⟩ | (exfalso; have := HQ.out; simp_all; done))
end Go.Proofs.YthilcidoacgdfaaGreatDoor.LexJ
