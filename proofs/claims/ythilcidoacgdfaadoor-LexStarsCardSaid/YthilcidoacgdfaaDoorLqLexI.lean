/- The lexer's way mark. (Printed by gen_lexi.py.) -/
import Derived.Test.YthilcidoacgdfaaDoorLqLexH
namespace Go.Proofs.YthilcidoacgdfaaDoor.CharA
end Go.Proofs.YthilcidoacgdfaaDoor.CharA
namespace Go.Proofs.YthilcidoacgdfaaDoor.CharB
end Go.Proofs.YthilcidoacgdfaaDoor.CharB
namespace Go.Proofs.YthilcidoacgdfaaDoor.CharD
end Go.Proofs.YthilcidoacgdfaaDoor.CharD
namespace Go.Proofs.YthilcidoacgdfaaDoor.CharF
end Go.Proofs.YthilcidoacgdfaaDoor.CharF
namespace Go.Proofs.YthilcidoacgdfaaDoor.FigA
end Go.Proofs.YthilcidoacgdfaaDoor.FigA
namespace Go.Proofs.YthilcidoacgdfaaDoor.FigC
end Go.Proofs.YthilcidoacgdfaaDoor.FigC
namespace Go.Proofs.YthilcidoacgdfaaDoor.FigD
end Go.Proofs.YthilcidoacgdfaaDoor.FigD
namespace Go.Proofs.YthilcidoacgdfaaDoor.FigG
end Go.Proofs.YthilcidoacgdfaaDoor.FigG
namespace Go.Proofs.YthilcidoacgdfaaDoor.FigI
end Go.Proofs.YthilcidoacgdfaaDoor.FigI
namespace Go.Proofs.YthilcidoacgdfaaDoor.LexA
end Go.Proofs.YthilcidoacgdfaaDoor.LexA
namespace Go.Proofs.YthilcidoacgdfaaDoor.LexF
end Go.Proofs.YthilcidoacgdfaaDoor.LexF
namespace Go.Proofs.YthilcidoacgdfaaDoor.LexG
end Go.Proofs.YthilcidoacgdfaaDoor.LexG
namespace Go.Proofs.YthilcidoacgdfaaDoor.LexH
end Go.Proofs.YthilcidoacgdfaaDoor.LexH
namespace Go.Proofs.YthilcidoacgdfaaDoor.SpanA
end Go.Proofs.YthilcidoacgdfaaDoor.SpanA
namespace Go.Proofs.YthilcidoacgdfaaDoorW.PrintLast
end Go.Proofs.YthilcidoacgdfaaDoorW.PrintLast
namespace Go.Proofs.YthilcidoacgdfaaDoorW.PrintMore
end Go.Proofs.YthilcidoacgdfaaDoorW.PrintMore
namespace Go.Proofs.YthilcidoacgdfaaDoorW.PrintWords
end Go.Proofs.YthilcidoacgdfaaDoorW.PrintWords
namespace Go.Proofs.YthilcidoacgdfaaDoor.LexI
open Go.RowKit Go.Shelf Go.Proofs.YthilcidoacgdfaaDoorW.PrintWords Go.Proofs.YthilcidoacgdfaaDoorW.PrintLast Go.Proofs.YthilcidoacgdfaaDoorW.PrintMore Go.Proofs.YthilcidoacgdfaaDoor.CharA Go.Proofs.YthilcidoacgdfaaDoor.CharB Go.Proofs.YthilcidoacgdfaaDoor.CharD Go.Proofs.YthilcidoacgdfaaDoor.CharF Go.Proofs.YthilcidoacgdfaaDoor.SpanA Go.Proofs.YthilcidoacgdfaaDoor.FigA Go.Proofs.YthilcidoacgdfaaDoor.FigC Go.Proofs.YthilcidoacgdfaaDoor.FigD Go.Proofs.YthilcidoacgdfaaDoor.FigG Go.Proofs.YthilcidoacgdfaaDoor.FigI Go.Proofs.YthilcidoacgdfaaDoor.LexA Go.Proofs.YthilcidoacgdfaaDoor.LexF Go.Proofs.YthilcidoacgdfaaDoor.LexG Go.Proofs.YthilcidoacgdfaaDoor.LexH
set_option linter.unusedVariables false
set_option linter.unusedSimpArgs false
theorem first_cons (p : List UInt8) (rest : List (List UInt8)) (s : List UInt8) : firstOf (p :: rest) s = if p.isPrefixOf s = true then some p else firstOf rest s := by
  unfold firstOf
  rw [List.find?_cons]
  cases p.isPrefixOf s <;> rfl
theorem none_cons {p : List UInt8} {rest : List (List UInt8)} {s : List UInt8} (h : firstOf (p :: rest) s = none) : p.isPrefixOf s = false ∧ firstOf rest s = none := by
  rw [first_cons] at h
  cases hp : p.isPrefixOf s with
  | true => rw [hp] at h; cases h
  | false => rw [hp] at h; exact ⟨rfl, h⟩
theorem some_cons {p : List UInt8} {rest : List (List UInt8)} {s m : List UInt8} (h : firstOf (p :: rest) s = some m) : (p.isPrefixOf s = true ∧ m = p) ∨ (p.isPrefixOf s = false ∧ firstOf rest s = some m) := by
  rw [first_cons] at h
  cases hp : p.isPrefixOf s with
  | true => rw [hp] at h; exact .inl ⟨rfl, (Option.some.inj h).symm⟩
  | false => rw [hp] at h; exact .inr ⟨rfl, h⟩
theorem drop_at (l : List (List UInt8)) (k : Nat) (h : k < l.length) : l.drop k = l.getD k [] :: l.drop (k + 1) := by
  rw [List.drop_eq_getElem_cons h]
  simp [List.getD, List.getElem?_eq_getElem h]

theorem ix9 (k : Nat) (hk : k < 9) (w : World) : (Instr.index 105 (.agg #[.string ⟨#[46, 46]⟩, .string ⟨#[58, 58]⟩, .string ⟨#[40]⟩, .string ⟨#[41]⟩, .string ⟨#[91]⟩, .string ⟨#[93]⟩, .string ⟨#[46]⟩, .string ⟨#[64]⟩, .string ⟨#[44]⟩]) (.int .i64 (k : Int))).run Tryd.prog w = .ok (.string (ba (marksL.getD k []))) w := by
  rcases (show k = 0 ∨ k = 1 ∨ k = 2 ∨ k = 3 ∨ k = 4 ∨ k = 5 ∨ k = 6 ∨ k = 7 ∨ k = 8 by omega) with rfl | rfl | rfl | rfl | rfl | rfl | rfl | rfl | rfl
  all_goals kernel_rfl
theorem ix11 (k : Nat) (hk : k < 11) (w : World) : (Instr.index 106 (.agg #[.string ⟨#[47, 47]⟩, .string ⟨#[33, 61]⟩, .string ⟨#[60, 61]⟩, .string ⟨#[62, 61]⟩, .string ⟨#[47]⟩, .string ⟨#[124]⟩, .string ⟨#[43]⟩, .string ⟨#[45]⟩, .string ⟨#[61]⟩, .string ⟨#[60]⟩, .string ⟨#[62]⟩]) (.int .i64 (k : Int))).run Tryd.prog w = .ok (.string (ba (opsL.getD k []))) w := by
  rcases (show k = 0 ∨ k = 1 ∨ k = 2 ∨ k = 3 ∨ k = 4 ∨ k = 5 ∨ k = 6 ∨ k = 7 ∨ k = 8 ∨ k = 9 ∨ k = 10 by omega) with rfl | rfl | rfl | rfl | rfl | rfl | rfl | rfl | rfl | rfl | rfl
  all_goals kernel_rfl
set_option maxHeartbeats 16000000 in
set_option maxRecDepth 100000 in
theorem mark_one (b B : Nat) (s : ByteArray) (m : List UInt8) (l : List Wd) (w : World) (h : LB b B s l false w) (hb : b < B) (hB : B ≤ w.heap.size) (hl : l.length ≤ 1000) (hm : firstOf marksL s.data.toList = some m) :
    Calls Tryd.prog 45 #[selfL b] w fun e w' => e = .returned (.bool true) ∧ LB b B (ba (s.data.toList.drop m.length)) (l ++ [(1, m, 0, 0)]) false w' ∧ Fr b B w w' := by
  have HS : Aside0 (∀ t r, Calls Tryd.prog 92 #[.pointer (some ⟨b, 0, none⟩), .int .i64 1, .string t, .string r] w fun e w' => e = .returned (.bool true) ∧ LB b B r (l ++ [(1, t.data.toList, 0, 0)]) false w' ∧ Fr b B w w') := ⟨fun t r => say_call b B s l 1 t r w h hb hB hl⟩
  obtain ⟨v, h1, _⟩ := h
  have c0 : w.cell? ⟨b, 0, none⟩ = some (.string s) := by rw [cell_h h1]; rfl
  clear h1
  have HmarksL : Aside0 (0 ≤ 9 ∧ firstOf (marksL.drop 0) s.data.toList = some m) := ⟨by omega, hm⟩
  clear hm hl
  unfold selfL
  go_enter Tryd.func45, Tryd.ntmps45
  go_wp2_with fail
  go_loop [12] (fun i => ∃ k : Nat, i = .int .i64 (k : Int) ∧ Aside0 (k ≤ 9 ∧ firstOf (marksL.drop k) s.data.toList = some m)) (fun i => 9 - (intOf i).toNat)
  case atStart => exact ⟨0, rfl, HmarksL⟩
  case round =>
    obtain ⟨k, rfl, H⟩ := hrel
    have hk := H.out.1
    have hF := H.out.2
    clear H
    by_cases hlt : k < 9
    · rw [drop_at marksL k hlt] at hF
      have hx := ix9 k hlt w
      rcases some_cons hF with ⟨hp, hm⟩ | ⟨hp, hn⟩
      · rw [← hm] at hp hx
        have hc := pre_yes s (ba m) (ba (s.data.toList.drop m.length)) hp rfl w
        have hS := HS.out (ba m) (ba (s.data.toList.drop m.length))
        rw [ba_list] at hS
        clear hF hp HS hm
        go_wp2_with fail
        refine hc.mono ?_
        rintro e w1 ⟨rfl, rfl⟩
        go_wp2_with fail
        refine hS.mono ?_
        rintro e w2 ⟨rfl, h2, f2⟩
        go_wp2_with fail
        go_ret
        exact ⟨rfl, h2, f2⟩
      · have HN := Aside0.mk hn
        clear hF hn
        have hc := pre_no s (ba (marksL.getD k [])) hp w
        clear hp
        generalize ba (marksL.getD k []) = p at *
        go_wp2_with fail
        refine hc.mono ?_
        rintro e w1 ⟨rfl, rfl⟩
        go_wp2_with fail
        go_round
        case rel => exact ⟨k + 1, by go_num, ⟨by omega, HN.out⟩⟩
        case measure => simp [intOf]; omega
    · obtain rfl : k = 9 := by omega
      cases hF
set_option maxHeartbeats 16000000 in
set_option maxRecDepth 100000 in
theorem mark_two (b B : Nat) (s : ByteArray) (m : List UInt8) (l : List Wd) (w : World) (h : LB b B s l false w) (hb : b < B) (hB : B ≤ w.heap.size) (hl : l.length ≤ 1000) (h0 : firstOf marksL s.data.toList = none) (hm : firstOf opsL s.data.toList = some m) :
    Calls Tryd.prog 45 #[selfL b] w fun e w' => e = .returned (.bool true) ∧ LB b B (ba (s.data.toList.drop m.length)) (l ++ [(5, m, 0, 0)]) false w' ∧ Fr b B w w' := by
  have HS : Aside0 (∀ t r, Calls Tryd.prog 92 #[.pointer (some ⟨b, 0, none⟩), .int .i64 5, .string t, .string r] w fun e w' => e = .returned (.bool true) ∧ LB b B r (l ++ [(5, t.data.toList, 0, 0)]) false w' ∧ Fr b B w w') := ⟨fun t r => say_call b B s l 5 t r w h hb hB hl⟩
  obtain ⟨v, h1, _⟩ := h
  have c0 : w.cell? ⟨b, 0, none⟩ = some (.string s) := by rw [cell_h h1]; rfl
  clear h1
  have HmarksL : Aside0 (0 ≤ 9 ∧ firstOf (marksL.drop 0) s.data.toList = none) := ⟨by omega, h0⟩
  have HopsL : Aside0 (0 ≤ 11 ∧ firstOf (opsL.drop 0) s.data.toList = some m) := ⟨by omega, hm⟩
  clear hm h0 hl
  unfold selfL
  go_enter Tryd.func45, Tryd.ntmps45
  go_wp2_with fail
  go_loop [12] (fun i => ∃ k : Nat, i = .int .i64 (k : Int) ∧ Aside0 (k ≤ 9 ∧ firstOf (marksL.drop k) s.data.toList = none)) (fun i => 9 - (intOf i).toNat)
  case atStart => exact ⟨0, rfl, HmarksL⟩
  case round =>
    obtain ⟨k, rfl, H⟩ := hrel
    have hk := H.out.1
    have hF := H.out.2
    clear H
    by_cases hlt : k < 9
    · rw [drop_at marksL k hlt] at hF
      have hx := ix9 k hlt w
      obtain ⟨hp, hn⟩ := none_cons hF
      have HN := Aside0.mk hn
      clear hF hn
      have hc := pre_no s (ba (marksL.getD k [])) hp w
      clear hp
      generalize ba (marksL.getD k []) = p at *
      go_wp2_with fail
      refine hc.mono ?_
      rintro e w1 ⟨rfl, rfl⟩
      go_wp2_with fail
      go_round
      case rel => exact ⟨k + 1, by go_num, ⟨by omega, HN.out⟩⟩
      case measure => simp [intOf]; omega
    · obtain rfl : k = 9 := by omega
      clear hF hlt
      go_wp2_with fail
      go_loop [31] (fun i => ∃ k : Nat, i = .int .i64 (k : Int) ∧ Aside0 (k ≤ 11 ∧ firstOf (opsL.drop k) s.data.toList = some m)) (fun i => 11 - (intOf i).toNat)
      case atStart => exact ⟨0, rfl, HopsL⟩
      case round =>
        obtain ⟨k, rfl, H⟩ := hrel
        have hk := H.out.1
        have hF := H.out.2
        clear H
        by_cases hlt : k < 11
        · rw [drop_at opsL k hlt] at hF
          have hx := ix11 k hlt w
          rcases some_cons hF with ⟨hp, hm⟩ | ⟨hp, hn⟩
          · rw [← hm] at hp hx
            have hc := pre_yes s (ba m) (ba (s.data.toList.drop m.length)) hp rfl w
            have hS := HS.out (ba m) (ba (s.data.toList.drop m.length))
            rw [ba_list] at hS
            clear hF hp HS hm
            go_wp2_with fail
            refine hc.mono ?_
            rintro e w1 ⟨rfl, rfl⟩
            go_wp2_with fail
            refine hS.mono ?_
            rintro e w2 ⟨rfl, h2, f2⟩
            go_wp2_with fail
            go_ret
            exact ⟨rfl, h2, f2⟩
          · have HN := Aside0.mk hn
            clear hF hn
            have hc := pre_no s (ba (opsL.getD k [])) hp w
            clear hp
            generalize ba (opsL.getD k []) = p at *
            go_wp2_with fail
            refine hc.mono ?_
            rintro e w1 ⟨rfl, rfl⟩
            go_wp2_with fail
            go_round
            case rel => exact ⟨k + 1, by go_num, ⟨by omega, HN.out⟩⟩
            case measure => simp [intOf]; omega
        · obtain rfl : k = 11 := by omega
          cases hF
set_option maxHeartbeats 16000000 in
set_option maxRecDepth 100000 in
theorem mark_no (b B : Nat) (s : ByteArray) (l : List Wd) (w : World) (h : LB b B s l false w) (h0 : firstOf marksL s.data.toList = none) (hm : firstOf opsL s.data.toList = none) :
    Calls Tryd.prog 45 #[selfL b] w fun e w' => e = .returned (.bool false) ∧ w = w' := by
  obtain ⟨v, h1, _⟩ := h
  have c0 : w.cell? ⟨b, 0, none⟩ = some (.string s) := by rw [cell_h h1]; rfl
  clear h1
  have HmarksL : Aside0 (0 ≤ 9 ∧ firstOf (marksL.drop 0) s.data.toList = none) := ⟨by omega, h0⟩
  have HopsL : Aside0 (0 ≤ 11 ∧ firstOf (opsL.drop 0) s.data.toList = none) := ⟨by omega, hm⟩
  clear hm h0
  unfold selfL
  go_enter Tryd.func45, Tryd.ntmps45
  go_wp2_with fail
  go_loop [12] (fun i => ∃ k : Nat, i = .int .i64 (k : Int) ∧ Aside0 (k ≤ 9 ∧ firstOf (marksL.drop k) s.data.toList = none)) (fun i => 9 - (intOf i).toNat)
  case atStart => exact ⟨0, rfl, HmarksL⟩
  case round =>
    obtain ⟨k, rfl, H⟩ := hrel
    have hk := H.out.1
    have hF := H.out.2
    clear H
    by_cases hlt : k < 9
    · rw [drop_at marksL k hlt] at hF
      have hx := ix9 k hlt w
      obtain ⟨hp, hn⟩ := none_cons hF
      have HN := Aside0.mk hn
      clear hF hn
      have hc := pre_no s (ba (marksL.getD k [])) hp w
      clear hp
      generalize ba (marksL.getD k []) = p at *
      go_wp2_with fail
      refine hc.mono ?_
      rintro e w1 ⟨rfl, rfl⟩
      go_wp2_with fail
      go_round
      case rel => exact ⟨k + 1, by go_num, ⟨by omega, HN.out⟩⟩
      case measure => simp [intOf]; omega
    · obtain rfl : k = 9 := by omega
      clear hF hlt
      go_wp2_with fail
      go_loop [31] (fun i => ∃ k : Nat, i = .int .i64 (k : Int) ∧ Aside0 (k ≤ 11 ∧ firstOf (opsL.drop k) s.data.toList = none)) (fun i => 11 - (intOf i).toNat)
      case atStart => exact ⟨0, rfl, HopsL⟩
      case round =>
        obtain ⟨k, rfl, H⟩ := hrel
        have hk := H.out.1
        have hF := H.out.2
        clear H
        by_cases hlt : k < 11
        · rw [drop_at opsL k hlt] at hF
          have hx := ix11 k hlt w
          obtain ⟨hp, hn⟩ := none_cons hF
          have HN := Aside0.mk hn
          clear hF hn
          have hc := pre_no s (ba (opsL.getD k [])) hp w
          clear hp
          generalize ba (opsL.getD k []) = p at *
          go_wp2_with fail
          refine hc.mono ?_
          rintro e w1 ⟨rfl, rfl⟩
          go_wp2_with fail
          go_round
          case rel => exact ⟨k + 1, by go_num, ⟨by omega, HN.out⟩⟩
          case measure => simp [intOf]; omega
        · obtain rfl : k = 11 := by omega
          clear hF hlt
          go_wp2_with fail
          go_ret
          exact ⟨rfl, rfl⟩
end Go.Proofs.YthilcidoacgdfaaDoor.LexI
