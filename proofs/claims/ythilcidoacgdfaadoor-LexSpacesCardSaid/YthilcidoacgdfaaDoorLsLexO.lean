/- The law LexSpaces: its walk. -/
import Derived.Test.YthilcidoacgdfaaDoorLsLexN
namespace Go.Proofs.YthilcidoacgdfaaDoor.CharA
end Go.Proofs.YthilcidoacgdfaaDoor.CharA
namespace Go.Proofs.YthilcidoacgdfaaDoor.CharB
end Go.Proofs.YthilcidoacgdfaaDoor.CharB
namespace Go.Proofs.YthilcidoacgdfaaDoor.CharC
end Go.Proofs.YthilcidoacgdfaaDoor.CharC
namespace Go.Proofs.YthilcidoacgdfaaDoor.CharD
end Go.Proofs.YthilcidoacgdfaaDoor.CharD
namespace Go.Proofs.YthilcidoacgdfaaDoor.CharF
end Go.Proofs.YthilcidoacgdfaaDoor.CharF
namespace Go.Proofs.YthilcidoacgdfaaDoor.FigA
end Go.Proofs.YthilcidoacgdfaaDoor.FigA
namespace Go.Proofs.YthilcidoacgdfaaDoor.FigC
end Go.Proofs.YthilcidoacgdfaaDoor.FigC
namespace Go.Proofs.YthilcidoacgdfaaDoor.FigD
end Go.Proofs.YthilcidoacgdfaaDoor.FigD
namespace Go.Proofs.YthilcidoacgdfaaDoor.FigG
end Go.Proofs.YthilcidoacgdfaaDoor.FigG
namespace Go.Proofs.YthilcidoacgdfaaDoor.FigH
end Go.Proofs.YthilcidoacgdfaaDoor.FigH
namespace Go.Proofs.YthilcidoacgdfaaDoor.FigI
end Go.Proofs.YthilcidoacgdfaaDoor.FigI
namespace Go.Proofs.YthilcidoacgdfaaDoor.LexA
end Go.Proofs.YthilcidoacgdfaaDoor.LexA
namespace Go.Proofs.YthilcidoacgdfaaDoor.LexC
end Go.Proofs.YthilcidoacgdfaaDoor.LexC
namespace Go.Proofs.YthilcidoacgdfaaDoor.LexF
end Go.Proofs.YthilcidoacgdfaaDoor.LexF
namespace Go.Proofs.YthilcidoacgdfaaDoor.LexG
end Go.Proofs.YthilcidoacgdfaaDoor.LexG
namespace Go.Proofs.YthilcidoacgdfaaDoor.LexM
end Go.Proofs.YthilcidoacgdfaaDoor.LexM
namespace Go.Proofs.YthilcidoacgdfaaDoor.LexN
end Go.Proofs.YthilcidoacgdfaaDoor.LexN
namespace Go.Proofs.YthilcidoacgdfaaDoor.SpanA
end Go.Proofs.YthilcidoacgdfaaDoor.SpanA
namespace Go.Proofs.YthilcidoacgdfaaDoorW.PrintLast
end Go.Proofs.YthilcidoacgdfaaDoorW.PrintLast
namespace Go.Proofs.YthilcidoacgdfaaDoorW.PrintMore
end Go.Proofs.YthilcidoacgdfaaDoorW.PrintMore
namespace Go.Proofs.YthilcidoacgdfaaDoorW.PrintWords
end Go.Proofs.YthilcidoacgdfaaDoorW.PrintWords
namespace Go.Proofs.YthilcidoacgdfaaDoor.LexO
open Go.RowKit Go.Shelf Go.Proofs.YthilcidoacgdfaaDoorW.PrintWords Go.Proofs.YthilcidoacgdfaaDoorW.PrintLast Go.Proofs.YthilcidoacgdfaaDoorW.PrintMore Go.Proofs.YthilcidoacgdfaaDoor.CharA Go.Proofs.YthilcidoacgdfaaDoor.CharB Go.Proofs.YthilcidoacgdfaaDoor.CharC Go.Proofs.YthilcidoacgdfaaDoor.CharD Go.Proofs.YthilcidoacgdfaaDoor.CharF Go.Proofs.YthilcidoacgdfaaDoor.SpanA Go.Proofs.YthilcidoacgdfaaDoor.FigA Go.Proofs.YthilcidoacgdfaaDoor.FigC Go.Proofs.YthilcidoacgdfaaDoor.FigD Go.Proofs.YthilcidoacgdfaaDoor.FigG Go.Proofs.YthilcidoacgdfaaDoor.FigH Go.Proofs.YthilcidoacgdfaaDoor.FigI Go.Proofs.YthilcidoacgdfaaDoor.LexA Go.Proofs.YthilcidoacgdfaaDoor.LexC Go.Proofs.YthilcidoacgdfaaDoor.LexF Go.Proofs.YthilcidoacgdfaaDoor.LexG Go.Proofs.YthilcidoacgdfaaDoor.LexM Go.Proofs.YthilcidoacgdfaaDoor.LexN
set_option linter.unusedVariables false
set_option linter.unusedSimpArgs false
theorem lexL_len : ∀ (n : Nat) (s : List UInt8) (acc : List Wd), acc.length ≤ 120 → (lexL n s acc).1.length ≤ 120
  | 0, s, acc, h => by simpa [lexL] using h
  | n + 1, s, acc, h => by
    simp only [lexL]
    split
    · exact h
    · split
      · simp
      · split
        · simp
        · exact lexL_len n _ _ (by rw [List.length_append]; simp; omega)
theorem lexS_len (s : List UInt8) : (lexS s).1.length ≤ 120 := by
  unfold lexS
  split
  · simp
  · split
    · exact lexL_len _ _ _ (by simp)
    · simp
def gapL : List UInt8 := [32, 9, 13, 10, 32, 10, 32, 32, 9]
theorem gap_sp : ∀ x ∈ gapL, spB x = true := by decide
set_option maxHeartbeats 4000000 in
set_option maxRecDepth 100000 in
theorem spaces_calls (s : ByteArray) (n : Int) (w : World) (hT : Tabs w) (h0 : 0 ≤ n) (h1 : n < 256) (hs : s.size ≤ 9223372036854775807) : Calls Tryd.prog 10 #[.string s, .int .u8 n] w fun e w' => e = .returned (.bool true) ∧ Below w.heap.size w w' := by
  by_cases hl : s.size ≤ 380
  · have hlb : decide ((380 : Int) < (s.size : Int)) = false := by simp; omega
    obtain ⟨k, hk⟩ : ∃ k : Nat, n % 9 = (k : Int) := ⟨(n % 9).toNat, by omega⟩
    have hk9 : k ≤ 8 := by omega
    have x1 : (k : Int) ≤ 9 := by omega
    have hx : (⟨#[32, 9, 13, 10, 32, 10, 32, 32, 9]⟩ : ByteArray).extract 0 k = ba (gapL.take k) := ext_take _ k (by show k ≤ 9; omega)
    have hsp := lex_spaces (gapL.take k) s.data.toList (fun x hx => gap_sp x (List.mem_of_mem_take hx)) (by rw [List.length_take]; omega) (by rw [← Lib.size_eq]; exact hl)
    have hgl : (gapL.take k).length ≤ 9 := by rw [List.length_take]; omega
    have hgs : (ba (gapL.take k)).size ≤ 9 := by rw [ba_size]; exact hgl
    have hc1 := lex_call s w hs hT
    have hc2 : ∀ W, Below w.heap.size w W → _ := fun W hW => lex_call (ba (gapL.take k) ++ s ++ ba (gapL.take k)) W (by rw [app_size, app_size, ba_size]; omega) (tabs_below hT hW)
    rw [app_list, app_list, ba_list, hsp] at hc2
    have hw : ∀ W, Below w.heap.size w W → _ := fun W hW => works_calls W (tabs_below hT hW)
    have hlen := lexS_len s.data.toList
    generalize lexS s.data.toList = R at *
    obtain ⟨l, err⟩ := R
    simp only at hlen
    have HC := Aside0.mk hc2
    have HW := Aside0.mk hw
    have HN := Aside0.mk hlen
    clear hsp hT hlen hc2 hw hgl hk9
    generalize ba (gapL.take k) = gp at *
    go_enter Tryd.func10, Tryd.ntmps10
    go_wp2_with fail
    refine hc1.mono ?_
    rintro e w1 ⟨A, cap, rfl, ho1, b1⟩
    have hc := HC.out _ b1
    have HO1 := Aside0.mk ho1
    have B1 := Aside0.mk b1
    clear ho1 b1 hc1 HC
    go_wp2_with fail
    refine hc.mono ?_
    rintro e w2 ⟨A2, cap2, rfl, ho2, b2⟩
    have b3 := chain B1.out (Nat.le_refl _) b2
    have hsm := same_call A A2 cap cap2 _ _ l w2 (by have := HN.out; omega) (own_below HO1.out b2) ho2
    have B3 := Aside0.mk b3
    clear ho2 b2 b3 hc
    go_wp2_with fail
    refine hsm.mono ?_
    rintro e w3 ⟨rfl, b4⟩
    have b5 := chain B3.out (Nat.le_refl _) b4
    have hw := HW.out _ b5
    have B5 := Aside0.mk b5
    clear b4 b5 hsm
    go_wp2_with fail
    refine hw.mono ?_
    rintro e w4 ⟨rfl, b6⟩
    have B6 := Aside0.mk (chain B5.out (Nat.le_refl _) b6)
    clear b6
    go_wp2_with fail
    go_ret
    exact ⟨by first | rfl | (simp; done), B6.out⟩
  · have hlb : decide ((380 : Int) < (s.size : Int)) = true := by simp; omega
    have c5 := works_calls w hT
    clear hT
    go_enter Tryd.func10, Tryd.ntmps10
    go_wp2_with fail
    refine c5.mono ?_
    rintro e w5 ⟨rfl, b5⟩
    go_wp2_with fail
    go_ret
    exact ⟨rfl, b5⟩
theorem spacesW (s : ByteArray) (n : Int) (w : World) (hT : Tabs w) (hs : s.size ≤ 9223372036854775807) (h : (Lit.int .u8 n).wf = true) : Calls Tryd.prog 10 #[.string s, .int .u8 n] w fun e w' => e = .returned (.bool true) ∧ Below w.heap.size w w' := by
  have h2 : 0 ≤ n ∧ n ≤ 255 := by simpa [Lit.wf, IntKind.min, IntKind.max, IntKind.bits, IntKind.signed] using h
  exact spaces_calls s n w hT h2.1 (by omega) hs
end Go.Proofs.YthilcidoacgdfaaDoor.LexO
