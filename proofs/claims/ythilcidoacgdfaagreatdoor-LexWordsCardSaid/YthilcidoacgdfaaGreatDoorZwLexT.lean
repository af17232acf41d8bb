import Derived.Test.YthilcidoacgdfaaGreatDoorZwLexO
import Derived.Test.YthilcidoacgdfaaGreatDoorZwLexS
set_option maxHeartbeats 4000000
set_option maxRecDepth 100000
namespace Go.Proofs.YthilcidoacgdfaaGreatDoor.CharB
end Go.Proofs.YthilcidoacgdfaaGreatDoor.CharB
namespace Go.Proofs.YthilcidoacgdfaaGreatDoor.FigG
end Go.Proofs.YthilcidoacgdfaaGreatDoor.FigG
namespace Go.Proofs.YthilcidoacgdfaaGreatDoor.FigI
end Go.Proofs.YthilcidoacgdfaaGreatDoor.FigI
namespace Go.Proofs.YthilcidoacgdfaaGreatDoor.LexA
end Go.Proofs.YthilcidoacgdfaaGreatDoor.LexA
namespace Go.Proofs.YthilcidoacgdfaaGreatDoor.LexF
end Go.Proofs.YthilcidoacgdfaaGreatDoor.LexF
namespace Go.Proofs.YthilcidoacgdfaaGreatDoor.LexM
end Go.Proofs.YthilcidoacgdfaaGreatDoor.LexM
namespace Go.Proofs.YthilcidoacgdfaaGreatDoor.LexN
end Go.Proofs.YthilcidoacgdfaaGreatDoor.LexN
namespace Go.Proofs.YthilcidoacgdfaaGreatDoor.LexO
end Go.Proofs.YthilcidoacgdfaaGreatDoor.LexO
namespace Go.Proofs.YthilcidoacgdfaaGreatDoor.PF
end Go.Proofs.YthilcidoacgdfaaGreatDoor.PF
namespace Go.Proofs.YthilcidoacgdfaaGreatDoor.SpanA
end Go.Proofs.YthilcidoacgdfaaGreatDoor.SpanA
namespace Go.Proofs.YthilcidoacgdfaaGreatDoorW.PrintLast
end Go.Proofs.YthilcidoacgdfaaGreatDoorW.PrintLast
namespace Go.Proofs.YthilcidoacgdfaaGreatDoorW.PrintMore
end Go.Proofs.YthilcidoacgdfaaGreatDoorW.PrintMore
namespace Go.Proofs.YthilcidoacgdfaaGreatDoorW.PrintWords
end Go.Proofs.YthilcidoacgdfaaGreatDoorW.PrintWords
namespace Go.Proofs.YthilcidoacgdfaaGreatDoor.LexT
open Go.RowKit Go.Shelf YthilcidoacgdfaaGreatDoorW.PrintWords YthilcidoacgdfaaGreatDoorW.PrintLast YthilcidoacgdfaaGreatDoorW.PrintMore CharB SpanA FigG FigI LexA LexF LexM LexN LexO PF
set_option linter.unusedVariables false
set_option linter.unusedSimpArgs false
theorem rlex_call (s : ByteArray) (w : World) (hs : s.size ≤ 9223372036854775807) : Calls Tryz.prog 9 #[.string s] w fun e w' => ∃ A cap, e = .returned (.tuple #[.slice A (lexS s.data.toList).1.length cap, .int .i64 (lexS s.data.toList).2]) ∧ (lexS s.data.toList).1.length ≤ cap ∧ Kd.C k49 w' A (lexS s.data.toList).1.length ((lexS s.data.toList).1.map toS) ∧ Below w.heap.size w w' := by
 refine (breviaryref12_Lex.calls 8001 s _ _ w (LexS.ref_lex s hs)).mono ?_
 rintro e w' ⟨v, rfl, hr, hb⟩
 obtain ⟨A, c, rfl, hc, hC⟩ := Kd.R_reads hr
 rw [List.length_map] at hc hC
 exact ⟨A, c, by rw [List.length_map], hc, hC, hb⟩
theorem same_call2 (A0 A1 : Option Addr) (c0 c1 : Nat) (l : List Wd) (w : World) (hl : l.length ≤ 1000) (h0 : Kd.C k49 w A0 l.length (l.map toS)) (g0 : l.length ≤ c0) (h1 : Kd.C k49 w A1 l.length (l.map toS)) (g1 : l.length ≤ c1) :
  Calls Tryz.prog 10 #[.slice A0 l.length c0, .slice A1 l.length c1] w fun e w' => e = .returned (.bool true) ∧ Below w.heap.size w w' := by
 have hm : (l.map toS).length = l.length := by simp
 have := PF.breviaryref12_Same.calls 1001 A0 c0 (l.map toS) A1 c1 (l.map toS) true w (by rw [hm]; exact h0) (by rw [hm]; exact g0) (by rw [hm]; exact h1) (by rw [hm]; exact g1) (same_self _ (by rw [hm]; exact hl))
 rw [hm] at this
 refine this.mono fun e w' ⟨h2, m, h3⟩ => ⟨h2, ?_⟩
 rw [h3]
 exact CharB.below_drewN (Below.refl _ _) m
theorem words_calls (s : ByteArray) (w : World) (hT : Tabs w) (hs : s.size ≤ 9223372036854775807) : Calls Tryz.prog 3 #[.string s] w fun e w' => e = .returned (.bool true) ∧ Below w.heap.size w w' := by
 by_cases hl : s.size ≤ 500
 ·have hlb : decide ((500 : Int) < (s.size : Int)) = false := by simp; omega
  have hc1 := lex_call s w hs hT
  have hc2 := fun W => rlex_call s W hs
  have hw : ∀ W, Below w.heap.size w W → _ := fun W hW => works_calls W (tabs_below hT hW)
  have hlen := lexS_len s.data.toList
  generalize lexS s.data.toList = R at *
  obtain ⟨l, err⟩ := R
  simp only at hlen hc2
  have HC := Aside0.mk hc2
  have HW := Aside0.mk hw
  have HN := Aside0.mk hlen
  clear hT hlen hc2 hw
  go_enter Tryz.func3, Tryz.ntmps3
  go_wp2_with fail
  refine hc1.mono ?_
  rintro e w1 ⟨A, cap, rfl, ho1, b1⟩
  have hc := HC.out w1
  have HO1 := Aside0.mk ho1
  have B1 := Aside0.mk b1
  clear ho1 b1 hc1 HC
  go_wp2_with fail
  refine hc.mono ?_
  rintro e w2 ⟨A2, cap2, rfl, hcap2, ho2, b2⟩
  have b3 := chain B1.out (Nat.le_refl _) b2
  have hsm := same_call2 A A2 cap cap2 l w2 (by have := HN.out; omega) (own_C (own_below HO1.out b2) (by have := HN.out; omega)) (LexN.own_cap HO1.out) ho2 hcap2
  have B3 := Aside0.mk b3
  clear ho2 b2 b3 hc hcap2
  go_wp2_with fail
  refine hsm.mono ?_
  rintro e w3 ⟨rfl, b4⟩
  have b5 := chain B3.out (Nat.le_refl _) b4
  have hw := HW.out _ b5
  have B5 := Aside0.mk b5
  clear b4 b5 hsm
  go_wp2_with fail
  refine hw.mono ?_
  rintro e w4 ⟨rfl, b6⟩
  have B6 := Aside0.mk (chain B5.out (Nat.le_refl _) b6)
  clear b6
  go_wp2_with fail
  go_ret
  exact ⟨by first | rfl | (simp; done), B6.out⟩
 ·have hlb : decide ((500 : Int) < (s.size : Int)) = true := by simp; omega
  have c5 := works_calls w hT
  clear hT
  go_enter Tryz.func3, Tryz.ntmps3
  go_wp2_with fail
  refine c5.mono ?_
  rintro e w5 ⟨rfl, b5⟩
  go_wp2_with fail
  go_ret
  exact ⟨rfl, b5⟩
end Go.Proofs.YthilcidoacgdfaaGreatDoor.LexT
