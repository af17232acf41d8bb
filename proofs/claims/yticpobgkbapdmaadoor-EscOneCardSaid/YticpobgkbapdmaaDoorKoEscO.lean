/- The laws of esc that put and get back, and that get one character: their walks. -/
import Derived.Test.YticpobgkbapdmaaDoorKoEscN
namespace Go.Proofs.YticpobgkbapdmaaDoor.CharA
end Go.Proofs.YticpobgkbapdmaaDoor.CharA
namespace Go.Proofs.YticpobgkbapdmaaDoor.CharB
end Go.Proofs.YticpobgkbapdmaaDoor.CharB
namespace Go.Proofs.YticpobgkbapdmaaDoor.CharC
end Go.Proofs.YticpobgkbapdmaaDoor.CharC
namespace Go.Proofs.YticpobgkbapdmaaDoor.CharD
end Go.Proofs.YticpobgkbapdmaaDoor.CharD
namespace Go.Proofs.YticpobgkbapdmaaDoor.CharE
end Go.Proofs.YticpobgkbapdmaaDoor.CharE
namespace Go.Proofs.YticpobgkbapdmaaDoor.CharF
end Go.Proofs.YticpobgkbapdmaaDoor.CharF
namespace Go.Proofs.YticpobgkbapdmaaDoor.CharH
end Go.Proofs.YticpobgkbapdmaaDoor.CharH
namespace Go.Proofs.YticpobgkbapdmaaDoor.EscA
end Go.Proofs.YticpobgkbapdmaaDoor.EscA
namespace Go.Proofs.YticpobgkbapdmaaDoor.EscB
end Go.Proofs.YticpobgkbapdmaaDoor.EscB
namespace Go.Proofs.YticpobgkbapdmaaDoor.EscC
end Go.Proofs.YticpobgkbapdmaaDoor.EscC
namespace Go.Proofs.YticpobgkbapdmaaDoor.EscD
end Go.Proofs.YticpobgkbapdmaaDoor.EscD
namespace Go.Proofs.YticpobgkbapdmaaDoor.EscF
end Go.Proofs.YticpobgkbapdmaaDoor.EscF
namespace Go.Proofs.YticpobgkbapdmaaDoor.EscG
end Go.Proofs.YticpobgkbapdmaaDoor.EscG
namespace Go.Proofs.YticpobgkbapdmaaDoor.EscI
end Go.Proofs.YticpobgkbapdmaaDoor.EscI
namespace Go.Proofs.YticpobgkbapdmaaDoor.EscJ
end Go.Proofs.YticpobgkbapdmaaDoor.EscJ
namespace Go.Proofs.YticpobgkbapdmaaDoor.EscK
end Go.Proofs.YticpobgkbapdmaaDoor.EscK
namespace Go.Proofs.YticpobgkbapdmaaDoor.EscL
end Go.Proofs.YticpobgkbapdmaaDoor.EscL
namespace Go.Proofs.YticpobgkbapdmaaDoor.EscM
end Go.Proofs.YticpobgkbapdmaaDoor.EscM
namespace Go.Proofs.YticpobgkbapdmaaDoor.EscN
end Go.Proofs.YticpobgkbapdmaaDoor.EscN
namespace Go.Proofs.YticpobgkbapdmaaDoor.SpanA
end Go.Proofs.YticpobgkbapdmaaDoor.SpanA
namespace Go.Proofs.YticpobgkbapdmaaDoor.SpanB
end Go.Proofs.YticpobgkbapdmaaDoor.SpanB
namespace Go.Proofs.YticpobgkbapdmaaDoor.SpanC
end Go.Proofs.YticpobgkbapdmaaDoor.SpanC
namespace Go.Proofs.YticpobgkbapdmaaDoor.SpanD
end Go.Proofs.YticpobgkbapdmaaDoor.SpanD
namespace Go.Proofs.YticpobgkbapdmaaDoor.SpanE
end Go.Proofs.YticpobgkbapdmaaDoor.SpanE
namespace Go.Proofs.YticpobgkbapdmaaDoor.SpanF
end Go.Proofs.YticpobgkbapdmaaDoor.SpanF
namespace Go.Proofs.YticpobgkbapdmaaDoorW.PrintLast
end Go.Proofs.YticpobgkbapdmaaDoorW.PrintLast
namespace Go.Proofs.YticpobgkbapdmaaDoorW.PrintMore
end Go.Proofs.YticpobgkbapdmaaDoorW.PrintMore
namespace Go.Proofs.YticpobgkbapdmaaDoorW.PrintWords
end Go.Proofs.YticpobgkbapdmaaDoorW.PrintWords
namespace Go.Proofs.YticpobgkbapdmaaDoor.EscO
open Go.RowKit Go.Shelf Go.Proofs.YticpobgkbapdmaaDoorW.PrintWords Go.Proofs.YticpobgkbapdmaaDoorW.PrintLast Go.Proofs.YticpobgkbapdmaaDoorW.PrintMore Go.Proofs.YticpobgkbapdmaaDoor.CharA Go.Proofs.YticpobgkbapdmaaDoor.CharB Go.Proofs.YticpobgkbapdmaaDoor.CharC Go.Proofs.YticpobgkbapdmaaDoor.CharD Go.Proofs.YticpobgkbapdmaaDoor.CharE Go.Proofs.YticpobgkbapdmaaDoor.CharF Go.Proofs.YticpobgkbapdmaaDoor.CharH Go.Proofs.YticpobgkbapdmaaDoor.SpanA Go.Proofs.YticpobgkbapdmaaDoor.SpanB Go.Proofs.YticpobgkbapdmaaDoor.SpanC Go.Proofs.YticpobgkbapdmaaDoor.SpanD Go.Proofs.YticpobgkbapdmaaDoor.SpanE Go.Proofs.YticpobgkbapdmaaDoor.SpanF Go.Proofs.YticpobgkbapdmaaDoor.EscA Go.Proofs.YticpobgkbapdmaaDoor.EscB Go.Proofs.YticpobgkbapdmaaDoor.EscC Go.Proofs.YticpobgkbapdmaaDoor.EscD Go.Proofs.YticpobgkbapdmaaDoor.EscF Go.Proofs.YticpobgkbapdmaaDoor.EscG Go.Proofs.YticpobgkbapdmaaDoor.EscI Go.Proofs.YticpobgkbapdmaaDoor.EscJ Go.Proofs.YticpobgkbapdmaaDoor.EscK Go.Proofs.YticpobgkbapdmaaDoor.EscL Go.Proofs.YticpobgkbapdmaaDoor.EscM Go.Proofs.YticpobgkbapdmaaDoor.EscN
set_option linter.unusedVariables false
set_option linter.unusedSimpArgs false
set_option maxHeartbeats 8000000 in
set_option maxRecDepth 100000 in
theorem one_calls (n : Int) (w : World) (h : Fit w) (h0 : 0 ≤ n) (h1 : n ≤ 4294967295) :
    Calls Tryd.prog 13 #[.int .u32 n] w fun e w' => e = .returned (.bool true) ∧ Below w.heap.size w w' := by
  obtain ⟨k, rfl⟩ : ∃ k : Nat, n = (k : Int) := ⟨n.toNat, by omega⟩
  have hk : k < 4294967296 := by omega
  have cw : ∀ w', Below w.heap.size w w' → _ := fun w' hb => works_calls w' (fit_below h hb)
  have ll := decL_len k
  have d0 := rdigits k hk w
  have g0 : ∀ w', Below w.heap.size w w' → _ := fun w' hb => get0 (ba (refT k)) (by rw [ba_size]; unfold refT; simp; omega) w' (fit_below h hb)
  have ri := ris (k : Int)
  have et : (⟨#[38, 35]⟩ : ByteArray) ++ ba (decL k) ++ (⟨#[59]⟩ : ByteArray) = ba (refT k) := ext_list (by rw [app_list, app_list, ba_list, ba_list]; rfl)
  rw [one_get k hk, ← et] at g0
  clear et
  have hz : (ba (decL k)).size ≤ 30 := by rw [ba_size]; exact ll
  clear ll
  generalize ba (decL k) = d at *
  clear h
  cases ht : isB (k : Int) with
  | false =>
    rw [ht] at g0 ri
    simp only [Bool.false_eq_true, if_false] at g0
    have t1 : (ba []).toList = [] := ba_tl _
    clear ht
    go_enter Tryd.func13, Tryd.ntmps13
    go_wp2_with fail
    refine d0.mono ?_
    rintro e w1 ⟨rfl, b1⟩
    go_wp2_with fail
    refine (g0 w1 b1).mono ?_
    rintro e w2 ⟨rfl, b2⟩
    have B2 := chain b1 (Nat.le_refl _) b2
    go_wp2_with fail
    refine (ri w2).mono ?_
    rintro e w3 ⟨rfl, b3⟩
    have B3 := chain B2 (Nat.le_refl _) b3
    go_wp2_with fail
    refine (cw w3 B3).mono ?_
    rintro e w4 ⟨rfl, b4⟩
    have B4 := chain B3 (Nat.le_refl _) b4
    go_wp2_with fail
    go_ret
    exact ⟨by first | rfl | (simp [t1]; done), B4⟩
  | true =>
    have hrr := isB_range _ ht
    have hem : Utf8.encode (k : Int) = ba (enc (k : Int)).data.toList := (enc_model (k : Int) (by omega) (by omega) hrr.2.2).trans (ba_data _).symm
    have hk2 : (k : Int) ≤ 1114111 := hrr.2.1
    rw [ht] at g0 ri
    simp only [if_true] at g0
    clear ht hrr
    generalize (enc (k : Int)).data.toList = en at *
    have t1 : (ba en).toList = en := ba_tl _
    go_enter Tryd.func13, Tryd.ntmps13
    go_wp2_with fail
    refine d0.mono ?_
    rintro e w1 ⟨rfl, b1⟩
    go_wp2_with fail
    refine (g0 w1 b1).mono ?_
    rintro e w2 ⟨rfl, b2⟩
    have B2 := chain b1 (Nat.le_refl _) b2
    go_wp2_with fail
    refine (ri w2).mono ?_
    rintro e w3 ⟨rfl, b3⟩
    have B3 := chain B2 (Nat.le_refl _) b3
    go_wp2_with fail
    refine (cw w3 B3).mono ?_
    rintro e w4 ⟨rfl, b4⟩
    have B4 := chain B3 (Nat.le_refl _) b4
    go_wp2_with fail
    go_ret
    exact ⟨by first | rfl | (simp [t1]; done), B4⟩
theorem fit_of (w : World) (hT : Tabs w) (hS : w.ShapedOpen Tryd.prog) : Fit w := by
  have hm := Tryd.laysM219.s1_3 w hS
  obtain ⟨m, hm⟩ := hm
  exact ⟨hT, ⟨m, hm⟩, World.block_lt_of_cell? w _ hm⟩
theorem u32_of {n : Int} (h : (Lit.int .u32 n).wf = true) : 0 ≤ n ∧ n ≤ 4294967295 := by simpa [Lit.wf, IntKind.min, IntKind.max, IntKind.bits, IntKind.signed] using h
theorem oneW (n : Int) (w : World) (hT : Tabs w) (hS : w.ShapedOpen Tryd.prog) (h : (Lit.int .u32 n).wf = true) : Calls Tryd.prog 13 #[.int .u32 n] w fun e w' => e = .returned (.bool true) ∧ Below w.heap.size w w' := one_calls n w (fit_of w hT hS) (u32_of h).1 (u32_of h).2
end Go.Proofs.YticpobgkbapdmaaDoor.EscO
