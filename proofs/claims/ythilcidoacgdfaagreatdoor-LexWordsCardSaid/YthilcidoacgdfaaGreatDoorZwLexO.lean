import Derived.Test.YthilcidoacgdfaaGreatDoorZwLexM
import Derived.Test.YthilcidoacgdfaaGreatDoorZwTxtB
set_option maxHeartbeats 4000000
set_option maxRecDepth 100000
namespace Go.Proofs.YthilcidoacgdfaaGreatDoor.CharA
end Go.Proofs.YthilcidoacgdfaaGreatDoor.CharA
namespace Go.Proofs.YthilcidoacgdfaaGreatDoor.CharB
end Go.Proofs.YthilcidoacgdfaaGreatDoor.CharB
namespace Go.Proofs.YthilcidoacgdfaaGreatDoor.CharC
end Go.Proofs.YthilcidoacgdfaaGreatDoor.CharC
namespace Go.Proofs.YthilcidoacgdfaaGreatDoor.CharD
end Go.Proofs.YthilcidoacgdfaaGreatDoor.CharD
namespace Go.Proofs.YthilcidoacgdfaaGreatDoor.CharF
end Go.Proofs.YthilcidoacgdfaaGreatDoor.CharF
namespace Go.Proofs.YthilcidoacgdfaaGreatDoor.FigA
end Go.Proofs.YthilcidoacgdfaaGreatDoor.FigA
namespace Go.Proofs.YthilcidoacgdfaaGreatDoor.FigC
end Go.Proofs.YthilcidoacgdfaaGreatDoor.FigC
namespace Go.Proofs.YthilcidoacgdfaaGreatDoor.FigD
end Go.Proofs.YthilcidoacgdfaaGreatDoor.FigD
namespace Go.Proofs.YthilcidoacgdfaaGreatDoor.FigG
end Go.Proofs.YthilcidoacgdfaaGreatDoor.FigG
namespace Go.Proofs.YthilcidoacgdfaaGreatDoor.FigH
end Go.Proofs.YthilcidoacgdfaaGreatDoor.FigH
namespace Go.Proofs.YthilcidoacgdfaaGreatDoor.FigI
end Go.Proofs.YthilcidoacgdfaaGreatDoor.FigI
namespace Go.Proofs.YthilcidoacgdfaaGreatDoor.LexA
end Go.Proofs.YthilcidoacgdfaaGreatDoor.LexA
namespace Go.Proofs.YthilcidoacgdfaaGreatDoor.LexF
end Go.Proofs.YthilcidoacgdfaaGreatDoor.LexF
namespace Go.Proofs.YthilcidoacgdfaaGreatDoor.LexG
end Go.Proofs.YthilcidoacgdfaaGreatDoor.LexG
namespace Go.Proofs.YthilcidoacgdfaaGreatDoor.LexM
end Go.Proofs.YthilcidoacgdfaaGreatDoor.LexM
namespace Go.Proofs.YthilcidoacgdfaaGreatDoor.SpanA
end Go.Proofs.YthilcidoacgdfaaGreatDoor.SpanA
namespace Go.Proofs.YthilcidoacgdfaaGreatDoorW.PrintLast
end Go.Proofs.YthilcidoacgdfaaGreatDoorW.PrintLast
namespace Go.Proofs.YthilcidoacgdfaaGreatDoorW.PrintMore
end Go.Proofs.YthilcidoacgdfaaGreatDoorW.PrintMore
namespace Go.Proofs.YthilcidoacgdfaaGreatDoorW.PrintWords
end Go.Proofs.YthilcidoacgdfaaGreatDoorW.PrintWords
namespace Go.Proofs.YthilcidoacgdfaaGreatDoor.LexN
open Go.RowKit Go.Shelf YthilcidoacgdfaaGreatDoorW.PrintWords YthilcidoacgdfaaGreatDoorW.PrintLast YthilcidoacgdfaaGreatDoorW.PrintMore CharA CharB CharC CharD CharF SpanA FigA FigC FigD FigG FigH FigI LexA LexF LexG LexM
set_option linter.unusedVariables false
set_option linter.unusedSimpArgs false

def toS (w : Wd) : PF.S49 := ⟨w.1, ba w.2.1, ⟨w.2.2.1, w.2.2.2⟩⟩
theorem wcs_at : ∀ (l : List Wd) (j i : Nat) (hj : j < l.length), i < 4 → (wcs l)[j * 4 + i]? = (wc l[j])[i]?
 | [], j, i, hj, _ => by simp at hj
 | x :: l, 0, i, _, hi => by
  show (wc x ++ wcs l)[0 * 4 + i]? = _
  rw [List.getElem?_append_left (by simp [wc]; omega)]
  simp
 | x :: l, j + 1, i, hj, hi => by
  show (wc x ++ wcs l)[(j + 1) * 4 + i]? = _
  rw [List.getElem?_append_right (by simp [wc]; omega), show (j + 1) * 4 + i - (wc x).length = j * 4 + i by simp [wc]; omega, wcs_at l j i (by simpa using hj) hi]
  rfl
theorem own_C {w : World} {B : Nat} {A : Option Addr} {cap : Nat} {l : List Wd} (h : w.ownsRow B 49 4 (.slice A l.length cap) l.length (wcs l)) (hl : l.length ≤ 1000) : Kd.C PF.k49 w A l.length (l.map toS) := by
 refine ⟨by simp, by omega, fun h0 => ?_⟩
 rcases h.2 with ⟨_, h1⟩ | ⟨g, cap', cur, hv, _⟩
 ·omega
 ·cases hv
  refine ⟨⟨g, 0, none⟩, rfl, fun j p hp => ?_⟩
  have hj : j < l.length := by have := (List.getElem?_eq_some_iff.1 hp).1; simpa using this
  rw [List.getElem?_map, List.getElem?_eq_getElem hj] at hp
  obtain rfl : toS l[j] = p := Option.some.inj hp
  refine ⟨_, rfl, PF.k49_mk w (toS l[j]), fun i u hu => ?_⟩
  have hi : i < 4 := (List.getElem?_eq_some_iff.1 hu).1
  exact h.cells (g := g) rfl (j * 4 + i) u (by rw [wcs_at l j i hj hi]; exact hu)
theorem own_cap {w : World} {B n : Nat} {A : Option Addr} {cap : Nat} {xs : List Value} {t : TypeId} {m : Nat} (h : w.ownsRow B t m (.slice A n cap) n xs) : n ≤ cap := by
 rcases h.2 with ⟨h0, h1⟩ | ⟨g, cap', cur, hv, _, _, hn, _⟩
 ·cases h0; omega
 ·cases hv; exact hn
theorem same_l0 (l : List PF.S49) (hl : l.length ≤ 1000) : ∀ (n i k : Nat), l.length ≤ i + n → n < k → PF.breviaryref12_Same.l0 k l l (i : Int) = some true := by
 intro n
 induction n with
 | zero =>
  intro i k h hk
  obtain ⟨k, rfl⟩ : ∃ j, k = j + 1 := ⟨k - 1, by omega⟩
  rw [PF.breviaryref12_Same.l0, if_neg (by omega)]
 | succ n ih =>
  intro i k h hk
  obtain ⟨k, rfl⟩ : ∃ j, k = j + 1 := ⟨k - 1, by omega⟩
  rw [PF.breviaryref12_Same.l0]
  by_cases hi : i < l.length
  ·rw [if_pos (by omega), if_pos (by omega), if_pos (by omega), if_neg (by simp), w64 (by omega) (by omega), show ((i : Int) + 1) = ((i + 1 : Nat) : Int) by omega]
   exact ih (i + 1) k (by omega) (by omega)
  ·rw [if_neg (by omega)]
theorem same_self (l : List PF.S49) (hl : l.length ≤ 1000) : PF.breviaryref12_Same.f 1001 l l = some true := by
 unfold PF.breviaryref12_Same.f
 rw [if_pos rfl]
 exact same_l0 l hl 1000 0 1001 (by omega) (by omega)
theorem wk_lex : lexS [42, 32, 42, 32, 42] = ([(3, [42], 0, 0), (5, [42], 0, 0), (3, [42], 0, 0)], 0) := by decide +kernel
theorem row_at {w : World} {B n g cap : Nat} {xs : List Value} {t : TypeId} {m : Nat} (h : w.ownsRow B t m (.slice (some ⟨g, 0, none⟩) n cap) n xs) (j : Nat) (u : Value) (hu : xs[j]? = some u) : w.cell? ⟨g, j, none⟩ = some u := by
 have := h.cells (g := g) rfl j u hu
 rwa [show (⟨g, 0, none⟩ : Addr).add j = ⟨g, j, none⟩ by unfold Addr.add; split <;> simp_all] at this
theorem works_calls (w : World) (hT : Tabs w) : Calls Tryz.prog 7 #[] w fun e w' => e = .returned (.bool true) ∧ Below w.heap.size w w' := by
 have hc := lex_call ⟨#[42, 32, 42, 32, 42]⟩ w (by show 5 ≤ _; omega) hT
 rw [show (⟨#[42, 32, 42, 32, 42]⟩ : ByteArray).data.toList = [42, 32, 42, 32, 42] from rfl, wk_lex] at hc
 clear hT
 go_enter Tryz.func7, Tryz.ntmps7
 go_wp2_with fail
 refine hc.mono ?_
 rintro e w1 ⟨A, cap, rfl, ho, b1⟩
 obtain ⟨g, cap2, hv⟩ := qh1 (n := 2) ho
 cases hv
 have x0 : w1.cell? ⟨g, 0, none⟩ = some (.int .i64 3) := row_at ho 0 _ rfl
 have x1 : w1.cell? ⟨g, 4, none⟩ = some (.int .i64 5) := row_at ho 4 _ rfl
 have x2 : w1.cell? ⟨g, 8, none⟩ = some (.int .i64 3) := row_at ho 8 _ rfl
 have HB := Aside0.mk b1
 clear ho b1
 go_wp2_with fail
 go_ret
 exact ⟨by first | rfl | (simp; done), HB.out⟩
end Go.Proofs.YthilcidoacgdfaaGreatDoor.LexN
namespace Go.Proofs.YthilcidoacgdfaaGreatDoor.CharA
end Go.Proofs.YthilcidoacgdfaaGreatDoor.CharA
namespace Go.Proofs.YthilcidoacgdfaaGreatDoor.CharB
end Go.Proofs.YthilcidoacgdfaaGreatDoor.CharB
namespace Go.Proofs.YthilcidoacgdfaaGreatDoor.CharC
end Go.Proofs.YthilcidoacgdfaaGreatDoor.CharC
namespace Go.Proofs.YthilcidoacgdfaaGreatDoor.CharD
end Go.Proofs.YthilcidoacgdfaaGreatDoor.CharD
namespace Go.Proofs.YthilcidoacgdfaaGreatDoor.CharF
end Go.Proofs.YthilcidoacgdfaaGreatDoor.CharF
namespace Go.Proofs.YthilcidoacgdfaaGreatDoor.FigA
end Go.Proofs.YthilcidoacgdfaaGreatDoor.FigA
namespace Go.Proofs.YthilcidoacgdfaaGreatDoor.FigC
end Go.Proofs.YthilcidoacgdfaaGreatDoor.FigC
namespace Go.Proofs.YthilcidoacgdfaaGreatDoor.FigD
end Go.Proofs.YthilcidoacgdfaaGreatDoor.FigD
namespace Go.Proofs.YthilcidoacgdfaaGreatDoor.FigG
end Go.Proofs.YthilcidoacgdfaaGreatDoor.FigG
namespace Go.Proofs.YthilcidoacgdfaaGreatDoor.FigH
end Go.Proofs.YthilcidoacgdfaaGreatDoor.FigH
namespace Go.Proofs.YthilcidoacgdfaaGreatDoor.FigI
end Go.Proofs.YthilcidoacgdfaaGreatDoor.FigI
namespace Go.Proofs.YthilcidoacgdfaaGreatDoor.LexA
end Go.Proofs.YthilcidoacgdfaaGreatDoor.LexA
namespace Go.Proofs.YthilcidoacgdfaaGreatDoor.LexC
end Go.Proofs.YthilcidoacgdfaaGreatDoor.LexC
namespace Go.Proofs.YthilcidoacgdfaaGreatDoor.LexF
end Go.Proofs.YthilcidoacgdfaaGreatDoor.LexF
namespace Go.Proofs.YthilcidoacgdfaaGreatDoor.LexG
end Go.Proofs.YthilcidoacgdfaaGreatDoor.LexG
namespace Go.Proofs.YthilcidoacgdfaaGreatDoor.LexM
end Go.Proofs.YthilcidoacgdfaaGreatDoor.LexM
namespace Go.Proofs.YthilcidoacgdfaaGreatDoor.LexN
end Go.Proofs.YthilcidoacgdfaaGreatDoor.LexN
namespace Go.Proofs.YthilcidoacgdfaaGreatDoor.SpanA
end Go.Proofs.YthilcidoacgdfaaGreatDoor.SpanA
namespace Go.Proofs.YthilcidoacgdfaaGreatDoorW.PrintLast
end Go.Proofs.YthilcidoacgdfaaGreatDoorW.PrintLast
namespace Go.Proofs.YthilcidoacgdfaaGreatDoorW.PrintMore
end Go.Proofs.YthilcidoacgdfaaGreatDoorW.PrintMore
namespace Go.Proofs.YthilcidoacgdfaaGreatDoorW.PrintWords
end Go.Proofs.YthilcidoacgdfaaGreatDoorW.PrintWords
namespace Go.Proofs.YthilcidoacgdfaaGreatDoor.LexO
open Go.RowKit Go.Shelf YthilcidoacgdfaaGreatDoorW.PrintWords YthilcidoacgdfaaGreatDoorW.PrintLast YthilcidoacgdfaaGreatDoorW.PrintMore CharA CharB CharC CharD CharF SpanA FigA FigC FigD FigG FigH FigI LexA LexC LexF LexG LexM LexN
set_option linter.unusedVariables false
set_option linter.unusedSimpArgs false
theorem lexL_len : ∀ (n : Nat) (s : List UInt8) (acc : List Wd), acc.length ≤ 120 → (lexL n s acc).1.length ≤ 120
 | 0, s, acc, h => by simpa [lexL] using h
 | n + 1, s, acc, h => by
  simp only [lexL]
  split
  ·exact h
  ·split
   ·simp
   ·split
    ·simp
    ·exact lexL_len n _ _ (by rw [List.length_append]; simp; omega)
theorem lexS_len (s : List UInt8) : (lexS s).1.length ≤ 120 := by
 unfold lexS
 split
 ·simp
 ·split
  ·exact lexL_len _ _ _ (by simp)
  ·simp
end Go.Proofs.YthilcidoacgdfaaGreatDoor.LexO
