/- The laws of lex: what works answers, and that words are the same as themselves. -/
import Derived.Test.YthilcidoacgdfaaDoorLqLexM
import Derived.Test.YthilcidoacgdfaaDoorLqTxtB
namespace Go.Proofs.YthilcidoacgdfaaDoor.CharA
end Go.Proofs.YthilcidoacgdfaaDoor.CharA
namespace Go.Proofs.YthilcidoacgdfaaDoor.CharB
end Go.Proofs.YthilcidoacgdfaaDoor.CharB
namespace Go.Proofs.YthilcidoacgdfaaDoor.CharC
end Go.Proofs.YthilcidoacgdfaaDoor.CharC
namespace Go.Proofs.YthilcidoacgdfaaDoor.CharD
end Go.Proofs.YthilcidoacgdfaaDoor.CharD
namespace Go.Proofs.YthilcidoacgdfaaDoor.CharF
end Go.Proofs.YthilcidoacgdfaaDoor.CharF
namespace Go.Proofs.YthilcidoacgdfaaDoor.FigA
end Go.Proofs.YthilcidoacgdfaaDoor.FigA
namespace Go.Proofs.YthilcidoacgdfaaDoor.FigC
end Go.Proofs.YthilcidoacgdfaaDoor.FigC
namespace Go.Proofs.YthilcidoacgdfaaDoor.FigD
end Go.Proofs.YthilcidoacgdfaaDoor.FigD
namespace Go.Proofs.YthilcidoacgdfaaDoor.FigG
end Go.Proofs.YthilcidoacgdfaaDoor.FigG
namespace Go.Proofs.YthilcidoacgdfaaDoor.FigH
end Go.Proofs.YthilcidoacgdfaaDoor.FigH
namespace Go.Proofs.YthilcidoacgdfaaDoor.FigI
end Go.Proofs.YthilcidoacgdfaaDoor.FigI
namespace Go.Proofs.YthilcidoacgdfaaDoor.LexA
end Go.Proofs.YthilcidoacgdfaaDoor.LexA
namespace Go.Proofs.YthilcidoacgdfaaDoor.LexF
end Go.Proofs.YthilcidoacgdfaaDoor.LexF
namespace Go.Proofs.YthilcidoacgdfaaDoor.LexG
end Go.Proofs.YthilcidoacgdfaaDoor.LexG
namespace Go.Proofs.YthilcidoacgdfaaDoor.LexM
end Go.Proofs.YthilcidoacgdfaaDoor.LexM
namespace Go.Proofs.YthilcidoacgdfaaDoor.SpanA
end Go.Proofs.YthilcidoacgdfaaDoor.SpanA
namespace Go.Proofs.YthilcidoacgdfaaDoorW.PrintLast
end Go.Proofs.YthilcidoacgdfaaDoorW.PrintLast
namespace Go.Proofs.YthilcidoacgdfaaDoorW.PrintMore
end Go.Proofs.YthilcidoacgdfaaDoorW.PrintMore
namespace Go.Proofs.YthilcidoacgdfaaDoorW.PrintWords
end Go.Proofs.YthilcidoacgdfaaDoorW.PrintWords
namespace Go.Proofs.YthilcidoacgdfaaDoor.LexN
open Go.RowKit Go.Shelf Go.Proofs.YthilcidoacgdfaaDoorW.PrintWords Go.Proofs.YthilcidoacgdfaaDoorW.PrintLast Go.Proofs.YthilcidoacgdfaaDoorW.PrintMore Go.Proofs.YthilcidoacgdfaaDoor.CharA Go.Proofs.YthilcidoacgdfaaDoor.CharB Go.Proofs.YthilcidoacgdfaaDoor.CharC Go.Proofs.YthilcidoacgdfaaDoor.CharD Go.Proofs.YthilcidoacgdfaaDoor.CharF Go.Proofs.YthilcidoacgdfaaDoor.SpanA Go.Proofs.YthilcidoacgdfaaDoor.FigA Go.Proofs.YthilcidoacgdfaaDoor.FigC Go.Proofs.YthilcidoacgdfaaDoor.FigD Go.Proofs.YthilcidoacgdfaaDoor.FigG Go.Proofs.YthilcidoacgdfaaDoor.FigH Go.Proofs.YthilcidoacgdfaaDoor.FigI Go.Proofs.YthilcidoacgdfaaDoor.LexA Go.Proofs.YthilcidoacgdfaaDoor.LexF Go.Proofs.YthilcidoacgdfaaDoor.LexG Go.Proofs.YthilcidoacgdfaaDoor.LexM
set_option linter.unusedVariables false
set_option linter.unusedSimpArgs false

/-- A word as the print has it. -/
def toS (w : Wd) : PF.S38 := ⟨w.1, ba w.2.1, ⟨w.2.2.1, w.2.2.2⟩⟩
theorem wcs_at : ∀ (l : List Wd) (j i : Nat) (hj : j < l.length), i < 4 → (wcs l)[j * 4 + i]? = (wc l[j])[i]?
  | [], j, i, hj, _ => by simp at hj
  | x :: l, 0, i, _, hi => by
    show (wc x ++ wcs l)[0 * 4 + i]? = _
    rw [List.getElem?_append_left (by simp [wc]; omega)]
    simp
  | x :: l, j + 1, i, hj, hi => by
    show (wc x ++ wcs l)[(j + 1) * 4 + i]? = _
    rw [List.getElem?_append_right (by simp [wc]; omega), show (j + 1) * 4 + i - (wc x).length = j * 4 + i by simp [wc]; omega, wcs_at l j i (by simpa using hj) hi]
    rfl
theorem own_C {w : World} {B : Nat} {A : Option Addr} {cap : Nat} {l : List Wd} (h : w.ownsRow B 38 4 (.slice A l.length cap) l.length (wcs l)) (hl : l.length ≤ 1000) : Kd.C PF.k38 w A l.length (l.map toS) := by
  refine ⟨by simp, by omega, fun h0 => ?_⟩
  rcases h.2 with ⟨_, h1⟩ | ⟨g, cap', cur, hv, _⟩
  · omega
  · cases hv
    refine ⟨⟨g, 0, none⟩, rfl, fun j p hp => ?_⟩
    have hj : j < l.length := by have := (List.getElem?_eq_some_iff.1 hp).1; simpa using this
    rw [List.getElem?_map, List.getElem?_eq_getElem hj] at hp
    obtain rfl : toS l[j] = p := Option.some.inj hp
    refine ⟨_, rfl, PF.k38_mk w (toS l[j]), fun i u hu => ?_⟩
    have hi : i < 4 := (List.getElem?_eq_some_iff.1 hu).1
    exact h.cells (g := g) rfl (j * 4 + i) u (by rw [wcs_at l j i hj hi]; exact hu)
theorem own_cap {w : World} {B n : Nat} {A : Option Addr} {cap : Nat} {xs : List Value} {t : TypeId} {m : Nat} (h : w.ownsRow B t m (.slice A n cap) n xs) : n ≤ cap := by
  rcases h.2 with ⟨h0, h1⟩ | ⟨g, cap', cur, hv, _, _, hn, _⟩
  · cases h0; omega
  · cases hv; exact hn
theorem same_l0 (l : List PF.S38) (hl : l.length ≤ 1000) : ∀ (n i k : Nat), l.length ≤ i + n → n < k → PF.breviaryref12_Same.l0 k l l (i : Int) = some true := by
  intro n
  induction n with
  | zero =>
    intro i k h hk
    obtain ⟨k, rfl⟩ : ∃ j, k = j + 1 := ⟨k - 1, by omega⟩
    rw [PF.breviaryref12_Same.l0, if_neg (by omega)]
  | succ n ih =>
    intro i k h hk
    obtain ⟨k, rfl⟩ : ∃ j, k = j + 1 := ⟨k - 1, by omega⟩
    rw [PF.breviaryref12_Same.l0]
    by_cases hi : i < l.length
    · rw [if_pos (by omega), if_pos (by omega), if_pos (by omega), if_neg (by simp), w64 (by omega) (by omega), show ((i : Int) + 1) = ((i + 1 : Nat) : Int) by omega]
      exact ih (i + 1) k (by omega) (by omega)
    · rw [if_neg (by omega)]
theorem same_self (l : List PF.S38) (hl : l.length ≤ 1000) : PF.breviaryref12_Same.f 1001 l l = some true := by
  unfold PF.breviaryref12_Same.f
  rw [if_pos rfl]
  exact same_l0 l hl 1000 0 1001 (by omega) (by omega)
theorem same_call (A0 A1 : Option Addr) (c0 c1 B0 B1 : Nat) (l : List Wd) (w : World) (hl : l.length ≤ 1000) (h0 : w.ownsRow B0 38 4 (.slice A0 l.length c0) l.length (wcs l)) (h1 : w.ownsRow B1 38 4 (.slice A1 l.length c1) l.length (wcs l)) :
    Calls Tryd.prog 22 #[.slice A0 l.length c0, .slice A1 l.length c1] w fun e w' => e = .returned (.bool true) ∧ Below w.heap.size w w' := by
  have hm : (l.map toS).length = l.length := by simp
  have := PF.breviaryref12_Same.calls 1001 A0 c0 (l.map toS) A1 c1 (l.map toS) true w (by rw [hm]; exact own_C h0 hl) (by rw [hm]; exact own_cap h0) (by rw [hm]; exact own_C h1 hl) (by rw [hm]; exact own_cap h1) (same_self _ (by rw [hm]; exact hl))
  rw [hm] at this
  refine this.mono fun e w' ⟨h2, m, h3⟩ => ⟨h2, ?_⟩
  rw [h3]
  exact CharB.below_drewN (Below.refl _ _) m
theorem wk_lex : lexS [42, 32, 42, 32, 42] = ([(3, [42], 0, 0), (5, [42], 0, 0), (3, [42], 0, 0)], 0) := by decide +kernel
theorem row_at {w : World} {B n g cap : Nat} {xs : List Value} {t : TypeId} {m : Nat} (h : w.ownsRow B t m (.slice (some ⟨g, 0, none⟩) n cap) n xs) (j : Nat) (u : Value) (hu : xs[j]? = some u) : w.cell? ⟨g, j, none⟩ = some u := by
  have := h.cells (g := g) rfl j u hu
  rwa [show (⟨g, 0, none⟩ : Addr).add j = ⟨g, j, none⟩ by unfold Addr.add; split <;> simp_all] at this
set_option maxHeartbeats 4000000 in
set_option maxRecDepth 100000 in
theorem works_calls (w : World) (hT : Tabs w) : Calls Tryd.prog 20 #[] w fun e w' => e = .returned (.bool true) ∧ Below w.heap.size w w' := by
  have hc := lex_call ⟨#[42, 32, 42, 32, 42]⟩ w (by show 5 ≤ _; omega) hT
  rw [show (⟨#[42, 32, 42, 32, 42]⟩ : ByteArray).data.toList = [42, 32, 42, 32, 42] from rfl, wk_lex] at hc
  clear hT
  go_enter Tryd.func20, Tryd.ntmps20
  go_wp2_with fail
  refine hc.mono ?_
  rintro e w1 ⟨A, cap, rfl, ho, b1⟩
  obtain ⟨g, cap2, hv⟩ := own_succ (n := 2) ho
  cases hv
  have x0 : w1.cell? ⟨g, 0, none⟩ = some (.int .i64 3) := row_at ho 0 _ rfl
  have x1 : w1.cell? ⟨g, 4, none⟩ = some (.int .i64 5) := row_at ho 4 _ rfl
  have x2 : w1.cell? ⟨g, 8, none⟩ = some (.int .i64 3) := row_at ho 8 _ rfl
  have HB := Aside0.mk b1
  clear ho b1
  go_wp2_with fail
  go_ret
  exact ⟨by first | rfl | (simp; done), HB.out⟩
end Go.Proofs.YthilcidoacgdfaaDoor.LexN
/- The law LexSpaces: its walk. -/
namespace Go.Proofs.YthilcidoacgdfaaDoor.CharA
end Go.Proofs.YthilcidoacgdfaaDoor.CharA
namespace Go.Proofs.YthilcidoacgdfaaDoor.CharB
end Go.Proofs.YthilcidoacgdfaaDoor.CharB
namespace Go.Proofs.YthilcidoacgdfaaDoor.CharC
end Go.Proofs.YthilcidoacgdfaaDoor.CharC
namespace Go.Proofs.YthilcidoacgdfaaDoor.CharD
end Go.Proofs.YthilcidoacgdfaaDoor.CharD
namespace Go.Proofs.YthilcidoacgdfaaDoor.CharF
end Go.Proofs.YthilcidoacgdfaaDoor.CharF
namespace Go.Proofs.YthilcidoacgdfaaDoor.FigA
end Go.Proofs.YthilcidoacgdfaaDoor.FigA
namespace Go.Proofs.YthilcidoacgdfaaDoor.FigC
end Go.Proofs.YthilcidoacgdfaaDoor.FigC
namespace Go.Proofs.YthilcidoacgdfaaDoor.FigD
end Go.Proofs.YthilcidoacgdfaaDoor.FigD
namespace Go.Proofs.YthilcidoacgdfaaDoor.FigG
end Go.Proofs.YthilcidoacgdfaaDoor.FigG
namespace Go.Proofs.YthilcidoacgdfaaDoor.FigH
end Go.Proofs.YthilcidoacgdfaaDoor.FigH
namespace Go.Proofs.YthilcidoacgdfaaDoor.FigI
end Go.Proofs.YthilcidoacgdfaaDoor.FigI
namespace Go.Proofs.YthilcidoacgdfaaDoor.LexA
end Go.Proofs.YthilcidoacgdfaaDoor.LexA
namespace Go.Proofs.YthilcidoacgdfaaDoor.LexC
end Go.Proofs.YthilcidoacgdfaaDoor.LexC
namespace Go.Proofs.YthilcidoacgdfaaDoor.LexF
end Go.Proofs.YthilcidoacgdfaaDoor.LexF
namespace Go.Proofs.YthilcidoacgdfaaDoor.LexG
end Go.Proofs.YthilcidoacgdfaaDoor.LexG
namespace Go.Proofs.YthilcidoacgdfaaDoor.LexM
end Go.Proofs.YthilcidoacgdfaaDoor.LexM
namespace Go.Proofs.YthilcidoacgdfaaDoor.LexN
end Go.Proofs.YthilcidoacgdfaaDoor.LexN
namespace Go.Proofs.YthilcidoacgdfaaDoor.SpanA
end Go.Proofs.YthilcidoacgdfaaDoor.SpanA
namespace Go.Proofs.YthilcidoacgdfaaDoorW.PrintLast
end Go.Proofs.YthilcidoacgdfaaDoorW.PrintLast
namespace Go.Proofs.YthilcidoacgdfaaDoorW.PrintMore
end Go.Proofs.YthilcidoacgdfaaDoorW.PrintMore
namespace Go.Proofs.YthilcidoacgdfaaDoorW.PrintWords
end Go.Proofs.YthilcidoacgdfaaDoorW.PrintWords
namespace Go.Proofs.YthilcidoacgdfaaDoor.LexO
open Go.RowKit Go.Shelf Go.Proofs.YthilcidoacgdfaaDoorW.PrintWords Go.Proofs.YthilcidoacgdfaaDoorW.PrintLast Go.Proofs.YthilcidoacgdfaaDoorW.PrintMore Go.Proofs.YthilcidoacgdfaaDoor.CharA Go.Proofs.YthilcidoacgdfaaDoor.CharB Go.Proofs.YthilcidoacgdfaaDoor.CharC Go.Proofs.YthilcidoacgdfaaDoor.CharD Go.Proofs.YthilcidoacgdfaaDoor.CharF Go.Proofs.YthilcidoacgdfaaDoor.SpanA Go.Proofs.YthilcidoacgdfaaDoor.FigA Go.Proofs.YthilcidoacgdfaaDoor.FigC Go.Proofs.YthilcidoacgdfaaDoor.FigD Go.Proofs.YthilcidoacgdfaaDoor.FigG Go.Proofs.YthilcidoacgdfaaDoor.FigH Go.Proofs.YthilcidoacgdfaaDoor.FigI Go.Proofs.YthilcidoacgdfaaDoor.LexA Go.Proofs.YthilcidoacgdfaaDoor.LexC Go.Proofs.YthilcidoacgdfaaDoor.LexF Go.Proofs.YthilcidoacgdfaaDoor.LexG Go.Proofs.YthilcidoacgdfaaDoor.LexM Go.Proofs.YthilcidoacgdfaaDoor.LexN
set_option linter.unusedVariables false
set_option linter.unusedSimpArgs false
theorem lexL_len : ∀ (n : Nat) (s : List UInt8) (acc : List Wd), acc.length ≤ 120 → (lexL n s acc).1.length ≤ 120
  | 0, s, acc, h => by simpa [lexL] using h
  | n + 1, s, acc, h => by
    simp only [lexL]
    split
    · exact h
    · split
      · simp
      · split
        · simp
        · exact lexL_len n _ _ (by rw [List.length_append]; simp; omega)
theorem lexS_len (s : List UInt8) : (lexS s).1.length ≤ 120 := by
  unfold lexS
  split
  · simp
  · split
    · exact lexL_len _ _ _ (by simp)
    · simp
end Go.Proofs.YthilcidoacgdfaaDoor.LexO
