/- char.within, Is, Start, Part: what they compute, and that they write nothing that was there. -/
import Derived.Test.YticpobgkbapdmaaDoorProg
import Derived.Test.YticpobgkbapdmaaDoorKoWWords
import Derived.Test.YticpobgkbapdmaaDoorKoWLast
import Derived.Test.YticpobgkbapdmaaDoorKoWMore
import Derived.Laws.Externs
import Derived.Great.BuildSlice
import Derived.Deep.WholeRow
import Derived.Deep.QuietTactic
namespace Go.Proofs.YticpobgkbapdmaaDoorW.PrintLast
end Go.Proofs.YticpobgkbapdmaaDoorW.PrintLast
namespace Go.Proofs.YticpobgkbapdmaaDoorW.PrintMore
end Go.Proofs.YticpobgkbapdmaaDoorW.PrintMore
namespace Go.Proofs.YticpobgkbapdmaaDoorW.PrintWords
end Go.Proofs.YticpobgkbapdmaaDoorW.PrintWords
namespace Go.Proofs.YticpobgkbapdmaaDoor.CharA
open Go.RowKit Go.Proofs.YticpobgkbapdmaaDoorW.PrintWords Go.Proofs.YticpobgkbapdmaaDoorW.PrintLast Go.Proofs.YticpobgkbapdmaaDoorW.PrintMore
set_option linter.unusedVariables false
set_option linter.unusedSimpArgs false
def char_within.f (a0 : Int) : List (Int × Int) → Bool
  | [] => false
  | (p, q) :: l => if a0 ≥ p then (if a0 ≤ q then true else char_within.f a0 l) else char_within.f a0 l
def spanCells : List (Int × Int) → List Value
  | [] => []
  | (p, q) :: l => .int .i32 p :: .int .i32 q :: spanCells l
set_option maxHeartbeats 8000000 in
set_option maxRecDepth 100000 in
theorem char_within.calls (a0 : Int) (b : Nat) (L : List (Int × Int)) (hL : L.length < 2 ^ 40) (r : Bool) (w : World) (hb : ∀ k (hk : k < L.length), w.cell? ⟨b, k * 2, none⟩ = some (.int .i32 L[k].1) ∧ w.cell? ⟨b, k * 2 + 1, none⟩ = some (.int .i32 L[k].2))
    (hlt : b < w.heap.size) (h : char_within.f a0 L = r) :
    Calls Tryd.prog 54 #[.int .i32 a0, .slice (some ⟨b, 0, none⟩) L.length L.length] w fun e w' => e = .returned (.bool r) ∧ Below w.heap.size w w' := by
  have HB := Aside0.mk hb
  have HLT := Aside0.mk hlt
  have H := Aside0.mk h
  clear hb h hlt
  go_enter Tryd.func54, Tryd.ntmps54
  go_wp2
  go_loopg [9] L.length (fun kq v9 w' => kq ≤ L.length ∧ v9 = .int .i64 ((L.length - kq : Nat) : Int) ∧ Aside0 (char_within.f a0 (L.drop (L.length - kq)) = r) ∧ Below w.heap.size w w')
  case atStart => exact ⟨Nat.le_refl _, by simp, by simpa using H, Below.refl _ _⟩
  case round =>
    obtain ⟨hk, rfl, HR, HBl⟩ := hrel
    obtain ⟨i, hi⟩ : ∃ i, L.length - gk = i := ⟨_, rfl⟩
    rw [hi] at HR ⊢
    cases gk with
    | zero =>
      obtain rfl : L.length = i := by omega
      have hf : decide ((L.length : Int) < (L.length : Int)) = false := by simp
      have hr := HR.out
      rw [List.drop_length] at hr
      simp only [char_within.f] at hr
      subst hr
      go_wp2
      go_ret
      exact ⟨rfl, HBl⟩
    | succ k1 =>
      have hlt : i < L.length := by omega
      have hd : decide ((i : Int) < (L.length : Int)) = true := by simp; omega
      have hr := HR.out
      rw [List.drop_eq_getElem_cons hlt] at hr
      obtain ⟨hc0, hc1⟩ := HB.out i hlt
      have hd0 := (HBl.cell (p := ⟨b, i * 2, none⟩) HLT.out).trans hc0
      have hd1 := (HBl.cell (p := ⟨b, i * 2 + 1, none⟩) HLT.out).trans hc1
      clear hc0 hc1
      generalize hx : L[i] = x at hr hd0 hd1
      obtain ⟨p, q⟩ := x
      simp only [char_within.f] at hr
      have h0 : (0 : Int) ≤ (i : Int) := by omega
      have hl1 : L.length - k1 = i + 1 := by omega
      skip
      have fin : ∀ cs, Below w.heap.size w (wr.alloc (.cells cs 53)) := fun cs => below_alloc HBl _
      by_cases c1 : a0 ≥ p
      · rw [if_pos c1] at hr
        have c1b : decide (p ≤ a0) = true := by simpa using c1
        by_cases c2 : a0 ≤ q
        · rw [if_pos c2] at hr
          have c2b : decide (a0 ≤ q) = true := by simpa using c2
          subst hr
          go_wp2_with fail
          go_ret
          exact ⟨rfl, fin _⟩
        · rw [if_neg c2] at hr
          have c2b : decide (a0 ≤ q) = false := by simpa using c2
          have hr' := Aside0.mk hr
          go_wp2_with fail
          go_roundg k1
          case measure => omega
          case rel => exact ⟨by omega, by rw [hl1]; simp, by rw [hl1]; exact hr', fin _⟩
      · rw [if_neg c1] at hr
        have c1b : decide (p ≤ a0) = false := by simpa using c1
        have hr' := Aside0.mk hr
        go_wp2_with fail
        go_roundg k1
        case measure => omega
        case rel => exact ⟨by omega, by rw [hl1]; simp, by rw [hl1]; exact hr', fin _⟩
theorem spanCells_at : ∀ (L : List (Int × Int)) (k : Nat) (hk : k < L.length), (spanCells L)[k * 2]? = some (.int .i32 L[k].1) ∧ (spanCells L)[k * 2 + 1]? = some (.int .i32 L[k].2)
  | (p, q) :: L, 0, _ => ⟨rfl, rfl⟩
  | (p, q) :: L, k + 1, hk => by
    have h := spanCells_at L k (by simpa using hk)
    rw [Nat.add_mul]
    simpa [spanCells] using h
theorem span_cells {w : World} {b : Nat} {t : TypeId} {L : List (Int × Int)} {cs : Array Value} (h : w.heap[b]? = some (.cells cs t (0, 0))) (hL : cs = (spanCells L).toArray) :
    ∀ k (hk : k < L.length), w.cell? ⟨b, k * 2, none⟩ = some (.int .i32 L[k].1) ∧ w.cell? ⟨b, k * 2 + 1, none⟩ = some (.int .i32 L[k].2) := by
  subst hL
  intro k hk
  rw [blk_cell h, blk_cell h]
  simpa using spanCells_at L k hk
def isL : List (Int × Int) := [(9, 10), (13, 13), (32, 55295), (57344, 65533), (65536, 1114111)]
def char_Is.f (a0 : Int) : Option Bool := some (char_within.f a0 isL)
set_option maxHeartbeats 8000000 in
set_option maxRecDepth 100000 in
theorem char_Is.calls (a0 : Int) (r : Bool) (w : World) (h : char_Is.f a0 = some r) :
    Calls Tryd.prog 20 #[.int .i32 a0] w fun e w' => e = .returned (.bool r) ∧ Below w.heap.size w w' := by
  have H := Aside0.mk (Option.some.inj h)
  clear h
  have hr0 := Below.refl w.heap.size w
  go_enter Tryd.func20, Tryd.ntmps20
  go_wp2_with fail
  have hk : (w.alloc (.cells #[.int .i32 9, .int .i32 10, .int .i32 13, .int .i32 13, .int .i32 32, .int .i32 55295, .int .i32 57344, .int .i32 65533, .int .i32 65536, .int .i32 1114111] 54)).heap[w.heap.size]? = _ := blk_new w _
  refine (char_within.calls a0 w.heap.size isL (by decide) r _ ?_ ?_ H.out).mono ?_
  · exact span_cells hk rfl
  · simp
  rintro e w1 ⟨rfl, hb1⟩
  go_wp2_with fail
  go_ret
  exact ⟨rfl, ((below_alloc hr0 _).trans (hb1.mono (by simp)))⟩

/-! ### The answers as plain Bools -/
def isB (a : Int) : Bool := char_within.f a isL
theorem is_calls (a0 : Int) (w : World) : Calls Tryd.prog 20 #[.int .i32 a0] w fun e w' => e = .returned (.bool (isB a0)) ∧ Below w.heap.size w w' := char_Is.calls a0 _ w rfl
end Go.Proofs.YticpobgkbapdmaaDoor.CharA
