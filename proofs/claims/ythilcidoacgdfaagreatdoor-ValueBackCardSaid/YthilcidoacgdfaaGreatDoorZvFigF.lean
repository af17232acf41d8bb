/- figure.digits, figure.Show: what they compute. -/
import Derived.Test.YthilcidoacgdfaaGreatDoorZvFigE
import Derived.Laws.IdiomStrings
namespace Go.Proofs.YthilcidoacgdfaaGreatDoor.CharB
end Go.Proofs.YthilcidoacgdfaaGreatDoor.CharB
namespace Go.Proofs.YthilcidoacgdfaaGreatDoor.CharD
end Go.Proofs.YthilcidoacgdfaaGreatDoor.CharD
namespace Go.Proofs.YthilcidoacgdfaaGreatDoor.DecA
end Go.Proofs.YthilcidoacgdfaaGreatDoor.DecA
namespace Go.Proofs.YthilcidoacgdfaaGreatDoor.DecE
end Go.Proofs.YthilcidoacgdfaaGreatDoor.DecE
namespace Go.Proofs.YthilcidoacgdfaaGreatDoor.FigA
end Go.Proofs.YthilcidoacgdfaaGreatDoor.FigA
namespace Go.Proofs.YthilcidoacgdfaaGreatDoor.FigC
end Go.Proofs.YthilcidoacgdfaaGreatDoor.FigC
namespace Go.Proofs.YthilcidoacgdfaaGreatDoor.FigD
end Go.Proofs.YthilcidoacgdfaaGreatDoor.FigD
namespace Go.Proofs.YthilcidoacgdfaaGreatDoor.FigE
end Go.Proofs.YthilcidoacgdfaaGreatDoor.FigE
namespace Go.Proofs.YthilcidoacgdfaaGreatDoor.SpanA
end Go.Proofs.YthilcidoacgdfaaGreatDoor.SpanA
namespace Go.Proofs.YthilcidoacgdfaaGreatDoorW.PrintLast
end Go.Proofs.YthilcidoacgdfaaGreatDoorW.PrintLast
namespace Go.Proofs.YthilcidoacgdfaaGreatDoorW.PrintMore
end Go.Proofs.YthilcidoacgdfaaGreatDoorW.PrintMore
namespace Go.Proofs.YthilcidoacgdfaaGreatDoorW.PrintWords
end Go.Proofs.YthilcidoacgdfaaGreatDoorW.PrintWords
namespace Go.Proofs.YthilcidoacgdfaaGreatDoor.FigF
open Go.RowKit Go.Shelf Go.Proofs.YthilcidoacgdfaaGreatDoorW.PrintWords Go.Proofs.YthilcidoacgdfaaGreatDoorW.PrintLast Go.Proofs.YthilcidoacgdfaaGreatDoorW.PrintMore Go.Proofs.YthilcidoacgdfaaGreatDoor.CharB Go.Proofs.YthilcidoacgdfaaGreatDoor.CharD Go.Proofs.YthilcidoacgdfaaGreatDoor.SpanA Go.Proofs.YthilcidoacgdfaaGreatDoor.DecA Go.Proofs.YthilcidoacgdfaaGreatDoor.DecE Go.Proofs.YthilcidoacgdfaaGreatDoor.FigA Go.Proofs.YthilcidoacgdfaaGreatDoor.FigC Go.Proofs.YthilcidoacgdfaaGreatDoor.FigD Go.Proofs.YthilcidoacgdfaaGreatDoor.FigE
set_option linter.unusedVariables false
set_option linter.unusedSimpArgs false
/-- A row of 24 cells in block b, of which the last ones hold the bytes l. -/
def Tail24 (b : Nat) (l : List UInt8) (W : World) : Prop := ∃ cs : Array Value, W.heap[b]? = some (Obj.cells cs 160 (0, 0)) ∧ cs.size = 24 ∧ l.length ≤ 24 ∧ ∀ i (h : i < l.length), cs[24 - l.length + i]? = some (.int .u8 (l[i].toNat : Int))
theorem tail_put {b : Nat} {l : List UInt8} {W : World} (h : Tail24 b l W) (c : UInt8) (hl : l.length < 24) : Tail24 b (c :: l) (W.setCell ⟨b, 24 - l.length - 1, none⟩ (.int .u8 (c.toNat : Int))) := by
  obtain ⟨cs, h1, h2, h3, h4⟩ := h
  obtain ⟨hlt, hk⟩ := Array.getElem?_eq_some_iff.1 h1
  refine ⟨cs.setIfInBounds (24 - l.length - 1) (.int .u8 (c.toNat : Int)), ?_, by simp [h2], by simp; omega, ?_⟩
  · show (W.heap.modify b _)[b]? = _
    rw [Array.getElem?_eq_getElem (by rw [Array.size_modify]; exact hlt), Array.getElem_modify_self, hk]
    rfl
  · intro i hi
    simp only [List.length_cons] at hi ⊢
    cases i with
    | zero =>
      rw [show 24 - (l.length + 1) + 0 = 24 - l.length - 1 by omega, Array.getElem?_setIfInBounds_self_of_lt (by omega)]
      rfl
    | succ i =>
      rw [show 24 - (l.length + 1) + (i + 1) = 24 - l.length + i by omega, Array.getElem?_setIfInBounds_ne (by omega), h4 i (by omega)]
      rfl
theorem pad_more (m j n : Nat) (h : n ≠ 0 ∨ j < m) : padL (m - j) (dg n) = ((n % 10 : Nat) : Int) :: padL (m - (j + 1)) (dg (n / 10)) := by
  by_cases h1 : j < m
  · rw [show m - j = (m - (j + 1)) + 1 by omega, pad_step]
  · have h0 : n ≠ 0 := by omega
    rw [show m - j = 0 by omega, show m - (j + 1) = 0 by omega, dg_pos n h0]
    unfold padL
    simp
theorem pad_less (m j n : Nat) (h : ¬ (n ≠ 0 ∨ j < m)) : padL (m - j) (dg n) = [] := by
  obtain rfl : n = 0 := by omega
  rw [show m - j = 0 by omega, dg_zero]
  rfl
theorem chD_of (n : Nat) : ((chD ((n % 10 : Nat) : Int)).toNat : Int) = 48 + (n : Int) % 10 := by
  rw [chD_nat _ (by omega)]
  omega
theorem info8 : (Tryz.prog.info? 5).map (fun i => (i.zero, i.size, i.bytes)) = some (some (.int .u8 0), 1, 1) := by kernel_rfl
set_option maxHeartbeats 1600000 in
set_option maxRecDepth 100000 in
theorem digits_call (n m : Nat) (w : World) (hn : n < 18446744073709551616) (hm1 : 1 ≤ m) (hm : m ≤ 6) :
    Calls Tryz.prog 78 #[.int .u64 (n : Int), .int .i64 (m : Int)] w fun e w' => e = .returned (.string (ba (decP m n))) ∧ Below w.heap.size w w' := by
  have hlen : (padL (m - 0) (dg n)).length ≤ 24 := by
    rw [pad_len]
    have := dg_le_length 20 n (Nat.lt_trans hn (by decide))
    omega
  obtain ⟨R, hR⟩ : ∃ R, ascL (padL (m - 0) (dg n)) ++ [] = R := ⟨_, rfl⟩
  have e0 : decP m n = R := by rw [← hR, List.append_nil]; rfl
  rw [e0]
  have H := Aside0.mk hR
  clear hR e0
  have HT : Aside0 (Tail24 w.heap.size [] (w.alloc (Obj.cells (Array.replicate 24 (.int .u8 0)) 160))) := ⟨⟨_, blk_new w _, by simp, by simp, fun i h => by simp at h⟩⟩
  have HB := Aside0.mk ((Below.refl w.heap.size w).alloc (Nat.le_refl _) (Obj.cells (Array.replicate 24 (.int .u8 0)) 160))
  have HL := Aside0.mk hlen
  clear hlen
  go_enter Tryz.func78, Tryz.ntmps78
  go_wp2
  go_loopg [0, 6] 24 (fun kq v0 v6 w' => ∃ (j n : Nat) (l : List UInt8), v0 = .int .u64 (n : Int) ∧ v6 = .int .i64 ((24 - j : Nat) : Int) ∧ Aside0 (Tail24 w.heap.size l w') ∧ Aside0 (l.length = j) ∧ Aside0 (ascL (padL (m - j) (dg n)) ++ l = R) ∧ Aside0 (j + (padL (m - j) (dg n)).length ≤ 24) ∧ Aside0 (j + kq = 24) ∧ Aside0 (n < 18446744073709551616) ∧ Aside0 (Below w.heap.size w w'))
  case atStart => exact ⟨0, n, [], rfl, rfl, HT, ⟨rfl⟩, H, ⟨by have := HL.out; omega⟩, ⟨rfl⟩, ⟨hn⟩, HB⟩
  case round =>
    obtain ⟨j, n, l, rfl, rfl, HT, HJ, HR, HN, HK, HM, HB⟩ := hrel
    have hn := HM.out
    have hK := HK.out
    have hJ := HJ.out
    clear H HL
    by_cases hc : n ≠ 0 ∨ j < m
    · have hp := pad_more m j n hc
      have hN := HN.out
      rw [hp, List.length_cons] at hN
      have hR := HR.out
      rw [hp, asc_cons, List.append_assoc] at hR
      have hch := chD_of n
      generalize hcc : chD ((n % 10 : Nat) : Int) = c at *
      obtain ⟨k1, rfl⟩ : ∃ k1, gk = k1 + 1 := ⟨gk - 1, by omega⟩
      obtain ⟨cs, hb1, hb2, _, _⟩ := HT.out
      have hB' := HB.out
      have HB2 := Aside0.mk (hB'.setCell (p := ⟨w.heap.size, 24 - j - 1, none⟩) (Nat.le_refl _) (.int .u8 (c.toNat : Int)))
      have HT2 := tail_put HT.out c (by omega)
      rw [hJ] at HT2
      rw [hch] at HT2 HB2
      have HT3 := Aside0.mk HT2
      have HR2 : Aside0 (ascL (padL (m - (j + 1)) (dg (n / 10))) ++ (c :: l) = R) := ⟨hR⟩
      have HN2 : Aside0 (j + 1 + (padL (m - (j + 1)) (dg (n / 10))).length ≤ 24) := ⟨by omega⟩
      have HJ2 : Aside0 ((c :: l).length = j + 1) := ⟨by simp [hJ]⟩
      have hv0 : wr.cell? ⟨w.heap.size, 24 - j - 1, none⟩ = some (cs[24 - j - 1]'(by omega)) := by rw [cell_h hb1, Array.getElem?_eq_getElem (by omega)]
      have hf0 : wr.frozen? ⟨w.heap.size, 24 - j - 1, none⟩ = false := Lib.frozen_of_heap hb1 _
      generalize cs[24 - j - 1]'(by omega) = old at hv0
      have hat : ((24 - j : Nat) : Int) - 1 = ((24 - (j + 1) : Nat) : Int) := by omega
      have HAT := Aside0.mk hat
      have h1j : 1 ≤ 24 - j := by omega
      clear hb1 hb2 hp hN hR hch hcc HT2 hB' hJ hat HT HR HN HM HB HJ
      by_cases h0 : n = 0
      · subst h0
        have hd : decide (24 - ((24 - j : Nat) : Int) < (m : Int)) = true := by simp; omega
        clear hc
        go_wp2_with fail
        go_roundg k1
        case measure => omega
        case rel => exact ⟨j + 1, 0, c :: l, rfl, by rw [HAT.out], ⟨HT3.out⟩, HJ2, HR2, HN2, ⟨by omega⟩, ⟨by omega⟩, HB2⟩
      · have hn0 : 0 < n := by omega
        clear hc
        go_wp2_with fail
        go_roundg k1
        case measure => omega
        case rel => exact ⟨j + 1, n / 10, c :: l, by simp, by rw [HAT.out], ⟨HT3.out⟩, HJ2, HR2, HN2, ⟨by omega⟩, ⟨by omega⟩, HB2⟩
    · have hp := pad_less m j n hc
      have hR := HR.out
      rw [hp] at hR
      have e1 : l = R := hR
      subst e1
      have hjm : m ≤ j := by omega
      subst hJ
      obtain rfl : n = 0 := by omega
      have hd : decide (24 - ((24 - l.length : Nat) : Int) < (m : Int)) = false := by simp; omega
      clear hp hR hc
      obtain ⟨cs, hb1, hb2, hb3, hb4⟩ := HT.out
      have hconv : ∀ cap, (convert 105 9 (.slice (some ⟨w.heap.size, 24 - l.length, none⟩) l.length cap)).run Tryz.prog wr = .ok (.string (ba l)) wr := fun cap => run_convert_bytes_back wr 105 9 5 ⟨w.heap.size, 24 - l.length, none⟩ cap l (by kernel_rfl) (by kernel_rfl) (by kernel_rfl) (fun i hi => by
        have : (⟨w.heap.size, 24 - l.length, none⟩ : Addr).add i = ⟨w.heap.size, 24 - l.length + i, none⟩ := by unfold Addr.add; split <;> simp_all
        rw [this, cell_h hb1]
        exact hb4 i hi)
      have hl1 : 1 ≤ l.length := by omega
      have hsl : ∀ W : World, (Instr.sliceAt 160 (.pointer (some ⟨w.heap.size, 0, none⟩)) (some (.int .i64 ((24 - l.length : Nat) : Int))) none none).run Tryz.prog W = .ok (.slice (some ⟨w.heap.size, 24 - l.length, none⟩) l.length l.length) W := by
        intro W
        rw [run_sliceAt_array_l W 160 ⟨w.heap.size, 0, none⟩ (by kernel_rfl) .i64 _ (by omega) (by rw [show Tryz.prog.arrayLen 160 = 24 by kernel_rfl]; omega)]
        have hs1 : (sizeOf (Tryz.prog.elem 160)).run Tryz.prog W = .ok 1 W := by
          have : Tryz.prog.elem 160 = 5 := by kernel_rfl
          rw [this]
          obtain ⟨i0, hi, hz0, hz1, hz2⟩ := info_parts info8
          simp [sizeOf, hi, hz1]
          try rfl
        rw [hs1, show Tryz.prog.arrayLen 160 = 24 by kernel_rfl]
        simp only [Result.andThen]
        unfold slicedAt
        rw [Int.toNat_natCast, if_neg (by omega), Nat.mul_one, show 24 - (24 - l.length) = l.length by omega]
        congr 3
        unfold Addr.add
        split <;> simp_all
      go_wp2_with fail
      go_ret
      exact ⟨rfl, HB.out⟩
end Go.Proofs.YthilcidoacgdfaaGreatDoor.FigF
