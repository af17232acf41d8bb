/- Put and PutAttr: what they compute. -/
import Derived.Test.YticpobgkbapdmaaDoorKoEscK
namespace Go.Proofs.YticpobgkbapdmaaDoor.CharA
end Go.Proofs.YticpobgkbapdmaaDoor.CharA
namespace Go.Proofs.YticpobgkbapdmaaDoor.CharB
end Go.Proofs.YticpobgkbapdmaaDoor.CharB
namespace Go.Proofs.YticpobgkbapdmaaDoor.CharC
end Go.Proofs.YticpobgkbapdmaaDoor.CharC
namespace Go.Proofs.YticpobgkbapdmaaDoor.CharD
end Go.Proofs.YticpobgkbapdmaaDoor.CharD
namespace Go.Proofs.YticpobgkbapdmaaDoor.CharE
end Go.Proofs.YticpobgkbapdmaaDoor.CharE
namespace Go.Proofs.YticpobgkbapdmaaDoor.CharH
end Go.Proofs.YticpobgkbapdmaaDoor.CharH
namespace Go.Proofs.YticpobgkbapdmaaDoor.EscA
end Go.Proofs.YticpobgkbapdmaaDoor.EscA
namespace Go.Proofs.YticpobgkbapdmaaDoor.EscB
end Go.Proofs.YticpobgkbapdmaaDoor.EscB
namespace Go.Proofs.YticpobgkbapdmaaDoor.EscC
end Go.Proofs.YticpobgkbapdmaaDoor.EscC
namespace Go.Proofs.YticpobgkbapdmaaDoor.EscD
end Go.Proofs.YticpobgkbapdmaaDoor.EscD
namespace Go.Proofs.YticpobgkbapdmaaDoor.EscF
end Go.Proofs.YticpobgkbapdmaaDoor.EscF
namespace Go.Proofs.YticpobgkbapdmaaDoor.EscG
end Go.Proofs.YticpobgkbapdmaaDoor.EscG
namespace Go.Proofs.YticpobgkbapdmaaDoor.EscI
end Go.Proofs.YticpobgkbapdmaaDoor.EscI
namespace Go.Proofs.YticpobgkbapdmaaDoor.EscJ
end Go.Proofs.YticpobgkbapdmaaDoor.EscJ
namespace Go.Proofs.YticpobgkbapdmaaDoor.EscK
end Go.Proofs.YticpobgkbapdmaaDoor.EscK
namespace Go.Proofs.YticpobgkbapdmaaDoor.PR1
end Go.Proofs.YticpobgkbapdmaaDoor.PR1
namespace Go.Proofs.YticpobgkbapdmaaDoor.SpanA
end Go.Proofs.YticpobgkbapdmaaDoor.SpanA
namespace Go.Proofs.YticpobgkbapdmaaDoor.SpanB
end Go.Proofs.YticpobgkbapdmaaDoor.SpanB
namespace Go.Proofs.YticpobgkbapdmaaDoor.SpanC
end Go.Proofs.YticpobgkbapdmaaDoor.SpanC
namespace Go.Proofs.YticpobgkbapdmaaDoor.SpanD
end Go.Proofs.YticpobgkbapdmaaDoor.SpanD
namespace Go.Proofs.YticpobgkbapdmaaDoor.SpanF
end Go.Proofs.YticpobgkbapdmaaDoor.SpanF
namespace Go.Proofs.YticpobgkbapdmaaDoorW.PrintLast
end Go.Proofs.YticpobgkbapdmaaDoorW.PrintLast
namespace Go.Proofs.YticpobgkbapdmaaDoorW.PrintMore
end Go.Proofs.YticpobgkbapdmaaDoorW.PrintMore
namespace Go.Proofs.YticpobgkbapdmaaDoorW.PrintWords
end Go.Proofs.YticpobgkbapdmaaDoorW.PrintWords
namespace Go.Proofs.YticpobgkbapdmaaDoor.EscL
open Go.RowKit Go.Shelf Go.Proofs.YticpobgkbapdmaaDoorW.PrintWords Go.Proofs.YticpobgkbapdmaaDoorW.PrintLast Go.Proofs.YticpobgkbapdmaaDoorW.PrintMore Go.Proofs.YticpobgkbapdmaaDoor.CharA Go.Proofs.YticpobgkbapdmaaDoor.CharB Go.Proofs.YticpobgkbapdmaaDoor.CharC Go.Proofs.YticpobgkbapdmaaDoor.CharD Go.Proofs.YticpobgkbapdmaaDoor.CharE Go.Proofs.YticpobgkbapdmaaDoor.CharH Go.Proofs.YticpobgkbapdmaaDoor.SpanA Go.Proofs.YticpobgkbapdmaaDoor.SpanB Go.Proofs.YticpobgkbapdmaaDoor.SpanC Go.Proofs.YticpobgkbapdmaaDoor.SpanD Go.Proofs.YticpobgkbapdmaaDoor.SpanF Go.Proofs.YticpobgkbapdmaaDoor.EscA Go.Proofs.YticpobgkbapdmaaDoor.EscB Go.Proofs.YticpobgkbapdmaaDoor.EscC Go.Proofs.YticpobgkbapdmaaDoor.EscD Go.Proofs.YticpobgkbapdmaaDoor.EscF Go.Proofs.YticpobgkbapdmaaDoor.EscG Go.Proofs.YticpobgkbapdmaaDoor.EscI Go.Proofs.YticpobgkbapdmaaDoor.EscJ Go.Proofs.YticpobgkbapdmaaDoor.EscK Go.Proofs.YticpobgkbapdmaaDoor.PR1
set_option linter.unusedVariables false
set_option linter.unusedSimpArgs false
set_option maxHeartbeats 4000000 in
set_option maxRecDepth 100000 in
theorem put_calls (s : ByteArray) (hs : s.size < 1000000000) (w : World) :
    Calls Tryd.prog 51 #[.string s] w fun e w' => e = .returned (.string (ba (putL false s.data.toList))) ∧ Below w.heap.size w w' := by
  obtain ⟨R, hR⟩ : ∃ R, putL false s.data.toList = R := ⟨_, rfl⟩
  rw [hR]
  have H := Aside0.mk hR
  clear hR
  have hb0 := Aside0.mk (Lib.IsBuilderF.of (Lib.fresh_isBuilder 64 5 w))
  have hB0 := Aside0.mk ((Below.refl w.heap.size w).alloc (Nat.le_refl _) (Obj.cells #[.pointer none, .slice none 0 0] 64))
  go_enter Tryd.func51, Tryd.ntmps51
  go_wp2
  go_loopg [7] s.size (fun kq v7 w' => ∃ (pos : Nat) (out : List UInt8), v7 = .int .i64 (pos : Int) ∧ Aside0 (Lib.IsBuilderF 64 5 w.heap.size w.heap.size (Lib.byteCells out) w') ∧ Aside0 (out ++ putL false (s.data.toList.drop pos) = R) ∧ Aside0 (s.size ≤ pos + kq) ∧ Aside0 (kq ≤ s.size) ∧ Aside0 (pos ≤ s.size) ∧ Aside0 (out.length + 6 * kq ≤ 8000000000) ∧ Aside0 (Below w.heap.size w w'))
  case atStart => exact ⟨0, [], rfl, hb0, H, ⟨by omega⟩, ⟨Nat.le_refl _⟩, ⟨Nat.zero_le _⟩, ⟨by simp; omega⟩, hB0⟩
  case round =>
    obtain ⟨pos, out, rfl, HI, HA, HZ, HK, HP, HL, HB⟩ := hrel
    clear H hb0 hB0
    have hbs : w.heap.size ≤ wr.heap.size := HB.out.size
    by_cases hp : pos < s.size
    · cases gk with
      | zero => have := HZ.out; omega
      | succ k1 =>
        have hp' : pos < s.data.toList.length := by rw [← Lib.size_eq]; exact hp
        have hC := HA.out
        rw [List.drop_eq_getElem_cons hp'] at hC
        unfold putL at hC
        rw [List.flatMap_cons, ← List.append_assoc] at hC
        have hg : ((s[pos]'hp).toNat : Int) = ((s.data.toList[pos]).toNat : Int) := by
          have e := bt_get s pos hp
          rw [bt_list s pos hp hp'] at e
          exact e.symm
        have hcl := putC_len false s.data.toList[pos]
        generalize s.data.toList[pos] = c at *
        have hL := HL.out
        have hZ := HZ.out
        have hK := HK.out
        have hNext : Aside0 (k1 ≤ s.size) := ⟨by omega⟩
        have hZ2 : Aside0 (s.size ≤ pos + 1 + k1) := ⟨by omega⟩
        have hP2 : Aside0 (pos + 1 ≤ s.size) := ⟨by omega⟩
        have hL2 : Aside0 ((out ++ putC false c).length + 6 * k1 ≤ 8000000000) := ⟨by rw [List.length_append]; omega⟩
        have hWS := fun u : ByteArray => fun hu : out.length + u.size ≤ 140737488355328 => Tryd.Builder_WriteString_k w.heap.size w.heap.size (Lib.byteCells out) u wr HI.out (by rw [Lib.byteCells_length]; exact hu) hbs
        have hWB := Tryd.Builder_WriteByte_k w.heap.size w.heap.size (Lib.byteCells out) (c.toNat : Int) wr HI.out (by rw [Lib.byteCells_length]; omega) hbs
        have hC' := Aside0.mk hC
        clear hC hcl
        have e1 : wrap64 ((pos : Int) + 1) = (pos : Int) + 1 := w64 (by omega) (by omega)
        by_cases k38 : c = 38
        · have hput : putC false c = [38, 97, 109, 112, 59] := by rw [k38]; rfl
          have hS := hWS ⟨#[38, 97, 109, 112, 59]⟩ (by show out.length + 5 ≤ _; omega)
          rw [hput] at hC' hL2
          have g38 : ((((s[pos]'hp).toNat : Int)) == 38) = true := by rw [hg, k38]; rfl
          clear hg hWS hWB hput hL hZ hK
          go_wp2_with fail
          refine hS.mono ?_
          rintro e w1 ⟨rfl, hI1, hb1, _⟩
          have H2 : Aside0 (Lib.IsBuilderF 64 5 w.heap.size w.heap.size (Lib.byteCells (out ++ [38, 97, 109, 112, 59])) w1) := ⟨.inr (by rw [bc_app]; exact hI1)⟩
          have HB2 := Aside0.mk (HB.out.trans hb1)
          clear hI1 hb1 hS
          go_wp2_with fail
          go_roundg k1
          case measure => have := HK.out; omega
          case rel => exact ⟨pos + 1, out ++ [38, 97, 109, 112, 59], by first | rfl | (simp; done) | (simp [e1]; done), H2, ⟨hC'.out⟩, hZ2, hNext, hP2, hL2, HB2⟩
        by_cases k60 : c = 60
        · have hput : putC false c = [38, 108, 116, 59] := by rw [k60]; rfl
          have hS := hWS ⟨#[38, 108, 116, 59]⟩ (by show out.length + 4 ≤ _; omega)
          rw [hput] at hC' hL2
          have g38 : ((((s[pos]'hp).toNat : Int)) == 38) = false := by rw [hg]; exact beq_eq_false_iff_ne.mpr (fun q => k38 ((u8_iff c 38 (by omega)).1 q))
          have g60 : ((((s[pos]'hp).toNat : Int)) == 60) = true := by rw [hg, k60]; rfl
          clear hg hWS hWB hput hL hZ hK
          go_wp2_with fail
          refine hS.mono ?_
          rintro e w1 ⟨rfl, hI1, hb1, _⟩
          have H2 : Aside0 (Lib.IsBuilderF 64 5 w.heap.size w.heap.size (Lib.byteCells (out ++ [38, 108, 116, 59])) w1) := ⟨.inr (by rw [bc_app]; exact hI1)⟩
          have HB2 := Aside0.mk (HB.out.trans hb1)
          clear hI1 hb1 hS
          go_wp2_with fail
          go_roundg k1
          case measure => have := HK.out; omega
          case rel => exact ⟨pos + 1, out ++ [38, 108, 116, 59], by first | rfl | (simp; done) | (simp [e1]; done), H2, ⟨hC'.out⟩, hZ2, hNext, hP2, hL2, HB2⟩
        by_cases k62 : c = 62
        · have hput : putC false c = [38, 103, 116, 59] := by rw [k62]; rfl
          have hS := hWS ⟨#[38, 103, 116, 59]⟩ (by show out.length + 4 ≤ _; omega)
          rw [hput] at hC' hL2
          have g38 : ((((s[pos]'hp).toNat : Int)) == 38) = false := by rw [hg]; exact beq_eq_false_iff_ne.mpr (fun q => k38 ((u8_iff c 38 (by omega)).1 q))
          have g60 : ((((s[pos]'hp).toNat : Int)) == 60) = false := by rw [hg]; exact beq_eq_false_iff_ne.mpr (fun q => k60 ((u8_iff c 60 (by omega)).1 q))
          have g62 : ((((s[pos]'hp).toNat : Int)) == 62) = true := by rw [hg, k62]; rfl
          clear hg hWS hWB hput hL hZ hK
          go_wp2_with fail
          refine hS.mono ?_
          rintro e w1 ⟨rfl, hI1, hb1, _⟩
          have H2 : Aside0 (Lib.IsBuilderF 64 5 w.heap.size w.heap.size (Lib.byteCells (out ++ [38, 103, 116, 59])) w1) := ⟨.inr (by rw [bc_app]; exact hI1)⟩
          have HB2 := Aside0.mk (HB.out.trans hb1)
          clear hI1 hb1 hS
          go_wp2_with fail
          go_roundg k1
          case measure => have := HK.out; omega
          case rel => exact ⟨pos + 1, out ++ [38, 103, 116, 59], by first | rfl | (simp; done) | (simp [e1]; done), H2, ⟨hC'.out⟩, hZ2, hNext, hP2, hL2, HB2⟩
        by_cases k13 : c = 13
        · have hput : putC false c = [38, 35, 49, 51, 59] := by rw [k13]; rfl
          have hS := hWS ⟨#[38, 35, 49, 51, 59]⟩ (by show out.length + 5 ≤ _; omega)
          rw [hput] at hC' hL2
          have g38 : ((((s[pos]'hp).toNat : Int)) == 38) = false := by rw [hg]; exact beq_eq_false_iff_ne.mpr (fun q => k38 ((u8_iff c 38 (by omega)).1 q))
          have g60 : ((((s[pos]'hp).toNat : Int)) == 60) = false := by rw [hg]; exact beq_eq_false_iff_ne.mpr (fun q => k60 ((u8_iff c 60 (by omega)).1 q))
          have g62 : ((((s[pos]'hp).toNat : Int)) == 62) = false := by rw [hg]; exact beq_eq_false_iff_ne.mpr (fun q => k62 ((u8_iff c 62 (by omega)).1 q))
          have g13 : ((((s[pos]'hp).toNat : Int)) == 13) = true := by rw [hg, k13]; rfl
          clear hg hWS hWB hput hL hZ hK
          go_wp2_with fail
          refine hS.mono ?_
          rintro e w1 ⟨rfl, hI1, hb1, _⟩
          have H2 : Aside0 (Lib.IsBuilderF 64 5 w.heap.size w.heap.size (Lib.byteCells (out ++ [38, 35, 49, 51, 59])) w1) := ⟨.inr (by rw [bc_app]; exact hI1)⟩
          have HB2 := Aside0.mk (HB.out.trans hb1)
          clear hI1 hb1 hS
          go_wp2_with fail
          go_roundg k1
          case measure => have := HK.out; omega
          case rel => exact ⟨pos + 1, out ++ [38, 35, 49, 51, 59], by first | rfl | (simp; done) | (simp [e1]; done), H2, ⟨hC'.out⟩, hZ2, hNext, hP2, hL2, HB2⟩
        have hput : putC false c = [c] := by unfold putC; simp [k38, k60, k62, k13]
        have g38 : ((((s[pos]'hp).toNat : Int)) == 38) = false := by rw [hg]; exact beq_eq_false_iff_ne.mpr (fun q => k38 ((u8_iff c 38 (by omega)).1 q))
        have g60 : ((((s[pos]'hp).toNat : Int)) == 60) = false := by rw [hg]; exact beq_eq_false_iff_ne.mpr (fun q => k60 ((u8_iff c 60 (by omega)).1 q))
        have g62 : ((((s[pos]'hp).toNat : Int)) == 62) = false := by rw [hg]; exact beq_eq_false_iff_ne.mpr (fun q => k62 ((u8_iff c 62 (by omega)).1 q))
        have g13 : ((((s[pos]'hp).toNat : Int)) == 13) = false := by rw [hg]; exact beq_eq_false_iff_ne.mpr (fun q => k13 ((u8_iff c 13 (by omega)).1 q))
        rw [← hg] at hWB
        have HG := Aside0.mk hg
        rw [hput] at hC' hL2
        clear hg hWS hput hL hZ hK
        go_wp2_with fail
        refine hWB.mono ?_
        rintro e w1 ⟨rfl, hI1, hb1, _⟩
        have H2 : Aside0 (Lib.IsBuilderF 64 5 w.heap.size w.heap.size (Lib.byteCells (out ++ [c])) w1) := ⟨.inr (by rw [HG.out] at hI1; rw [bc_app, bc_one]; exact hI1)⟩
        have HB2 := Aside0.mk (HB.out.trans hb1)
        clear hI1 hb1 hWB
        go_wp2_with fail
        go_roundg k1
        case measure => have := HK.out; omega
        case rel => exact ⟨pos + 1, out ++ [c], by first | rfl | (simp; done) | (simp [e1]; done), H2, ⟨hC'.out⟩, hZ2, hNext, hP2, hL2, HB2⟩
    · have hC := HA.out
      rw [List.drop_eq_nil_of_le (by rw [← Lib.size_eq]; omega)] at hC
      have hC2 : out = R := by rw [← hC]; simp [putL]
      subst hC2
      have hS := Tryd.Builder_String_any_k w.heap.size w.heap.size out wr HI.out hbs
      clear hC
      go_wp2_with fail
      refine hS.mono ?_
      rintro e w1 ⟨rfl, _, hb1, _⟩
      go_wp2_with fail
      go_ret
      exact ⟨rfl, HB.out.trans hb1⟩
end Go.Proofs.YticpobgkbapdmaaDoor.EscL
