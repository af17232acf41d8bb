/- The reader's reference: what it computes. -/
import Derived.Test.YticpobgkbapdmaaDoorKoEscE
namespace Go.Proofs.YticpobgkbapdmaaDoor.CharA
end Go.Proofs.YticpobgkbapdmaaDoor.CharA
namespace Go.Proofs.YticpobgkbapdmaaDoor.CharB
end Go.Proofs.YticpobgkbapdmaaDoor.CharB
namespace Go.Proofs.YticpobgkbapdmaaDoor.CharC
end Go.Proofs.YticpobgkbapdmaaDoor.CharC
namespace Go.Proofs.YticpobgkbapdmaaDoor.CharD
end Go.Proofs.YticpobgkbapdmaaDoor.CharD
namespace Go.Proofs.YticpobgkbapdmaaDoor.CharE
end Go.Proofs.YticpobgkbapdmaaDoor.CharE
namespace Go.Proofs.YticpobgkbapdmaaDoor.CharH
end Go.Proofs.YticpobgkbapdmaaDoor.CharH
namespace Go.Proofs.YticpobgkbapdmaaDoor.EscA
end Go.Proofs.YticpobgkbapdmaaDoor.EscA
namespace Go.Proofs.YticpobgkbapdmaaDoor.EscB
end Go.Proofs.YticpobgkbapdmaaDoor.EscB
namespace Go.Proofs.YticpobgkbapdmaaDoor.EscC
end Go.Proofs.YticpobgkbapdmaaDoor.EscC
namespace Go.Proofs.YticpobgkbapdmaaDoor.EscD
end Go.Proofs.YticpobgkbapdmaaDoor.EscD
namespace Go.Proofs.YticpobgkbapdmaaDoor.EscE
end Go.Proofs.YticpobgkbapdmaaDoor.EscE
namespace Go.Proofs.YticpobgkbapdmaaDoor.PR1
end Go.Proofs.YticpobgkbapdmaaDoor.PR1
namespace Go.Proofs.YticpobgkbapdmaaDoor.SpanA
end Go.Proofs.YticpobgkbapdmaaDoor.SpanA
namespace Go.Proofs.YticpobgkbapdmaaDoor.SpanB
end Go.Proofs.YticpobgkbapdmaaDoor.SpanB
namespace Go.Proofs.YticpobgkbapdmaaDoor.SpanC
end Go.Proofs.YticpobgkbapdmaaDoor.SpanC
namespace Go.Proofs.YticpobgkbapdmaaDoor.SpanD
end Go.Proofs.YticpobgkbapdmaaDoor.SpanD
namespace Go.Proofs.YticpobgkbapdmaaDoor.SpanF
end Go.Proofs.YticpobgkbapdmaaDoor.SpanF
namespace Go.Proofs.YticpobgkbapdmaaDoorW.PrintLast
end Go.Proofs.YticpobgkbapdmaaDoorW.PrintLast
namespace Go.Proofs.YticpobgkbapdmaaDoorW.PrintMore
end Go.Proofs.YticpobgkbapdmaaDoorW.PrintMore
namespace Go.Proofs.YticpobgkbapdmaaDoorW.PrintWords
end Go.Proofs.YticpobgkbapdmaaDoorW.PrintWords
namespace Go.Proofs.YticpobgkbapdmaaDoor.EscF
open Go.RowKit Go.Shelf Go.Proofs.YticpobgkbapdmaaDoorW.PrintWords Go.Proofs.YticpobgkbapdmaaDoorW.PrintLast Go.Proofs.YticpobgkbapdmaaDoorW.PrintMore Go.Proofs.YticpobgkbapdmaaDoor.CharA Go.Proofs.YticpobgkbapdmaaDoor.CharB Go.Proofs.YticpobgkbapdmaaDoor.CharC Go.Proofs.YticpobgkbapdmaaDoor.CharD Go.Proofs.YticpobgkbapdmaaDoor.CharE Go.Proofs.YticpobgkbapdmaaDoor.CharH Go.Proofs.YticpobgkbapdmaaDoor.SpanA Go.Proofs.YticpobgkbapdmaaDoor.SpanB Go.Proofs.YticpobgkbapdmaaDoor.SpanC Go.Proofs.YticpobgkbapdmaaDoor.SpanD Go.Proofs.YticpobgkbapdmaaDoor.SpanF Go.Proofs.YticpobgkbapdmaaDoor.EscA Go.Proofs.YticpobgkbapdmaaDoor.EscB Go.Proofs.YticpobgkbapdmaaDoor.EscC Go.Proofs.YticpobgkbapdmaaDoor.EscD Go.Proofs.YticpobgkbapdmaaDoor.EscE Go.Proofs.YticpobgkbapdmaaDoor.PR1
set_option linter.unusedVariables false
set_option linter.unusedSimpArgs false
theorem rb_below {b : Nat} {r : ByteArray} {p f : Value} {bs : List Value} {W W' : World} (h : RB b r p f bs W) (hb : Below W.heap.size W W') : RB b r p f bs W' := by
  obtain ⟨v, h1, h2, h3⟩ := h
  have hlt : b < W.heap.size := (Array.getElem?_eq_some_iff.1 h1).1
  refine ⟨v, (hb.block b hlt).trans h1, ⟨h2.1, ?_⟩, h3⟩
  rcases h2.2 with h | ⟨g, cap, cur, e, hg, hc, rest⟩
  · exact .inl h
  · exact .inr ⟨g, cap, cur, e, hg, (hb.block g (Array.getElem?_eq_some_iff.1 hc).1).trans hc, rest⟩
theorem maxL_keep {b : Nat} {w w' : World} (h : MaxL w) (hb : Below b w w') (h2 : 2 < b) : MaxL w' := by
  obtain ⟨m, h⟩ := h
  refine ⟨m, ?_⟩
  have : w'.heap[2]? = w.heap[2]? := hb.block _ h2
  unfold World.cell? at h ⊢
  simp only at h ⊢
  rw [this]
  exact h
/-- What a reference in front of t (behind its '&') stands for, and what stands behind it. -/
def refR (t : List UInt8) : Option (List UInt8 × List UInt8) :=
  if (Lib.cut t [59]).2.2 = true then match chr (Lib.cut t [59]).1 with | some x => some (x, (Lib.cut t [59]).2.1) | none => none else none
theorem cut1 (s : ByteArray) (hs : s.size < 4294967281) (w : World) (hm : MaxL w) : Calls Tryd.prog 64 #[.string s, .string ⟨#[59]⟩] w fun e w' => e = .returned (.tuple #[.string (ba (Lib.cut s.data.toList [59]).1), .string (ba (Lib.cut s.data.toList [59]).2.1), .bool (Lib.cut s.data.toList [59]).2.2]) ∧ ∃ n, w' = w.drewN n := by
  obtain ⟨m, hm⟩ := hm
  exact Tryd.strings_Cut s ⟨#[59]⟩ m w hs hm
theorem cut_len (s q : List UInt8) : (Lib.cut s q).1.length ≤ s.length := by
  unfold Lib.cut
  split
  · simp only [List.length_take]; omega
  · exact Nat.le_refl _
set_option maxHeartbeats 1600000 in
set_option maxRecDepth 100000 in
theorem reference_none (b : Nat) (r : ByteArray) (p f : Value) (bs : List Value) (w : World) (h : RB b r p f bs w) (hr : 1 ≤ r.size) (hs : r.size < 4294967281) (hm : MaxL w) (hc : (Lib.cut (r.extract 1 r.size).data.toList [59]).2.2 = false) :
    Calls Tryd.prog 77 #[.pointer (some ⟨b, 0, none⟩)] w fun e w' => e = .returned (.bool false) ∧ Below b w w' := by
  obtain ⟨v, hb, _, _⟩ := h
  have hC := cut1 (r.extract 1 r.size) (by rw [extract_size _ _ _ (Nat.le_refl _)]; omega) w hm
  rw [hc] at hC
  generalize (Lib.cut (r.extract 1 r.size).data.toList [59]).1 = q1 at *
  generalize (Lib.cut (r.extract 1 r.size).data.toList [59]).2.1 = q2 at *
  have c0 : w.cell? ⟨b, 0, none⟩ = some (.string r) := by rw [cell_h hb]; rfl
  clear hc hm
  go_enter Tryd.func77, Tryd.ntmps77
  go_wp2_with fail
  refine hC.mono ?_
  rintro e w1 ⟨rfl, n, rfl⟩
  go_wp2_with fail
  go_ret
  exact ⟨rfl, Go.Proofs.YticpobgkbapdmaaDoor.CharB.below_drewN (Below.refl _ _) _⟩
set_option maxHeartbeats 1600000 in
set_option maxRecDepth 100000 in
theorem reference_bad (b : Nat) (r : ByteArray) (p f : Value) (bs : List Value) (w : World) (h : RB b r p f bs w) (hr : 1 ≤ r.size) (hs : r.size < 4294967281) (hm : MaxL w) (hc : (Lib.cut (r.extract 1 r.size).data.toList [59]).2.2 = true) (hx : chr (Lib.cut (r.extract 1 r.size).data.toList [59]).1 = none) :
    Calls Tryd.prog 77 #[.pointer (some ⟨b, 0, none⟩)] w fun e w' => e = .returned (.bool false) ∧ Below b w w' := by
  have hlt := rb_lt h
  obtain ⟨v, hb, _, _⟩ := h
  have hC := cut1 (r.extract 1 r.size) (by rw [extract_size _ _ _ (Nat.le_refl _)]; omega) w hm
  have hX := character_calls (ba (Lib.cut (r.extract 1 r.size).data.toList [59]).1) (by
    rw [ba_size]
    have := cut_len (r.extract 1 r.size).data.toList [59]
    rw [← Lib.size_eq, extract_size _ _ _ (Nat.le_refl _)] at this
    omega)
  rw [ba_list, hx] at hX
  rw [hc] at hC
  generalize (Lib.cut (r.extract 1 r.size).data.toList [59]).1 = q1 at *
  generalize (Lib.cut (r.extract 1 r.size).data.toList [59]).2.1 = q2 at *
  have c0 : w.cell? ⟨b, 0, none⟩ = some (.string r) := by rw [cell_h hb]; rfl
  clear hc hm hx
  go_enter Tryd.func77, Tryd.ntmps77
  go_wp2_with fail
  refine hC.mono ?_
  rintro e w1 ⟨rfl, n, rfl⟩
  go_wp2_with fail
  refine (hX _).mono ?_
  rintro e w2 ⟨rfl, hb2⟩
  go_wp2_with fail
  go_ret
  exact ⟨rfl, (Go.Proofs.YticpobgkbapdmaaDoor.CharB.below_drewN (Below.refl _ _) n).trans (hb2.mono (Nat.le_of_lt hlt))⟩
set_option maxHeartbeats 1600000 in
set_option maxRecDepth 100000 in
theorem reference_some (b : Nat) (r : ByteArray) (p f : Value) (bs : List Value) (w : World) (h : RB b r p f bs w) (hp : okP b p) (hr : 1 ≤ r.size) (hs : r.size < 4294967281) (hm : MaxL w) (x : List UInt8) (hc : (Lib.cut (r.extract 1 r.size).data.toList [59]).2.2 = true) (hx : chr (Lib.cut (r.extract 1 r.size).data.toList [59]).1 = some x) (hlen : bs.length + x.length ≤ 140737488355328) :
    Calls Tryd.prog 77 #[.pointer (some ⟨b, 0, none⟩)] w fun e w' => e = .returned (.bool true) ∧ Below b w w' ∧ RB b (ba (Lib.cut (r.extract 1 r.size).data.toList [59]).2.1) (self b) f (bs ++ Lib.byteCells x) w' := by
  have hlt := rb_lt h
  have hC := cut1 (r.extract 1 r.size) (by rw [extract_size _ _ _ (Nat.le_refl _)]; omega) w hm
  have hX := character_calls (ba (Lib.cut (r.extract 1 r.size).data.toList [59]).1) (by
    rw [ba_size]
    have := cut_len (r.extract 1 r.size).data.toList [59]
    rw [← Lib.size_eq, extract_size _ _ _ (Nat.le_refl _)] at this
    omega)
  rw [ba_list, hx] at hX
  rw [hc] at hC
  have hW : ∀ W, Below w.heap.size w W → Calls Tryd.prog 59 #[self b, .string (ba x)] W fun e w' => e = .returned (.tuple #[.int .i64 (ba x).size, .nilIface]) ∧ RB b r (self b) f (bs ++ Lib.byteCells x) w' ∧ Below b W w' := fun W hb => writeString_in b r p f bs (ba x) W (rb_below h hb) hp (by rw [ba_size]; exact hlen)
  generalize (Lib.cut (r.extract 1 r.size).data.toList [59]).1 = q1 at *
  generalize (Lib.cut (r.extract 1 r.size).data.toList [59]).2.1 = q2 at *
  have HH := Aside0.mk h
  obtain ⟨v, hb, _, _⟩ := h
  have c0 : w.cell? ⟨b, 0, none⟩ = some (.string r) := by rw [cell_h hb]; rfl
  clear hc hm hx hb
  unfold self at hW ⊢
  go_enter Tryd.func77, Tryd.ntmps77
  go_wp2_with fail
  refine hC.mono ?_
  rintro e w1 ⟨rfl, n, rfl⟩
  go_wp2_with fail
  refine (hX _).mono ?_
  rintro e w2 ⟨rfl, hb2⟩
  go_wp2_with fail
  refine (hW _ ((Go.Proofs.YticpobgkbapdmaaDoor.CharB.below_drewN (Below.refl _ _) n).trans hb2)).mono ?_
  rintro e w3 ⟨rfl, ⟨v3, h31, h32, h33⟩, hb3⟩
  have f3 : w3.frozen? ⟨b, 0, none⟩ = false := Lib.frozen_of_heap h31 0
  have d3 : w3.cell? ⟨b, 0, none⟩ = some (.string r) := by rw [cell_h h31]; rfl
  have hne3 := rb_ne h31 h32
  have hB3 := ((Go.Proofs.YticpobgkbapdmaaDoor.CharB.below_drewN (Below.refl b w) n).trans (hb2.mono (Nat.le_of_lt hlt))).trans hb3
  clear hb2 hb3 hW hX
  go_wp2_with fail
  go_ret
  exact ⟨rfl, hB3.setCell (p := ⟨b, 0, none⟩) (Nat.le_refl _) _, ⟨v3, rb_set h31 0 _ (by simp), h32.kept (grownBy_putCell w3 b 0 _) (.inr hne3), h33⟩⟩
end Go.Proofs.YticpobgkbapdmaaDoor.EscF
