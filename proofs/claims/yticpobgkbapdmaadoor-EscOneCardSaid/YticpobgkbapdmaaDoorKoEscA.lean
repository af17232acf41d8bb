/- A strings.Builder that is a field of the reader: copyCheck, WriteByte, WriteString, String. -/
import Derived.Lib.AppendStr
import Derived.Lib.UnsafeStr
import Derived.Lib.Builder
import Derived.Test.YticpobgkbapdmaaDoorKoSpanC
namespace Go.Proofs.YticpobgkbapdmaaDoor.CharE
end Go.Proofs.YticpobgkbapdmaaDoor.CharE
namespace Go.Proofs.YticpobgkbapdmaaDoor.SpanA
end Go.Proofs.YticpobgkbapdmaaDoor.SpanA
namespace Go.Proofs.YticpobgkbapdmaaDoor.SpanB
end Go.Proofs.YticpobgkbapdmaaDoor.SpanB
namespace Go.Proofs.YticpobgkbapdmaaDoor.SpanC
end Go.Proofs.YticpobgkbapdmaaDoor.SpanC
namespace Go.Proofs.YticpobgkbapdmaaDoorW.PrintLast
end Go.Proofs.YticpobgkbapdmaaDoorW.PrintLast
namespace Go.Proofs.YticpobgkbapdmaaDoorW.PrintMore
end Go.Proofs.YticpobgkbapdmaaDoorW.PrintMore
namespace Go.Proofs.YticpobgkbapdmaaDoorW.PrintWords
end Go.Proofs.YticpobgkbapdmaaDoorW.PrintWords
namespace Go.Proofs.YticpobgkbapdmaaDoor.EscA
open Go.RowKit Go.Shelf Go.Proofs.YticpobgkbapdmaaDoorW.PrintWords Go.Proofs.YticpobgkbapdmaaDoorW.PrintLast Go.Proofs.YticpobgkbapdmaaDoorW.PrintMore Go.Proofs.YticpobgkbapdmaaDoor.CharE Go.Proofs.YticpobgkbapdmaaDoor.SpanA Go.Proofs.YticpobgkbapdmaaDoor.SpanB Go.Proofs.YticpobgkbapdmaaDoor.SpanC
set_option linter.unusedVariables false
set_option linter.unusedSimpArgs false
/-- The reader in block b: what is left of its text, its builder (whose own address cell holds p) with the bytes bs, and its way with plain bytes f. -/
def RB (b : Nat) (r : ByteArray) (p f : Value) (bs : List Value) (W : World) : Prop :=
  ∃ v, W.heap[b]? = some (Obj.cells #[.string r, p, v, f] 82 (0, 0)) ∧ W.ownsRow b 5 1 v bs.length bs ∧ (bs = [] → v = .slice none 0 0)
def self (b : Nat) : Value := .pointer (some ⟨b, 1, none⟩)
def okP (b : Nat) (p : Value) : Prop := p = .pointer none ∨ p = self b
theorem rb_ne {b : Nat} {cs : Array Value} {W : World} {v : Value} {n : Nat} {xs : List Value} (h : W.heap[b]? = some (Obj.cells cs 82 (0, 0))) (ho : W.ownsRow b 5 1 v n xs) : v.ownBlock ≠ some b := by
  rcases ho.2 with ⟨rfl, _⟩ | ⟨g, cap, cur, rfl, _, hg, _⟩
  · simp [Value.ownBlock]
  · intro e
    obtain rfl : g = b := by simpa [Value.ownBlock] using e
    rw [h] at hg
    cases hg
theorem rb_lt {b : Nat} {r : ByteArray} {p f : Value} {bs : List Value} {W : World} (h : RB b r p f bs W) : b < W.heap.size := by obtain ⟨v, h1, _⟩ := h; exact (Array.getElem?_eq_some_iff.1 h1).1
theorem cell_h {W : World} {b : Nat} {cs : Array Value} {t : TypeId} (h : W.heap[b]? = some (Obj.cells cs t (0, 0))) (j : Nat) : W.cell? ⟨b, j, none⟩ = cs[j]? := Lib.cell_of_heap h j
theorem rb_set {W : World} {b : Nat} {cs : Array Value} {t : TypeId} (h : W.heap[b]? = some (Obj.cells cs t (0, 0))) (j : Nat) (u : Value) (hj : j < cs.size) : (W.setCell ⟨b, j, none⟩ u).heap[b]? = some (Obj.cells (cs.setIfInBounds j u) t (0, 0)) := by
  obtain ⟨hlt, hk⟩ := Array.getElem?_eq_some_iff.1 h
  show (W.heap.modify b _)[b]? = _
  rw [Array.getElem?_eq_getElem (by rw [Array.size_modify]; exact hlt), Array.getElem_modify_self, hk]
  rfl
theorem grownBy_putCell (W : World) (b j : Nat) (v : Value) : W.grownBy (W.setCell ⟨b, j, none⟩ v) (some b) :=
  ⟨rfl, rfl, rfl, (KeepsWalks.setCell W _ v).size, fun k _ hk => Below.heap_setCell _ _ _ k (fun e => hk (by rw [e]))⟩
theorem info5 : (Tryd.prog.info? 5).map (fun i => (i.zero, i.size, i.bytes)) = some (some (.int .u8 0), 1, 1) := by kernel_rfl
theorem sizeB : (Tryd.prog.info? 64).map (·.size) = some 2 := by kernel_rfl
theorem liesB : liesAt Tryd.prog Tryd.prog.depth 82 (4 / Tryd.prog.cellsOf 82) 1 64 1 = true := by kernel_rfl
set_option maxHeartbeats 4000000 in
set_option maxRecDepth 100000 in
theorem copyCheck_in (b : Nat) (r : ByteArray) (p f : Value) (bs : List Value) (w : World) (h : RB b r p f bs w) (hp : okP b p) :
    Calls Tryd.prog 73 #[self b] w fun e w' => e = .returned (.tuple #[]) ∧ RB b r (self b) f bs w' ∧ Below b w w' := by
  obtain ⟨v, hb, ho, hn0⟩ := h
  unfold self
  rcases hp with rfl | rfl
  · have c1 : w.cell? ⟨b, 1, none⟩ = some (.pointer none) := by rw [cell_h hb]; rfl
    have f1 : w.frozen? ⟨b, 1, none⟩ = false := Lib.frozen_of_heap hb 1
    have hsh : w.shape? b = some (82, 4) := by simp [World.shape?, hb]
    obtain ⟨j, hj, hjs⟩ := Option.map_eq_some_iff.1 sizeB
    have hne := rb_ne hb ho
    go_enter Tryd.func73, Tryd.ntmps73
    go_wp2_with fail
    rw [Lib.run_to_unsafe w ⟨b, 1, none⟩ Tryd.underlying61 Tryd.underlying101 hj (by rw [hjs]; decide) hsh (by show (1 : Nat) < 4; omega)]
    simp only [Result.andThen]
    rw [Oper.upon_value]
    go_wp2_with fail
    rw [run_callFunc_extern Tryd.func82 (by kernel_rfl) (by kernel_rfl) (by kernel_rfl) (e := Extern.AbiNoEscape.same) (by kernel_rfl)]
    rw [Lib.run_noEscape]
    simp only [Result.andThen]
    rw [Oper.upon_value]
    go_wp2_with fail
    rw [Lib.run_from_unsafe w ⟨b, 1, none⟩ Tryd.underlying101 Tryd.underlying61 hj hsh liesB]
    simp only [Result.andThen]
    rw [Oper.upon_value]
    go_wp2_with fail
    go_end0
    refine ⟨rfl, ⟨v, ?_, ho.kept (grownBy_putCell w b 1 _) (.inr hne), hn0⟩, (Below.refl b w).setCell (p := ⟨b, 1, none⟩) (Nat.le_refl _) _⟩
    exact rb_set hb 1 _ (by simp)
  · have c1 : w.cell? ⟨b, 1, none⟩ = some (.pointer (some ⟨b, 1, none⟩)) := by rw [cell_h hb]; rfl
    go_enter Tryd.func73, Tryd.ntmps73
    obtain ⟨j, hj, hjs⟩ := Option.map_eq_some_iff.1 sizeB
    go_wp2_with fail
    rw [Lib.run_neq_ptr_same w _ Tryd.underlying61 hj]
    go_wp2_with fail
    go_end0
    exact ⟨rfl, ⟨v, hb, ho, hn0⟩, Below.refl _ _⟩
set_option maxHeartbeats 4000000 in
set_option maxRecDepth 100000 in
theorem writeByte_in (b : Nat) (r : ByteArray) (p f : Value) (bs : List Value) (c : Int) (w : World) (h : RB b r p f bs w) (hp : okP b p) (hlen : bs.length + 1 ≤ 140737488355328) :
    Calls Tryd.prog 69 #[self b, .int .u8 c] w fun e w' => e = .returned .nilIface ∧ RB b r (self b) f (bs ++ [.int .u8 c]) w' ∧ Below b w w' := by
  obtain ⟨i0, hi, hz0, hz1, hz2⟩ := info_parts info5
  have hcc := copyCheck_in b r p f bs w h hp
  have hlt0 := rb_lt h
  clear h hp
  unfold self at hcc ⊢
  go_enter Tryd.func69, Tryd.ntmps69
  go_wp2_with fail
  refine hcc.mono ?_
  rintro e w1 ⟨rfl, ⟨v, hb, ho, hn0⟩, hb1⟩
  have hlt := Nat.lt_of_lt_of_le hlt0 hb1.size
  have hne := rb_ne hb ho
  have c2 : w1.cell? ⟨b, 2, none⟩ = some v := by rw [cell_h hb]; rfl
  go_wp2_with (at_builtin; refine wpList_append_own _ rfl _ _ 62 rfl b 5 i0 (.int .u8 0) 1 1 Tryd.underlying62 hi hz0 hz1 hz2 rfl (by decide) _ _ _ rfl (ho.alloc _) ⟨w1.heap.size, 0, none⟩ 1 1 [.int .u8 c] rfl rfl ?c1 ?c2 ?c3 ?c4 ?c5 ?_)
  case c1 => exact cell_one_new _ _ _
  case c2 => intro u hu; simp at hu; subst hu; rfl
  case c3 => unfold maxLen; omega
  case c4 => omega
  case c5 => simp; omega
  intro v' w2 hown' hgrow _
  have hb2 : w2.heap[b]? = some (Obj.cells #[.string r, .pointer (some ⟨b, 1, none⟩), v, f] 82 (0, 0)) := by
    rw [hgrow.block b (by simp; omega) (fun e => hne e.symm), Lib.alloc_old w1 _ b hlt]
    exact hb
  have d2 : w2.cell? ⟨b, 2, none⟩ = some v := by rw [cell_h hb2]; rfl
  have f2 : w2.frozen? ⟨b, 2, none⟩ = false := Lib.frozen_of_heap hb2 2
  obtain ⟨g, cap, rfl⟩ := ownsRow_succ hown'
  have hne2 := rb_ne hb2 hown'
  have hB2 : Below b w w2 := (hb1.alloc (Nat.le_of_lt hlt) _).grown hgrow (by simp; omega) (fun k hk => ownsRow_ge ho k hk)
  clear hcc hb1 hgrow c2
  go_wp2_with fail
  go_ret
  refine ⟨rfl, ⟨_, rb_set hb2 2 _ (by simp), ?_, fun e => absurd e (by simp)⟩, hB2.setCell (p := ⟨b, 2, none⟩) (Nat.le_refl _) _⟩
  have := hown'.kept (grownBy_putCell w2 b 2 (.slice (some ⟨g, 0, none⟩) (bs.length + 1) cap)) (.inr hne2)
  simpa using this
set_option maxHeartbeats 4000000 in
set_option maxRecDepth 100000 in
theorem writeString_in (b : Nat) (r : ByteArray) (p f : Value) (bs : List Value) (s : ByteArray) (w : World) (h : RB b r p f bs w) (hp : okP b p) (hlen : bs.length + s.size ≤ 140737488355328) :
    Calls Tryd.prog 59 #[self b, .string s] w fun e w' => e = .returned (.tuple #[.int .i64 s.size, .nilIface]) ∧ RB b r (self b) f (bs ++ Lib.strCells s) w' ∧ Below b w w' := by
  obtain ⟨i0, hi, hz0, hz1, hz2⟩ := info_parts info5
  have hcc := copyCheck_in b r p f bs w h hp
  have hlt0 := rb_lt h
  clear h hp
  unfold self at hcc ⊢
  go_enter Tryd.func59, Tryd.ntmps59
  go_wp2_with fail
  refine hcc.mono ?_
  rintro e w1 ⟨rfl, ⟨v, hb, ho, hn0⟩, hb1⟩
  have hlt := Nat.lt_of_lt_of_le hlt0 hb1.size
  have hne := rb_ne hb ho
  have c2 : w1.cell? ⟨b, 2, none⟩ = some v := by rw [cell_h hb]; rfl
  go_wp2_with (at_builtin; refine Lib.wpList_append_own_string _ rfl _ _ 62 9 rfl b 5 i0 Tryd.underlying62 Tryd.underlying9 hi hz0 hz1 hz2 _ _ _ rfl ho s rfl ?c3 ?c4 ?c5 ?_)
  case c3 => unfold maxLen; omega
  case c4 => omega
  case c5 => omega
  intro v' w2 hown' hgrow hnil
  have HN := Aside0.mk hnil
  clear hnil
  have hb2 : w2.heap[b]? = some (Obj.cells #[.string r, .pointer (some ⟨b, 1, none⟩), v, f] 82 (0, 0)) := by
    rw [hgrow.block b hlt (fun e => hne e.symm)]
    exact hb
  have d2 : w2.cell? ⟨b, 2, none⟩ = some v := by rw [cell_h hb2]; rfl
  have f2 : w2.frozen? ⟨b, 2, none⟩ = false := Lib.frozen_of_heap hb2 2
  obtain ⟨ao, n', cap, rfl⟩ : ∃ ao n' cap, v' = .slice ao n' cap := by
    rcases hown'.2 with ⟨hv, _⟩ | ⟨g, cap, cur, hv, _⟩
    · exact ⟨_, _, _, hv⟩
    · exact ⟨_, _, _, hv⟩
  have hne2 := rb_ne hb2 hown'
  have hB2 : Below b w w2 := hb1.grown hgrow (Nat.le_of_lt hlt) (fun k hk => ownsRow_ge ho k hk)
  clear hcc hb1 hgrow c2
  go_wp2_with fail
  go_ret2
  refine ⟨rfl, ⟨_, rb_set hb2 2 _ (by simp), ?_, fun e => ?_⟩, hB2.setCell (p := ⟨b, 2, none⟩) (Nat.le_refl _) _⟩
  · have := hown'.kept (grownBy_putCell w2 b 2 (.slice ao n' cap)) (.inr hne2)
    simpa [Lib.strCells_length] using this
  · obtain ⟨e1, e2⟩ := List.append_eq_nil_iff.1 e
    refine HN.out.2 ⟨hn0 e1, ?_⟩
    exact ext_list (List.map_eq_nil_iff.1 e2)
theorem lst_ne {l : List UInt8} (h : l ≠ []) : l.length ≠ 0 := fun e => h (List.length_eq_zero_iff.1 e)
theorem cellsByte : Tryd.prog.cellsOf 5 = 1 := by kernel_rfl
set_option maxHeartbeats 4000000 in
set_option maxRecDepth 100000 in
theorem string_in (b : Nat) (r : ByteArray) (p f : Value) (l : List UInt8) (w : World) (h : RB b r p f (Lib.byteCells l) w) (h0 : l ≠ []) :
    Calls Tryd.prog 60 #[self b] w fun e w' => e = .returned (.string (ba l)) ∧ Below b w w' := by
  obtain ⟨v, hb, ho, _⟩ := h
  rw [Lib.byteCells_length] at ho
  have hl0 := lst_ne h0
  obtain ⟨g, cap, cur, rfl, hbg, hg, hnc, hcm, hcs, htake⟩ : ∃ g cap cur, v = .slice (some ⟨g, 0, none⟩) l.length cap ∧ b ≤ g ∧ w.heap[g]? = some (.cells cur 5 (0, 0)) ∧ l.length ≤ cap ∧ cap ≤ maxLen ∧ cur.size = cap * 1 ∧ cur.toList.take (l.length * 1) = Lib.byteCells l := by
    rcases ho.2 with ⟨_, hz⟩ | ⟨g, cap, cur, hv, r⟩
    · exact absurd hz hl0
    · exact ⟨g, cap, cur, hv, r⟩
  have c1 : w.drew.cell? ⟨b, 2, none⟩ = some (.slice (some ⟨g, 0, none⟩) l.length cap) := by
    have : w.drew.heap[b]? = some (Obj.cells #[.string r, p, .slice (some ⟨g, 0, none⟩) l.length cap, f] 82 (0, 0)) := hb
    rw [cell_h this]; rfl
  have hSD : (Builtin.unsafeSliceData_ #[62] 94 #[.slice (some ⟨g, 0, none⟩) l.length cap]).run Tryd.prog w.drew = .ok (.pointer (some ⟨g, 0, none⟩)) w.drew :=
    Lib.run_unsafeSliceData_row _ _ _ _ _ _ (by omega)
  have hUS : (Builtin.unsafeString_ #[94, 3] 9 #[.pointer (some ⟨g, 0, none⟩), .int .i64 l.length]).run Tryd.prog w.drew = .ok (.string ⟨l.toArray⟩) (w.drew.freeze ⟨g, 0, none⟩ l.length) := by
    refine Lib.run_unsafeString_row w.drew 94 3 9 5 Tryd.underlying94 cellsByte g cur.size (by have hg' : w.drew.heap[g]? = some (.cells cur 5 (0, 0)) := hg; simp [World.shape?, hg']) l h0 (by omega) (by unfold maxLen at hcm; omega) ?_
    intro j x hx
    exact ho.cells (g := g) rfl j (.int .u8 x.toNat) (by simp [Lib.byteCells, hx])
  unfold self
  go_enter Tryd.func60, Tryd.ntmps60
  go_wp2_with fail
  go_region
  all_goals (go_wp2; go_ret; exact ⟨rfl, Lib.below_freeze (Below.drew (Below.refl b w)) (p := ⟨g, 0, none⟩) hbg _⟩)
set_option maxHeartbeats 4000000 in
set_option maxRecDepth 100000 in
theorem string_none (b : Nat) (r : ByteArray) (p f : Value) (w : World) (h : RB b r p f [] w) :
    Calls Tryd.prog 60 #[self b] w fun e w' => e = .returned (.string (ba [])) ∧ Below b w w' := by
  obtain ⟨v, hb, ho, hn0⟩ := h
  obtain rfl := hn0 rfl
  have c1 : w.drew.cell? ⟨b, 2, none⟩ = some (.slice none 0 0) := by
    have : w.drew.heap[b]? = some (Obj.cells #[.string r, p, .slice none 0 0, f] 82 (0, 0)) := hb
    rw [cell_h this]; rfl
  have hSD : (Builtin.unsafeSliceData_ #[62] 94 #[.slice none 0 0]).run Tryd.prog w.drew = .ok (.pointer none) w.drew := rfl
  have hUS : (Builtin.unsafeString_ #[94, 3] 9 #[.pointer none, .int .i64 0]).run Tryd.prog w.drew = .ok (.string .empty) w.drew := Lib.run_unsafeString_none _ _ _ _ _
  unfold self
  go_enter Tryd.func60, Tryd.ntmps60
  go_wp2_with fail
  go_region
  all_goals (go_wp2; go_ret; exact ⟨rfl, Below.drew (Below.refl b w)⟩)
theorem string_any (b : Nat) (r : ByteArray) (p f : Value) (l : List UInt8) (w : World) (h : RB b r p f (Lib.byteCells l) w) :
    Calls Tryd.prog 60 #[self b] w fun e w' => e = .returned (.string (ba l)) ∧ Below b w w' := by
  by_cases h0 : l = []
  · subst h0
    exact string_none b r p f w h
  · exact string_in b r p f l w h h0
end Go.Proofs.YticpobgkbapdmaaDoor.EscA
