/- What a row's readings say of a value and of an op with two values; the walks as the rows take them. -/
import Derived.Test.YthilcidoacgdfaaGreatDoorZcCmpI
import Derived.Test.YthilcidoacgdfaaGreatDoorZcCmpJ
import Derived.ChangeArms
import Derived.WideShapes
import Derived.Lib.SmallJoins
namespace Go.Proofs.YthilcidoacgdfaaGreatDoor.CharB
end Go.Proofs.YthilcidoacgdfaaGreatDoor.CharB
namespace Go.Proofs.YthilcidoacgdfaaGreatDoor.CharF
end Go.Proofs.YthilcidoacgdfaaGreatDoor.CharF
namespace Go.Proofs.YthilcidoacgdfaaGreatDoor.CmpH
end Go.Proofs.YthilcidoacgdfaaGreatDoor.CmpH
namespace Go.Proofs.YthilcidoacgdfaaGreatDoor.CmpI
end Go.Proofs.YthilcidoacgdfaaGreatDoor.CmpI
namespace Go.Proofs.YthilcidoacgdfaaGreatDoor.CmpJ
end Go.Proofs.YthilcidoacgdfaaGreatDoor.CmpJ
namespace Go.Proofs.YthilcidoacgdfaaGreatDoor.DecA
end Go.Proofs.YthilcidoacgdfaaGreatDoor.DecA
namespace Go.Proofs.YthilcidoacgdfaaGreatDoor.DecE
end Go.Proofs.YthilcidoacgdfaaGreatDoor.DecE
namespace Go.Proofs.YthilcidoacgdfaaGreatDoor.FigA
end Go.Proofs.YthilcidoacgdfaaGreatDoor.FigA
namespace Go.Proofs.YthilcidoacgdfaaGreatDoor.FigD
end Go.Proofs.YthilcidoacgdfaaGreatDoor.FigD
namespace Go.Proofs.YthilcidoacgdfaaGreatDoor.FigG
end Go.Proofs.YthilcidoacgdfaaGreatDoor.FigG
namespace Go.Proofs.YthilcidoacgdfaaGreatDoor.FigH
end Go.Proofs.YthilcidoacgdfaaGreatDoor.FigH
namespace Go.Proofs.YthilcidoacgdfaaGreatDoor.FigI
end Go.Proofs.YthilcidoacgdfaaGreatDoor.FigI
namespace Go.Proofs.YthilcidoacgdfaaGreatDoor.SpanA
end Go.Proofs.YthilcidoacgdfaaGreatDoor.SpanA
namespace Go.Proofs.YthilcidoacgdfaaGreatDoor.ValD
end Go.Proofs.YthilcidoacgdfaaGreatDoor.ValD
namespace Go.Proofs.YthilcidoacgdfaaGreatDoorW.PrintLast
end Go.Proofs.YthilcidoacgdfaaGreatDoorW.PrintLast
namespace Go.Proofs.YthilcidoacgdfaaGreatDoorW.PrintMore
end Go.Proofs.YthilcidoacgdfaaGreatDoorW.PrintMore
namespace Go.Proofs.YthilcidoacgdfaaGreatDoorW.PrintWords
end Go.Proofs.YthilcidoacgdfaaGreatDoorW.PrintWords
namespace Go.Proofs.YthilcidoacgdfaaGreatDoor.CmpK
open Go.RowKit Go.Shelf Go.ChangeShapes Go.WideShapes Go.Proofs.YthilcidoacgdfaaGreatDoorW.PrintWords Go.Proofs.YthilcidoacgdfaaGreatDoorW.PrintLast Go.Proofs.YthilcidoacgdfaaGreatDoorW.PrintMore Go.Proofs.YthilcidoacgdfaaGreatDoor.CharB Go.Proofs.YthilcidoacgdfaaGreatDoor.CharF Go.Proofs.YthilcidoacgdfaaGreatDoor.SpanA Go.Proofs.YthilcidoacgdfaaGreatDoor.DecA Go.Proofs.YthilcidoacgdfaaGreatDoor.DecE Go.Proofs.YthilcidoacgdfaaGreatDoor.FigA Go.Proofs.YthilcidoacgdfaaGreatDoor.FigD Go.Proofs.YthilcidoacgdfaaGreatDoor.FigG Go.Proofs.YthilcidoacgdfaaGreatDoor.FigH Go.Proofs.YthilcidoacgdfaaGreatDoor.FigI Go.Proofs.YthilcidoacgdfaaGreatDoor.ValD Go.Proofs.YthilcidoacgdfaaGreatDoor.CmpH Go.Proofs.YthilcidoacgdfaaGreatDoor.CmpI Go.Proofs.YthilcidoacgdfaaGreatDoor.CmpJ
set_option linter.unusedVariables false
set_option linter.unusedSimpArgs false
theorem some_at {α : Type} {xs : List α} {n i : Nat} (h : xs.length = n) (hi : i < n) : ∃ y, xs[i]? = some y := ⟨xs[i]'(by omega), List.getElem?_eq_getElem (by omega)⟩
section
variable {H : Type} {enc : TypeId × Value → H} {w : World} {base : Nat} {sp : Nat → Bool} {held : Bool}
theorem at_field {f : Field} {n tt k : Nat} {cs ds : List Value} {y : DataW H × List MemPlace} (h : DataW.trod enc Tryz.prog w base sp held n f.type ((cs.drop f.offset).take (Tryz.prog.cellsOf f.type)) = some y) (ht : f.type = tt) (hk : Tryz.prog.cellsOf tt = k) (hd : (cs.drop f.offset).take k = ds) : DataW.trod enc Tryz.prog w base sp held n tt ds = some y := by
  subst ht
  rw [hk, hd] at h
  exact h
set_option maxRecDepth 100000 in
theorem open_dec {fuel : Nat} {cs : List Value} {x : DataW H × List MemPlace} (h : DataW.trod enc Tryz.prog w base sp held fuel 32 cs = some x) : ∃ t v : Int, cs = [.int .i64 t, .int .i64 v] ∧ (Lit.int .i64 v).wf = true := by
  obtain ⟨xs, n, _, _, hl, hx, hg⟩ := DataW.trod_struct Tryz.underlying32 h
  match cs, hl.trans (show Tryz.prog.cellsOf 32 = 2 by kernel_rfl) with
  | [c0, c1], _ =>
    obtain ⟨y0, e0⟩ := some_at hx (i := 0) (by decide)
    obtain ⟨y1, e1⟩ := some_at hx (i := 1) (by decide)
    have g0 : DataW.trod enc Tryz.prog w base sp held n 3 [c0] = some y0 := at_field (k := 1) ((hg 0 _ rfl).trans e0) rfl (by kernel_rfl) rfl
    have g1 : DataW.trod enc Tryz.prog w base sp held n 2 [c1] = some y1 := at_field (k := 1) ((hg 1 _ rfl).trans e1) rfl (by kernel_rfl) rfl
    obtain ⟨t, ht, _, _⟩ := DataW.trod_int (k := .i64) (by kernel_rfl) g0
    obtain ⟨v, hv, _, wv⟩ := DataW.trod_int (k := .i64) (by kernel_rfl) g1
    simp only [List.cons.injEq, and_true] at ht hv
    exact ⟨t, v, by rw [ht, hv], wv⟩
set_option maxRecDepth 100000 in
theorem open_val {fuel : Nat} {cs : List Value} {x : DataW H × List MemPlace} (h : DataW.trod enc Tryz.prog w base sp held fuel 35 cs = some x) : ∃ (T : Int) (A : Option Addr) (n k : Nat) (b : Bool) (t v : Int) (s : ByteArray), cs = [.int .i64 T, .slice A n k, .bool b, .int .i64 t, .int .i64 v, .string s] ∧ (Lit.int .i64 v).wf = true := by
  obtain ⟨xs, n, _, _, hl, hx, hg⟩ := DataW.trod_struct Tryz.underlying35 h
  match cs, hl.trans (show Tryz.prog.cellsOf 35 = 6 by kernel_rfl) with
  | [c0, c1, c2, c3, c4, c5], _ =>
    obtain ⟨y0, e0⟩ := some_at hx (i := 0) (by decide)
    obtain ⟨y1, e1⟩ := some_at hx (i := 1) (by decide)
    obtain ⟨y2, e2⟩ := some_at hx (i := 2) (by decide)
    obtain ⟨y3, e3⟩ := some_at hx (i := 3) (by decide)
    obtain ⟨y4, e4⟩ := some_at hx (i := 4) (by decide)
    have g0 : DataW.trod enc Tryz.prog w base sp held n 3 [c0] = some y0 := at_field (k := 1) ((hg 0 _ rfl).trans e0) rfl (by kernel_rfl) rfl
    have g1 : DataW.trod enc Tryz.prog w base sp held n 33 [c1] = some y1 := at_field (k := 1) ((hg 1 _ rfl).trans e1) rfl (by kernel_rfl) rfl
    have g2 : DataW.trod enc Tryz.prog w base sp held n 4 [c2] = some y2 := at_field (k := 1) ((hg 2 _ rfl).trans e2) rfl (by kernel_rfl) rfl
    have g3 : DataW.trod enc Tryz.prog w base sp held n 32 [c3, c4] = some y3 := at_field (k := 2) ((hg 3 _ rfl).trans e3) rfl (by kernel_rfl) rfl
    have g4 : DataW.trod enc Tryz.prog w base sp held n 9 [c5] = some y4 := at_field (k := 1) ((hg 4 _ rfl).trans e4) rfl (by kernel_rfl) rfl
    obtain ⟨T, hT, _, _⟩ := DataW.trod_int (k := .i64) (by kernel_rfl) g0
    obtain ⟨b, hb, _⟩ := DataW.trod_bool (by kernel_rfl) g2
    obtain ⟨s, hs, _, _⟩ := DataW.trod_string (by kernel_rfl) g4
    obtain ⟨t, v, hd, wv⟩ := open_dec g3
    have hsl : ∃ A n k, [c1] = [Value.slice A n k] := by
      rcases DataW.trod_slice (e := 3) (by kernel_rfl) g1 with ⟨h1, _⟩ | ⟨a, len, cap, _, _, _, _, h1, _⟩
      · exact ⟨none, 0, 0, h1⟩
      · exact ⟨some a, len, cap, h1⟩
    obtain ⟨A, m, k, h1⟩ := hsl
    simp only [List.cons.injEq, and_true] at hT hb hs hd h1
    exact ⟨T, A, m, k, b, t, v, s, by rw [hT, h1, hb, hd.1, hd.2, hs], wv⟩
set_option maxRecDepth 100000 in
theorem open_three {fuel : Nat} {cs : List Value} {x : DataW H × List MemPlace} (h : DataW.trod enc Tryz.prog w base sp held fuel 45 cs = some x) : ∃ (op T1 : Int) (A1 : Option Addr) (n1 k1 : Nat) (b1 : Bool) (t1 v1 : Int) (s1 : ByteArray) (T2 : Int) (A2 : Option Addr) (n2 k2 : Nat) (b2 : Bool) (t2 v2 : Int) (s2 : ByteArray), cs = [.int .i64 op, .int .i64 T1, .slice A1 n1 k1, .bool b1, .int .i64 t1, .int .i64 v1, .string s1, .int .i64 T2, .slice A2 n2 k2, .bool b2, .int .i64 t2, .int .i64 v2, .string s2] ∧ (Lit.int .i64 v1).wf = true ∧ (Lit.int .i64 v2).wf = true := by
  obtain ⟨xs, n, _, _, hl, hx, hg⟩ := DataW.trod_struct Tryz.underlying45 h
  match cs, hl.trans (show Tryz.prog.cellsOf 45 = 13 by kernel_rfl) with
  | [c0, c1, c2, c3, c4, c5, c6, c7, c8, c9, c10, c11, c12], _ =>
    obtain ⟨y0, e0⟩ := some_at hx (i := 0) (by decide)
    obtain ⟨y1, e1⟩ := some_at hx (i := 1) (by decide)
    obtain ⟨y2, e2⟩ := some_at hx (i := 2) (by decide)
    have g0 : DataW.trod enc Tryz.prog w base sp held n 3 [c0] = some y0 := at_field (k := 1) ((hg 0 _ rfl).trans e0) rfl (by kernel_rfl) rfl
    have g1 : DataW.trod enc Tryz.prog w base sp held n 35 [c1, c2, c3, c4, c5, c6] = some y1 := at_field (k := 6) ((hg 1 _ rfl).trans e1) rfl (by kernel_rfl) rfl
    have g2 : DataW.trod enc Tryz.prog w base sp held n 35 [c7, c8, c9, c10, c11, c12] = some y2 := at_field (k := 6) ((hg 2 _ rfl).trans e2) rfl (by kernel_rfl) rfl
    obtain ⟨op, ho, _, _⟩ := DataW.trod_int (k := .i64) (by kernel_rfl) g0
    obtain ⟨T1, A1, n1, k1, b1, t1, v1, s1, h1, w1⟩ := open_val g1
    obtain ⟨T2, A2, n2, k2, b2, t2, v2, s2, h2, w2⟩ := open_val g2
    refine ⟨op, T1, A1, n1, k1, b1, t1, v1, s1, T2, A2, n2, k2, b2, t2, v2, s2, ?_, w1, w2⟩
    simp only [List.cons.injEq, and_true] at ho h1 h2
    rw [ho, h1.1, h1.2.1, h1.2.2.1, h1.2.2.2.1, h1.2.2.2.2.1, h1.2.2.2.2.2, h2.1, h2.2.1, h2.2.2.1, h2.2.2.2.1, h2.2.2.2.2.1, h2.2.2.2.2.2]
set_option maxRecDepth 100000 in
theorem read_val {r : Reach} {b0 : Nat} {v : Value} {d : DataW H} {p : List MemPlace} (hv : Value.okWide Tryz.prog w r b0 35 v) (h : DataW.Trod enc Tryz.prog w base sp held 35 v d p) : ∃ (T : Int) (A : Option Addr) (n k : Nat) (b : Bool) (t u : Int) (s : ByteArray), v = .agg #[.int .i64 T, .slice A n k, .bool b, .int .i64 t, .int .i64 u, .string s] ∧ (Lit.int .i64 u).wf = true := by
  obtain ⟨cs, rfl, _⟩ := okWide_struct Tryz.underlying35 hv
  obtain ⟨fuel, hf⟩ := h
  obtain ⟨T, A, n, k, b, t, u, s, h1, h2⟩ := open_val hf
  refine ⟨T, A, n, k, b, t, u, s, ?_, h2⟩
  obtain ⟨l⟩ := cs
  exact congrArg (fun z => Value.agg ⟨z⟩) h1
set_option maxRecDepth 100000 in
theorem read_three {r : Reach} {b0 : Nat} {v : Value} {d : DataW H} {p : List MemPlace} (hv : Value.okWide Tryz.prog w r b0 45 v) (h : DataW.Trod enc Tryz.prog w base sp held 45 v d p) : ∃ (op T1 : Int) (A1 : Option Addr) (n1 k1 : Nat) (b1 : Bool) (t1 v1 : Int) (s1 : ByteArray) (T2 : Int) (A2 : Option Addr) (n2 k2 : Nat) (b2 : Bool) (t2 v2 : Int) (s2 : ByteArray), v = .agg #[.int .i64 op, .int .i64 T1, .slice A1 n1 k1, .bool b1, .int .i64 t1, .int .i64 v1, .string s1, .int .i64 T2, .slice A2 n2 k2, .bool b2, .int .i64 t2, .int .i64 v2, .string s2] ∧ (Lit.int .i64 v1).wf = true ∧ (Lit.int .i64 v2).wf = true := by
  obtain ⟨cs, rfl, _⟩ := okWide_struct Tryz.underlying45 hv
  obtain ⟨fuel, hf⟩ := h
  obtain ⟨op, T1, A1, n1, k1, b1, t1, v1, s1, T2, A2, n2, k2, b2, t2, v2, s2, h1, h2⟩ := open_three hf
  refine ⟨op, T1, A1, n1, k1, b1, t1, v1, s1, T2, A2, n2, k2, b2, t2, v2, s2, ?_, h2⟩
  obtain ⟨l⟩ := cs
  exact congrArg (fun z => Value.agg ⟨z⟩) h1
end
theorem selfW (T : Int) (A : Option Addr) (n k : Nat) (b : Bool) (t v : Int) (s : ByteArray) (w : World) (hT : Tabs w) (hv : (Lit.int .i64 v).wf = true) : Calls Tryz.prog 6 #[.agg #[.int .i64 T, .slice A n k, .bool b, .int .i64 t, .int .i64 v, .string s]] w fun e w' => e = .returned (.bool true) ∧ Below w.heap.size w w' := self_calls T A n k b t v s w hT (i64_of hv)
theorem notW (op T1 : Int) (A1 : Option Addr) (n1 k1 : Nat) (b1 : Bool) (t1 v1 : Int) (s1 : ByteArray) (T2 : Int) (A2 : Option Addr) (n2 k2 : Nat) (b2 : Bool) (t2 v2 : Int) (s2 : ByteArray) (w : World) (hT : Tabs w) (hv1 : (Lit.int .i64 v1).wf = true) (hv2 : (Lit.int .i64 v2).wf = true) : Calls Tryz.prog 5 #[.agg #[.int .i64 op, .int .i64 T1, .slice A1 n1 k1, .bool b1, .int .i64 t1, .int .i64 v1, .string s1, .int .i64 T2, .slice A2 n2 k2, .bool b2, .int .i64 t2, .int .i64 v2, .string s2]] w fun e w' => e = .returned (.bool true) ∧ Below w.heap.size w w' := not_calls op T1 A1 n1 k1 b1 t1 v1 s1 T2 A2 n2 k2 b2 t2 v2 s2 w hT (i64_of hv1) (i64_of hv2)
end Go.Proofs.YthilcidoacgdfaaGreatDoor.CmpK
