/- span.Map: what it computes, and that it writes nothing that was there. -/
import Derived.Maps.OwnIn
import Derived.Maps.AppendAt
import Derived.Maps.Views
import Derived.Maps.StringElems
import Derived.Test.YticpobgkbapdmaaDoorZjSpanB
namespace Go.Proofs.YticpobgkbapdmaaDoor.CharA
end Go.Proofs.YticpobgkbapdmaaDoor.CharA
namespace Go.Proofs.YticpobgkbapdmaaDoor.CharB
end Go.Proofs.YticpobgkbapdmaaDoor.CharB
namespace Go.Proofs.YticpobgkbapdmaaDoor.CharC
end Go.Proofs.YticpobgkbapdmaaDoor.CharC
namespace Go.Proofs.YticpobgkbapdmaaDoor.CharD
end Go.Proofs.YticpobgkbapdmaaDoor.CharD
namespace Go.Proofs.YticpobgkbapdmaaDoor.CharE
end Go.Proofs.YticpobgkbapdmaaDoor.CharE
namespace Go.Proofs.YticpobgkbapdmaaDoor.CharF
end Go.Proofs.YticpobgkbapdmaaDoor.CharF
namespace Go.Proofs.YticpobgkbapdmaaDoor.SpanA
end Go.Proofs.YticpobgkbapdmaaDoor.SpanA
namespace Go.Proofs.YticpobgkbapdmaaDoor.SpanB
end Go.Proofs.YticpobgkbapdmaaDoor.SpanB
namespace Go.Proofs.YticpobgkbapdmaaDoorW.PrintLast
end Go.Proofs.YticpobgkbapdmaaDoorW.PrintLast
namespace Go.Proofs.YticpobgkbapdmaaDoorW.PrintMore
end Go.Proofs.YticpobgkbapdmaaDoorW.PrintMore
namespace Go.Proofs.YticpobgkbapdmaaDoorW.PrintWords
end Go.Proofs.YticpobgkbapdmaaDoorW.PrintWords
namespace Go.Proofs.YticpobgkbapdmaaDoor.SpanC
open Go.RowKit Go.Shelf Go.Proofs.YticpobgkbapdmaaDoorW.PrintWords Go.Proofs.YticpobgkbapdmaaDoorW.PrintLast Go.Proofs.YticpobgkbapdmaaDoorW.PrintMore Go.Proofs.YticpobgkbapdmaaDoor.CharA Go.Proofs.YticpobgkbapdmaaDoor.CharB Go.Proofs.YticpobgkbapdmaaDoor.CharC Go.Proofs.YticpobgkbapdmaaDoor.CharD Go.Proofs.YticpobgkbapdmaaDoor.CharE Go.Proofs.YticpobgkbapdmaaDoor.CharF Go.Proofs.YticpobgkbapdmaaDoor.SpanA Go.Proofs.YticpobgkbapdmaaDoor.SpanB
set_option linter.unusedVariables false
set_option linter.unusedSimpArgs false
attribute [local go_sem] Oper.semAt_some
/-! ### worlds -/
/-- But for one block all that lay lies as it lay. -/
structure But (b : Nat) (w W : World) : Prop where
  os : W.os = w.os
  tape : W.tape = w.tape
  output : W.output = w.output
  size : w.heap.size ≤ W.heap.size
  block : ∀ k, k < w.heap.size → k ≠ b → W.heap[k]? = w.heap[k]?
theorem But.refl (b : Nat) (w : World) : But b w w := ⟨rfl, rfl, rfl, Nat.le_refl _, fun _ _ _ => rfl⟩
theorem But.grown {b : Nat} {w W W' : World} {row : Option Nat} (h : But b w W) (hg : W.grownBy W' row) (hr : ∀ k, row = some k → k = b ∨ w.heap.size ≤ k) : But b w W' :=
  ⟨hg.os.trans h.os, hg.tape.trans h.tape, hg.output.trans h.output, Nat.le_trans h.size hg.size, fun k hk hkb => (hg.block k (Nat.lt_of_lt_of_le hk h.size) (fun e => by rcases hr k e.symm with h1 | h1 <;> omega)).trans (h.block k hk hkb)⟩
theorem But.below {b B : Nat} {w W : World} (h : But b w W) (hb : B ≤ b) (hB : B ≤ w.heap.size) : Below B w W := ⟨h.os, h.tape, h.output, h.size, fun k hk => h.block k (by omega) (by omega)⟩
theorem But.own {β : Type} (b : Nat) (w : World) (C : Nat) (hC : w.heap.size ≤ C) : OwnFrom C (fun (_ : β) W => But b w W) := fun _ _ _ _ h hg hr => h.grown hg (fun k e => .inr (Nat.le_trans hC (hr k e).1))
theorem But.cell {b : Nat} {w W : World} (h : But b w W) {p : Addr} (h1 : p.block < w.heap.size) (h2 : p.block ≠ b) : W.cell? p = w.cell? p := World.cell?_of_block (w := w) (h.block _ h1 h2)
theorem But.lies {b : Nat} {w W : World} (h : But b w W) {Bs : Nat} (h1 : Bs < w.heap.size) (h2 : 2 ≤ w.heap.size) (h3 : Bs ≠ b) (h4 : 2 ≤ b) : Lies Bs w W := fun k hk => h.block k (by omega) (by omega)
theorem But.lies2 {b : Nat} {w W W' : World} (h : But b w W) (h' : But b w W') {Bs : Nat} (h1 : Bs < w.heap.size) (h2 : 2 ≤ w.heap.size) (h3 : Bs ≠ b) (h4 : 2 ≤ b) : Lies Bs W W' := fun k hk => (h'.block k (by omega) (by omega)).trans (h.block k (by omega) (by omega)).symm
theorem ownsRow_base {W : World} {base base' : Nat} {e : TypeId} {size : Nat} {v : Value} {k : Nat} {xs : List Value} (h : W.ownsRow base e size v k xs) (hb : base' ≤ base) : W.ownsRow base' e size v k xs := by
  refine ⟨h.1, ?_⟩
  rcases h.2 with hn | ⟨g, cap, cur, hv, hg, rest⟩
  · exact .inl hn
  · exact .inr ⟨g, cap, cur, hv, Nat.le_trans hb hg, rest⟩
theorem ownsRow_ge {W : World} {base : Nat} {e : TypeId} {size : Nat} {v : Value} {k : Nat} {xs : List Value} (h : W.ownsRow base e size v k xs) : ∀ j, v.ownBlock = some j → base ≤ j := by
  intro j hj
  rcases h.2 with ⟨rfl, _⟩ | ⟨g, cap, cur, rfl, hg, rest⟩
  · simp [Value.ownBlock] at hj
  · obtain rfl : g = j := by simpa [Value.ownBlock] using hj
    exact hg
/-! ### a map from texts to texts -/
/-- Block b is a map of at most n entries that reads as m. -/
def OM (w : World) (b n : Nat) (m : List UInt8 → Option (List UInt8)) : Prop :=
  ∃ D : DataW Unit, w.ownsMap Tryd.prog 9 (plainElem Tryd.prog 9) b n D ∧ ∀ s : List UInt8, Maps.has D (.string s) = (m s).isSome ∧ ∀ v, m s = some v → ∀ z, D.atKey (.string s) z = .lit (.string v)
theorem OM.kept {w w' : World} {row : Option Nat} {b n : Nat} {m : List UInt8 → Option (List UInt8)} (h : OM w b n m) (hg : w.grownBy w' row) (hne : some b ≠ row) : OM w' b n m := by
  obtain ⟨D, h1, h2⟩ := h
  exact ⟨D, h1.kept hg hne, h2⟩
theorem OM.mono {w : World} {b n n' : Nat} {m : List UInt8 → Option (List UInt8)} (h : OM w b n m) (hn : n ≤ n') : OM w b n' m := by
  obtain ⟨D, h1, h2⟩ := h
  exact ⟨D, h1.mono hn, h2⟩
theorem OM.made (w : World) : OM (w.alloc (.map #[] 0)) w.heap.size 0 (fun _ => none) := ⟨_, World.ownsMap_made w _ _ _, fun s => ⟨rfl, fun v h => by cases h⟩⟩
theorem keyOf_str (s : ByteArray) (hs : s.size ≤ maxLen) : keyOf Tryd.prog 9 (.string s) = some (.string s.data.toList) := Go.WideMaps.keyOf_string_mk Tryd.underlying9 hs
section
variable {F : Fence} {nF : Nat} {w : World} {ops : Array Oper} {rest : List Oper} {o : Oper} {a : Act} {Q : Exit → Act → World → Prop}
theorem look_ok (hg : o.guard = none) (mo x : Operand) (hop : o.op = Op.lookup 73 mo x true) (b n : Nat) (m : List UInt8 → Option (List UInt8)) (hm : a.eval mo = .map (some b)) (hown : OM w b n m) (s : ByteArray) (hs : s.size ≤ maxLen) (hx : a.eval x = .string s)
    (hK : wpListIn F nF Tryd.prog ops Q rest (a.put o.dst (.tuple #[.string (ba ((m s.data.toList).getD [])), .bool (m s.data.toList).isSome])) w) : wpListIn F nF Tryd.prog ops Q (o :: rest) a w := by
  obtain ⟨D, h1, h2⟩ := hown
  refine wpListIn_lookup_own_ok w hg mo x 73 hop 9 9 (Maps.string_keyed Tryd.underlying9) Tryd.underlying73 (plainElem Tryd.prog 9) (Tryd.zeroValue9 w) (.lit (.string [])) [] (plainElem_string Tryd.underlying9 (s := ⟨#[]⟩) (by show 0 ≤ _; omega)) b n D hm h1 _ _ hx (keyOf_str s hs) ?_
  intro v ps hv
  obtain ⟨c, rfl, hc, _⟩ := plainElem_string_inv Tryd.underlying9 hv
  obtain ⟨e1, e2⟩ := h2 s.data.toList
  rw [e1]
  have hc1 := congrArg Prod.fst hc
  simp only at hc1
  cases hm2 : m s.data.toList with
  | none =>
    rw [hm2] at e1
    rw [Maps.atKey_of_not_has e1] at hc1
    have : c.data.toList = [] := by simpa using hc1.symm
    have hcb : c = ba [] := by rw [← ba_data c, this]
    rw [hm2] at hK
    rw [hcb]
    exact hK
  | some u =>
    rw [e2 u hm2] at hc1
    have : u = c.data.toList := by simpa using hc1
    have hcb : c = ba u := by rw [this, ba_data]
    rw [hm2] at hK
    rw [hcb]
    exact hK
def putM (m : List UInt8 → Option (List UInt8)) (k v : List UInt8) : List UInt8 → Option (List UInt8) := fun s => if s = k then some v else m s
theorem store_m (hg : o.guard = none) (mo x v : Operand) (hop : o.op = Op.mapUpdate 73 mo x v) (b n : Nat) (m : List UInt8 → Option (List UInt8)) (hm : a.eval mo = .map (some b)) (hown : OM w b n m) (hn : n < maxLen) (s u : ByteArray) (hs : s.size ≤ maxLen) (hu : u.size ≤ maxLen) (hx : a.eval x = .string s) (hv : a.eval v = .string u)
    (hK : ∀ w', OM w' b (n + 1) (putM m s.data.toList u.data.toList) → w.grownBy w' (some b) → (∃ o', w.heap[b]? = some o' ∧ o'.isCells = false) → wpListIn F nF Tryd.prog ops Q rest (a.put o.dst undef) w') : wpListIn F nF Tryd.prog ops Q (o :: rest) a w := by
  obtain ⟨D, h1, h2⟩ := hown
  have hD := h1.isMap
  refine wpListIn_mapUpdate_own w hg mo x v 73 hop 9 9 (Maps.string_keyed Tryd.underlying9) Tryd.underlying73 (plainElem Tryd.prog 9) b n D hm h1 hn _ _ _ hx hv (keyOf_str s hs) _ _ (plainElem_string Tryd.underlying9 hu) ?_
  intro w' hown' hgrow
  obtain ⟨es, ck, hh, _⟩ := h1
  refine hK w' ⟨_, hown', fun t => ?_⟩ hgrow ⟨_, hh, rfl⟩
  have hkl : WideAt.IsKeyLit (.string s.data.toList) := trivial
  unfold putM
  by_cases ht : t = s.data.toList
  · subst ht
    rw [if_pos rfl]
    refine ⟨?_, fun v' hv' z => ?_⟩
    · rw [Maps.has_put_same hD hkl]; rfl
    · cases hv'
      rw [Maps.atKey_put_same hD hkl]
  · rw [if_neg ht]
    have hne : Lit.string t ≠ Lit.string s.data.toList := fun e => ht (by simpa using e)
    refine ⟨?_, fun v' hv' z => ?_⟩
    · rw [Maps.has_put_other hne]; exact (h2 t).1
    · rw [Maps.atKey_put_other hne]; exact (h2 t).2 v' hv' z
end
theorem store_run {w : World} {b n : Nat} {m : List UInt8 → Option (List UInt8)} (hown : OM w b n m) (hn : n < maxLen) (s u : ByteArray) (hs : s.size ≤ maxLen) (hu : u.size ≤ maxLen) :
    ∃ w', (Instr.mapUpdate 73 (.map (some b)) (.string s) (.string u)).run Tryd.prog w = .ok () w' ∧ OM w' b (n + 1) (putM m s.data.toList u.data.toList) ∧ w.grownBy w' (some b) := by
  obtain ⟨D, h1, h2⟩ := hown
  have hD := h1.isMap
  have hkl : WideAt.IsKeyLit (.string s.data.toList) := trivial
  obtain ⟨w', hr, hown', hgrow⟩ := h1.update (Maps.string_keyed Tryd.underlying9) Tryd.underlying73 hn (keyOf_str s hs) (plainElem_string Tryd.underlying9 hu)
  refine ⟨w', hr, ⟨_, hown', fun t => ?_⟩, hgrow⟩
  unfold putM
  by_cases ht : t = s.data.toList
  · subst ht
    rw [if_pos rfl]
    refine ⟨?_, fun v' hv' z => ?_⟩
    · rw [Maps.has_put_same hD hkl]; rfl
    · cases hv'
      rw [Maps.atKey_put_same hD hkl]
  · rw [if_neg ht]
    have hne : Lit.string t ≠ Lit.string s.data.toList := fun e => ht (by simpa using e)
    refine ⟨?_, fun v' hv' z => ?_⟩
    · rw [Maps.has_put_other hne]; exact (h2 t).1
    · rw [Maps.atKey_put_other hne]; exact (h2 t).2 v' hv' z
theorem OM.other {w : World} {b n : Nat} {m : List UInt8 → Option (List UInt8)} (h : OM w b n m) : ∃ o, w.heap[b]? = some o ∧ o.isCells = false := by
  obtain ⟨D, ⟨es, ck, hh, _⟩, _⟩ := h
  exact ⟨_, hh, rfl⟩
theorem OM.own {β : Type} (b : Nat) (n : β → Nat) (m : β → List UInt8 → Option (List UInt8)) (C : Nat) (hC : b < C) : OwnFrom C (fun (s : β) W => OM W b (n s) (m s)) := fun s W W' row h hg hr => h.kept hg (fun e => by have := (hr _ e.symm).1; omega)
theorem row_form {W : World} {base : Nat} {v : Value} {l : List ByteArray} (h : W.ownsRow base 9 1 v l.length (l.map Value.string)) :
    ∃ pa cap, v = .slice pa l.length cap ∧ ∀ k (hk : k < l.length), ∃ g, pa = some ⟨g, 0, none⟩ ∧ g < W.heap.size ∧ W.cell? ⟨g, k, none⟩ = some (.string l[k]) := by
  rcases h.2 with ⟨rfl, hn⟩ | ⟨g, cap, cur, rfl, hg, hgg, _⟩
  · exact ⟨none, 0, by rw [hn], fun k hk => by omega⟩
  · refine ⟨_, cap, rfl, fun k hk => ⟨g, rfl, (Array.getElem?_eq_some_iff.1 hgg).1, ?_⟩⟩
    rw [h.cellAt k (by omega)]
    simp [hk]
theorem putM_putM (m : List UInt8 → Option (List UInt8)) (k u v : List UInt8) : putM (putM m k u) k v = putM m k v := by
  funext s
  unfold putM
  by_cases h : s = k <;> simp [h]
/-! ### what Map gives -/
def orE : Option ByteArray → List UInt8
  | some p => p.data.toList
  | none => []
def becStep (pl : List ByteArray) (m : List UInt8 → Option (List UInt8)) (x : Nat × ByteArray) : List UInt8 → Option (List UInt8) :=
  if (m x.2.data.toList).isSome then m else putM m x.2.data.toList (orE pl[x.1]?)
def becL (pl : List ByteArray) (l : List (Nat × ByteArray)) : List UInt8 → Option (List UInt8) := l.foldl (becStep pl) (fun _ => none)
theorem becL_snoc (pl : List ByteArray) (l : List (Nat × ByteArray)) (x : Nat × ByteArray) : becL pl (l ++ [x]) = becStep pl (becL pl l) x := by simp [becL]
def outE (m : List UInt8 → Option (List UInt8)) (l : List (Nat × ByteArray)) : List UInt8 := l.flatMap fun x => (m x.2.data.toList).getD x.2.data.toList
theorem outE_snoc (m : List UInt8 → Option (List UInt8)) (l : List (Nat × ByteArray)) (x : Nat × ByteArray) : outE m (l ++ [x]) = outE m l ++ (m x.2.data.toList).getD x.2.data.toList := by simp [outE]
theorem becL_size (pl : List ByteArray) (hp : ∀ p ∈ pl, p.size ≤ 4) : ∀ (l : List (Nat × ByteArray)) (m0 : List UInt8 → Option (List UInt8)), (∀ s v, m0 s = some v → v.length ≤ 4) → ∀ s v, (l.foldl (becStep pl) m0) s = some v → v.length ≤ 4
  | [], m0, h, s, v, hv => h s v hv
  | x :: l, m0, h, s, v, hv => by
    refine becL_size pl hp l (becStep pl m0 x) (fun s v hv => ?_) s v hv
    unfold becStep at hv
    split at hv
    · exact h s v hv
    · unfold putM at hv
      split at hv
      · cases hv
        cases hx : pl[x.1]? with
        | none => simp [orE]
        | some p => have := hp p (List.mem_of_getElem? hx); rw [Lib.size_eq] at this; exact this
      · exact h s v hv
theorem outE_le (m : List UInt8 → Option (List UInt8)) (hm : ∀ s v, m s = some v → v.length ≤ 4) {s : ByteArray} (x : PieceOf s) : ((m x.1.2.data.toList).getD x.1.2.data.toList).length ≤ 4 := by
  cases hx : m x.1.2.data.toList with
  | none => have := (piece_facts x).2.2; rw [Lib.size_eq] at this; simpa using this
  | some v => simpa using hm _ _ hx
theorem outE_len (m : List UInt8 → Option (List UInt8)) (hm : ∀ s v, m s = some v → v.length ≤ 4) {s : ByteArray} (l : List (PieceOf s)) : (outE m (l.map (·.1))).length ≤ 4 * l.length := by
  induction l with
  | nil => simp [outE]
  | cons x l ih =>
    have h4 := outE_le m hm x
    unfold outE at ih ⊢
    rw [List.map_cons, List.flatMap_cons, List.length_append, List.length_cons]
    omega
def mapB (s f t : ByteArray) : List UInt8 := outE (becL (pieces t) (enumP (pieces f) 0)) (enumP (pieces s) 0)
theorem info9 : (Tryd.prog.info? 9).map (fun i => (i.zero, i.size, i.bytes)) = some (some (.string ⟨#[]⟩), 1, 16) := by kernel_rfl
theorem enumP_strs : ∀ (l : List ByteArray) (k : Nat), (enumP l k).map (fun x => Value.string x.2) = l.map Value.string
  | [], _ => rfl
  | p :: ps, k => by simp only [enumP, List.map_cons, enumP_strs ps (k + 1)]
abbrev strsOf {s : ByteArray} (pre : List (PieceOf s)) : List Value := pre.map fun x => Value.string x.1.2
set_option maxHeartbeats 16000000 in
set_option maxRecDepth 100000 in
theorem map_calls (s f t : ByteArray) (w : World) (hs : s.size < 1000000000) (hf : f.size < 1000000000) (ht : t.size < 1000000000) (hT : Tabs w) (h2 : 2 ≤ w.heap.size) :
    Calls Tryd.prog 38 #[.string s, .string f, .string t] w fun e w' => e = .returned (.string (ba (mapB s f t))) ∧ Below w.heap.size w w' := by
  refine (callsIn_wide (n := 3)).1 ?_
  refine callsIn_of_wp_marks Tryd.func38 rfl trivial ?_ rfl
  simp only [Tryd.ntmps38, List.size_toArray, List.length_cons, List.length_nil, Nat.reduceAdd, Nat.reduceSub, Array.replicate_succ, Array.replicate_zero, List.push_toArray, List.append_toArray, List.nil_append, List.cons_append]
  have hmm := @run_makeMap Tryd.prog
  obtain ⟨i0, hi, hz0, hz1, hz2⟩ := info_parts info9
  gi_wp2_with fail
  refine ⟨trivial, ?_⟩
  have bx0 := Boxed.new w 29 (.slice none 0 0)
  obtain ⟨w1, hw1⟩ : ∃ w1, w.alloc (.cells #[.slice none 0 0] 29) = w1 := ⟨_, rfl⟩
  have hsz1 : w1.heap.size = w.heap.size + 1 := by rw [← hw1]; simp
  have hB1 : Below w.heap.size w w1 := by rw [← hw1]; exact (Below.refl _ w).alloc (Nat.le_refl _) _
  rw [hw1] at bx0 ⊢
  refine (chars_in 2 t w1).mono ?_
  rintro e w2' ⟨rfl, rfl⟩
  have bt1 := Boxed.new w1 9 (.string t)
  have bx1 := bx0.alloc (.cells #[.string t] 9)
  obtain ⟨w2, hw2⟩ : ∃ w2, w1.alloc (.cells #[.string t] 9) = w2 := ⟨_, rfl⟩
  have hsz2 : w2.heap.size = w.heap.size + 2 := by rw [← hw2]; simp [hsz1]
  have hB2 : Below w.heap.size w w2 := by rw [← hw2]; exact hB1.alloc (by omega) _
  rw [hw2, hsz1] at bt1 ⊢
  rw [hw2] at bx1
  have hT2 : Tabs w2 := tabs_below hT hB2
  clear hw1 hw2 bx0 hB1 hT
  gi_wp2_with fail
  have plen := pcs_length
  refine wpIn_rangeFunc_ownG rfl (by omega) (gf := 71) (lb := #[.pointer (some ⟨w.heap.size + 1, 0, none⟩)]) rfl trivial (enters_of Tryd.func71 (by kernel_rfl) rfl)
    (chars_stops 2 (by omega) (w.heap.size + 1) t (by omega) w2 ((bt1).cell) (by omega) hT2) (fun h k => Kp.trans h k) (Kp.put (by omega) (by omega)) (Below.refl _ _) (fun _ => rfl)
    (fun pre W => ((∃ v, Boxed W w.heap.size 29 v ∧ W.ownsRow w2.heap.size 9 1 v pre.length (strsOf pre) ∧ True) ∧ pre.length ≤ (pieces t).length) ∧ But w.heap.size w2 W)
    (fun _ _ _ => False)
    (OwnFrom.and (OwnFrom.and (Own.from (holdsRow_own w2.heap.size w.heap.size 29 9 1 (fun pre : List (PieceOf t) => pre.length) (fun pre => strsOf pre) (fun _ _ => True)) _) (fun _ _ _ _ hs _ _ => hs)) (But.own _ _ _ (Nat.le_refl _)))
    (fun _ _ _ _ _ hs _ _ => hs)
    ⟨⟨⟨_, bx1, World.ownsRow_nil _ _ _ _, trivial⟩, by simp⟩, But.refl _ _⟩
    (fun x => { tmps := #[.string s, .string f, .string t, undef, undef, undef, .string ⟨#[]⟩, .pointer (some ⟨w.heap.size, 0, none⟩), undef, .string x.1.2, undef, undef, undef, undef, undef, undef, undef, undef, undef, undef, .string t, .func (.func 71) #[] #[.pointer (some ⟨w.heap.size + 1, 0, none⟩)], .int .i64 (x.1.1 : Int), .string x.1.2, undef, undef, undef, undef, undef, undef, undef, undef, undef, undef, undef, undef, undef, undef, undef, undef, undef, undef, undef, undef, undef, undef, undef, undef, undef, undef, undef, undef, undef, undef, undef, undef, undef, undef, undef, undef, undef, undef, undef, undef, undef, undef, undef], defers := [] }) ?assign ?body ?done ?stop
  case assign =>
    intro l x W K hK
    gi_wp2
    exact hK
  case body =>
    rintro l pre x W ⟨⟨⟨v, hv, hrow, _⟩, hpl⟩, hBW⟩ hlen
    have hc := hv.cell
    have hx := piece_facts x
    have hbt : Boxed W (w.heap.size + 1) 9 (.string t) := (hBW.block _ (by omega) (by omega)).trans bt1
    have hle2 : w2.heap.size ≤ W.heap.size := hBW.size
    clear bx1 bt1 hT2 hB2
    gi_wp2_with (gi_at_builtin; refine wpListIn_append_own _ rfl _ _ 29 rfl w2.heap.size 9 i0 (.string ⟨#[]⟩) 1 16 Tryd.underlying29 hi hz0 hz1 hz2 rfl (by decide) _ _ _ rfl (hrow.alloc _) ⟨W.heap.size, 0, none⟩ 1 1 [.string x.1.2] rfl rfl (cell_one_new _ _ _) (by simp [Value.oneCell']) (by unfold maxLen; omega) (by omega) (by simp; omega) ?_; intro v' w1' hown' hgrow _; obtain ⟨g', cap', rfl⟩ := ownsRow_succ hown'; have hv1 : Boxed w1' w.heap.size 29 v := (hv.alloc _).kept hgrow (hv.not_row (by decide) hrow); have hc1 := hv1.cell; have hf1 := hv1.frozen)
    obtain ⟨_, hv2, _, hko, _⟩ := hv.appended (by decide) (ownsRow_base hrow (show w.heap.size ≤ w2.heap.size by omega)) (by omega) (Nat.le_refl _) (ownsRow_base hown' (show w.heap.size ≤ w2.heap.size by omega)) hgrow
    have hBW' : But w.heap.size w2 (w1'.setCell ⟨w.heap.size, 0, none⟩ (.slice (some ⟨g', 0, none⟩) (pre.length + 1) cap')) :=
      ((hBW.grown (World.grownBy_alloc W _ none) (fun k e => by cases e)).grown hgrow (fun k e => .inr (ownsRow_ge hrow k e))).grown (grownBy_setCell' w1' w.heap.size _) (fun k e => by cases e; exact .inl rfl)
    refine ⟨hko.from _, ⟨hBW.lies2 hBW' (by omega) (by omega) (by omega) h2, KeepsIt.of (keeps_walks hko)⟩, ⟨⟨_, hv2, ?_, trivial⟩, by simp; omega⟩, hBW'⟩
    have := hown'.kept (grownBy_setCell' w1' w.heap.size (.slice (some ⟨g', 0, none⟩) (pre.length + 1) cap')) (.inr (hv1.not_row (by decide) hown').symm)
    simpa using this
  case done =>
    rintro D1 ys W3 hD1 hys ⟨⟨⟨v, hv, hrow, _⟩, hpl⟩, hBW⟩ hK1
    have hB3 : Below w.heap.size w W3 := hB2.trans (hBW.below (Nat.le_refl _) (by omega))
    have hT3 : Tabs W3 := tabs_l hT2 (hBW.lies (Bs := w.heap.size + 1) (by omega) (by omega) (by omega) h2)
    have hlen3 : ys.length = (pieces t).length := by have := congrArg List.length hys; rwa [List.length_map, enumP_length] at this
    have hrow3 : W3.ownsRow w2.heap.size 9 1 v (pieces t).length ((pieces t).map Value.string) := by
      rw [← hlen3]
      have : strsOf ys = (pieces t).map Value.string := by
        show ys.map _ = _
        rw [show (fun x : PieceOf t => Value.string x.1.2) = (fun x : Nat × ByteArray => Value.string x.2) ∘ (fun x : PieceOf t => x.1) from rfl, ← List.map_map, hys, enumP_strs]
      rw [← this]
      exact hrow
    obtain ⟨pa, cap, rfl, hcells⟩ := row_form hrow3
    clear hrow hys bx1 bt1 hT2 hB2 hBW hpl hrow3
    gi_wp2_with fail
    refine ⟨trivial, ?_⟩
    have om4 := OM.made W3
    have bb5 := Boxed.new (W3.alloc (.map #[] 0)) 73 (.map (some W3.heap.size))
    rw [World.size_alloc] at bb5
    obtain ⟨w5, hw5⟩ : ∃ w5, (W3.alloc (.map #[] 0)).alloc (.cells #[.map (some W3.heap.size)] 73) = w5 := ⟨_, rfl⟩
    have hg5 : W3.grownBy w5 none := by rw [← hw5]; exact (World.grownBy_alloc W3 _ none).trans (World.grownBy_alloc _ _ none)
    have hsz5 : w5.heap.size = W3.heap.size + 2 := by rw [← hw5]; simp
    have om5 : OM w5 W3.heap.size 0 (fun _ => none) := by rw [← hw5]; exact om4.kept (World.grownBy_alloc _ _ none) (by simp)
    rw [hw5] at bb5 ⊢
    refine (chars_in 2 f w5).mono ?_
    rintro e w6' ⟨rfl, rfl⟩
    have bf6 := Boxed.new w5 9 (.string f)
    obtain ⟨w6, hw6⟩ : ∃ w6, w5.alloc (.cells #[.string f] 9) = w6 := ⟨_, rfl⟩
    have hg56 : w5.grownBy w6 none := by rw [← hw6]; exact World.grownBy_alloc w5 _ none
    have hg6 : W3.grownBy w6 none := hg5.trans hg56
    have hsz6 : w6.heap.size = W3.heap.size + 3 := by rw [← hw6]; simp [hsz5]
    have om6 := om5.kept hg56 (by simp)
    have bb6 := bb5.kept hg56 (by simp)
    rw [hw6, hsz5] at bf6 ⊢
    have hB6 : Below w.heap.size w w6 := hB3.grown hg6 hB3.size (fun k e => by cases e)
    have hs3 : w.heap.size < W3.heap.size := hv.lt
    have hT6 : Tabs w6 := tabs_below hT3 ⟨hg6.os, hg6.tape, hg6.output, hg6.size, fun k hk => hg6.block k hk (by simp)⟩
    have hv6 := hv.kept hg6 (by simp)
    have hcells6 : ∀ k (hk : k < (pieces t).length), ∃ g, pa = some ⟨g, 0, none⟩ ∧ g < W3.heap.size ∧ w6.cell? ⟨g, k, none⟩ = some (.string (pieces t)[k]) := fun k hk => by
      obtain ⟨g, h1, h2, h3⟩ := hcells k hk
      exact ⟨g, h1, h2, (World.cell?_of_block (w := W3) (a := ⟨g, k, none⟩) (hg6.block g h2 (by simp))).trans h3⟩
    have hK6 : w6.heap[D1]? = some (.deferred (some [])) := (hg6.block D1 (Array.getElem?_eq_some_iff.1 hK1).1 (by simp)).trans hK1
    clear hw5 hw6 om4 om5 bb5 hg56 hg5 hg6 hT3 hB3 hv hK1 hsz5 hcells w5
    gi_wp2_with fail
    refine wpIn_rangeFunc_ownG rfl (by omega) (gf := 71) (lb := #[.pointer (some ⟨W3.heap.size + 2, 0, none⟩)]) rfl trivial (enters_of Tryd.func71 (by kernel_rfl) rfl)
      (chars_stops 2 (by omega) (W3.heap.size + 2) f (by omega) w6 (bf6.cell) (by omega) hT6) (fun h k => Kp.trans h k) (Kp.put (by omega) (by omega)) (Below.refl _ _) (fun _ => rfl)
      (fun pre W => (OM W W3.heap.size (2 * pre.length) (becL (pieces t) (pre.map (·.1))) ∧ pre.length ≤ (pieces f).length) ∧ But W3.heap.size w6 W)
      (fun _ _ _ => False)
      (OwnFrom.and (OwnFrom.and (OM.own _ _ _ _ (by omega)) (fun _ _ _ _ hs _ _ => hs)) (But.own _ _ _ (Nat.le_refl _)))
      (fun _ _ _ _ _ hs _ _ => hs)
      ⟨⟨om6, by simp⟩, But.refl _ _⟩
      (fun x => { tmps := #[.string s, .string f, .string t, undef, undef, undef, .string ⟨#[]⟩, .pointer (some ⟨w.heap.size, 0, none⟩), undef, undef, .pointer (some ⟨W3.heap.size + 1, 0, none⟩), .int .i64 (x.1.1 : Int), .string x.1.2, undef, undef, undef, undef, undef, undef, undef, .string t, .func (.func 71) #[] #[.pointer (some ⟨w.heap.size + 1, 0, none⟩)], undef, undef, undef, undef, undef, undef, .map (some W3.heap.size), .string f, .func (.func 71) #[] #[.pointer (some ⟨W3.heap.size + 2, 0, none⟩)], .int .i64 (x.1.1 : Int), .string x.1.2, undef, undef, undef, undef, undef, undef, undef, undef, undef, undef, undef, undef, undef, undef, undef, undef, undef, undef, undef, undef, undef, undef, undef, undef, undef, undef, undef, undef, undef, undef, undef, undef, undef, undef], defers := [] }) ?assign2 ?body2 ?done2 ?stop2
    case assign2 =>
      intro l x W K hK
      gi_wp2
      exact hK
    case body2 =>
      rintro l pre x W ⟨⟨hom, hpl⟩, hBW⟩ hlen
      have hx := piece_facts x
      have hmx : Tryd.prog.follows .mixedOrders = true := by kernel_rfl
      have hne0 : w.heap.size ≠ W3.heap.size := by omega
      have hcv : W.cell? ⟨w.heap.size, 0, none⟩ = some (.slice pa (pieces t).length cap) := (hBW.cell (p := ⟨w.heap.size, 0, none⟩) (by show w.heap.size < _; omega) hne0).trans hv6.cell
      have hcb : W.cell? ⟨W3.heap.size + 1, 0, none⟩ = some (.map (some W3.heap.size)) := (hBW.cell (p := ⟨W3.heap.size + 1, 0, none⟩) (by show W3.heap.size + 1 < _; omega) (by show W3.heap.size + 1 ≠ _; omega)).trans bb6.cell
      clear hv6 bb6 bf6 hT6 om6
      have ho := hom.other
      have fin : ∀ (w1 : World) (n : Nat), W.grownBy w1 (some W3.heap.size) → OM w1 W3.heap.size n (becStep (pieces t) (becL (pieces t) (pre.map (·.1))) x.1) → n ≤ 2 * pre.length + 2 →
          KeepsFrom w6.heap.size W w1 ∧ Kp (W3.heap.size + 2) W w1 ∧ (OM w1 W3.heap.size (2 * (pre ++ [x]).length) (becL (pieces t) ((pre ++ [x]).map (·.1))) ∧ (pre ++ [x]).length ≤ (pieces f).length) ∧ But W3.heap.size w6 w1 := by
        intro w1 n hg h1 hn
        have hb1 : But W3.heap.size w6 w1 := hBW.grown hg (fun k e => by cases e; exact .inl rfl)
        refine ⟨KeepsFrom.of_grownBy hg (fun j e => by cases e; omega), ⟨hBW.lies2 hb1 (by omega) (by omega) (by omega) (by omega), KeepsIt.grown hg (fun k e => by cases e; obtain ⟨D, ⟨es, ck, hh, _⟩, _⟩ := hom; exact ⟨_, hh, fun s p e => by cases e⟩)⟩, ⟨?_, by simp; omega⟩, hb1⟩
        rw [List.map_append, List.map_cons, List.map_nil, becL_snoc]
        exact h1.mono (by simp; omega)
      have hsz : ∀ p ∈ pieces t, p.size ≤ 4 := fun p hp => pcs_size t _ _ hp
      by_cases hsome : (becL (pieces t) (pre.map (·.1)) x.1.2.data.toList).isSome = true
      · have hst : becStep (pieces t) (becL (pieces t) (pre.map (·.1))) x.1 = becL (pieces t) (pre.map (·.1)) := by unfold becStep; rw [if_pos hsome]
        rw [hst] at fin
        clear hcells6
        gi_wp2_with (first
          | (gi_at_lookup; refine look_ok rfl _ _ rfl W3.heap.size (2 * pre.length) _ rfl hom x.1.2 (by unfold maxLen; omega) rfl ?_)
          | (gi_at_mapUpdate; refine store_m rfl _ _ _ rfl W3.heap.size (2 * pre.length) _ rfl hom (by unfold maxLen; omega) x.1.2 ⟨#[]⟩ (by unfold maxLen; omega) (by show 0 ≤ _; omega) rfl rfl ?_; intro w1 hom1 hgrow1 ho1; skip))
        have hfin := fin W (2 * pre.length) ⟨rfl, rfl, rfl, Nat.le_refl _, fun _ _ _ => rfl⟩ hom (by omega)
        first | exact hfin | (rw [hsz6] at hfin; exact hfin)
      · have hst : becStep (pieces t) (becL (pieces t) (pre.map (·.1))) x.1 = putM (becL (pieces t) (pre.map (·.1))) x.1.2.data.toList (orE (pieces t)[x.1.1]?) := by unfold becStep; rw [if_neg hsome]
        rw [hst] at fin
        clear hst
        by_cases hin : x.1.1 < (pieces t).length
        · obtain ⟨g, rfl, hg3, hgc⟩ := hcells6 _ hin
          have hgc1 : W.cell? ⟨g, x.1.1, none⟩ = some (.string (pieces t)[x.1.1]) := (hBW.cell (p := ⟨g, x.1.1, none⟩) (by show g < _; omega) (by show g ≠ _; omega)).trans hgc
          rw [List.getElem?_eq_getElem hin] at fin
          have hsz1 := hsz _ (List.getElem_mem hin)
          clear hcells6 hsz hgc
          gi_wp2_with (first
          | (gi_at_lookup; refine look_ok rfl _ _ rfl W3.heap.size (2 * pre.length) _ rfl hom x.1.2 (by unfold maxLen; omega) rfl ?_)
          | (gi_at_mapUpdate; refine store_m rfl _ _ _ rfl W3.heap.size (2 * pre.length) _ rfl hom (by unfold maxLen; omega) x.1.2 ⟨#[]⟩ (by unfold maxLen; omega) (by show 0 ≤ _; omega) rfl rfl ?_; intro w1 hom1 hgrow1 ho1; have hcv1 : w1.cell? ⟨w.heap.size, 0, none⟩ = some (.slice (some ⟨g, 0, none⟩) (pieces t).length cap) := cell_kept hcv hgrow1 (fun r e => by cases e; exact ho1); have hcb1 : w1.cell? ⟨W3.heap.size + 1, 0, none⟩ = some (.map (some W3.heap.size)) := cell_kept hcb hgrow1 (fun r e => by cases e; exact ho1); have hgc2 : w1.cell? ⟨g, x.1.1, none⟩ = some (.string (pieces t)[x.1.1]) := cell_kept hgc1 hgrow1 (fun r e => by cases e; exact ho1)))
          obtain ⟨w2', hrun, hom2, hgrow2⟩ := store_run (w := w1.drew) hom1 (by unfold maxLen; omega) x.1.2 (pieces t)[x.1.1] (by unfold maxLen; omega) (by unfold maxLen; omega)
          have hfin := fin w2' (2 * pre.length + 1 + 1) (hgrow1.trans (World.grownBy.trans (show w1.grownBy w1.drew (some W3.heap.size) from ⟨rfl, rfl, rfl, Nat.le_refl _, fun _ _ _ => rfl⟩) hgrow2)) (by rw [putM_putM] at hom2; exact hom2) (by omega)
          clear fin hom1 hgrow1 hom hBW hom2 hgrow2 hgc1 hcv hcb ho ho1
          gi_region_with_o fail
          all_goals exact hfin
        · rw [List.getElem?_eq_none (by omega)] at fin
          clear hcells6 hsz
          gi_wp2_with (first
          | (gi_at_lookup; refine look_ok rfl _ _ rfl W3.heap.size (2 * pre.length) _ rfl hom x.1.2 (by unfold maxLen; omega) rfl ?_)
          | (gi_at_mapUpdate; refine store_m rfl _ _ _ rfl W3.heap.size (2 * pre.length) _ rfl hom (by unfold maxLen; omega) x.1.2 ⟨#[]⟩ (by unfold maxLen; omega) (by show 0 ≤ _; omega) rfl rfl ?_; intro w1 hom1 hgrow1 ho1; have hcv1 : w1.cell? ⟨w.heap.size, 0, none⟩ = some (.slice pa (pieces t).length cap) := cell_kept hcv hgrow1 (fun r e => by cases e; exact ho1)))
          have hfin := fin w1 (2 * pre.length + 1) hgrow1 hom1 (by omega)
          first | exact hfin | (rw [hsz6] at hfin; exact hfin)
    case done2 =>
      rintro D2 ys2 W7 hD2 hys2 ⟨⟨hom7, hpl7⟩, hBW7⟩ hK2
      rw [hys2] at hom7
      have hB7 : Below w.heap.size w W7 := hB6.trans (hBW7.below (by omega) (by omega))
      have hT7 : Tabs W7 := tabs_l hT6 (hBW7.lies (Bs := W3.heap.size + 2) (by omega) (by omega) (by omega) (by omega))
      have hcb7 : W7.cell? ⟨W3.heap.size + 1, 0, none⟩ = some (.map (some W3.heap.size)) := (hBW7.cell (p := ⟨W3.heap.size + 1, 0, none⟩) (by show W3.heap.size + 1 < _; omega) (by show W3.heap.size + 1 ≠ _; omega)).trans bb6.cell
      have hK17 : W7.heap[D1]? = some (.deferred (some [])) := (hBW7.block D1 (Array.getElem?_eq_some_iff.1 hK6).1 (fun e => by subst e; obtain ⟨D, ⟨es, ck, hh, _⟩, _⟩ := om6; rw [hK6] at hh; cases hh)).trans hK6
      have hs67 := hBW7.size
      have hD27 := (Array.getElem?_eq_some_iff.1 hK2).1
      have hD17 := (Array.getElem?_eq_some_iff.1 hK17).1
      have hD16 := (Array.getElem?_eq_some_iff.1 hK6).1
      clear hv6 bb6 bf6 hT6 om6 hcells6 hpl7 hBW7 hB6 hK6 hys2
      gi_wp2_with fail
      refine ⟨trivial, ?_⟩
      have hb0 := Lib.fresh_isBuilder 64 5 W7
      obtain ⟨w8, hw8⟩ : ∃ w8, W7.alloc (.cells #[.pointer none, .slice none 0 0] 64) = w8 := ⟨_, rfl⟩
      have hsz8 : w8.heap.size = W7.heap.size + 1 := by rw [← hw8]; simp
      have hg8 : W7.grownBy w8 none := by rw [← hw8]; exact World.grownBy_alloc W7 _ none
      rw [hw8] at hb0 ⊢
      refine (chars_in 2 s w8).mono ?_
      rintro e w9' ⟨rfl, rfl⟩
      have bs9 := Boxed.new w8 9 (.string s)
      obtain ⟨w9, hw9⟩ : ∃ w9, w8.alloc (.cells #[.string s] 9) = w9 := ⟨_, rfl⟩
      have hg9 : W7.grownBy w9 none := by rw [← hw9]; exact hg8.trans (World.grownBy_alloc w8 _ none)
      have hsz9 : w9.heap.size = W7.heap.size + 2 := by rw [← hw9]; simp [hsz8]
      have hb9 : Lib.IsBuilderF 64 5 W7.heap.size W7.heap.size (Lib.byteCells []) w9 := by rw [← hw9]; exact (Lib.IsBuilderF.of hb0).alloc _
      rw [hw9, hsz8] at bs9 ⊢
      have hB79 : Below W7.heap.size W7 w9 := ⟨hg9.os, hg9.tape, hg9.output, hg9.size, fun k hk => hg9.block k hk (by simp)⟩
      have hT9 : Tabs w9 := tabs_below hT7 hB79
      clear hw8 hw9 hb0 hg8 hT7
      gi_wp2_with fail
      refine wpIn_rangeFunc_ownG rfl (by omega) (gf := 71) (lb := #[.pointer (some ⟨W7.heap.size + 1, 0, none⟩)]) rfl trivial (enters_of Tryd.func71 (by kernel_rfl) rfl)
        (chars_stops 2 (by omega) (W7.heap.size + 1) s (by omega) w9 (bs9.cell) (by omega) hT9) (fun h k => Kp.trans h k) (Kp.put (by omega) (by omega)) (Below.refl _ _) (fun _ => rfl)
        (fun pre W => (Lib.IsBuilderF 64 5 W7.heap.size W7.heap.size (Lib.byteCells (outE (becL (pieces t) (enumP (pieces f) 0)) (pre.map (·.1)))) W ∧ pre.length ≤ (pieces s).length ∧ Boxed W (W7.heap.size + 1) 9 (.string s)) ∧ Below W7.heap.size W7 W)
        (fun _ _ _ => False)
        (OwnFrom.and (OwnFrom.and (builder_own (fun pre : List (PieceOf s) => Lib.byteCells (outE (becL (pieces t) (enumP (pieces f) 0)) (pre.map (·.1)))) _) (OwnFrom.and (fun _ _ _ _ hs _ _ => hs) (cells_own _ _ _ _ _))) (ownFrom_below (Nat.le_refl _) (by omega)))
        (fun _ _ _ _ _ hs _ _ => hs)
        ⟨⟨hb9, by simp, bs9⟩, hB79⟩
        (fun x => { tmps := #[.string s, .string f, .string t, undef, undef, undef, .string ⟨#[]⟩, .pointer (some ⟨w.heap.size, 0, none⟩), undef, undef, .pointer (some ⟨W3.heap.size + 1, 0, none⟩), undef, undef, undef, undef, .pointer (some ⟨W7.heap.size, 0, none⟩), undef, .string x.1.2, undef, undef, .string t, .func (.func 71) #[] #[.pointer (some ⟨w.heap.size + 1, 0, none⟩)], undef, undef, undef, undef, undef, undef, .map (some W3.heap.size), .string f, .func (.func 71) #[] #[.pointer (some ⟨W3.heap.size + 2, 0, none⟩)], undef, undef, undef, undef, undef, undef, undef, undef, undef, undef, undef, undef, undef, undef, undef, undef, undef, undef, undef, undef, undef, .string s, .func (.func 71) #[] #[.pointer (some ⟨W7.heap.size + 1, 0, none⟩)], .int .i64 (x.1.1 : Int), .string x.1.2, undef, undef, undef, undef, undef, undef, undef, undef, undef, undef, undef], defers := [] }) ?assign3 ?body3 ?done3 ?stop3
      case assign3 =>
        intro l x W K hK
        gi_wp2
        exact hK
      case body3 =>
        rintro l pre x W ⟨⟨hI, hpl, hbk⟩, hBW⟩ hlen
        have hx := piece_facts x
        have hsn := outE_snoc (becL (pieces t) (enumP (pieces f) 0)) (pre.map (·.1)) x.1
        have hcb : W.cell? ⟨W3.heap.size + 1, 0, none⟩ = some (.map (some W3.heap.size)) := pw_cell_below hBW hcb7
        have hom : OM W W3.heap.size (2 * ys2.length) (becL (pieces t) (enumP (pieces f) 0)) := hom7.kept (grown_of_below hBW) (by simp)
        clear hcb7 bs9 hT9 hb9 hK17 hK2 hB79 hg9 hB7
        have hm4 : ∀ s v, becL (pieces t) (enumP (pieces f) 0) s = some v → v.length ≤ 4 := becL_size (pieces t) (fun p hp => pcs_size t _ _ hp) _ _ (fun _ _ h => by cases h)
        generalize hmm2 : becL (pieces t) (enumP (pieces f) 0) = m at *
        have hlen4 := outE_len m hm4 pre
        have hone4 := outE_le m hm4 x
        have hbs : W7.heap.size ≤ W.heap.size := hBW.size
        have call : ∀ u : ByteArray, u.data.toList = (m x.1.2.data.toList).getD x.1.2.data.toList → _ := fun u hu => Tryd.Builder_WriteString_k W7.heap.size W7.heap.size _ u W hI (by rw [Lib.byteCells_length, Lib.size_eq, hu]; omega) hbs
        have fin : ∀ (u : ByteArray) (W1 : World), u.data.toList = (m x.1.2.data.toList).getD x.1.2.data.toList → Lib.BuilderAtF 64 5 W7.heap.size W7.heap.size (.pointer (some ⟨W7.heap.size, 0, none⟩)) (Lib.byteCells (outE m (pre.map (·.1))) ++ Lib.strCells u) W1 → Below W7.heap.size W W1 → Lib.OthersKept 5 (some W7.heap.size) W W1 →
            KeepsFrom (W7.heap.size + 2) W W1 ∧ Kp (W7.heap.size + 1) W W1 ∧ (Lib.IsBuilderF 64 5 W7.heap.size W7.heap.size (Lib.byteCells (outE m ((pre ++ [x]).map (·.1)))) W1 ∧ (pre ++ [x]).length ≤ (pieces s).length ∧ Boxed W1 (W7.heap.size + 1) 9 (.string s)) ∧ Below W7.heap.size W7 W1 := by
          intro u W1 hu h1 h2 h3
          have ko := others_keeps hI h3 h2.size
          have hb1 : Boxed W1 (W7.heap.size + 1) 9 (.string s) := h3 _ _ hbk (by simp) (fun c fz e1 => by cases e1)
          refine ⟨ko.from _, ⟨fun k hk2 => ?_, KeepsIt.of (keeps_walks ko)⟩, ⟨.inr ?_, by simp; omega, hb1⟩, hBW.trans h2⟩
          · rcases hk2 with hk2 | rfl
            · exact h2.block k (by omega)
            · exact hb1.trans hbk.symm
          · rw [List.map_append, List.map_cons, List.map_nil, hsn, Lib.byteCells_append, ← hu]
            exact h1
        cases hq : m x.1.2.data.toList with
        | some v =>
          have hu : Aside0 ((ba v).data.toList = (m x.1.2.data.toList).getD x.1.2.data.toList) := ⟨by rw [hq]; rfl⟩
          have hcall := call (ba v) hu.out
          clear call
          gi_wp2_with (first
            | (gi_at_lookup; refine look_ok rfl _ _ rfl W3.heap.size (2 * ys2.length) _ rfl hom x.1.2 (by unfold maxLen; omega) rfl ?_; rw [hq]))
          refine ⟨trivial, ?_⟩
          refine (CallsIn.inRound l (callsIn_wide.2 hcall)).mono ?_
          rintro e W1 ⟨rfl, h1, h2, h3⟩
          have hfin := fin _ W1 hu.out h1 h2 h3
          rw [← hsz9] at hfin
          clear fin hom hcall
          gi_wp2_with fail
          exact hfin
        | none =>
          have hu : Aside0 (x.1.2.data.toList = (m x.1.2.data.toList).getD x.1.2.data.toList) := ⟨by rw [hq]; rfl⟩
          have hcall := call x.1.2 hu.out
          clear call
          gi_wp2_with (first
            | (gi_at_lookup; refine look_ok rfl _ _ rfl W3.heap.size (2 * ys2.length) _ rfl hom x.1.2 (by unfold maxLen; omega) rfl ?_; rw [hq]))
          refine ⟨trivial, ?_⟩
          refine (CallsIn.inRound l (callsIn_wide.2 hcall)).mono ?_
          rintro e W1 ⟨rfl, h1, h2, h3⟩
          have hfin := fin _ W1 hu.out h1 h2 h3
          rw [← hsz9] at hfin
          clear fin hom hcall
          gi_wp2_with fail
          exact hfin
      case done3 =>
        rintro D3 ys3 W hD3 hys3 ⟨⟨hI, hpl, hbk⟩, hBW⟩ hK3
        gi_wp2_with fail
        refine ⟨trivial, ?_⟩
        refine (callsIn_wide.2 (Tryd.Builder_String_any_k W7.heap.size W7.heap.size _ W hI hBW.size)).mono ?_
        rintro e W1 ⟨rfl, h1, h2, h3⟩
        have ko := others_keeps hI h3 h2.size
        have k3 : W1.heap[D3]? = some (.deferred (some [])) := ko.same D3 _ hK3 rfl
        have k2 : W1.heap[D2]? = some (.deferred (some [])) := ko.same D2 _ ((hBW.block D2 hD27).trans hK2) rfl
        have k1 : W1.heap[D1]? = some (.deferred (some [])) := ko.same D1 _ ((hBW.block D1 hD17).trans hK17) rfl
        have hBW1 : Below w.heap.size w W1 := (hB7.trans (hBW.mono hB7.size)).trans (h2.mono hB7.size)
        clear hcb7 bs9 hT9 hb9 hK17 hK2 hB79 hg9 hB7 hbk hI h1 h2 h3 ko
        gi_wp2_with fail
        have n32 : D2 ≠ D3 := by omega
        have n31 : D1 ≠ D3 := by omega
        have n21 : D1 ≠ D2 := by omega
        have k2' : (W1.putObj D3 (.deferred none)).heap[D2]? = some (.deferred (some [])) := (World.putObj_heap_other n32).trans k2
        have k1' : ((W1.putObj D3 (.deferred none)).putObj D2 (.deferred none)).heap[D1]? = some (.deferred (some [])) := (World.putObj_heap_other n21).trans ((World.putObj_heap_other n31).trans k1)
        refine ⟨by simp, .inl ⟨_, _, rfl, run_takeDeferred k3, ?_⟩⟩
        refine ⟨by simp, .inl ⟨_, _, rfl, run_takeDeferred k2', ?_⟩⟩
        refine ⟨by simp, .inl ⟨_, _, rfl, run_takeDeferred k1', ?_⟩⟩
        refine ⟨_, results_tmp rfl _ _ _, ?_, ?_⟩
        · rfl
        · exact ((hBW1.trans (belowK_b (w := w) (Nat.le_refl _) W1 D3 _ _ (by omega) k3 rfl rfl)).trans (belowK_b (w := w) (Nat.le_refl _) _ D2 _ _ (by omega) k2' rfl rfl)).trans (belowK_b (w := w) (Nat.le_refl _) _ D1 _ _ (by omega) k1' rfl rfl)
      case stop3 =>
        rintro D c pre W _ _ h _
        exact h.elim
    case stop2 =>
      rintro D c pre W _ _ h _
      exact h.elim
  case stop =>
    rintro D c pre W _ _ h _
    exact h.elim
end Go.Proofs.YticpobgkbapdmaaDoor.SpanC
