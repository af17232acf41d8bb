/- Plain laws of span, the second half: Map, Norm, Find. -/
import Derived.Test.YticpobgkbapdmaaDoorSmSpanC
namespace Go.Proofs.YticpobgkbapdmaaDoor.CharA
end Go.Proofs.YticpobgkbapdmaaDoor.CharA
namespace Go.Proofs.YticpobgkbapdmaaDoor.CharB
end Go.Proofs.YticpobgkbapdmaaDoor.CharB
namespace Go.Proofs.YticpobgkbapdmaaDoor.CharC
end Go.Proofs.YticpobgkbapdmaaDoor.CharC
namespace Go.Proofs.YticpobgkbapdmaaDoor.CharD
end Go.Proofs.YticpobgkbapdmaaDoor.CharD
namespace Go.Proofs.YticpobgkbapdmaaDoor.CharF
end Go.Proofs.YticpobgkbapdmaaDoor.CharF
namespace Go.Proofs.YticpobgkbapdmaaDoor.PR1
end Go.Proofs.YticpobgkbapdmaaDoor.PR1
namespace Go.Proofs.YticpobgkbapdmaaDoor.SpanA
end Go.Proofs.YticpobgkbapdmaaDoor.SpanA
namespace Go.Proofs.YticpobgkbapdmaaDoor.SpanB
end Go.Proofs.YticpobgkbapdmaaDoor.SpanB
namespace Go.Proofs.YticpobgkbapdmaaDoor.SpanC
end Go.Proofs.YticpobgkbapdmaaDoor.SpanC
namespace Go.Proofs.YticpobgkbapdmaaDoorW.PrintLast
end Go.Proofs.YticpobgkbapdmaaDoorW.PrintLast
namespace Go.Proofs.YticpobgkbapdmaaDoorW.PrintMore
end Go.Proofs.YticpobgkbapdmaaDoorW.PrintMore
namespace Go.Proofs.YticpobgkbapdmaaDoorW.PrintWords
end Go.Proofs.YticpobgkbapdmaaDoorW.PrintWords
namespace Go.Proofs.YticpobgkbapdmaaDoor.SpanD
open Go.RowKit Go.Proofs.YticpobgkbapdmaaDoorW.PrintWords Go.Proofs.YticpobgkbapdmaaDoorW.PrintLast Go.Proofs.YticpobgkbapdmaaDoorW.PrintMore Go.Proofs.YticpobgkbapdmaaDoor.CharA Go.Proofs.YticpobgkbapdmaaDoor.CharB Go.Proofs.YticpobgkbapdmaaDoor.CharC Go.Proofs.YticpobgkbapdmaaDoor.CharD Go.Proofs.YticpobgkbapdmaaDoor.CharF Go.Proofs.YticpobgkbapdmaaDoor.SpanA Go.Proofs.YticpobgkbapdmaaDoor.SpanB Go.Proofs.YticpobgkbapdmaaDoor.SpanC Go.Proofs.YticpobgkbapdmaaDoor.PR1
set_option linter.unusedVariables false
set_option linter.unusedSimpArgs false
set_option linter.unnecessarySimpa false
theorem tl (s : ByteArray) : s.toList = s.data.toList := ByteArray.toList_eq s
/-! ### Map -/
def firstIdx : List ByteArray → List UInt8 → Option Nat
  | [], _ => none
  | b :: bs, c => if b.data.toList = c then some 0 else (firstIdx bs c).map (· + 1)
theorem firstIdx_snoc : ∀ (l : List ByteArray) (b : ByteArray) (c : List UInt8), firstIdx (l ++ [b]) c = match firstIdx l c with | some i => some i | none => if b.data.toList = c then some l.length else none
  | [], b, c => by simp [firstIdx]
  | a :: l, b, c => by
    simp only [List.cons_append, firstIdx]
    by_cases h : a.data.toList = c
    · simp [h]
    · rw [if_neg h, if_neg h, firstIdx_snoc l b c]
      cases firstIdx l c with
      | some i => simp
      | none => by_cases h2 : b.data.toList = c <;> simp [h2]
theorem bec_first (pl : List ByteArray) (c : List UInt8) : ∀ (l : List ByteArray) (k : Nat) (m0 : List UInt8 → Option (List UInt8)),
    ((enumP l k).foldl (becStep pl) m0) c = match m0 c with | some v => some v | none => match firstIdx l c with | some i => some (orE pl[k + i]?) | none => none
  | [], k, m0 => by simp only [enumP, List.foldl_nil, firstIdx]; cases m0 c <;> rfl
  | b :: bs, k, m0 => by
    simp only [enumP, List.foldl_cons]
    rw [bec_first pl c bs (k + 1) (becStep pl m0 (k, b))]
    unfold becStep
    simp only [firstIdx]
    by_cases hb : b.data.toList = c
    · subst hb
      cases hm : m0 b.data.toList with
      | some v => simp [hm]
      | none => simp [hm, putM]
    · have hne : ¬ c = b.data.toList := fun e => hb e.symm
      rw [if_neg hb]
      have hcc : (if (m0 b.data.toList).isSome = true then m0 else putM m0 b.data.toList (orE pl[k]?)) c = m0 c := by
        split
        · rfl
        · simp [putM, hne]
      rw [hcc]
      cases m0 c with
      | some v => rfl
      | none =>
        cases firstIdx bs c with
        | none => rfl
        | some i => simp [Nat.add_assoc, Nat.add_comm 1 i]
def getM (pl bs : List ByteArray) (c : List UInt8) : Option (List UInt8) := match firstIdx bs c with | some i => some (orE pl[i]?) | none => none
theorem bec_get (pl bs : List ByteArray) (c : List UInt8) : becL pl (enumP bs 0) c = getM pl bs c := by
  unfold becL getM
  rw [bec_first]
  simp only [Nat.zero_add]
theorem map_inner (a b p : List ByteArray) (hb : b.length < 1000000000000) (i : Nat) (hi : i < a.length) (ha : a.length < 1000000000000) (k0 : Nat) (R : Int → Option ByteArray) (out : ByteArray)
    (hR : ∀ (at_ : Int) (k : Nat), k0 ≤ k → breviaryref02_Map.l1 (k + 1) a b p out (i : Int) at_ (-1) = R at_) :
    ∀ (j k : Nat) (at_ : Int), j ≤ b.length → k0 + j < k → breviaryref02_Map.l1 k a b p out (i : Int) at_ ((j : Int) - 1) = R (match firstIdx (b.take j) a[i].data.toList with | some q => (q : Int) | none => at_) := by
  intro j
  induction j with
  | zero =>
    intro k at_ hj hk
    obtain ⟨k, rfl⟩ : ∃ q, k = q + 1 := ⟨k - 1, by omega⟩
    have := hR at_ k (by omega)
    simpa [firstIdx] using this
  | succ j ih =>
    intro k at_ hj hk
    obtain ⟨k, rfl⟩ : ∃ q, k = q + 1 := ⟨k - 1, by omega⟩
    have hjb : j < b.length := by omega
    rw [show (((j + 1 : Nat) : Int) - 1) = (j : Int) by omega]
    rw [breviaryref02_Map.l1, if_pos (by omega), if_pos (by omega), if_pos (by omega), if_pos (by omega), if_pos (by omega), rd_at b j hjb, rd_at a i hi, tl, tl, w64 (by omega) (by omega)]
    have hs : firstIdx (b.take (j + 1)) a[i].data.toList = match firstIdx (b.take j) a[i].data.toList with | some q => some q | none => if b[j].data.toList = a[i].data.toList then some j else none := by
      rw [List.take_add_one, List.getElem?_eq_getElem hjb]
      simp only [Option.toList_some]
      rw [firstIdx_snoc]
      cases firstIdx (b.take j) a[i].data.toList with
      | some q => rfl
      | none => simp; rw [Nat.min_eq_left (by omega)]
    rw [hs]
    by_cases he : b[j].data.toList = a[i].data.toList
    · rw [if_pos he, ih k (j : Int) (by omega) (by omega)]
      cases firstIdx (b.take j) a[i].data.toList with
      | some q => rfl
      | none => simp [he]
    · rw [if_neg he, ih k at_ (by omega) (by omega)]
      cases firstIdx (b.take j) a[i].data.toList with
      | some q => rfl
      | none => simp [he]
def outP (p b : List ByteArray) (l : List ByteArray) : List UInt8 := l.flatMap fun c => (getM p b c.data.toList).getD c.data.toList
theorem outE_P (p b : List ByteArray) : ∀ (l : List ByteArray) (k : Nat), outE (becL p (enumP b 0)) (enumP l k) = outP p b l
  | [], _ => rfl
  | c :: l, k => by
    have ih := outE_P p b l (k + 1)
    unfold outE outP at ih ⊢
    rw [enumP, List.flatMap_cons, List.flatMap_cons, ih, bec_get]
theorem map_loop (a b p : List ByteArray) (ha : a.length < 1000000000) (hb : b.length < 1000000000) (hp : p.length < 1000000000) (ha4 : ∀ x ∈ a, x.size ≤ 4) (hp4 : ∀ x ∈ p, x.size ≤ 4) :
    ∀ (n i k : Nat) (out : ByteArray), a.length ≤ i + n → i ≤ a.length → n * (b.length + 5) + 10 < k → out.size + 4 * n < 1000000000000 →
    breviaryref02_Map.l0 k a b p out (i : Int) = some (ba (out.data.toList ++ outP p b (a.drop i))) := by
  intro n
  induction n with
  | zero =>
    intro i k out h hi hk ho
    obtain ⟨k, rfl⟩ : ∃ j, k = j + 1 := ⟨k - 1, by omega⟩
    rw [breviaryref02_Map.l0, if_neg (by omega), List.drop_eq_nil_of_le (by omega)]
    simp only [outP, List.flatMap_nil, List.append_nil]
    rw [ba_data]
  | succ n ih =>
    intro i k out h hi hk ho
    obtain ⟨k, rfl⟩ : ∃ j, k = j + 1 := ⟨k - 1, by omega⟩
    by_cases hlt : i < a.length
    · have h4 := ha4 _ (List.getElem_mem hlt)
      rw [Nat.add_mul] at hk
      have next : ∀ (k' : Nat) (o : ByteArray), n * (b.length + 5) + 10 < k' → o.size ≤ out.size + 4 → breviaryref02_Map.l0 k' a b p o (wrap64 ((i : Int) + 1)) = some (ba (o.data.toList ++ outP p b (a.drop (i + 1)))) := by
        intro k' o hk' hos
        rw [w64 (by omega) (by omega), show ((i : Int) + 1) = ((i + 1 : Nat) : Int) by simp]
        exact ih (i + 1) k' o (by omega) (by omega) hk' (by omega)
      have hR : ∀ (at_ : Int) (k' : Nat), n * (b.length + 5) + 11 ≤ k' → breviaryref02_Map.l1 (k' + 1) a b p out (i : Int) at_ (-1) = (fun at_ : Int => some (ba (out.data.toList ++ ((if at_ < 0 then a[i].data.toList else orE p[at_.toNat]?) ++ outP p b (a.drop (i + 1)))))) at_ := by
        intro at_ k' hk'
        rw [breviaryref02_Map.l1, if_neg (by omega)]
        simp only
        by_cases h0 : at_ < 0
        · rw [if_pos h0, if_pos h0, if_pos (by omega), if_pos (by omega), rd_at a i hlt, if_pos (by omega), next k' _ (by omega) (by rw [app_size]; omega), app_list, List.append_assoc]
        · rw [if_neg h0, if_neg h0]
          by_cases h1 : at_ < (p.length : Int)
          · obtain ⟨q, rfl⟩ : ∃ q : Nat, at_ = (q : Int) := ⟨at_.toNat, by omega⟩
            have hq : q < p.length := by omega
            have hq4 := hp4 _ (List.getElem_mem hq)
            rw [if_pos h1, if_pos (by omega), rd_at p q hq, if_pos (by omega), next k' _ (by omega) (by rw [app_size]; omega), app_list, List.append_assoc, Int.toNat_natCast, List.getElem?_eq_getElem hq]
            rfl
          · rw [if_neg h1, next k' _ (by omega) (by omega), List.getElem?_eq_none (by omega)]
            rfl
      have hin := map_inner a b p (by omega) i hlt (by omega) (n * (b.length + 5) + 11) _ out hR b.length k (-1) (Nat.le_refl _) (by omega)
      rw [breviaryref02_Map.l0, if_pos (by omega), w64 (by omega) (by omega), hin, List.take_length, List.drop_eq_getElem_cons hlt]
      simp only [outP, List.flatMap_cons]
      congr 4
      unfold getM
      cases hf : firstIdx b a[i].data.toList with
      | none => simp
      | some q => simp; omega
    · rw [breviaryref02_Map.l0, if_neg (by omega), List.drop_eq_nil_of_le (by omega)]
      simp only [outP, List.flatMap_nil, List.append_nil]
      rw [ba_data]
theorem pieces_length (s : ByteArray) : (pieces s).length ≤ s.size := by have := pcs_length s s.size 0; simpa [pieces] using this
theorem ref_map (s f t : ByteArray) (hs : s.size < 1000000000) (hf : f.size < 1000000000) (ht : t.size < 1000000000) (k : Nat) (hk : (s.size + 1) * (f.size + 5) + t.size + 100 < k) : breviaryref02_Map.f k s f t = some (ba (mapB s f t)) := by
  have h1 := pieces_length s
  have h2 := pieces_length f
  have h3 := pieces_length t
  have hm : s.size * (f.size + 5) + (f.size + 5) = (s.size + 1) * (f.size + 5) := by rw [Nat.add_mul, Nat.one_mul]
  have hm2 : s.size * 5 ≤ s.size * (f.size + 5) := Nat.mul_le_mul (Nat.le_refl _) (by omega)
  unfold breviaryref02_Map.f
  rw [ref_chars s (by omega) k (by omega), bs, ref_chars f (by omega) k (by omega), bs, ref_chars t (by omega) k (by omega), bs]
  have hmul : (pieces s).length * ((pieces f).length + 5) ≤ s.size * (f.size + 5) := Nat.mul_le_mul h1 (by omega)
  have := map_loop (pieces s) (pieces f) (pieces t) (by omega) (by omega) (by omega) (fun x hx => pcs_size s _ _ hx) (fun x hx => pcs_size t _ _ hx) (pieces s).length 0 k ⟨#[]⟩ (by omega) (by omega) (by omega) (by show 0 + _ < _; omega)
  rw [List.drop_zero] at this
  rw [show ((0 : Nat) : Int) = 0 from rfl] at this
  rw [this]
  unfold mapB
  rw [outE_P]
  rfl
/-! ### Find -/
end Go.Proofs.YticpobgkbapdmaaDoor.SpanD
