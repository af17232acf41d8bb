/- Plain laws of esc: the document's Get and Put. -/
import Derived.Test.YticpobgkbapdmaaDoorKpEscJ
namespace Go.Proofs.YticpobgkbapdmaaDoor.CharA
end Go.Proofs.YticpobgkbapdmaaDoor.CharA
namespace Go.Proofs.YticpobgkbapdmaaDoor.CharB
end Go.Proofs.YticpobgkbapdmaaDoor.CharB
namespace Go.Proofs.YticpobgkbapdmaaDoor.CharC
end Go.Proofs.YticpobgkbapdmaaDoor.CharC
namespace Go.Proofs.YticpobgkbapdmaaDoor.CharD
end Go.Proofs.YticpobgkbapdmaaDoor.CharD
namespace Go.Proofs.YticpobgkbapdmaaDoor.CharF
end Go.Proofs.YticpobgkbapdmaaDoor.CharF
namespace Go.Proofs.YticpobgkbapdmaaDoor.CharH
end Go.Proofs.YticpobgkbapdmaaDoor.CharH
namespace Go.Proofs.YticpobgkbapdmaaDoor.EscB
end Go.Proofs.YticpobgkbapdmaaDoor.EscB
namespace Go.Proofs.YticpobgkbapdmaaDoor.EscC
end Go.Proofs.YticpobgkbapdmaaDoor.EscC
namespace Go.Proofs.YticpobgkbapdmaaDoor.EscD
end Go.Proofs.YticpobgkbapdmaaDoor.EscD
namespace Go.Proofs.YticpobgkbapdmaaDoor.EscF
end Go.Proofs.YticpobgkbapdmaaDoor.EscF
namespace Go.Proofs.YticpobgkbapdmaaDoor.EscG
end Go.Proofs.YticpobgkbapdmaaDoor.EscG
namespace Go.Proofs.YticpobgkbapdmaaDoor.EscI
end Go.Proofs.YticpobgkbapdmaaDoor.EscI
namespace Go.Proofs.YticpobgkbapdmaaDoor.EscJ
end Go.Proofs.YticpobgkbapdmaaDoor.EscJ
namespace Go.Proofs.YticpobgkbapdmaaDoor.PR1
end Go.Proofs.YticpobgkbapdmaaDoor.PR1
namespace Go.Proofs.YticpobgkbapdmaaDoor.SpanA
end Go.Proofs.YticpobgkbapdmaaDoor.SpanA
namespace Go.Proofs.YticpobgkbapdmaaDoor.SpanD
end Go.Proofs.YticpobgkbapdmaaDoor.SpanD
namespace Go.Proofs.YticpobgkbapdmaaDoorW.PrintLast
end Go.Proofs.YticpobgkbapdmaaDoorW.PrintLast
namespace Go.Proofs.YticpobgkbapdmaaDoorW.PrintMore
end Go.Proofs.YticpobgkbapdmaaDoorW.PrintMore
namespace Go.Proofs.YticpobgkbapdmaaDoorW.PrintWords
end Go.Proofs.YticpobgkbapdmaaDoorW.PrintWords
namespace Go.Proofs.YticpobgkbapdmaaDoor.EscK
open Go.RowKit Go.Proofs.YticpobgkbapdmaaDoorW.PrintWords Go.Proofs.YticpobgkbapdmaaDoorW.PrintLast Go.Proofs.YticpobgkbapdmaaDoorW.PrintMore Go.Proofs.YticpobgkbapdmaaDoor.CharA Go.Proofs.YticpobgkbapdmaaDoor.CharB Go.Proofs.YticpobgkbapdmaaDoor.CharC Go.Proofs.YticpobgkbapdmaaDoor.CharD Go.Proofs.YticpobgkbapdmaaDoor.CharF Go.Proofs.YticpobgkbapdmaaDoor.CharH Go.Proofs.YticpobgkbapdmaaDoor.SpanA Go.Proofs.YticpobgkbapdmaaDoor.SpanD Go.Proofs.YticpobgkbapdmaaDoor.EscB Go.Proofs.YticpobgkbapdmaaDoor.EscC Go.Proofs.YticpobgkbapdmaaDoor.EscD Go.Proofs.YticpobgkbapdmaaDoor.EscF Go.Proofs.YticpobgkbapdmaaDoor.EscG Go.Proofs.YticpobgkbapdmaaDoor.EscI Go.Proofs.YticpobgkbapdmaaDoor.EscJ Go.Proofs.YticpobgkbapdmaaDoor.PR1
set_option linter.unusedVariables false
set_option linter.unusedSimpArgs false
/-- What stands in markup for a byte. -/
def putC (attr : Bool) (c : UInt8) : List UInt8 :=
  if c = 38 then [38, 97, 109, 112, 59] else if c = 60 then [38, 108, 116, 59] else if c = 13 then [38, 35, 49, 51, 59]
  else if c = 62 ∧ attr = false then [38, 103, 116, 59] else if c = 34 ∧ attr = true then [38, 113, 117, 111, 116, 59]
  else if c = 9 ∧ attr = true then [38, 35, 57, 59] else if c = 10 ∧ attr = true then [38, 35, 49, 48, 59] else [c]
def putL (attr : Bool) (l : List UInt8) : List UInt8 := l.flatMap (putC attr)
theorem putC_len (attr : Bool) (c : UInt8) : 1 ≤ (putC attr c).length ∧ (putC attr c).length ≤ 6 := by
  unfold putC
  repeat' split
  all_goals simp
set_option maxHeartbeats 4000000 in
theorem put_l0 (s : ByteArray) (hs : s.size < 1000000000) (attr : Bool) : ∀ (n pos k : Nat) (out : List UInt8), s.size ≤ pos + n → pos ≤ s.size → 4 * n + 10 < k → out.length + 6 * n ≤ 8000000000 →
    breviaryref05_Put.l0 k s attr (ba out) (pos : Int) = some (ba (out ++ putL attr (s.data.toList.drop pos))) := by
  intro n
  induction n with
  | zero =>
    intro pos k out h hp hk ho
    obtain ⟨k, rfl⟩ : ∃ j, k = j + 1 := ⟨k - 1, by omega⟩
    rw [breviaryref05_Put.l0, if_neg (by omega), List.drop_eq_nil_of_le (by rw [← Lib.size_eq]; omega)]
    simp [putL]
  | succ n ih =>
    intro pos k out h hp hk ho
    obtain ⟨k, rfl⟩ : ∃ j, k = j + 1 + 1 + 1 + 1 := ⟨k - 4, by omega⟩
    by_cases hlt : pos < s.size
    · have hlt' : pos < s.data.toList.length := by rw [← Lib.size_eq]; exact hlt
      have e1 : wrap64 ((pos : Int) + 1) = ((pos + 1 : Nat) : Int) := by rw [w64 (by omega) (by omega)]; omega
      have hex : s.extract pos (pos + 1) = ⟨#[s.data.toList[pos]]⟩ := ext_list (by rw [← tl, ex_one s pos hlt'])
      have hz : (ba out).size = out.length := ba_size out
      have hL : ∀ x : UInt8, (⟨#[x]⟩ : ByteArray).toList = [x] := fun x => by rw [tl]
      have hS : ∀ x : UInt8, (⟨#[x]⟩ : ByteArray).size = 1 := fun _ => rfl
      have hnext : ∀ (x : List UInt8) (k' : Nat), 4 * n + 10 < k' → x.length ≤ 6 → putC attr s.data.toList[pos] = x → breviaryref05_Put.l0 k' s attr (ba out ++ ba x) ((pos + 1 : Nat) : Int) = some (ba (out ++ putL attr (s.data.toList[pos] :: s.data.toList.drop (pos + 1)))) := by
        intro x k' hk' hx hxe
        rw [ba_app, ih (pos + 1) k' (out ++ x) (by omega) (by omega) hk' (by rw [List.length_append]; omega)]
        unfold putL
        rw [List.flatMap_cons, hxe, List.append_assoc]
      rw [breviaryref05_Put.l0, if_pos (by omega), if_pos (by omega), e1, if_pos (by omega), if_pos (by omega), Int.toNat_natCast, Int.toNat_natCast, hex, hz, hL, List.drop_eq_getElem_cons hlt']
      generalize s.data.toList[pos] = c at *
      by_cases c38 : c = 38
      · rw [if_pos (by rw [c38]), if_pos (by omega)]
        exact hnext _ _ (by omega) (by simp) (by unfold putC; rw [if_pos c38])
      rw [if_neg (fun e => c38 (sing e))]
      by_cases c60 : c = 60
      · rw [if_pos (by rw [c60]), if_pos (by omega)]
        exact hnext _ _ (by omega) (by simp) (by unfold putC; rw [if_neg c38, if_pos c60])
      rw [if_neg (fun e => c60 (sing e))]
      by_cases c13 : c = 13
      · rw [if_pos (by rw [c13]), if_pos (by omega)]
        exact hnext _ _ (by omega) (by simp) (by unfold putC; rw [if_neg c38, if_neg c60, if_pos c13])
      rw [if_neg (fun e => c13 (sing e))]
      have hplain : putC attr c = [c] → (if (ba out).size + 1 ≤ 9223372036854775807 then breviaryref05_Put.l0 k s attr (ba out ++ (⟨#[c]⟩ : ByteArray)) ((pos + 1 : Nat) : Int) else none) = some (ba (out ++ putL attr (c :: s.data.toList.drop (pos + 1)))) := by
        intro hc
        rw [hz, if_pos (by omega)]
        exact hnext [c] k (by omega) (by simp) hc
      by_cases c62 : c = 62
      · rw [if_pos (by rw [c62])]
        cases attr with
        | false =>
          rw [Bool.not_false, breviaryref05_Put.j1, if_pos rfl, e1, hz, if_pos (by omega)]
          exact hnext [38, 103, 116, 59] _ (by omega) (by simp) (by unfold putC; rw [if_neg c38, if_neg c60, if_neg c13, if_pos ⟨c62, rfl⟩])
        | true =>
          subst c62
          rw [Bool.not_true, breviaryref05_Put.j1, if_neg (by simp), hL, if_neg (by decide), breviaryref05_Put.j2, if_neg (by simp), hL, if_neg (by decide), breviaryref05_Put.j3, if_neg (by simp), hL, if_neg (by decide), e1]
          exact hplain (by rfl)
      rw [if_neg (fun e => c62 (sing e)), breviaryref05_Put.j1, if_neg (by simp), hL]
      have n62 : ¬ (c = 62 ∧ attr = false) := fun h => c62 h.1
      cases attr with
      | false =>
        have hp : putC false c = [c] := by unfold putC; rw [if_neg c38, if_neg c60, if_neg c13, if_neg n62]; simp
        have J3 : breviaryref05_Put.j3 (k + 1) s false (ba out) (pos : Int) ⟨#[c]⟩ false = some (ba (out ++ putL false (c :: s.data.toList.drop (pos + 1)))) := by
          rw [breviaryref05_Put.j3, if_neg (by simp), hL, e1]
          split
          · rw [if_neg (by simp)]; exact hplain hp
          · exact hplain hp
        have J2 : breviaryref05_Put.j2 (k + 1 + 1) s false (ba out) (pos : Int) ⟨#[c]⟩ false = some (ba (out ++ putL false (c :: s.data.toList.drop (pos + 1)))) := by
          rw [breviaryref05_Put.j2, if_neg (by simp), hL]
          split
          · exact J3
          · exact J3
        split
        · exact J2
        · exact J2
      | true =>
        by_cases c34 : c = 34
        · rw [if_pos (by rw [c34]), breviaryref05_Put.j2, if_pos rfl, e1, hz, if_pos (by omega)]
          exact hnext [38, 113, 117, 111, 116, 59] _ (by omega) (by simp) (by unfold putC; rw [if_neg c38, if_neg c60, if_neg c13, if_neg n62, if_pos ⟨c34, rfl⟩])
        rw [if_neg (fun e => c34 (sing e)), breviaryref05_Put.j2, if_neg (by simp), hL]
        have n34 : ¬ (c = 34 ∧ true = true) := fun h => c34 h.1
        by_cases c9 : c = 9
        · rw [if_pos (by rw [c9]), breviaryref05_Put.j3, if_pos rfl, e1, hz, if_pos (by omega)]
          exact hnext [38, 35, 57, 59] _ (by omega) (by simp) (by unfold putC; rw [if_neg c38, if_neg c60, if_neg c13, if_neg n62, if_neg n34, if_pos ⟨c9, rfl⟩])
        rw [if_neg (fun e => c9 (sing e)), breviaryref05_Put.j3, if_neg (by simp), hL, e1]
        have n9 : ¬ (c = 9 ∧ true = true) := fun h => c9 h.1
        by_cases c10 : c = 10
        · rw [if_pos (by rw [c10]), if_pos rfl, hz, if_pos (by omega)]
          exact hnext [38, 35, 49, 48, 59] _ (by omega) (by simp) (by unfold putC; rw [if_neg c38, if_neg c60, if_neg c13, if_neg n62, if_neg n34, if_neg n9, if_pos ⟨c10, rfl⟩])
        rw [if_neg (fun e => c10 (sing e))]
        exact hplain (by unfold putC; rw [if_neg c38, if_neg c60, if_neg c13, if_neg n62, if_neg n34, if_neg n9, if_neg (fun h => c10 h.1)])
    · rw [breviaryref05_Put.l0, if_neg (by omega), List.drop_eq_nil_of_le (by rw [← Lib.size_eq]; omega)]
      simp [putL]
theorem ref_put (s : ByteArray) (hs : s.size < 1000000000) (attr : Bool) (k : Nat) (hk : 4 * s.size + 10 < k) : breviaryref05_Put.f k s attr = some (ba (putL attr s.data.toList)) := by
  have := put_l0 s hs attr s.size 0 k [] (by omega) (by omega) hk (by simp; omega)
  exact this
end Go.Proofs.YticpobgkbapdmaaDoor.EscK
