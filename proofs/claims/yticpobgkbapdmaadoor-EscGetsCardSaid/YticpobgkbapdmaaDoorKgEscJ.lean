/- Plain laws of esc: the document's Get is the reader's. -/
import Derived.Test.YticpobgkbapdmaaDoorKgEscI
namespace Go.Proofs.YticpobgkbapdmaaDoor.CharA
end Go.Proofs.YticpobgkbapdmaaDoor.CharA
namespace Go.Proofs.YticpobgkbapdmaaDoor.CharB
end Go.Proofs.YticpobgkbapdmaaDoor.CharB
namespace Go.Proofs.YticpobgkbapdmaaDoor.CharC
end Go.Proofs.YticpobgkbapdmaaDoor.CharC
namespace Go.Proofs.YticpobgkbapdmaaDoor.CharD
end Go.Proofs.YticpobgkbapdmaaDoor.CharD
namespace Go.Proofs.YticpobgkbapdmaaDoor.CharF
end Go.Proofs.YticpobgkbapdmaaDoor.CharF
namespace Go.Proofs.YticpobgkbapdmaaDoor.CharH
end Go.Proofs.YticpobgkbapdmaaDoor.CharH
namespace Go.Proofs.YticpobgkbapdmaaDoor.EscB
end Go.Proofs.YticpobgkbapdmaaDoor.EscB
namespace Go.Proofs.YticpobgkbapdmaaDoor.EscC
end Go.Proofs.YticpobgkbapdmaaDoor.EscC
namespace Go.Proofs.YticpobgkbapdmaaDoor.EscD
end Go.Proofs.YticpobgkbapdmaaDoor.EscD
namespace Go.Proofs.YticpobgkbapdmaaDoor.EscF
end Go.Proofs.YticpobgkbapdmaaDoor.EscF
namespace Go.Proofs.YticpobgkbapdmaaDoor.EscG
end Go.Proofs.YticpobgkbapdmaaDoor.EscG
namespace Go.Proofs.YticpobgkbapdmaaDoor.EscI
end Go.Proofs.YticpobgkbapdmaaDoor.EscI
namespace Go.Proofs.YticpobgkbapdmaaDoor.PR1
end Go.Proofs.YticpobgkbapdmaaDoor.PR1
namespace Go.Proofs.YticpobgkbapdmaaDoor.SpanA
end Go.Proofs.YticpobgkbapdmaaDoor.SpanA
namespace Go.Proofs.YticpobgkbapdmaaDoor.SpanD
end Go.Proofs.YticpobgkbapdmaaDoor.SpanD
namespace Go.Proofs.YticpobgkbapdmaaDoorW.PrintLast
end Go.Proofs.YticpobgkbapdmaaDoorW.PrintLast
namespace Go.Proofs.YticpobgkbapdmaaDoorW.PrintMore
end Go.Proofs.YticpobgkbapdmaaDoorW.PrintMore
namespace Go.Proofs.YticpobgkbapdmaaDoorW.PrintWords
end Go.Proofs.YticpobgkbapdmaaDoorW.PrintWords
namespace Go.Proofs.YticpobgkbapdmaaDoor.EscJ
open Go.RowKit Go.Proofs.YticpobgkbapdmaaDoorW.PrintWords Go.Proofs.YticpobgkbapdmaaDoorW.PrintLast Go.Proofs.YticpobgkbapdmaaDoorW.PrintMore Go.Proofs.YticpobgkbapdmaaDoor.CharA Go.Proofs.YticpobgkbapdmaaDoor.CharB Go.Proofs.YticpobgkbapdmaaDoor.CharC Go.Proofs.YticpobgkbapdmaaDoor.CharD Go.Proofs.YticpobgkbapdmaaDoor.CharF Go.Proofs.YticpobgkbapdmaaDoor.CharH Go.Proofs.YticpobgkbapdmaaDoor.SpanA Go.Proofs.YticpobgkbapdmaaDoor.SpanD Go.Proofs.YticpobgkbapdmaaDoor.EscB Go.Proofs.YticpobgkbapdmaaDoor.EscC Go.Proofs.YticpobgkbapdmaaDoor.EscD Go.Proofs.YticpobgkbapdmaaDoor.EscF Go.Proofs.YticpobgkbapdmaaDoor.EscG Go.Proofs.YticpobgkbapdmaaDoor.EscI Go.Proofs.YticpobgkbapdmaaDoor.PR1
set_option linter.unusedVariables false
set_option linter.unusedSimpArgs false
/-- A text at its first ';': what stands ahead, and behind. -/
def cutS : List UInt8 → Option (List UInt8 × List UInt8)
  | [] => none
  | c :: t => if c = 59 then some ([], t) else match cutS t with | some (a, r) => some (c :: a, r) | none => none
theorem cutS_app : ∀ (t a r : List UInt8), cutS t = some (a, r) → t = a ++ 59 :: r
  | [], a, r, h => by simp [cutS] at h
  | c :: t, a, r, h => by
    simp only [cutS] at h
    by_cases hc : c = 59
    · rw [if_pos hc] at h; cases h; rw [hc]; rfl
    · rw [if_neg hc] at h
      cases hq : cutS t with
      | none => rw [hq] at h; cases h
      | some q =>
        obtain ⟨a', r'⟩ := q
        rw [hq] at h
        cases h
        rw [cutS_app t a' r hq]
        rfl
theorem cutS_ib : ∀ (t : List UInt8), Lib.indexByte t 59 = match cutS t with | some (a, _) => (a.length : Int) | none => -1
  | [] => rfl
  | c :: t => by
    have ih := cutS_ib t
    simp only [Lib.indexByte, cutS]
    by_cases hc : c = 59
    · subst hc; rfl
    · rw [if_neg (by simpa using hc), if_neg hc, ih]
      cases cutS t with
      | none => rfl
      | some q =>
        obtain ⟨a, r⟩ := q
        simp only
        rw [if_neg (by simp)]
        simp
theorem cut_S (t : List UInt8) : Lib.cut t [59] = match cutS t with | some (a, r) => (a, r, true) | none => (t, [], false) := by
  unfold Lib.cut
  rw [Lib.index_one, cutS_ib]
  cases h : cutS t with
  | none => rfl
  | some q =>
    obtain ⟨a, r⟩ := q
    have e := cutS_app t a r h
    simp only
    rw [if_pos (by omega), Int.toNat_natCast, e]
    simp
theorem refR_S (t : List UInt8) : refR t = match cutS t with | some (a, r) => (match chr a with | some x => some (x, r) | none => none) | none => none := by
  unfold refR
  rw [cut_S]
  cases cutS t with
  | none => rfl
  | some q => rfl
def semi (t : List UInt8) : Nat := match cutS t with | some (a, _) => a.length | none => t.length
theorem semi_cons (c : UInt8) (t : List UInt8) : semi (c :: t) = if c = 59 then 0 else semi t + 1 := by
  unfold semi
  simp only [cutS]
  by_cases hc : c = 59
  · rw [if_pos hc, if_pos hc]; rfl
  · rw [if_neg hc, if_neg hc]
    cases cutS t with
    | none => rfl
    | some q => rfl
theorem get_l1 (s : ByteArray) (hs : s.size < 1000000000000) (attr : Bool) (out : ByteArray) (pos : Int) (R : List UInt8 × Int) (K : Nat) : ∀ (n e k : Nat), s.size ≤ e + n → e ≤ s.size → K + n + 1 < k →
    (∀ k, K < k → breviaryref05_Get.j2 k s attr out pos ((e + semi (s.data.toList.drop e) : Nat) : Int) = some (ba R.1, R.2)) →
    breviaryref05_Get.l1 k s attr out pos (e : Int) = some (ba R.1, R.2) := by
  intro n
  induction n with
  | zero =>
    intro e k h he hk hj
    obtain ⟨k, rfl⟩ : ∃ j, k = j + 1 := ⟨k - 1, by omega⟩
    have hd : s.data.toList.drop e = [] := List.drop_eq_nil_of_le (by rw [← Lib.size_eq]; omega)
    rw [hd] at hj
    rw [breviaryref05_Get.l1, if_neg (by omega)]
    exact hj k (by omega)
  | succ n ih =>
    intro e k h he hk hj
    obtain ⟨k, rfl⟩ : ∃ j, k = j + 1 := ⟨k - 1, by omega⟩
    by_cases hlt : e < s.size
    · have hlt' : e < s.data.toList.length := by rw [← Lib.size_eq]; exact hlt
      rw [List.drop_eq_getElem_cons hlt', semi_cons] at hj
      rw [breviaryref05_Get.l1, if_pos (by omega), if_pos (by omega), bt_list s e hlt hlt']
      by_cases hc : s.data.toList[e] = 59
      · rw [if_pos hc] at hj
        rw [if_pos (by rw [hc]; rfl)]
        exact hj k (by omega)
      · rw [if_neg hc] at hj
        rw [if_neg (show ¬ ((s.data.toList[e]).toNat : Int) = 59 from fun q => hc ((u8_iff _ 59 (by omega)).1 q)), w64 (by omega) (by omega), show ((e : Int) + 1) = ((e + 1 : Nat) : Int) by omega]
        exact ih (e + 1) k (by omega) (by omega) (by omega) (fun k hk => by
          have := hj k hk
          rw [show e + (semi (s.data.toList.drop (e + 1)) + 1) = e + 1 + semi (s.data.toList.drop (e + 1)) by omega] at this
          exact this)
    · have hd : s.data.toList.drop e = [] := List.drop_eq_nil_of_le (by rw [← Lib.size_eq]; omega)
      rw [hd] at hj
      rw [breviaryref05_Get.l1, if_neg (by omega)]
      exact hj k (by omega)
theorem ex_one (s : ByteArray) (pos : Nat) (h : pos < s.data.toList.length) : (s.extract pos (pos + 1)).toList = [s.data.toList[pos]] := by
  rw [tl, extract_list, List.drop_eq_getElem_cons h]
  simp
theorem sing {a b : UInt8} (h : [a] = [b]) : a = b := by simpa using h
theorem chr_ne (l x : List UInt8) (h : chr l = some x) : x ≠ [] := by
  have he := enc_size (refN l)
  rw [Lib.size_eq] at he
  rintro rfl
  unfold chr at h
  repeat' split at h
  all_goals first | (cases h; done) | (have := Option.some.inj h; rw [this] at he; simp at he)
theorem get_j3 (s : ByteArray) (attr b : Bool) (out : List UInt8) (pos k : Nat) (hp : pos < 1000000000) (ho : out.length ≤ 8000000000) :
    breviaryref05_Get.j3 (k + 1) s attr (ba out) (pos : Int) ⟨#[10]⟩ b = breviaryref05_Get.l0 k s attr (ba (out ++ [plU attr 10])) (((if b then pos + 2 else pos + 1) : Nat) : Int) := by
  have e1 : wrap64 ((pos : Int) + 1) = ((pos + 1 : Nat) : Int) := by rw [w64 (by omega) (by omega)]; omega
  have e2 : wrap64 (((pos + 1 : Nat) : Int) + 1) = ((pos + 2 : Nat) : Int) := by rw [w64 (by omega) (by omega)]; omega
  have happ : ∀ x : UInt8, ba out ++ (⟨#[x]⟩ : ByteArray) = ba (out ++ [x]) := fun x => ba_app out [x]
  have hz : (ba out).size = out.length := ba_size out
  have hL : (⟨#[10]⟩ : ByteArray).toList = [10] := by rw [tl]
  rw [breviaryref05_Get.j3, e1, e2, hz, hL]
  cases b with
  | true =>
    rw [if_pos rfl]
    cases attr with
    | true => rw [if_pos rfl, if_pos rfl, if_pos (by omega), happ]; rfl
    | false => rw [if_neg (by simp), if_pos (by show out.length + 1 ≤ _; omega), happ]; rfl
  | false =>
    rw [if_neg (by simp)]
    cases attr with
    | true => rw [if_pos rfl, if_pos rfl, if_pos (by omega), happ]; rfl
    | false => rw [if_neg (by simp), if_pos (by show out.length + 1 ≤ _; omega), happ]; rfl
set_option maxHeartbeats 2000000 in
theorem get_l0 (s : ByteArray) (hs : s.size < 1000000000) (attr : Bool) : ∀ (n pos k : Nat) (out : List UInt8), s.size ≤ pos + n → pos ≤ s.size → n * (s.size + 10) + s.size + 200 < k → out.length + 4 * n ≤ 8000000000 →
    breviaryref05_Get.l0 k s attr (ba out) (pos : Int) = some (ba (runL attr n (s.data.toList.drop pos) out).1, (runL attr n (s.data.toList.drop pos) out).2) := by
  intro n
  induction n with
  | zero =>
    intro pos k out h hp hk ho
    obtain ⟨k, rfl⟩ : ∃ j, k = j + 1 := ⟨k - 1, by omega⟩
    rw [breviaryref05_Get.l0, if_neg (by omega)]
    rfl
  | succ n ih =>
    intro pos k out h hp hk ho
    rw [Nat.succ_mul] at hk
    obtain ⟨k, rfl⟩ : ∃ j, k = j + 1 + 1 := ⟨k - 2, by omega⟩
    by_cases hlt : pos < s.size
    · have hlt' : pos < s.data.toList.length := by rw [← Lib.size_eq]; exact hlt
      have e1 : wrap64 ((pos : Int) + 1) = ((pos + 1 : Nat) : Int) := by rw [w64 (by omega) (by omega)]; omega
      rw [breviaryref05_Get.l0, if_pos (by omega), if_pos (by omega), e1, if_pos (by omega), if_pos (by omega), Int.toNat_natCast, Int.toNat_natCast, ex_one s pos hlt', List.drop_eq_getElem_cons hlt']
      simp only [runL]
      by_cases c60 : s.data.toList[pos] = 60
      · rw [if_pos (by rw [c60]), if_pos c60]; rfl
      rw [if_neg (fun e => c60 (sing e)), if_neg c60]
      by_cases c38 : s.data.toList[pos] = 38
      · rw [if_pos (by rw [c38]), if_pos c38]
        refine get_l1 s (by omega) attr (ba out) (pos : Int) _ (n * (s.size + 10) + s.size + 201) (s.size - pos) pos (k + 1) (by omega) hp (by omega) ?_
        intro k' hk'
        obtain ⟨k', rfl⟩ : ∃ j, k' = j + 1 := ⟨k' - 1, by omega⟩
        have hdl : (s.data.toList.drop (pos + 1)).length = s.size - (pos + 1) := by rw [List.length_drop, ← Lib.size_eq]
        rw [List.drop_eq_getElem_cons hlt', semi_cons, if_neg (by rw [c38]; decide), refR_S, breviaryref05_Get.j2, e1]
        unfold semi
        cases hc : cutS (s.data.toList.drop (pos + 1)) with
        | none =>
          simp only
          rw [if_pos (by omega)]
          rfl
        | some q =>
          obtain ⟨a, r⟩ := q
          have hq := cutS_app _ _ _ hc
          have hl := congrArg List.length hq
          rw [hdl, List.length_append, List.length_cons] at hl
          simp only
          have hex : s.extract (pos + 1) (pos + (a.length + 1)) = ba a := ext_list (by rw [extract_list, hq, show pos + (a.length + 1) - (pos + 1) = a.length by omega]; simp [ba_list])
          rw [if_neg (by omega), if_pos (by omega), if_pos (by omega), if_pos (by omega), Int.toNat_natCast, Int.toNat_natCast, hex, ref_char a (by omega) k' (by omega), bs]
          cases hx : chr a with
          | none =>
            simp only [Option.getD_none]
            rw [tl, ba_list, if_pos rfl]
            rfl
          | some x =>
            have hx4 := chr_len a x hx
            have hxn := chr_ne a x hx
            simp only [Option.getD_some]
            rw [tl, ba_list, if_neg hxn, ba_size, ba_size, if_pos (by omega), ba_app, w64 (by omega) (by omega), show (((pos + (a.length + 1) : Nat) : Int) + 1) = ((pos + (a.length + 1) + 1 : Nat) : Int) by omega]
            have hd : s.data.toList.drop (pos + (a.length + 1) + 1) = r := by
              rw [show pos + (a.length + 1) + 1 = pos + 1 + (a.length + 1) by omega, ← List.drop_drop, hq]
              simp
            have := ih (pos + (a.length + 1) + 1) k' (out ++ x) (by omega) (by omega) (by omega) (by rw [List.length_append]; omega)
            rw [hd] at this
            exact this
      rw [if_neg (fun e => c38 (sing e)), if_neg c38]
      by_cases c13 : s.data.toList[pos] = 13
      · rw [if_pos (by rw [c13]), if_pos c13]
        by_cases h2 : pos + 1 < s.size
        · have h2' : pos + 1 < s.data.toList.length := by rw [← Lib.size_eq]; exact h2
          rw [if_pos (by omega), if_pos (by omega), get_j3 s attr _ out pos k (by omega) (by omega), bt_list s (pos + 1) h2 h2', List.drop_eq_getElem_cons h2']
          by_cases h10 : s.data.toList[pos + 1] = 10
          · rw [h10, if_pos (by rfl), if_pos (by simp [List.isPrefixOf])]
            exact ih (pos + 2) k _ (by omega) (by omega) (by omega) (by simp; omega)
          · rw [if_neg (by rw [beq_iff_eq]; exact fun q => h10 ((u8_iff _ 10 (by omega)).1 q)), if_neg (by simp [List.isPrefixOf]; exact fun e => h10 e.symm), ← List.drop_eq_getElem_cons h2']
            exact ih (pos + 1) k _ (by omega) (by omega) (by omega) (by simp; omega)
        · have hd : s.data.toList.drop (pos + 1) = [] := List.drop_eq_nil_of_le (by rw [← Lib.size_eq]; omega)
          rw [if_neg (by omega), get_j3 s attr _ out pos k (by omega) (by omega), hd]
          have := ih (pos + 1) k (out ++ [plU attr 10]) (by omega) (by omega) (by omega) (by simp; omega)
          rw [hd] at this
          exact this
      rw [if_neg (fun e => c13 (sing e)), if_neg c13]
      have hnext := fun x => ih (pos + 1) (k + 1) (out ++ [x]) (by omega) (by omega) (by omega) (by simp; omega)
      have happ : ∀ x : UInt8, ba out ++ (⟨#[x]⟩ : ByteArray) = ba (out ++ [x]) := fun x => ba_app out [x]
      have hz : (ba out).size = out.length := ba_size out
      have hex : s.extract pos (pos + 1) = ⟨#[s.data.toList[pos]]⟩ := ext_list (by rw [← tl, ex_one s pos hlt'])
      rw [hex, hz]
      cases attr with
      | false =>
        rw [if_neg (by simp), if_pos (by show out.length + 1 ≤ _; omega), happ]
        have : plU false s.data.toList[pos] = s.data.toList[pos] := rfl
        rw [this]
        exact hnext _
      | true =>
        rw [if_pos rfl]
        by_cases c10 : s.data.toList[pos] = 10
        · have : plU true s.data.toList[pos] = 32 := by rw [c10]; rfl
          rw [if_pos (by rw [c10]), if_pos (by omega), happ, this]
          exact hnext _
        rw [if_neg (fun e => c10 (sing e))]
        by_cases c9 : s.data.toList[pos] = 9
        · have : plU true s.data.toList[pos] = 32 := by rw [c9]; rfl
          rw [if_pos (by rw [c9]), if_pos (by omega), happ, this]
          exact hnext _
        rw [if_neg (fun e => c9 (sing e)), if_pos (by show out.length + 1 ≤ _; omega), happ]
        have : plU true s.data.toList[pos] = s.data.toList[pos] := by unfold plU; rw [if_neg (fun h => h.2.elim c9 c10)]
        rw [this]
        exact hnext _
    · rw [breviaryref05_Get.l0, if_neg (by omega), List.drop_eq_nil_of_le (by rw [← Lib.size_eq]; omega), run_nil]
end Go.Proofs.YticpobgkbapdmaaDoor.EscJ
