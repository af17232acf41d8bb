import Derived.Test.YthilcidoacgdfaaGreatDoorZwFigC
import Derived.Test.YthilcidoacgdfaaGreatDoorZwTxt
set_option maxHeartbeats 2000000
set_option maxRecDepth 100000
namespace Go.Proofs.YthilcidoacgdfaaGreatDoor.CharA
end Go.Proofs.YthilcidoacgdfaaGreatDoor.CharA
namespace Go.Proofs.YthilcidoacgdfaaGreatDoor.CharB
end Go.Proofs.YthilcidoacgdfaaGreatDoor.CharB
namespace Go.Proofs.YthilcidoacgdfaaGreatDoor.CharD
end Go.Proofs.YthilcidoacgdfaaGreatDoor.CharD
namespace Go.Proofs.YthilcidoacgdfaaGreatDoor.CharF
end Go.Proofs.YthilcidoacgdfaaGreatDoor.CharF
namespace Go.Proofs.YthilcidoacgdfaaGreatDoor.FigA
end Go.Proofs.YthilcidoacgdfaaGreatDoor.FigA
namespace Go.Proofs.YthilcidoacgdfaaGreatDoor.FigC
end Go.Proofs.YthilcidoacgdfaaGreatDoor.FigC
namespace Go.Proofs.YthilcidoacgdfaaGreatDoor.SpanA
end Go.Proofs.YthilcidoacgdfaaGreatDoor.SpanA
namespace Go.Proofs.YthilcidoacgdfaaGreatDoor.Txt
end Go.Proofs.YthilcidoacgdfaaGreatDoor.Txt
namespace Go.Proofs.YthilcidoacgdfaaGreatDoorW.PrintLast
end Go.Proofs.YthilcidoacgdfaaGreatDoorW.PrintLast
namespace Go.Proofs.YthilcidoacgdfaaGreatDoorW.PrintMore
end Go.Proofs.YthilcidoacgdfaaGreatDoorW.PrintMore
namespace Go.Proofs.YthilcidoacgdfaaGreatDoorW.PrintWords
end Go.Proofs.YthilcidoacgdfaaGreatDoorW.PrintWords
namespace Go.Proofs.YthilcidoacgdfaaGreatDoor.LexA
open Go.RowKit YthilcidoacgdfaaGreatDoorW.PrintWords YthilcidoacgdfaaGreatDoorW.PrintLast YthilcidoacgdfaaGreatDoorW.PrintMore CharA CharB CharD CharF SpanA FigA FigC Txt
set_option linter.unusedVariables false
set_option linter.unusedSimpArgs false
abbrev Wd := Int × List UInt8 × Int × Int
def marksL : List (List UInt8) := [[46, 46], [58, 58], [40], [41], [91], [93], [46], [64], [44]]
def opsL : List (List UInt8) := [[47, 47], [33, 61], [60, 61], [62, 61], [47], [124], [43], [45], [61], [60], [62]]
def opensL : List (List UInt8) := [[64], [58, 58], [40], [91], [44]]
def fourL : List (List UInt8) := [[97, 110, 100], [111, 114], [109, 111, 100], [100, 105, 118]]
def typesL : List (List UInt8) := [[99, 111, 109, 109, 101, 110, 116], [116, 101, 120, 116], [112, 114, 111, 99, 101, 115, 115, 105, 110, 103, 45, 105, 110, 115, 116, 114, 117, 99, 116, 105, 111, 110], [110, 111, 100, 101]]
def qv (l : List (List UInt8)) (s : List UInt8) : Option (List UInt8) := l.find? (·.isPrefixOf s)
def endsW (l : List Wd) : Bool := match l.getLast? with
  | none => false
  | some w => if w.1 = 5 then false else if w.1 = 1 then !(opensL.contains w.2.1) else true
def runL : Nat → List UInt8 → List UInt8
  | 0, _ => []
  | n + 1, s => if s = [] then [] else if partB ((Lib.decodeL s).1 : Int) = true then s.take (Lib.decodeL s).2 ++ runL n (s.drop (Lib.decodeL s).2) else []
def runS (s : List UInt8) : List UInt8 := runL s.length s
def cutC (c : UInt8) : List UInt8 → Option (List UInt8 × List UInt8)
  | [] => none
  | d :: t => if d = c then some ([], t) else match cutC c t with | some (a, r) => some (d :: a, r) | none => none
def numT (s : List UInt8) : List UInt8 := if (s.dropWhile digB).head? = some 46 then s.takeWhile digB ++ 46 :: (s.dropWhile digB).tail.takeWhile digB else s.takeWhile digB
def kindW (x r : List UInt8) : Int := if ([40] : List UInt8).isPrefixOf (r.dropWhile spB) then (if typesL.contains x then 4 else 6) else if ([58, 58] : List UInt8).isPrefixOf (r.dropWhile spB) then 7 else 2
def numB (s : List UInt8) : Bool := match s with | [] => false | c :: t => digB c || (c == 46 && (match t with | [] => false | d :: _ => digB d))
def litW (c : UInt8) (t : List UInt8) : Option (Wd × List UInt8) := match cutC c t with | some (a, r) => some ((8, a, 0, 0), r) | none => none
def numW (s : List UInt8) : Option (Wd × List UInt8) := if (litS (numT s)).2 = true ∧ (litS (numT s)).1.1 = 0 then some ((9, numT s, (litS (numT s)).1), s.drop (numT s).length) else none
def varW (t : List UInt8) : Option (Wd × List UInt8) := if nameB (ba (runS t)) = true then some ((10, runS t, 0, 0), t.drop (runS t).length) else none
def nameW (s : List UInt8) (e : Bool) : Option (Wd × List UInt8) :=
  if nameB (ba (runS s)) = true then (if e = true then (if fourL.contains (runS s) = true then some ((5, runS s, 0, 0), s.drop (runS s).length) else none) else some ((kindW (runS s) (s.drop (runS s).length), runS s, 0, 0), s.drop (runS s).length)) else none
def oneW (s : List UInt8) (e : Bool) : Option (Wd × List UInt8) :=
  match s with
  | [] => none
  | c :: t =>
    if c = 34 ∨ c = 39 then litW c t
    else if numB s = true then numW s
    else match qv marksL s with
      | some m => some ((1, m, 0, 0), s.drop m.length)
      | none => match qv opsL s with
        | some m => some ((5, m, 0, 0), s.drop m.length)
        | none => if c = 42 then some ((if e = true then 5 else 3, [42], 0, 0), t) else if c = 36 then varW t else nameW s e
def lexL : Nat → List UInt8 → List Wd → List Wd × Int
  | 0, _, acc => (acc, 0)
  | n + 1, s, acc => if s = [] then (acc, 0) else match oneW s (endsW acc) with | none => ([], 30) | some (w, r) => if 120 < acc.length + 1 then ([], 3) else lexL n (r.dropWhile spB) (acc ++ [w])
def lexS (s : List UInt8) : List Wd × Int := if 400 < s.length then ([], 3) else if textB (ba s) = true then lexL s.length (s.dropWhile spB) [] else ([], 10)
theorem cutC_app (c : UInt8) : ∀ (t a r : List UInt8), cutC c t = some (a, r) → t = a ++ c :: r ∧ ∀ x ∈ a, x ≠ c
  | [], a, r, h => by cases h
  | d :: t, a, r, h => by
    simp only [cutC] at h
    by_cases hd : d = c
    · rw [if_pos hd] at h; cases h; rw [hd]; exact ⟨rfl, fun x hx => by cases hx⟩
    · rw [if_neg hd] at h
      cases hq : cutC c t with
      | none => rw [hq] at h; cases h
      | some q =>
        obtain ⟨a', r'⟩ := q
        rw [hq] at h
        simp only [Option.some.injEq, Prod.mk.injEq] at h
        obtain ⟨rfl, rfl⟩ := h
        obtain ⟨h1, h2⟩ := cutC_app c t a' r' hq
        refine ⟨by rw [h1]; rfl, fun x hx => ?_⟩
        rcases List.mem_cons.1 hx with rfl | hx
        · exact hd
        · exact h2 x hx
theorem cutC_of (c : UInt8) : ∀ (a r : List UInt8), (∀ x ∈ a, x ≠ c) → cutC c (a ++ c :: r) = some (a, r)
  | [], r, _ => by simp [cutC]
  | d :: a, r, h => by
    rw [List.cons_append]
    simp only [cutC]
    rw [if_neg (h d (by simp)), cutC_of c a r (fun x hx => h x (by simp [hx]))]
theorem find_pre {l : List (List UInt8)} {s m : List UInt8} (h : qv l s = some m) : m ∈ l ∧ m.isPrefixOf s = true := by
  unfold qv at h
  exact ⟨List.mem_of_find?_eq_some h, by have := List.find?_some h; exact this⟩
theorem pre_len {m s : List UInt8} (h : m.isPrefixOf s = true) : m.length ≤ s.length := (List.isPrefixOf_iff_prefix.1 h).length_le
theorem marks_ne (m : List UInt8) (h : m ∈ marksL) : 1 ≤ m.length := by
  unfold marksL at h
  simp at h
  rcases h with rfl | rfl | rfl | rfl | rfl | rfl | rfl | rfl | rfl <;> decide
theorem ops_ne (m : List UInt8) (h : m ∈ opsL) : 1 ≤ m.length := by
  unfold opsL at h
  simp at h
  rcases h with rfl | rfl | rfl | rfl | rfl | rfl | rfl | rfl | rfl | rfl | rfl <;> decide
theorem num_len {c : UInt8} {t : List UInt8} (h : numB (c :: t) = true) : 1 ≤ (numT (c :: t)).length := by
  unfold numB at h
  simp only [Bool.or_eq_true, Bool.and_eq_true, beq_iff_eq] at h
  unfold numT
  by_cases hd : digB c = true
  · split <;> simp [List.takeWhile_cons, hd]
  · rcases h with h | ⟨h, _⟩
    · exact absurd h hd
    · subst h
      rw [List.dropWhile_cons, if_neg hd]
      simp
      omega
theorem nameB_ne {x : List UInt8} (h : nameB (ba x) = true) : 1 ≤ x.length := by
  unfold nameB at h
  rw [qc1] at h
  by_cases h1 : x.length < 1
  · rw [if_pos h1] at h; cases h
  · omega
theorem runL_len : ∀ (n : Nat) (s : List UInt8), (runL n s).length ≤ s.length
  | 0, s => by simp [runL]
  | n + 1, s => by
    simp only [runL]
    split
    · simp
    · split
      · have := runL_len n (s.drop (Lib.decodeL s).2)
        rw [List.length_append, List.length_take]
        rw [List.length_drop] at this
        omega
      · simp
theorem one_less {s : List UInt8} {e : Bool} {w : Wd} {r : List UInt8} (h : oneW s e = some (w, r)) : r.length < s.length := by
  cases s with
  | nil => cases h
  | cons c t =>
    simp only [oneW] at h
    split at h
    · unfold litW at h
      cases hq : cutC c t with
      | none => rw [hq] at h; cases h
      | some q =>
        obtain ⟨a, r'⟩ := q
        rw [hq] at h
        cases h
        have := (cutC_app c t a r hq).1
        rw [this]
        simp
        omega
    split at h
    · rename_i hn
      have := num_len hn
      unfold numW at h
      split at h
      · cases h
        rw [List.length_drop, List.length_cons]
        omega
      · cases h
    split at h
    · rename_i m hm
      have := marks_ne m (find_pre hm).1
      cases h
      rw [List.length_drop, List.length_cons]
      omega
    split at h
    · rename_i m hm
      have := ops_ne m (find_pre hm).1
      cases h
      rw [List.length_drop, List.length_cons]
      omega
    split at h
    · cases h; simp
    split at h
    · unfold varW at h
      split at h
      · cases h
        rw [List.length_drop, List.length_cons]
        omega
      · cases h
    · unfold nameW at h
      have fin : ∀ v : Wd, some (v, (c :: t).drop (runS (c :: t)).length) = some (w, r) → nameB (ba (runS (c :: t))) = true → r.length < (c :: t).length := by
        intro v hv hn
        have := nameB_ne hn
        have hr := congrArg Prod.snd (Option.some.inj hv)
        simp only at hr
        rw [← hr, List.length_drop, List.length_cons]
        omega
      split at h
      · rename_i hn
        split at h
        · split at h
          · exact fin _ h hn
          · cases h
        · exact fin _ h hn
      · cases h
theorem pre_sp (m : List UInt8) (hm : ∀ x ∈ m, spB x = false) (c : UInt8) (hc : spB c = true) (y : List UInt8) : ∀ s : List UInt8, m.isPrefixOf (s ++ c :: y) = m.isPrefixOf s := by
  induction m with
  | nil => intro s; rfl
  | cons a m ih =>
    intro s
    have ha := hm a (by simp)
    cases s with
    | nil =>
      simp only [List.nil_append, List.isPrefixOf]
      have : (a == c) = false := by rw [beq_eq_false_iff_ne]; rintro rfl; rw [ha] at hc; cases hc
      rw [this]; rfl
    | cons d s =>
      simp only [List.cons_append, List.isPrefixOf]
      rw [ih (fun x hx => hm x (by simp [hx])) s]
theorem first_sp (l : List (List UInt8)) (hl : ∀ m ∈ l, ∀ x ∈ m, spB x = false) (c : UInt8) (hc : spB c = true) (y s : List UInt8) : qv l (s ++ c :: y) = qv l s := by
  unfold qv
  induction l with
  | nil => rfl
  | cons m l ih =>
    rw [List.find?_cons, List.find?_cons, pre_sp m (hl m (by simp)) c hc y s, ih (fun m hm => hl m (by simp [hm]))]
theorem marks_sp : ∀ m ∈ marksL, ∀ x ∈ m, spB x = false := by decide +kernel
theorem ops_sp : ∀ m ∈ opsL, ∀ x ∈ m, spB x = false := by decide +kernel
theorem sp_low128 {c : UInt8} (h : spB c = true) : c.toNat < 128 := by
  by_cases hc : c.toNat < 128
  · exact hc
  · rw [spB_high c (by omega)] at h; cases h
theorem part_sp (c : UInt8) (h : spB c = true) : partB (c.toNat : Int) = false := by
  have : ∀ n : Fin 256, spB (UInt8.ofNat n.1) = true → partB ((UInt8.ofNat n.1).toNat : Int) = false := by decide +kernel
  have := this ⟨c.toNat, c.toNat_lt⟩
  simpa using this (by simpa using h)
theorem dec_sp (x y : List UInt8) (c : UInt8) (hx : x ≠ []) (hc : c.toNat < 128) : Lib.decodeL (x ++ c :: y) = Lib.decodeL x ∧ (Lib.decodeL x).2 ≤ x.length := by
  obtain ⟨h1, h2⟩ := dec_in x y c hx hc
  by_cases hd : Lib.decodeL (x ++ c :: y) = (65533, 1)
  · rw [h1 hd, hd]
    exact ⟨rfl, List.length_pos_iff.2 hx⟩
  · obtain ⟨e1, e2⟩ := h2 hd
    rw [e1]
    exact ⟨rfl, e2⟩
theorem runL_sp (c : UInt8) (hc : spB c = true) (y : List UInt8) : ∀ (n m : Nat) (s : List UInt8), s.length ≤ n → s.length + 1 ≤ m → runL m (s ++ c :: y) = runL n s
  | n, 0, s, h1, h2 => by omega
  | 0, m + 1, s, h1, h2 => by
    obtain rfl : s = [] := List.length_eq_zero_iff.1 (by omega)
    simp only [runL, List.nil_append]
    rw [if_neg (by simp), Lib.decodeL_ascii c y (sp_low128 hc)]
    simp only
    rw [if_neg (by rw [part_sp c hc]; simp)]
  | n + 1, m + 1, s, h1, h2 => by
    by_cases hs : s = []
    · subst hs
      simp only [runL, List.nil_append]
      rw [if_neg (by simp), Lib.decodeL_ascii c y (sp_low128 hc)]
      simp only
      rw [if_neg (by rw [part_sp c hc]; simp), if_pos trivial]
    · obtain ⟨e1, e2⟩ := dec_sp s y c hs (sp_low128 hc)
      have hw := Lib.decodeL_width s
      simp only [runL]
      rw [if_neg (by simp), if_neg hs, e1]
      split
      · rw [List.take_append_of_le_length e2, List.drop_append_of_le_length e2, runL_sp c hc y n m _ (by rw [List.length_drop]; omega) (by rw [List.length_drop]; omega)]
      · rfl
theorem run_sp (c : UInt8) (hc : spB c = true) (y s : List UInt8) : runS (s ++ c :: y) = runS s := by
  unfold runS
  exact runL_sp c hc y _ _ s (Nat.le_refl _) (by simp)
theorem takeW_sp (p : UInt8 → Bool) (c : UInt8) (hc : p c = false) (y : List UInt8) : ∀ s : List UInt8, (s ++ c :: y).takeWhile p = s.takeWhile p
  | [] => by simp [List.takeWhile_cons, hc]
  | d :: s => by
    rw [List.cons_append, List.takeWhile_cons, List.takeWhile_cons, takeW_sp p c hc y s]
theorem dropW_sp (p : UInt8 → Bool) (c : UInt8) (hc : p c = false) (y : List UInt8) : ∀ s : List UInt8, (s ++ c :: y).dropWhile p = s.dropWhile p ++ c :: y
  | [] => by simp [List.dropWhile_cons, hc]
  | d :: s => by
    rw [List.cons_append, List.dropWhile_cons, List.dropWhile_cons, dropW_sp p c hc y s]
    split <;> rfl
theorem sp_dig {c : UInt8} (h : spB c = true) : digB c = false := by
  cases hd : digB c with
  | false => rfl
  | true => rw [spB_dig c hd] at h; cases h
theorem sp_ne {c : UInt8} (h : spB c = true) (d : UInt8) (hd : spB d = false) : c ≠ d := fun e => by rw [e, hd] at h; cases h
theorem num_sp (c : UInt8) (hc : spB c = true) (y s : List UInt8) : numT (s ++ c :: y) = numT s := by
  unfold numT
  rw [takeW_sp digB c (sp_dig hc) y s, dropW_sp digB c (sp_dig hc) y s]
  cases hr : s.dropWhile digB with
  | nil =>
    rw [List.nil_append, if_neg (by simp; exact sp_ne hc 46 (by decide)), if_neg (by simp)]
  | cons d t =>
    simp only [List.cons_append, List.head?_cons, List.tail_cons]
    rw [takeW_sp digB c (sp_dig hc) y t]
    rfl
theorem numB_sp (c : UInt8) (hc : spB c = true) (y : List UInt8) (d : UInt8) (t : List UInt8) : numB (d :: t ++ c :: y) = numB (d :: t) := by
  cases t with
  | nil => simp [numB, sp_dig hc]
  | cons b t => rfl
theorem numT_le (s : List UInt8) : (numT s).length ≤ s.length := by
  have h : s.takeWhile digB ++ s.dropWhile digB = s := List.takeWhile_append_dropWhile
  have hl := congrArg List.length h
  rw [List.length_append] at hl
  unfold numT
  split
  · rename_i h2
    cases hr : s.dropWhile digB with
    | nil => rw [hr] at h2; simp at h2
    | cons a t =>
      rw [hr] at hl
      have := (List.takeWhile_sublist (l := t) digB).length_le
      simp at hl ⊢
      omega
  · omega
theorem runS_le (s : List UInt8) : (runS s).length ≤ s.length := runL_len _ s
end Go.Proofs.YthilcidoacgdfaaGreatDoor.LexA
namespace Go.Proofs.YthilcidoacgdfaaGreatDoor.CharA
end Go.Proofs.YthilcidoacgdfaaGreatDoor.CharA
namespace Go.Proofs.YthilcidoacgdfaaGreatDoor.CharB
end Go.Proofs.YthilcidoacgdfaaGreatDoor.CharB
namespace Go.Proofs.YthilcidoacgdfaaGreatDoor.CharD
end Go.Proofs.YthilcidoacgdfaaGreatDoor.CharD
namespace Go.Proofs.YthilcidoacgdfaaGreatDoor.CharF
end Go.Proofs.YthilcidoacgdfaaGreatDoor.CharF
namespace Go.Proofs.YthilcidoacgdfaaGreatDoor.FigA
end Go.Proofs.YthilcidoacgdfaaGreatDoor.FigA
namespace Go.Proofs.YthilcidoacgdfaaGreatDoor.FigC
end Go.Proofs.YthilcidoacgdfaaGreatDoor.FigC
namespace Go.Proofs.YthilcidoacgdfaaGreatDoor.LexA
end Go.Proofs.YthilcidoacgdfaaGreatDoor.LexA
namespace Go.Proofs.YthilcidoacgdfaaGreatDoor.LexB
end Go.Proofs.YthilcidoacgdfaaGreatDoor.LexB
namespace Go.Proofs.YthilcidoacgdfaaGreatDoor.SpanA
end Go.Proofs.YthilcidoacgdfaaGreatDoor.SpanA
namespace Go.Proofs.YthilcidoacgdfaaGreatDoor.Txt
end Go.Proofs.YthilcidoacgdfaaGreatDoor.Txt
namespace Go.Proofs.YthilcidoacgdfaaGreatDoorW.PrintLast
end Go.Proofs.YthilcidoacgdfaaGreatDoorW.PrintLast
namespace Go.Proofs.YthilcidoacgdfaaGreatDoorW.PrintMore
end Go.Proofs.YthilcidoacgdfaaGreatDoorW.PrintMore
namespace Go.Proofs.YthilcidoacgdfaaGreatDoorW.PrintWords
end Go.Proofs.YthilcidoacgdfaaGreatDoorW.PrintWords
namespace Go.Proofs.YthilcidoacgdfaaGreatDoor.LexC
open Go.RowKit YthilcidoacgdfaaGreatDoorW.PrintWords YthilcidoacgdfaaGreatDoorW.PrintLast YthilcidoacgdfaaGreatDoorW.PrintMore CharA CharB CharD CharF SpanA FigA FigC Txt LexA LexB
set_option linter.unusedVariables false
set_option linter.unusedSimpArgs false
theorem sp_text (y : List UInt8) (hy : ∀ x ∈ y, spB x = true) : textB (ba y) = true := by
  induction y with
  | nil => exact textB_nil
  | cons c y ih =>
    have hc := hy c (by simp)
    rw [textB_low c y (sp_low128 hc), ih (fun x hx => hy x (by simp [hx])), Bool.and_true]
    have : ∀ n : Fin 256, spB (UInt8.ofNat n.1) = true → isB ((UInt8.ofNat n.1).toNat : Int) = true := by decide +kernel
    have := this ⟨c.toNat, c.toNat_lt⟩
    simpa using this (by simpa using hc)
theorem drop_twice (s : List UInt8) : (s.dropWhile spB).dropWhile spB = s.dropWhile spB := by
  cases hr : s.dropWhile spB with
  | nil => rfl
  | cons b t =>
    have := List.head?_dropWhile_not spB s
    rw [hr] at this
    simp at this
    rw [List.dropWhile_cons, if_neg (by simp [this])]
end Go.Proofs.YthilcidoacgdfaaGreatDoor.LexC
namespace Go.Proofs.YthilcidoacgdfaaGreatDoor.CharA
end Go.Proofs.YthilcidoacgdfaaGreatDoor.CharA
namespace Go.Proofs.YthilcidoacgdfaaGreatDoor.CharB
end Go.Proofs.YthilcidoacgdfaaGreatDoor.CharB
namespace Go.Proofs.YthilcidoacgdfaaGreatDoor.CharD
end Go.Proofs.YthilcidoacgdfaaGreatDoor.CharD
namespace Go.Proofs.YthilcidoacgdfaaGreatDoor.CharF
end Go.Proofs.YthilcidoacgdfaaGreatDoor.CharF
namespace Go.Proofs.YthilcidoacgdfaaGreatDoor.FigA
end Go.Proofs.YthilcidoacgdfaaGreatDoor.FigA
namespace Go.Proofs.YthilcidoacgdfaaGreatDoor.LexA
end Go.Proofs.YthilcidoacgdfaaGreatDoor.LexA
namespace Go.Proofs.YthilcidoacgdfaaGreatDoor.SpanA
end Go.Proofs.YthilcidoacgdfaaGreatDoor.SpanA
namespace Go.Proofs.YthilcidoacgdfaaGreatDoor.Txt
end Go.Proofs.YthilcidoacgdfaaGreatDoor.Txt
namespace Go.Proofs.YthilcidoacgdfaaGreatDoorW.PrintLast
end Go.Proofs.YthilcidoacgdfaaGreatDoorW.PrintLast
namespace Go.Proofs.YthilcidoacgdfaaGreatDoorW.PrintMore
end Go.Proofs.YthilcidoacgdfaaGreatDoorW.PrintMore
namespace Go.Proofs.YthilcidoacgdfaaGreatDoorW.PrintWords
end Go.Proofs.YthilcidoacgdfaaGreatDoorW.PrintWords
namespace Go.Proofs.YthilcidoacgdfaaGreatDoor.TxtB
open Go.RowKit YthilcidoacgdfaaGreatDoorW.PrintWords YthilcidoacgdfaaGreatDoorW.PrintLast YthilcidoacgdfaaGreatDoorW.PrintMore CharA CharB CharD CharF SpanA FigA Txt LexA
set_option linter.unusedVariables false
set_option linter.unusedSimpArgs false
theorem dk (n m b0 b1 b2 b3 c1 c2 c3 : Nat) (h2 : 2 ≤ (Lib.decodeN n b0 b1 b2 b3).2) (hm : (Lib.decodeN n b0 b1 b2 b3).2 ≤ m) (e1 : c1 = b1) (e2 : 2 < (Lib.decodeN n b0 b1 b2 b3).2 → c2 = b2) (e3 : 3 < (Lib.decodeN n b0 b1 b2 b3).2 → c3 = b3) :
    Lib.decodeN m b0 c1 c2 c3 = Lib.decodeN n b0 b1 b2 b3 := by
  subst e1
  generalize hk : (Lib.decodeN n b0 c1 b2 b3).2 = k at h2 hm e2 e3
  unfold Lib.decodeN at hk ⊢
  repeat' split at hk
  all_goals first
    | (exfalso; simp only at hk; omega)
    | (simp only at hk
       subst hk
       first
         | (have E2 := e2 (by omega); subst E2; first | (have E3 := e3 (by omega); subst E3; simp_all) | simp_all)
         | simp_all)
  all_goals (repeat' split)
  all_goals first | (exfalso; omega) | rfl
theorem getD_take (s z : List UInt8) (k i : Nat) (hk : k ≤ s.length) (h : i < k) : (s.take k ++ z).getD i 0 = s.getD i 0 := by
  simp only [List.getD]
  rw [List.getElem?_append_left (by rw [List.length_take]; omega), List.getElem?_take, if_pos h]
theorem dec_take (s z : List UInt8) (hs : s ≠ []) (h : Lib.decodeL s ≠ (65533, 1)) : Lib.decodeL (s.take (Lib.decodeL s).2 ++ z) = Lib.decodeL s := by
  have hle := Lib.decodeL_le s hs
  by_cases h1 : 2 ≤ (Lib.decodeL s).2
  · have hl : (s.take (Lib.decodeL s).2 ++ z).length = (Lib.decodeL s).2 + z.length := by
      rw [List.length_append, List.length_take]; omega
    have hg : ∀ i, i < (Lib.decodeL s).2 → (s.take (Lib.decodeL s).2 ++ z).getD i 0 = s.getD i 0 := fun i hi => getD_take s z _ i hle hi
    generalize s.take (Lib.decodeL s).2 ++ z = y at hl hg ⊢
    rw [Lib.decodeL_N y, hg 0 (by omega)]
    rw [Lib.decodeL_N s] at h1 hl hg ⊢
    exact dk _ _ _ _ _ _ _ _ _ h1 (by omega) (by rw [hg 1 (by omega)]) (fun z => by rw [hg 2 z]) (fun z => by rw [hg 3 z])
  · have hw := Lib.decodeL_width s
    have hone : (Lib.decodeL s).2 = 1 := by omega
    cases s with
    | nil => exact absurd rfl hs
    | cons c t =>
      rw [hone]
      by_cases hc : c.toNat < 128
      · rw [Lib.decodeL_ascii c t hc]
        exact Lib.decodeL_ascii c _ hc
      · exfalso
        rw [Lib.decodeL_N] at h hone
        rcases dn_wide _ _ _ _ _ (by simp; omega) h with ⟨q, _⟩ | ⟨q, _⟩ | ⟨q, _⟩ <;> omega
theorem run_self : ∀ (n m : Nat) (s : List UInt8), textB (ba s) = true → (runL n s).length ≤ m → runL m (runL n s) = runL n s ∧ textB (ba (runL n s)) = true
  | 0, m, s, _, _ => by
    refine ⟨?_, textB_nil⟩
    cases m <;> simp [runL]
  | n + 1, m, s, ht, hm => by
    simp only [runL] at hm ⊢
    by_cases hs : s = []
    · rw [if_pos hs]
      refine ⟨?_, textB_nil⟩
      cases m <;> simp [runL]
    rw [if_neg hs] at hm ⊢
    by_cases hp : partB ((Lib.decodeL s).1 : Int) = true
    · rw [if_pos hp] at hm ⊢
      have hst := textB_step s hs
      rw [ht] at hst
      have hg : Lib.decodeL s ≠ (65533, 1) := by
        intro hbad
        rw [if_pos hbad] at hst
        cases hst
      rw [if_neg hg] at hst
      have hst := hst.symm
      rw [Bool.and_eq_true] at hst
      have hw := Lib.decodeL_width s
      have hle := Lib.decodeL_le s hs
      have hlt : (s.take (Lib.decodeL s).2).length = (Lib.decodeL s).2 := by rw [List.length_take]; omega
      rw [List.length_append, hlt] at hm
      obtain ⟨m, rfl⟩ : ∃ k, m = k + 1 := ⟨m - 1, by omega⟩
      obtain ⟨i1, i2⟩ := run_self n m (s.drop (Lib.decodeL s).2) hst.2 (by omega)
      have hd := dec_take s (runL n (s.drop (Lib.decodeL s).2)) hs hg
      have hne : s.take (Lib.decodeL s).2 ++ runL n (s.drop (Lib.decodeL s).2) ≠ [] := by
        intro h0
        have := congrArg List.length h0
        rw [List.length_append, hlt, List.length_nil] at this
        omega
      have e1 : (s.take (Lib.decodeL s).2 ++ runL n (s.drop (Lib.decodeL s).2)).take (Lib.decodeL s).2 = s.take (Lib.decodeL s).2 := by
        rw [List.take_append_of_le_length (by omega), List.take_of_length_le (by omega)]
      have e2 : (s.take (Lib.decodeL s).2 ++ runL n (s.drop (Lib.decodeL s).2)).drop (Lib.decodeL s).2 = runL n (s.drop (Lib.decodeL s).2) := by
        rw [List.drop_append_of_le_length (by omega), List.drop_of_length_le (by omega), List.nil_append]
      refine ⟨?_, ?_⟩
      · simp only [runL]
        rw [if_neg hne, hd, if_pos hp, e1, e2, i1]
      · rw [textB_step _ hne, hd, if_neg hg, e2, hst.1, i2]
        rfl
    · rw [if_neg hp]
      refine ⟨?_, textB_nil⟩
      cases m <;> simp [runL]
theorem run_again (s : List UInt8) (h : textB (ba s) = true) : runS (runS s) = runS s ∧ textB (ba (runS s)) = true := run_self _ _ s h (Nat.le_refl _)
end Go.Proofs.YthilcidoacgdfaaGreatDoor.TxtB
