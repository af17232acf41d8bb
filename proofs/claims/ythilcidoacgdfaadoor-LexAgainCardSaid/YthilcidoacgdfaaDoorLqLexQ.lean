/- The law LexAgain: a word's text, and the walk. -/
import Derived.Test.YthilcidoacgdfaaDoorLqLexO
import Derived.Test.YthilcidoacgdfaaDoorLqLexE
namespace Go.Proofs.YthilcidoacgdfaaDoor.CharA
end Go.Proofs.YthilcidoacgdfaaDoor.CharA
namespace Go.Proofs.YthilcidoacgdfaaDoor.CharB
end Go.Proofs.YthilcidoacgdfaaDoor.CharB
namespace Go.Proofs.YthilcidoacgdfaaDoor.CharC
end Go.Proofs.YthilcidoacgdfaaDoor.CharC
namespace Go.Proofs.YthilcidoacgdfaaDoor.CharD
end Go.Proofs.YthilcidoacgdfaaDoor.CharD
namespace Go.Proofs.YthilcidoacgdfaaDoor.CharF
end Go.Proofs.YthilcidoacgdfaaDoor.CharF
namespace Go.Proofs.YthilcidoacgdfaaDoor.FigA
end Go.Proofs.YthilcidoacgdfaaDoor.FigA
namespace Go.Proofs.YthilcidoacgdfaaDoor.FigC
end Go.Proofs.YthilcidoacgdfaaDoor.FigC
namespace Go.Proofs.YthilcidoacgdfaaDoor.FigD
end Go.Proofs.YthilcidoacgdfaaDoor.FigD
namespace Go.Proofs.YthilcidoacgdfaaDoor.FigG
end Go.Proofs.YthilcidoacgdfaaDoor.FigG
namespace Go.Proofs.YthilcidoacgdfaaDoor.FigH
end Go.Proofs.YthilcidoacgdfaaDoor.FigH
namespace Go.Proofs.YthilcidoacgdfaaDoor.FigI
end Go.Proofs.YthilcidoacgdfaaDoor.FigI
namespace Go.Proofs.YthilcidoacgdfaaDoor.LexA
end Go.Proofs.YthilcidoacgdfaaDoor.LexA
namespace Go.Proofs.YthilcidoacgdfaaDoor.LexC
end Go.Proofs.YthilcidoacgdfaaDoor.LexC
namespace Go.Proofs.YthilcidoacgdfaaDoor.LexD
end Go.Proofs.YthilcidoacgdfaaDoor.LexD
namespace Go.Proofs.YthilcidoacgdfaaDoor.LexE
end Go.Proofs.YthilcidoacgdfaaDoor.LexE
namespace Go.Proofs.YthilcidoacgdfaaDoor.LexF
end Go.Proofs.YthilcidoacgdfaaDoor.LexF
namespace Go.Proofs.YthilcidoacgdfaaDoor.LexG
end Go.Proofs.YthilcidoacgdfaaDoor.LexG
namespace Go.Proofs.YthilcidoacgdfaaDoor.LexH
end Go.Proofs.YthilcidoacgdfaaDoor.LexH
namespace Go.Proofs.YthilcidoacgdfaaDoor.LexM
end Go.Proofs.YthilcidoacgdfaaDoor.LexM
namespace Go.Proofs.YthilcidoacgdfaaDoor.LexN
end Go.Proofs.YthilcidoacgdfaaDoor.LexN
namespace Go.Proofs.YthilcidoacgdfaaDoor.LexO
end Go.Proofs.YthilcidoacgdfaaDoor.LexO
namespace Go.Proofs.YthilcidoacgdfaaDoor.SpanA
end Go.Proofs.YthilcidoacgdfaaDoor.SpanA
namespace Go.Proofs.YthilcidoacgdfaaDoorW.PrintLast
end Go.Proofs.YthilcidoacgdfaaDoorW.PrintLast
namespace Go.Proofs.YthilcidoacgdfaaDoorW.PrintMore
end Go.Proofs.YthilcidoacgdfaaDoorW.PrintMore
namespace Go.Proofs.YthilcidoacgdfaaDoorW.PrintWords
end Go.Proofs.YthilcidoacgdfaaDoorW.PrintWords
namespace Go.Proofs.YthilcidoacgdfaaDoor.LexQ
open Go.RowKit Go.Shelf Go.Proofs.YthilcidoacgdfaaDoorW.PrintWords Go.Proofs.YthilcidoacgdfaaDoorW.PrintLast Go.Proofs.YthilcidoacgdfaaDoorW.PrintMore Go.Proofs.YthilcidoacgdfaaDoor.CharA Go.Proofs.YthilcidoacgdfaaDoor.CharB Go.Proofs.YthilcidoacgdfaaDoor.CharC Go.Proofs.YthilcidoacgdfaaDoor.CharD Go.Proofs.YthilcidoacgdfaaDoor.CharF Go.Proofs.YthilcidoacgdfaaDoor.SpanA Go.Proofs.YthilcidoacgdfaaDoor.FigA Go.Proofs.YthilcidoacgdfaaDoor.FigC Go.Proofs.YthilcidoacgdfaaDoor.FigD Go.Proofs.YthilcidoacgdfaaDoor.FigG Go.Proofs.YthilcidoacgdfaaDoor.FigH Go.Proofs.YthilcidoacgdfaaDoor.FigI Go.Proofs.YthilcidoacgdfaaDoor.LexA Go.Proofs.YthilcidoacgdfaaDoor.LexC Go.Proofs.YthilcidoacgdfaaDoor.LexD Go.Proofs.YthilcidoacgdfaaDoor.LexE Go.Proofs.YthilcidoacgdfaaDoor.LexF Go.Proofs.YthilcidoacgdfaaDoor.LexG Go.Proofs.YthilcidoacgdfaaDoor.LexH Go.Proofs.YthilcidoacgdfaaDoor.LexM Go.Proofs.YthilcidoacgdfaaDoor.LexN Go.Proofs.YthilcidoacgdfaaDoor.LexO
set_option linter.unusedVariables false
set_option linter.unusedSimpArgs false
theorem text_dollar (t : List UInt8) (d1 d2 : Int) (w : World) (ht : t.length ≤ 1000) : Calls Tryd.prog 21 #[.agg #[.int .i64 10, .string (ba t), .int .i64 d1, .int .i64 d2]] w fun e w' => e = .returned (.string (ba (36 :: t))) ∧ Below w.heap.size w w' := by
  have hB := Aside0.mk ((Below.refl w.heap.size w).alloc (Nat.le_refl _) (Obj.cells #[.int .i64 10, .string (ba t), .int .i64 d1, .int .i64 d2] 38))
  have hs : (ba t).size ≤ 1000 := by rw [ba_size]; exact ht
  have he : (⟨#[36]⟩ : ByteArray) ++ ba t = ba (36 :: t) := ba_app [36] t
  go_enter Tryd.func21, Tryd.ntmps21
  go_wp2_with fail
  go_ret
  exact ⟨rfl, hB.out⟩
theorem text_plain (k : Int) (t : List UInt8) (d1 d2 : Int) (w : World) (h1 : k ≠ 10) (h2 : k ≠ 8) : Calls Tryd.prog 21 #[.agg #[.int .i64 k, .string (ba t), .int .i64 d1, .int .i64 d2]] w fun e w' => e = .returned (.string (ba t)) ∧ Below w.heap.size w w' := by
  have hB := Aside0.mk ((Below.refl w.heap.size w).alloc (Nat.le_refl _) (Obj.cells #[.int .i64 k, .string (ba t), .int .i64 d1, .int .i64 d2] 38))
  have q1 : (k == 10) = false := by simpa using h1
  have q2 : (k != 8) = true := by simpa using h2
  go_enter Tryd.func21, Tryd.ntmps21
  go_wp2_with fail
  go_ret
  exact ⟨rfl, hB.out⟩
set_option maxHeartbeats 4000000 in
set_option maxRecDepth 100000 in
theorem text_lit (t : List UInt8) (d1 d2 : Int) (w : World) (ht : t.length ≤ 1000) : Calls Tryd.prog 21 #[.agg #[.int .i64 8, .string (ba t), .int .i64 d1, .int .i64 d2]] w fun e w' => e = .returned (.string (ba (txtW (8, t, d1, d2)))) ∧ Below w.heap.size w w' := by
  have hB := Aside0.mk ((Below.refl w.heap.size w).alloc (Nat.le_refl _) (Obj.cells #[.int .i64 8, .string (ba t), .int .i64 d1, .int .i64 d2] 38))
  have hs : (ba t).size ≤ 1000 := by rw [ba_size]; exact ht
  have hsz := ba_size t
  have e1 : (⟨#[39]⟩ : ByteArray) ++ ba t ++ ⟨#[39]⟩ = ba (39 :: (t ++ [39])) := by rw [show (⟨#[39]⟩ : ByteArray) = ba [39] from rfl, ba_app, ba_app]; rfl
  have e2 : (⟨#[34]⟩ : ByteArray) ++ ba t ++ ⟨#[34]⟩ = ba (34 :: (t ++ [34])) := by rw [show (⟨#[34]⟩ : ByteArray) = ba [34] from rfl, ba_app, ba_app]; rfl
  have htx : txtW (8, t, d1, d2) = if (34 : UInt8) ∈ t then 39 :: (t ++ [39]) else 34 :: (t ++ [34]) := by unfold txtW; rw [if_neg (show ¬ (8 : Int) = 10 by decide), if_pos rfl]
  have HT := Aside0.mk htx
  obtain ⟨R, hR⟩ : ∃ R, txtW (8, t, d1, d2) = R := ⟨_, rfl⟩
  rw [hR] at HT ⊢
  have HZ := Aside0.mk hsz
  clear htx hR hsz
  go_enter Tryd.func21, Tryd.ntmps21
  go_wp2_with fail
  go_loop [3] (fun i => ∃ k : Nat, i = .int .i64 (k : Int) ∧ Aside0 (k ≤ (ba t).size ∧ (34 : UInt8) ∉ t.take k)) (fun i => (ba t).size - (intOf i).toNat)
  case atStart => exact ⟨0, rfl, ⟨Nat.zero_le _, by simp⟩⟩
  case round =>
    obtain ⟨k, rfl, H⟩ := hrel
    have hk := H.out.1
    by_cases hlt : k < (ba t).size
    · have hlt' : k < t.length := by rw [← HZ.out]; exact hlt
      by_cases h34 : t[k] = 34
      · have q : ((((ba t)[k]'hlt).toNat : Int) == 34) = true := by rw [beq_iff_eq, show (ba t)[k]'hlt = t[k] from rfl, h34]; rfl
        have hr : R = 39 :: (t ++ [39]) := by rw [HT.out, if_pos (by rw [← h34]; exact List.getElem_mem hlt')]
        subst hr
        clear h34 H
        go_wp2_with fail
        go_ret
        exact ⟨rfl, hB.out⟩
      · have q : ((((ba t)[k]'hlt).toNat : Int) == 34) = false := by rw [beq_eq_false_iff_ne, show (ba t)[k]'hlt = t[k] from rfl]; intro z; exact h34 ((u8i _ 34 (by omega)).1 z)
        have H2 : Aside0 ((34 : UInt8) ∉ t.take (k + 1)) := ⟨by rw [List.take_succ_eq_append_getElem hlt']; intro hm; rcases List.mem_append.1 hm with hm | hm; exact H.out.2 hm; simp at hm; exact h34 hm.symm⟩
        clear h34 H
        go_wp2_with fail
        go_round
        case rel => exact ⟨k + 1, by go_num, ⟨by omega, H2.out⟩⟩
        case measure => simp [intOf]; omega
    · have hr : R = 34 :: (t ++ [34]) := by
        rw [HT.out, if_neg]
        have := H.out.2
        rwa [List.take_of_length_le (by rw [← HZ.out]; omega)] at this
      subst hr
      clear H
      go_wp2_with fail
      go_ret
      exact ⟨rfl, hB.out⟩
theorem text_call (x : Wd) (w : World) (ht : x.2.1.length ≤ 1000) : Calls Tryd.prog 21 #[.agg #[.int .i64 x.1, .string (ba x.2.1), .int .i64 x.2.2.1, .int .i64 x.2.2.2]] w fun e w' => e = .returned (.string (ba (txtW x))) ∧ Below w.heap.size w w' := by
  obtain ⟨k, t, d1, d2⟩ := x
  by_cases h1 : k = 10
  · subst h1; exact text_dollar t d1 d2 w ht
  by_cases h2 : k = 8
  · subst h2; exact text_lit t d1 d2 w ht
  have : txtW (k, t, d1, d2) = t := by unfold txtW; rw [if_neg h1, if_neg h2]
  rw [this]
  exact text_plain k t d1 d2 w h1 h2
/-! ### the words' texts are short -/
theorem one_text {s : List UInt8} {e : Bool} {w : Wd} {r : List UInt8} (h : oneW s e = some (w, r)) : w.2.1.length ≤ s.length := by
  cases s with
  | nil => cases h
  | cons c t =>
    simp only [oneW] at h
    split at h
    · unfold litW at h
      cases hq : cutC c t with
      | none => rw [hq] at h; cases h
      | some q =>
        obtain ⟨a, r'⟩ := q
        rw [hq] at h
        cases h
        have := (cutC_app c t a r hq).1
        rw [this]
        simp
        omega
    split at h
    · unfold numW at h
      split at h
      · cases h
        exact numT_le _
      · cases h
    split at h
    · rename_i m hm
      cases h
      exact pre_len (find_pre hm).2
    split at h
    · rename_i m hm
      cases h
      exact pre_len (find_pre hm).2
    split at h
    · cases h; simp
    split at h
    · unfold varW at h
      split at h
      · cases h
        have := runS_le t
        simp
        omega
      · cases h
    · unfold nameW at h
      split at h
      · split at h
        · split at h
          · have h1 := congrArg (fun z : Wd × List UInt8 => z.1.2.1) (Option.some.inj h)
            simp only at h1
            rw [← h1]
            exact runS_le _
          · cases h
        · have h1 := congrArg (fun z : Wd × List UInt8 => z.1.2.1) (Option.some.inj h)
          simp only at h1
          rw [← h1]
          exact runS_le _
      · cases h
theorem lexL_text : ∀ (n : Nat) (s : List UInt8) (acc l : List Wd) (e : Int), s.length ≤ 400 → (∀ w ∈ acc, w.2.1.length ≤ 400) → lexL n s acc = (l, e) → ∀ w ∈ l, w.2.1.length ≤ 400
  | 0, s, acc, l, e, hs, ha, h => by simp only [lexL, Prod.mk.injEq] at h; rw [← h.1]; exact ha
  | n + 1, s, acc, l, e, hs, ha, h => by
    simp only [lexL] at h
    split at h
    · simp only [Prod.mk.injEq] at h; rw [← h.1]; exact ha
    · cases hq : oneW s (endsW acc) with
      | none => rw [hq] at h; simp only [Prod.mk.injEq] at h; rw [← h.1]; intro w hw; cases hw
      | some q =>
        obtain ⟨w, r⟩ := q
        rw [hq] at h
        simp only at h
        have h1 := one_less hq
        have h2 := one_text hq
        have h3 := dropW_len spB r
        split at h
        · simp only [Prod.mk.injEq] at h; rw [← h.1]; intro w hw; cases hw
        · refine lexL_text n _ _ l e (by omega) ?_ h
          intro v hv
          rcases List.mem_append.1 hv with hv | hv
          · exact ha v hv
          · simp at hv; subst hv; omega
theorem lexS_text (s : List UInt8) : ∀ w ∈ (lexS s).1, w.2.1.length ≤ 400 := by
  unfold lexS
  split
  · intro w hw; cases hw
  · split
    · have := dropW_len spB s
      exact lexL_text _ _ [] _ _ (by omega) (fun w hw => by cases hw) rfl
    · intro w hw; cases hw
theorem txtW_len (x : Wd) (h : x.2.1.length ≤ 400) : (txtW x).length ≤ 402 := by
  unfold txtW
  split
  · simp; omega
  · split
    · split <;> (simp; omega)
    · omega
theorem allW_take (l : List Wd) (k : Nat) (hk : k < l.length) : allW (l.take (k + 1)) = allW (l.take k) ++ txtW l[k] ++ [32] := by
  unfold allW
  rw [List.take_succ_eq_append_getElem hk, List.flatMap_append, List.append_assoc]
  congr 1
  simp
theorem allW_len : ∀ (l : List Wd), (∀ w ∈ l, w.2.1.length ≤ 400) → (allW l).length ≤ l.length * 403
  | [], _ => by simp [allW]
  | x :: l, h => by
    have h1 := txtW_len x (h x (by simp))
    have h2 := allW_len l (fun w hw => h w (by simp [hw]))
    have : (allW (x :: l)).length = (txtW x).length + 1 + (allW l).length := by simp [allW]; omega
    rw [this, List.length_cons]
    omega
set_option maxHeartbeats 8000000 in
set_option maxRecDepth 100000 in
theorem again_bad (s : ByteArray) (w : World) (hT : Tabs w) (hs : s.size ≤ 9223372036854775807) (h : (lexS s.data.toList).2 ≠ 0) : Calls Tryd.prog 8 #[.string s] w fun e w' => e = .returned (.bool true) ∧ Below w.heap.size w w' := by
  have hb := lexS_bad s.data.toList h
  have hc1 := lex_call s w hs hT
  have hw : ∀ W, Below w.heap.size w W → _ := fun W hW => works_calls W (tabs_below hT hW)
  generalize lexS s.data.toList = R at *
  obtain ⟨l, err⟩ := R
  simp only at h hb
  subst hb
  have he : (err != 0) = true := by simpa using h
  have HW := Aside0.mk hw
  clear h hT hw
  go_enter Tryd.func8, Tryd.ntmps8
  go_wp2_with fail
  refine hc1.mono ?_
  rintro e w1 ⟨A, cap, rfl, ho1, b1⟩
  have hw0 := HW.out _ b1
  have B1 := Aside0.mk b1
  clear b1 ho1
  go_wp2_with fail
  refine hw0.mono ?_
  rintro e w5 ⟨rfl, b5⟩
  have B5 := Aside0.mk (chain B1.out (Nat.le_refl _) b5)
  clear b5
  go_wp2_with fail
  go_ret
  exact ⟨by first | rfl | (simp; done), B5.out⟩
set_option maxHeartbeats 16000000 in
set_option maxRecDepth 100000 in
theorem again_good (s : ByteArray) (l : List Wd) (w : World) (hT : Tabs w) (hs : s.size ≤ 9223372036854775807) (h : lexS s.data.toList = (l, 0)) : Calls Tryd.prog 8 #[.string s] w fun e w' => e = .returned (.bool true) ∧ Below w.heap.size w w' := by
  have hc1 := lex_call s w hs hT
  have hag := lexS_again s.data.toList (by rw [h])
  have hlen := lexS_len s.data.toList
  have htx := lexS_text s.data.toList
  rw [h] at hc1 hag hlen htx
  simp only at hag hlen htx
  have hc2 : ∀ W, Below w.heap.size w W → (allW l).length ≤ 400 → Calls Tryd.prog 19 #[.string (ba (allW l))] W (Got W (l, 0)) := fun W hW h4 => by
    have := lex_call (ba (allW l)) W (by rw [ba_size]; omega) (tabs_below hT hW)
    rw [ba_list, hag h4] at this
    exact this
  have hw : ∀ W, Below w.heap.size w W → _ := fun W hW => works_calls W (tabs_below hT hW)
  have HW := Aside0.mk hw
  have HC := Aside0.mk hc2
  have HX := Aside0.mk htx
  have HN := Aside0.mk hlen
  clear h hT hw hc2 hag hlen htx
  go_enter Tryd.func8, Tryd.ntmps8
  go_wp2_with fail
  refine hc1.mono ?_
  rintro e w1 ⟨A, cap, rfl, ho1, b1⟩
  have HO := Aside0.mk ho1
  have B1 := Aside0.mk b1
  clear b1 ho1 hc1
  go_wp2_with fail
  go_loopg [5, 6] l.length (fun kq v5 v6 w' => ∃ k : Nat, v5 = .string (ba (allW (l.take k))) ∧ v6 = .int .i64 (k : Int) ∧ Aside0 (k + kq = l.length) ∧ Aside0 (Below w1.heap.size w1 w'))
  case atStart => exact ⟨0, rfl, rfl, ⟨by omega⟩, ⟨Below.refl _ _⟩⟩
  case round =>
    obtain ⟨k, rfl, rfl, HK, HB⟩ := hrel
    have hlen := HN.out
    by_cases hk : k < l.length
    · have hO := own_below HO.out HB.out
      obtain ⟨g, hA⟩ : ∃ g, A = some ⟨g, 0, none⟩ := by
        rcases hO.2 with ⟨_, h0⟩ | ⟨g, cap', cur, hv, _⟩
        · have h0 : l.length = 0 := h0; omega
        · cases hv; exact ⟨g, rfl⟩
      subst hA
      have y0 : wr.cell? ⟨g, k * 4, none⟩ = some (.int .i64 (l[k]'hk).1) := row_at hO (k * 4 + 0) _ (by rw [wcs_at l k 0 hk (by omega)]; rfl)
      have y1 : wr.cell? ⟨g, k * 4 + 1, none⟩ = some (.string (ba (l[k]'hk).2.1)) := row_at hO (k * 4 + 1) _ (by rw [wcs_at l k 1 hk (by omega)]; rfl)
      have y2 : wr.cell? ⟨g, k * 4 + 2, none⟩ = some (.int .i64 (l[k]'hk).2.2.1) := row_at hO (k * 4 + 2) _ (by rw [wcs_at l k 2 hk (by omega)]; rfl)
      have y3 : wr.cell? ⟨g, k * 4 + 3, none⟩ = some (.int .i64 (l[k]'hk).2.2.2) := row_at hO (k * 4 + 3) _ (by rw [wcs_at l k 3 hk (by omega)]; rfl)
      have hx := HX.out (l[k]'hk) (List.getElem_mem hk)
      have htc := text_call (l[k]'hk) wr (by omega)
      have hz1 : (ba (allW (l.take k))).size ≤ 100000 := by
        rw [ba_size]
        have := allW_len (l.take k) (fun w hw => HX.out w (List.mem_of_mem_take hw))
        rw [List.length_take] at this
        omega
      have hz2 : (ba (txtW (l[k]'hk))).size ≤ 402 := by rw [ba_size]; exact txtW_len _ hx
      have hnx : ba (allW (l.take k)) ++ ba (txtW (l[k]'hk)) ++ ⟨#[32]⟩ = ba (allW (l.take (k + 1))) := by rw [allW_take l k hk, show (⟨#[32]⟩ : ByteArray) = ba [32] from rfl, ba_app, ba_app]
      generalize (l[k]'hk) = x at *
      generalize ba (txtW x) = tx at *
      have HNX := Aside0.mk hnx
      obtain ⟨k1, rfl⟩ : ∃ k1, gk = k1 + 1 := ⟨gk - 1, by have := HK.out; omega⟩
      clear hO hx hnx
      generalize ba (allW (l.take k)) = tt at *
      go_wp2_with fail
      refine htc.mono ?_
      rintro e w3 ⟨rfl, b3⟩
      have B3 := Aside0.mk (chain HB.out (Nat.le_refl _) b3)
      clear b3 htc
      go_wp2_with fail
      go_roundg k1
      case measure => omega
      case rel => exact ⟨k + 1, by rw [← HNX.out], by go_num, ⟨by have := HK.out; omega⟩, B3⟩
    · have hkl : l.take k = l := List.take_of_length_le (by omega)
      rw [hkl]
      have hz : (ba (allW l)).size = (allW l).length := ba_size _
      have B2 := Aside0.mk (chain B1.out (Nat.le_refl _) HB.out)
      by_cases h4 : (allW l).length ≤ 400
      · have hd : decide ((400 : Int) < ((ba (allW l)).size : Int)) = false := by simp; omega
        have hc := HC.out _ B2.out h4
        have HO2 := Aside0.mk (own_below HO.out HB.out)
        clear hz h4 hkl
        go_wp2_with fail
        refine hc.mono ?_
        rintro e w2 ⟨A2, cap2, rfl, ho2, b2⟩
        have b3 := chain B2.out (Nat.le_refl _) b2
        have hsm := same_call A A2 cap cap2 _ _ l w2 (by omega) (own_below HO2.out b2) ho2
        have B3 := Aside0.mk b3
        clear ho2 b2 b3 hc
        go_wp2_with fail
        refine hsm.mono ?_
        rintro e w3 ⟨rfl, b4⟩
        have b5 := chain B3.out (Nat.le_refl _) b4
        have hw := HW.out _ b5
        have B5 := Aside0.mk b5
        clear b4 b5 hsm
        go_wp2_with fail
        refine hw.mono ?_
        rintro e w4 ⟨rfl, b6⟩
        have B6 := Aside0.mk (chain B5.out (Nat.le_refl _) b6)
        clear b6
        go_wp2_with fail
        go_ret
        exact ⟨by first | rfl | (simp; done), B6.out⟩
      · have hd : decide ((400 : Int) < ((ba (allW l)).size : Int)) = true := by simp; omega
        have hw := HW.out _ B2.out
        clear hz h4 hkl
        go_wp2_with fail
        refine hw.mono ?_
        rintro e w4 ⟨rfl, b6⟩
        have B6 := Aside0.mk (chain B2.out (Nat.le_refl _) b6)
        clear b6
        go_wp2_with fail
        go_ret
        exact ⟨by first | rfl | (simp; done), B6.out⟩
theorem againW (s : ByteArray) (w : World) (hT : Tabs w) (hs : s.size ≤ 9223372036854775807) : Calls Tryd.prog 8 #[.string s] w fun e w' => e = .returned (.bool true) ∧ Below w.heap.size w w' := by
  by_cases h : (lexS s.data.toList).2 = 0
  · exact again_good s (lexS s.data.toList).1 w hT hs (by rw [← h])
  · exact again_bad s w hT hs h
end Go.Proofs.YthilcidoacgdfaaDoor.LexQ
