/- The law LexStars: its walk. -/
import Derived.Test.YthilcidoacgdfaaDoorLqLexO
namespace Go.Proofs.YthilcidoacgdfaaDoor.CharA
end Go.Proofs.YthilcidoacgdfaaDoor.CharA
namespace Go.Proofs.YthilcidoacgdfaaDoor.CharB
end Go.Proofs.YthilcidoacgdfaaDoor.CharB
namespace Go.Proofs.YthilcidoacgdfaaDoor.CharC
end Go.Proofs.YthilcidoacgdfaaDoor.CharC
namespace Go.Proofs.YthilcidoacgdfaaDoor.CharD
end Go.Proofs.YthilcidoacgdfaaDoor.CharD
namespace Go.Proofs.YthilcidoacgdfaaDoor.CharF
end Go.Proofs.YthilcidoacgdfaaDoor.CharF
namespace Go.Proofs.YthilcidoacgdfaaDoor.FigA
end Go.Proofs.YthilcidoacgdfaaDoor.FigA
namespace Go.Proofs.YthilcidoacgdfaaDoor.FigC
end Go.Proofs.YthilcidoacgdfaaDoor.FigC
namespace Go.Proofs.YthilcidoacgdfaaDoor.FigD
end Go.Proofs.YthilcidoacgdfaaDoor.FigD
namespace Go.Proofs.YthilcidoacgdfaaDoor.FigG
end Go.Proofs.YthilcidoacgdfaaDoor.FigG
namespace Go.Proofs.YthilcidoacgdfaaDoor.FigH
end Go.Proofs.YthilcidoacgdfaaDoor.FigH
namespace Go.Proofs.YthilcidoacgdfaaDoor.FigI
end Go.Proofs.YthilcidoacgdfaaDoor.FigI
namespace Go.Proofs.YthilcidoacgdfaaDoor.LexA
end Go.Proofs.YthilcidoacgdfaaDoor.LexA
namespace Go.Proofs.YthilcidoacgdfaaDoor.LexC
end Go.Proofs.YthilcidoacgdfaaDoor.LexC
namespace Go.Proofs.YthilcidoacgdfaaDoor.LexF
end Go.Proofs.YthilcidoacgdfaaDoor.LexF
namespace Go.Proofs.YthilcidoacgdfaaDoor.LexG
end Go.Proofs.YthilcidoacgdfaaDoor.LexG
namespace Go.Proofs.YthilcidoacgdfaaDoor.LexM
end Go.Proofs.YthilcidoacgdfaaDoor.LexM
namespace Go.Proofs.YthilcidoacgdfaaDoor.LexN
end Go.Proofs.YthilcidoacgdfaaDoor.LexN
namespace Go.Proofs.YthilcidoacgdfaaDoor.LexO
end Go.Proofs.YthilcidoacgdfaaDoor.LexO
namespace Go.Proofs.YthilcidoacgdfaaDoor.SpanA
end Go.Proofs.YthilcidoacgdfaaDoor.SpanA
namespace Go.Proofs.YthilcidoacgdfaaDoorW.PrintLast
end Go.Proofs.YthilcidoacgdfaaDoorW.PrintLast
namespace Go.Proofs.YthilcidoacgdfaaDoorW.PrintMore
end Go.Proofs.YthilcidoacgdfaaDoorW.PrintMore
namespace Go.Proofs.YthilcidoacgdfaaDoorW.PrintWords
end Go.Proofs.YthilcidoacgdfaaDoorW.PrintWords
namespace Go.Proofs.YthilcidoacgdfaaDoor.LexP
open Go.RowKit Go.Shelf Go.Proofs.YthilcidoacgdfaaDoorW.PrintWords Go.Proofs.YthilcidoacgdfaaDoorW.PrintLast Go.Proofs.YthilcidoacgdfaaDoorW.PrintMore Go.Proofs.YthilcidoacgdfaaDoor.CharA Go.Proofs.YthilcidoacgdfaaDoor.CharB Go.Proofs.YthilcidoacgdfaaDoor.CharC Go.Proofs.YthilcidoacgdfaaDoor.CharD Go.Proofs.YthilcidoacgdfaaDoor.CharF Go.Proofs.YthilcidoacgdfaaDoor.SpanA Go.Proofs.YthilcidoacgdfaaDoor.FigA Go.Proofs.YthilcidoacgdfaaDoor.FigC Go.Proofs.YthilcidoacgdfaaDoor.FigD Go.Proofs.YthilcidoacgdfaaDoor.FigG Go.Proofs.YthilcidoacgdfaaDoor.FigH Go.Proofs.YthilcidoacgdfaaDoor.FigI Go.Proofs.YthilcidoacgdfaaDoor.LexA Go.Proofs.YthilcidoacgdfaaDoor.LexC Go.Proofs.YthilcidoacgdfaaDoor.LexF Go.Proofs.YthilcidoacgdfaaDoor.LexG Go.Proofs.YthilcidoacgdfaaDoor.LexM Go.Proofs.YthilcidoacgdfaaDoor.LexN Go.Proofs.YthilcidoacgdfaaDoor.LexO
set_option linter.unusedVariables false
set_option linter.unusedSimpArgs false
/-- What the law says of the word ahead. -/
def lawEnds (l : List Wd) : Bool := match l.getLast? with
  | none => false
  | some w => if w.1 = 5 then false else if w.1 = 1 then (w.2.1 == [41] || w.2.1 == [93] || w.2.1 == [46] || w.2.1 == [46, 46]) else true
theorem marks_ends : ∀ m ∈ marksL, (!(opensL.contains m)) = (m == [41] || m == [93] || m == [46] || m == [46, 46]) := by decide +kernel
theorem law_ends (s : List UInt8) (l : List Wd) (h : lexS s = (l, 0)) : lawEnds l = endsW l := by
  have hm : ∀ w ∈ l, w.1 = 1 → w.2.1 ∈ marksL := by
    unfold lexS at h
    split at h
    · cases h
    · split at h
      · exact lex_marks _ _ [] _ _ (by simp) h
      · cases h
  unfold lawEnds endsW
  cases hl : l.getLast? with
  | none => rfl
  | some w =>
    have hw : w ∈ l := List.mem_of_getLast? hl
    simp only
    split
    · rfl
    · split
      · rename_i h1
        rw [marks_ends _ (hm w hw h1)]
      · rfl
theorem five_at (w : World) (k : Nat) (hk : k < 5) : (w.alloc (Obj.cells #[.string ⟨#[42]⟩, .string ⟨#[97, 110, 100]⟩, .string ⟨#[111, 114]⟩, .string ⟨#[109, 111, 100]⟩, .string ⟨#[100, 105, 118]⟩] 9)).cell? ⟨w.heap.size, k, none⟩ = some (.string (ba (fiveL.getD k []))) := by
  rw [cell_h (blk_new w _) k]
  rcases (show k = 0 ∨ k = 1 ∨ k = 2 ∨ k = 3 ∨ k = 4 by omega) with rfl | rfl | rfl | rfl | rfl <;> rfl
theorem five_mem (k : Nat) (hk : k < 5) : fiveL.getD k [] ∈ fiveL ∧ (fiveL.getD k []).length ≤ 3 := by
  rcases (show k = 0 ∨ k = 1 ∨ k = 2 ∨ k = 3 ∨ k = 4 by omega) with rfl | rfl | rfl | rfl | rfl <;> decide
set_option maxHeartbeats 8000000 in
set_option maxRecDepth 100000 in
theorem stars_skip (s : ByteArray) (n : Int) (w : World) (hT : Tabs w) (hs : s.size ≤ 9223372036854775807) (h : 380 < s.size ∨ (s.size ≤ 380 ∧ ((lexS s.data.toList).2 ≠ 0 ∨ ((lexS s.data.toList).2 = 0 ∧ 118 < (lexS s.data.toList).1.length)))) : Calls Tryd.prog 9 #[.string s, .int .u8 n] w fun e w' => e = .returned (.bool true) ∧ Below w.heap.size w w' := by
  have hw : ∀ W, Below w.heap.size w W → _ := fun W hW => works_calls W (tabs_below hT hW)
  have hc1 := lex_call s w hs hT
  have hlen := lexS_len s.data.toList
  generalize lexS s.data.toList = R at *
  obtain ⟨l, err⟩ := R
  simp only at h hlen
  rcases h with h | ⟨h, h2 | ⟨rfl, h2⟩⟩
  · have hlb : decide ((380 : Int) < (s.size : Int)) = true := by simp; omega
    have hw0 := hw w (Below.refl _ _)
    clear h hT hw hc1
    go_enter Tryd.func9, Tryd.ntmps9
    go_wp2_with fail
    refine hw0.mono ?_
    rintro e w5 ⟨rfl, b5⟩
    go_wp2_with fail
    go_ret
    exact ⟨rfl, b5⟩
  · have hlb : decide ((380 : Int) < (s.size : Int)) = false := by simp; omega
    have he : (err != 0) = true := by simpa using h2
    have HW := Aside0.mk hw
    clear h h2 hT hw
    go_enter Tryd.func9, Tryd.ntmps9
    go_wp2_with fail
    refine hc1.mono ?_
    rintro e w1 ⟨A, cap, rfl, ho1, b1⟩
    have hw0 := HW.out _ b1
    have B1 := Aside0.mk b1
    clear b1 ho1
    go_wp2_with fail
    refine hw0.mono ?_
    rintro e w5 ⟨rfl, b5⟩
    have B5 := Aside0.mk (chain B1.out (Nat.le_refl _) b5)
    clear b5
    go_wp2_with fail
    go_ret
    exact ⟨rfl, B5.out⟩
  · have hlb : decide ((380 : Int) < (s.size : Int)) = false := by simp; omega
    have he : decide ((118 : Int) < (l.length : Int)) = true := by simp; omega
    have HW := Aside0.mk hw
    clear h h2 hT hw
    go_enter Tryd.func9, Tryd.ntmps9
    go_wp2_with fail
    refine hc1.mono ?_
    rintro e w1 ⟨A, cap, rfl, ho1, b1⟩
    have hw0 := HW.out _ b1
    have B1 := Aside0.mk b1
    clear b1 ho1
    go_wp2_with fail
    refine hw0.mono ?_
    rintro e w5 ⟨rfl, b5⟩
    have B5 := Aside0.mk (chain B1.out (Nat.le_refl _) b5)
    clear b5
    go_wp2_with fail
    go_ret
    exact ⟨rfl, B5.out⟩
/-- The kind of the word behind. -/
def kindE (E : Bool) (nm : List UInt8) : Int := if E = true then 5 else if nm = [42] then 3 else 2
theorem kindE_5 (E : Bool) (nm : List UInt8) : (kindE E nm == 5) = E := by
  unfold kindE
  cases E
  · rw [if_neg (by simp)]; split <;> rfl
  · rfl
set_option maxHeartbeats 8000000 in
set_option maxRecDepth 100000 in
theorem stars_none (s : ByteArray) (n : Int) (w : World) (hT : Tabs w) (h0 : 0 ≤ n) (h1 : n < 256) (hs : s.size ≤ 380) (hl : lexS s.data.toList = ([], 0)) : Calls Tryd.prog 9 #[.string s, .int .u8 n] w fun e w' => e = .returned (.bool true) ∧ Below w.heap.size w w' := by
  have hlb : decide ((380 : Int) < (s.size : Int)) = false := by simp; omega
  obtain ⟨k, hk⟩ : ∃ k : Nat, n % 5 = (k : Int) := ⟨(n % 5).toNat, by omega⟩
  have hk5 : k < 5 := by omega
  obtain ⟨hm, hml⟩ := five_mem k hk5
  have hv := fun w => five_at w k hk5
  have hc1 := lex_call s w (by omega) hT
  have hst := lex_star s.data.toList (fiveL.getD k []) hm [] (by rw [← Lib.size_eq]; exact hs) (by simp) hl
  have hc2 : ∀ W, Below w.heap.size w W → _ := fun W hW => lex_call (s ++ ⟨#[32]⟩ ++ ba (fiveL.getD k [])) W (by rw [app_size, app_size, ba_size]; show s.size + 1 + _ ≤ _; omega) (tabs_below hT hW)
  rw [app_list, app_list, ba_list, List.append_assoc, show (⟨#[32]⟩ : ByteArray).data.toList ++ fiveL.getD k [] = 32 :: fiveL.getD k [] from rfl, hst] at hc2
  rw [hl] at hc1
  have hw : ∀ W, Below w.heap.size w W → _ := fun W hW => works_calls W (tabs_below hT hW)
  have hKK := kindE_5 false (fiveL.getD k [])
  have hgs : (ba (fiveL.getD k [])).size ≤ 3 := by rw [ba_size]; exact hml
  have hKd : (if endsW [] = true then (5 : Int) else if fiveL.getD k [] = [42] then 3 else 2) = kindE false (fiveL.getD k []) := rfl
  rw [hKd] at hc2
  generalize kindE false (fiveL.getD k []) = K at *
  have HC := Aside0.mk hc2
  have HW := Aside0.mk hw
  have k0 : (k : Int) < 5 := by omega
  clear hst hT hc2 hw hl hm hml hKd
  generalize fiveL.getD k [] = nm at *
  go_enter Tryd.func9, Tryd.ntmps9
  go_wp2_with fail
  refine hc1.mono ?_
  rintro e w1 ⟨A, cap, rfl, ho1, b1⟩
  have v1 := hv w1
  have b2 := b1.alloc b1.size (Obj.cells #[.string ⟨#[42]⟩, .string ⟨#[97, 110, 100]⟩, .string ⟨#[111, 114]⟩, .string ⟨#[109, 111, 100]⟩, .string ⟨#[100, 105, 118]⟩] 9)
  have hc := HC.out _ b2
  have B2 := Aside0.mk b2
  clear ho1 b1 b2 hc1 HC hv
  go_wp2_with fail
  refine hc.mono ?_
  rintro e w2 ⟨A2, cap2, rfl, ho2, b3⟩
  obtain ⟨g, cap3, hvv⟩ := own_succ (n := 0) ho2
  cases hvv
  have y0 : w2.cell? ⟨g, 0, none⟩ = some (.int .i64 K) := row_at ho2 0 _ rfl
  have y1 : w2.cell? ⟨g, 1, none⟩ = some (.string (ba nm)) := row_at ho2 1 _ rfl
  have y2 : w2.cell? ⟨g, 2, none⟩ = some (.int .i64 0) := row_at ho2 2 _ rfl
  have y3 : w2.cell? ⟨g, 3, none⟩ = some (.int .i64 0) := row_at ho2 3 _ rfl
  have b4 := (chain B2.out (Nat.le_refl _) b3).alloc (Nat.le_trans B2.out.size b3.size) (Obj.cells #[.int .i64 K, .string (ba nm), .int .i64 0, .int .i64 0] 38)
  have hw0 := HW.out _ b4
  have B4 := Aside0.mk b4
  clear ho2 b3 b4 hc v1
  go_wp2_with fail
  refine hw0.mono ?_
  rintro e w5 ⟨rfl, b5⟩
  have B5 := Aside0.mk (chain B4.out (Nat.le_refl _) b5)
  clear b5
  go_wp2_with fail
  go_ret
  exact ⟨by first | rfl | (simp; done), B5.out⟩
theorem got_n {w : World} {R : List Wd × Int} {e : Ending} {w' : World} {n : Nat} (h : Got w R e w') (hn : R.1.length = n) : ∃ A cap, e = .returned (.tuple #[.slice A n cap, .int .i64 R.2]) ∧ w'.ownsRow w.heap.size 38 4 (.slice A n cap) n (wcs R.1) ∧ Below w.heap.size w w' := by
  subst hn
  exact h
set_option maxHeartbeats 16000000 in
set_option maxRecDepth 100000 in
theorem stars_some (s : ByteArray) (n : Int) (l : List Wd) (kd : Int) (tt : List UInt8) (e1 e2 : Int) (w : World) (hT : Tabs w) (h0 : 0 ≤ n) (h1 : n < 256) (hs : s.size ≤ 380) (hl : lexS s.data.toList = (l ++ [(kd, tt, e1, e2)], 0)) (hl8 : (l ++ [(kd, tt, e1, e2)]).length ≤ 118) : Calls Tryd.prog 9 #[.string s, .int .u8 n] w fun e w' => e = .returned (.bool true) ∧ Below w.heap.size w w' := by
  have hlb : decide ((380 : Int) < (s.size : Int)) = false := by simp; omega
  obtain ⟨k, hk⟩ : ∃ k : Nat, n % 5 = (k : Int) := ⟨(n % 5).toNat, by omega⟩
  have hk5 : k < 5 := by omega
  obtain ⟨hm, hml⟩ := five_mem k hk5
  have hv := fun w => five_at w k hk5
  have hle := law_ends _ _ hl
  have hc1 := lex_call s w (by omega) hT
  have hst := lex_star s.data.toList (fiveL.getD k []) hm _ (by rw [← Lib.size_eq]; exact hs) hl8 hl
  have hc2 : ∀ W, Below w.heap.size w W → _ := fun W hW => lex_call (s ++ ⟨#[32]⟩ ++ ba (fiveL.getD k [])) W (by rw [app_size, app_size, ba_size]; show s.size + 1 + _ ≤ _; omega) (tabs_below hT hW)
  rw [app_list, app_list, ba_list, List.append_assoc, show (⟨#[32]⟩ : ByteArray).data.toList ++ fiveL.getD k [] = 32 :: fiveL.getD k [] from rfl, hst] at hc2
  rw [hl] at hc1
  have hw : ∀ W, Below w.heap.size w W → _ := fun W hW => works_calls W (tabs_below hT hW)
  have hgs : (ba (fiveL.getD k [])).size ≤ 3 := by rw [ba_size]; exact hml
  obtain ⟨E, hE⟩ : ∃ E, endsW (l ++ [(kd, tt, e1, e2)]) = E := ⟨_, rfl⟩
  rw [hE] at hc2 hle
  have hKd : (if E = true then (5 : Int) else if fiveL.getD k [] = [42] then 3 else 2) = kindE E (fiveL.getD k []) := rfl
  rw [hKd] at hc2
  have hKK := kindE_5 E (fiveL.getD k [])
  have hlw : lawEnds (l ++ [(kd, tt, e1, e2)]) = if kd = 5 then false else if kd = 1 then (tt == [41] || tt == [93] || tt == [46] || tt == [46, 46]) else true := by unfold lawEnds; rw [List.getLast?_concat]
  rw [hlw] at hle
  generalize kindE E (fiveL.getD k []) = K at *
  have hlen : l.length ≤ 117 := by simp at hl8; omega
  have hc1n := hc1.mono fun e w' h => got_n (n := l.length + 1) h (by simp)
  have hc2n := fun W hW => (hc2 W hW).mono fun e w' h => got_n (n := l.length + 1 + 1) h (by simp)
  have HC := Aside0.mk hc2n
  have HW := Aside0.mk hw
  have HLE := Aside0.mk hle
  have k0 : (k : Int) < 5 := by omega
  clear hst hT hc2 hc1 hw hl hl8 hm hml hKd hc2n hlw hle hE
  generalize fiveL.getD k [] = nm at *
  rcases (show kd = 5 ∨ (kd ≠ 5 ∧ kd = 1) ∨ (kd ≠ 5 ∧ kd ≠ 1) by omega) with h5 | ⟨h5, h1'⟩ | ⟨h5, h1'⟩
  · obtain rfl : E = false := by rw [← HLE.out, if_pos h5]
    have q5 : (kd != 5) = false := by simpa using h5
    clear h5 HLE
    go_enter Tryd.func9, Tryd.ntmps9
    go_wp2_with fail
    refine hc1n.mono ?_
    rintro e w1 ⟨A, cap, rfl, ho1, b1⟩
    obtain ⟨g1, cap1, hvv⟩ := own_succ (n := l.length) ho1
    cases hvv
    have v1 := hv w1
    have b2 := b1.alloc b1.size (Obj.cells #[.string ⟨#[42]⟩, .string ⟨#[97, 110, 100]⟩, .string ⟨#[111, 114]⟩, .string ⟨#[109, 111, 100]⟩, .string ⟨#[100, 105, 118]⟩] 9)
    have al := (Below.refl w1.heap.size w1).alloc (Nat.le_refl _) (Obj.cells #[.string ⟨#[42]⟩, .string ⟨#[97, 110, 100]⟩, .string ⟨#[111, 114]⟩, .string ⟨#[109, 111, 100]⟩, .string ⟨#[100, 105, 118]⟩] 9)
    have HO1 := Aside0.mk (own_below ho1 al)
    have hc := HC.out _ b2
    have B2 := Aside0.mk b2
    clear ho1 b1 b2 hc1n HC hv al
    go_wp2_with fail
    refine hc.mono ?_
    rintro e w2 ⟨A2, cap2, rfl, ho2, b3⟩
    obtain ⟨g2, cap3, hvv⟩ := own_succ (n := l.length + 1) ho2
    cases hvv
    have ho1 := own_below HO1.out b3
    have p0 := last_cells ho1 0 _ rfl
    have p1 := last_cells ho1 1 _ rfl
    have y0 : w2.cell? ⟨g2, (l.length + 1) * 4, none⟩ = some (.int .i64 K) := row_at ho2 ((l.length + 1) * 4) _ (by rw [wcs_app, List.getElem?_append_right (by rw [wcs_len]; simp), wcs_len, wcs_one]; simp [wc])
    have y1 : w2.cell? ⟨g2, (l.length + 1) * 4 + 1, none⟩ = some (.string (ba nm)) := row_at ho2 ((l.length + 1) * 4 + 1) _ (by rw [wcs_app, List.getElem?_append_right (by rw [wcs_len]; simp), wcs_len, wcs_one]; simp [wc])
    have y2 : w2.cell? ⟨g2, (l.length + 1) * 4 + 2, none⟩ = some (.int .i64 0) := row_at ho2 ((l.length + 1) * 4 + 2) _ (by rw [wcs_app, List.getElem?_append_right (by rw [wcs_len]; simp), wcs_len, wcs_one]; simp [wc])
    have y3 : w2.cell? ⟨g2, (l.length + 1) * 4 + 3, none⟩ = some (.int .i64 0) := row_at ho2 ((l.length + 1) * 4 + 3) _ (by rw [wcs_app, List.getElem?_append_right (by rw [wcs_len]; simp), wcs_len, wcs_one]; simp [wc])
    have hg1 := (ho1.lt g1 rfl).2
    have a0 : (w2.alloc (Obj.cells #[.int .i64 K, .string (ba nm), .int .i64 0, .int .i64 0] 38)).cell? ⟨g1, l.length * 4, none⟩ = some (.int .i64 kd) := (World.cell?_alloc_lt w2 _ _ hg1).trans p0
    have a1 : (w2.alloc (Obj.cells #[.int .i64 K, .string (ba nm), .int .i64 0, .int .i64 0] 38)).cell? ⟨g1, l.length * 4 + 1, none⟩ = some (.string (ba tt)) := (World.cell?_alloc_lt w2 _ _ hg1).trans p1
    have b4 := (chain B2.out (Nat.le_refl _) b3).alloc (Nat.le_trans B2.out.size b3.size) (Obj.cells #[.int .i64 K, .string (ba nm), .int .i64 0, .int .i64 0] 38)
    have hw0 := HW.out _ b4
    have B4 := Aside0.mk b4
    clear ho1 ho2 HO1 p0 p1 b3 b4 hc v1 hg1
    go_wp2_with fail
    refine hw0.mono ?_
    rintro e w5 ⟨rfl, b5⟩
    have B5 := Aside0.mk (chain B4.out (Nat.le_refl _) b5)
    clear b5
    go_wp2_with fail
    go_ret
    exact ⟨by first | rfl | (simp; done), B5.out⟩
  · have q5 : (kd != 5) = true := by simpa using h5
    have q1 : (kd == 1) = true := by simpa using h1'
    have HE : Aside0 ((tt == [41] || tt == [93] || tt == [46] || tt == [46, 46]) = E) := ⟨by rw [← HLE.out, if_neg h5, if_pos h1']⟩
    have et : (ba tt).toList = tt := by rw [ByteArray.toList_eq, ba_list]
    clear h5 h1' HLE
    go_enter Tryd.func9, Tryd.ntmps9
    go_wp2_with fail
    refine hc1n.mono ?_
    rintro e w1 ⟨A, cap, rfl, ho1, b1⟩
    obtain ⟨g1, cap1, hvv⟩ := own_succ (n := l.length) ho1
    cases hvv
    have v1 := hv w1
    have b2 := b1.alloc b1.size (Obj.cells #[.string ⟨#[42]⟩, .string ⟨#[97, 110, 100]⟩, .string ⟨#[111, 114]⟩, .string ⟨#[109, 111, 100]⟩, .string ⟨#[100, 105, 118]⟩] 9)
    have al := (Below.refl w1.heap.size w1).alloc (Nat.le_refl _) (Obj.cells #[.string ⟨#[42]⟩, .string ⟨#[97, 110, 100]⟩, .string ⟨#[111, 114]⟩, .string ⟨#[109, 111, 100]⟩, .string ⟨#[100, 105, 118]⟩] 9)
    have HO1 := Aside0.mk (own_below ho1 al)
    have hc := HC.out _ b2
    have B2 := Aside0.mk b2
    clear ho1 b1 b2 hc1n HC hv al
    go_wp2_with fail
    refine hc.mono ?_
    rintro e w2 ⟨A2, cap2, rfl, ho2, b3⟩
    obtain ⟨g2, cap3, hvv⟩ := own_succ (n := l.length + 1) ho2
    cases hvv
    have ho1 := own_below HO1.out b3
    have p0 := last_cells ho1 0 _ rfl
    have p1 := last_cells ho1 1 _ rfl
    have y0 : w2.cell? ⟨g2, (l.length + 1) * 4, none⟩ = some (.int .i64 K) := row_at ho2 ((l.length + 1) * 4) _ (by rw [wcs_app, List.getElem?_append_right (by rw [wcs_len]; simp), wcs_len, wcs_one]; simp [wc])
    have y1 : w2.cell? ⟨g2, (l.length + 1) * 4 + 1, none⟩ = some (.string (ba nm)) := row_at ho2 ((l.length + 1) * 4 + 1) _ (by rw [wcs_app, List.getElem?_append_right (by rw [wcs_len]; simp), wcs_len, wcs_one]; simp [wc])
    have y2 : w2.cell? ⟨g2, (l.length + 1) * 4 + 2, none⟩ = some (.int .i64 0) := row_at ho2 ((l.length + 1) * 4 + 2) _ (by rw [wcs_app, List.getElem?_append_right (by rw [wcs_len]; simp), wcs_len, wcs_one]; simp [wc])
    have y3 : w2.cell? ⟨g2, (l.length + 1) * 4 + 3, none⟩ = some (.int .i64 0) := row_at ho2 ((l.length + 1) * 4 + 3) _ (by rw [wcs_app, List.getElem?_append_right (by rw [wcs_len]; simp), wcs_len, wcs_one]; simp [wc])
    have hg1 := (ho1.lt g1 rfl).2
    have a0 : (w2.alloc (Obj.cells #[.int .i64 K, .string (ba nm), .int .i64 0, .int .i64 0] 38)).cell? ⟨g1, l.length * 4, none⟩ = some (.int .i64 kd) := (World.cell?_alloc_lt w2 _ _ hg1).trans p0
    have a1 : (w2.alloc (Obj.cells #[.int .i64 K, .string (ba nm), .int .i64 0, .int .i64 0] 38)).cell? ⟨g1, l.length * 4 + 1, none⟩ = some (.string (ba tt)) := (World.cell?_alloc_lt w2 _ _ hg1).trans p1
    have b4 := (chain B2.out (Nat.le_refl _) b3).alloc (Nat.le_trans B2.out.size b3.size) (Obj.cells #[.int .i64 K, .string (ba nm), .int .i64 0, .int .i64 0] 38)
    have hw0 := HW.out _ b4
    have B4 := Aside0.mk b4
    clear ho1 ho2 HO1 p0 p1 b3 b4 hc v1 hg1
    go_wp2_with fail
    all_goals
      first
      | (refine hw0.mono ?_
         rintro e w5 ⟨rfl, b5⟩
         have B5 := Aside0.mk (chain B4.out (Nat.le_refl _) b5)
         clear b5
         go_wp2_with fail
         go_ret
         exact ⟨by first | rfl | (simp; done), B5.out⟩)
      | (exfalso
         have hz := HE.out
         clear hw0 HW
         simp_all
         done)
  · obtain rfl : E = true := by rw [← HLE.out, if_neg h5, if_neg h1']
    have q5 : (kd != 5) = true := by simpa using h5
    have q1 : (kd == 1) = false := by simpa using h1'
    clear h5 h1' HLE
    go_enter Tryd.func9, Tryd.ntmps9
    go_wp2_with fail
    refine hc1n.mono ?_
    rintro e w1 ⟨A, cap, rfl, ho1, b1⟩
    obtain ⟨g1, cap1, hvv⟩ := own_succ (n := l.length) ho1
    cases hvv
    have v1 := hv w1
    have b2 := b1.alloc b1.size (Obj.cells #[.string ⟨#[42]⟩, .string ⟨#[97, 110, 100]⟩, .string ⟨#[111, 114]⟩, .string ⟨#[109, 111, 100]⟩, .string ⟨#[100, 105, 118]⟩] 9)
    have al := (Below.refl w1.heap.size w1).alloc (Nat.le_refl _) (Obj.cells #[.string ⟨#[42]⟩, .string ⟨#[97, 110, 100]⟩, .string ⟨#[111, 114]⟩, .string ⟨#[109, 111, 100]⟩, .string ⟨#[100, 105, 118]⟩] 9)
    have HO1 := Aside0.mk (own_below ho1 al)
    have hc := HC.out _ b2
    have B2 := Aside0.mk b2
    clear ho1 b1 b2 hc1n HC hv al
    go_wp2_with fail
    refine hc.mono ?_
    rintro e w2 ⟨A2, cap2, rfl, ho2, b3⟩
    obtain ⟨g2, cap3, hvv⟩ := own_succ (n := l.length + 1) ho2
    cases hvv
    have ho1 := own_below HO1.out b3
    have p0 := last_cells ho1 0 _ rfl
    have p1 := last_cells ho1 1 _ rfl
    have y0 : w2.cell? ⟨g2, (l.length + 1) * 4, none⟩ = some (.int .i64 K) := row_at ho2 ((l.length + 1) * 4) _ (by rw [wcs_app, List.getElem?_append_right (by rw [wcs_len]; simp), wcs_len, wcs_one]; simp [wc])
    have y1 : w2.cell? ⟨g2, (l.length + 1) * 4 + 1, none⟩ = some (.string (ba nm)) := row_at ho2 ((l.length + 1) * 4 + 1) _ (by rw [wcs_app, List.getElem?_append_right (by rw [wcs_len]; simp), wcs_len, wcs_one]; simp [wc])
    have y2 : w2.cell? ⟨g2, (l.length + 1) * 4 + 2, none⟩ = some (.int .i64 0) := row_at ho2 ((l.length + 1) * 4 + 2) _ (by rw [wcs_app, List.getElem?_append_right (by rw [wcs_len]; simp), wcs_len, wcs_one]; simp [wc])
    have y3 : w2.cell? ⟨g2, (l.length + 1) * 4 + 3, none⟩ = some (.int .i64 0) := row_at ho2 ((l.length + 1) * 4 + 3) _ (by rw [wcs_app, List.getElem?_append_right (by rw [wcs_len]; simp), wcs_len, wcs_one]; simp [wc])
    have hg1 := (ho1.lt g1 rfl).2
    have a0 : (w2.alloc (Obj.cells #[.int .i64 K, .string (ba nm), .int .i64 0, .int .i64 0] 38)).cell? ⟨g1, l.length * 4, none⟩ = some (.int .i64 kd) := (World.cell?_alloc_lt w2 _ _ hg1).trans p0
    have a1 : (w2.alloc (Obj.cells #[.int .i64 K, .string (ba nm), .int .i64 0, .int .i64 0] 38)).cell? ⟨g1, l.length * 4 + 1, none⟩ = some (.string (ba tt)) := (World.cell?_alloc_lt w2 _ _ hg1).trans p1
    have b4 := (chain B2.out (Nat.le_refl _) b3).alloc (Nat.le_trans B2.out.size b3.size) (Obj.cells #[.int .i64 K, .string (ba nm), .int .i64 0, .int .i64 0] 38)
    have hw0 := HW.out _ b4
    have B4 := Aside0.mk b4
    clear ho1 ho2 HO1 p0 p1 b3 b4 hc v1 hg1
    go_wp2_with fail
    refine hw0.mono ?_
    rintro e w5 ⟨rfl, b5⟩
    have B5 := Aside0.mk (chain B4.out (Nat.le_refl _) b5)
    clear b5
    go_wp2_with fail
    go_ret
    exact ⟨by first | rfl | (simp; done), B5.out⟩
theorem starsW (s : ByteArray) (n : Int) (w : World) (hT : Tabs w) (hs : s.size ≤ 9223372036854775807) (h : (Lit.int .u8 n).wf = true) : Calls Tryd.prog 9 #[.string s, .int .u8 n] w fun e w' => e = .returned (.bool true) ∧ Below w.heap.size w w' := by
  have h2 : 0 ≤ n ∧ n ≤ 255 := by simpa [Lit.wf, IntKind.min, IntKind.max, IntKind.bits, IntKind.signed] using h
  by_cases h3 : 380 < s.size ∨ (s.size ≤ 380 ∧ ((lexS s.data.toList).2 ≠ 0 ∨ ((lexS s.data.toList).2 = 0 ∧ 118 < (lexS s.data.toList).1.length)))
  · exact stars_skip s n w hT hs h3
  · have h4 : s.size ≤ 380 := by omega
    have h5 : (lexS s.data.toList).2 = 0 ∧ (lexS s.data.toList).1.length ≤ 118 := by omega
    obtain ⟨h5, h6⟩ := h5
    generalize hR : lexS s.data.toList = R at *
    obtain ⟨l, err⟩ := R
    simp only at h5 h6
    subst h5
    rcases List.eq_nil_or_concat l with rfl | ⟨l0, ⟨kd, tt, e1, e2⟩, rfl⟩
    · exact stars_none s n w hT h2.1 (by omega) h4 hR
    · rw [List.concat_eq_append] at hR h6
      exact stars_some s n l0 kd tt e1 e2 w hT h2.1 (by omega) h4 hR h6
end Go.Proofs.YthilcidoacgdfaaDoor.LexP
