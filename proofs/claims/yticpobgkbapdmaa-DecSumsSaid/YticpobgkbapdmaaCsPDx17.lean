/- What the proof of this claim uses of PDx17: 15 declarations. -/
import Derived.Test.YticpobgkbapdmaaCsPDx0
import Derived.Test.YticpobgkbapdmaaCsPDx2
namespace Go.Proofs.YticpobgkbapdmaaW.PrintLast
end Go.Proofs.YticpobgkbapdmaaW.PrintLast
namespace Go.Proofs.YticpobgkbapdmaaW.PrintMore
end Go.Proofs.YticpobgkbapdmaaW.PrintMore
namespace Go.Proofs.YticpobgkbapdmaaW.PrintWords
end Go.Proofs.YticpobgkbapdmaaW.PrintWords
namespace Go.Proofs.Yticpobgkbapdmaa.PD
open Go.RowKit Go.Proofs.YticpobgkbapdmaaW.PrintWords Go.Proofs.YticpobgkbapdmaaW.PrintLast Go.Proofs.YticpobgkbapdmaaW.PrintMore

set_option linter.unusedVariables false
set_option linter.unusedSimpArgs false

/-! ### dec_tagged: function 58 -/
def dec_taggedRow (a b : Int) : Int :=
  if a = 0 then (if b = 0 then 0 else b) else if a = 1 then 1 else if a = 2 then (if b = 0 then 2 else if b = 2 then 2 else 1) else (if b = 0 then 3 else if b = 3 then 3 else 1)
def dec_tagged.f (a0 a1 b0 b1 : Int) : Option (Int × Int × Bool) :=
  if a0 = 0 ∧ b0 = 0 then some (0, 0, false) else if 0 ≤ a0 ∧ a0 ≤ 3 ∧ 0 ≤ b0 ∧ b0 ≤ 3 then some (dec_taggedRow a0 b0, 0, true) else none
def dec_tagged.tab : Array Value := #[.int .i64 0, .int .i64 0, .int .i64 1, .int .i64 0, .int .i64 2, .int .i64 0, .int .i64 3, .int .i64 0, .int .i64 1, .int .i64 0, .int .i64 1, .int .i64 0, .int .i64 1, .int .i64 0, .int .i64 1, .int .i64 0, .int .i64 2, .int .i64 0, .int .i64 1, .int .i64 0, .int .i64 2, .int .i64 0, .int .i64 1, .int .i64 0, .int .i64 3, .int .i64 0, .int .i64 1, .int .i64 0, .int .i64 1, .int .i64 0, .int .i64 3, .int .i64 0]
theorem dec_tagged.tab_one : dec_tagged.tab.all (·.oneCell') = true := by simp [dec_tagged.tab, Value.oneCell']
theorem dec_tagged.tab_at (a b : Int) (h1 : 0 ≤ a) (h2 : a ≤ 3) (h3 : 0 ≤ b) (h4 : b ≤ 3) : dec_tagged.tab[a.toNat * 8 + b.toNat * 2]? = some (.int .i64 (dec_taggedRow a b)) ∧ dec_tagged.tab[a.toNat * 8 + b.toNat * 2 + 1]? = some (.int .i64 0) := by
  have ha : a = 0 ∨ a = 1 ∨ a = 2 ∨ a = 3 := by omega
  have hb : b = 0 ∨ b = 1 ∨ b = 2 ∨ b = 3 := by omega
  rcases ha with rfl | rfl | rfl | rfl <;> rcases hb with rfl | rfl | rfl | rfl <;> exact ⟨rfl, rfl⟩

theorem dec_tagged.calls_00 (a1 b1 : Int) (w : World) : Calls Try.prog 58 #[.agg #[.int .i64 0, .int .i64 a1], .agg #[.int .i64 0, .int .i64 b1]] w fun e w' => e = .returned (.tuple #[.agg #[.int .i64 0, .int .i64 0], .bool false]) ∧ Below w.heap.size w w' := by
  obtain ⟨_, _, k3⟩ := Mine.blk3 w (.cells #[.int .i64 0, .int .i64 a1] 23) (.cells #[.int .i64 0, .int .i64 b1] 23) (.cells #[.int .i64 0, .int .i64 0] 23)
  have HK := Aside0.mk k3
  clear k3
  go_enter Try.func58, Try.ntmps58
  go_wp2
  refine bodyPost_ret (results_ct rfl _ _ (w.heap.size + 1 + 1) 23 _ (0, 0) _ rfl HK.out Try.underlying23 rfl (by kernel_rfl)) rfl ⟨rfl, ?_⟩
  exact below_alloc (below_alloc (below_alloc (Below.refl w.heap.size w) _) _) _

set_option maxRecDepth 100000 in
set_option maxHeartbeats 1000000 in
theorem dec_tagged.calls_x (a0 a1 b0 b1 : Int) (w : World) (hx : (a0 == 0) = false) (ha0 : 0 ≤ a0) (ha : a0 ≤ 3) (hb0 : 0 ≤ b0) (hb : b0 ≤ 3) : Calls Try.prog 58 #[.agg #[.int .i64 a0, .int .i64 a1], .agg #[.int .i64 b0, .int .i64 b1]] w fun e w' => e = .returned (.tuple #[.agg #[.int .i64 (dec_taggedRow a0 b0), .int .i64 0], .bool true]) ∧ Below w.heap.size w w' := by
  have HB := Aside0.mk (Below.refl (w.heap.size + 3) (((w.alloc (.cells #[.int .i64 a0, .int .i64 a1] 23)).alloc (.cells #[.int .i64 b0, .int .i64 b1] 23)).alloc (.cells #[.int .i64 0, .int .i64 0] 23)))
  have HS := Aside0.mk (show w.heap.size + 3 ≤ (((w.alloc (.cells #[.int .i64 a0, .int .i64 a1] 23)).alloc (.cells #[.int .i64 b0, .int .i64 b1] 23)).alloc (.cells #[.int .i64 0, .int .i64 0] 23)).heap.size by simp)
  have HT := Aside0.mk (dec_tagged.tab_at a0 b0 (by omega) (by omega) hb0 hb)
  have HL := Aside0.mk (((below_alloc (below_alloc (below_alloc (Below.refl w.heap.size w) (.cells #[.int .i64 a0, .int .i64 a1] 23)) (.cells #[.int .i64 b0, .int .i64 b1] 23)) (.cells #[.int .i64 0, .int .i64 0] 23))))
  go_enter Try.func58, Try.ntmps58
  go_wp2_with (first | (go_at_call 39; refine (dec_nan.calls 1 0 _ rfl).mono ?_; rintro e wn ⟨rfl, hn⟩; have HX := Aside0.mk (HB.out.trans (hn.mono HS.out)); have HY := Aside0.mk (Nat.le_trans HS.out hn.size); clear HB hn HS; have HB := HX; have HS := HY; clear HX HY) | (go_at_call 57; refine (dec_over.calls 2 0 _ rfl).mono ?_; rintro e wn ⟨rfl, hn⟩; have HX := Aside0.mk (HB.out.trans (hn.mono HS.out)); have HY := Aside0.mk (Nat.le_trans HS.out hn.size); clear HB hn HS; have HB := HX; have HS := HY; clear HX HY) | (go_at_call 54; refine (dec_under.calls 3 0 _ rfl).mono ?_; rintro e wn ⟨rfl, hn⟩; have HX := Aside0.mk (HB.out.trans (hn.mono HS.out)); have HY := Aside0.mk (Nat.le_trans HS.out hn.size); clear HB hn HS; have HB := HX; have HS := HY; clear HX HY) | ((with_reducible refine Mine.gate_op (.store 66 (.tmp 6) (.tmp 36)) rfl ?_); refine Mine.store_new rfl 66 (.tmp 6) (.tmp 36) rfl rfl dec_tagged.tab rfl rfl 66 _ (by kernel_rfl) rfl dec_tagged.tab_one ?_))
  rename_i wn _ _ _ _ _ _
  obtain ⟨k1, k2, k3⟩ := Mine.blk3 w (.cells #[.int .i64 a0, .int .i64 a1] 23) (.cells #[.int .i64 b0, .int .i64 b1] 23) (.cells #[.int .i64 0, .int .i64 0] 23)
  have K1 := blk_alloc ((HB.out.block w.heap.size (by omega)).trans k1) (.cells dec_tagged.tab 66)
  have K2 := blk_alloc ((HB.out.block (w.heap.size + 1) (by omega)).trans k2) (.cells dec_tagged.tab 66)
  have K3 := blk_alloc ((HB.out.block (w.heap.size + 1 + 1) (by omega)).trans k3) (.cells dec_tagged.tab 66)
  have K4 := blk_new wn (.cells dec_tagged.tab 66)
  have c1 := blk_cell K1 0
  have c2 := blk_cell K2 0
  have c3 := blk_cell K3 0
  have c4 := blk_cell K3 1
  have f3 := blk_frozen K3 0
  have f4 := blk_frozen K3 1
  have c5 := (blk_cell K4 (a0.toNat * 8 + b0.toNat * 2)).trans HT.out.1
  have c6 := (blk_cell K4 (a0.toNat * 8 + b0.toNat * 2 + 1)).trans HT.out.2
  have hlt : a0 < 4 := by omega
  have hlt2 : b0 < 4 := by omega
  have HZ := Aside0.mk ((HL.out.trans (HB.out.mono (by omega))).alloc (Nat.le_trans (by omega) HS.out) (.cells dec_tagged.tab 66))
  have HK := Aside0.mk K3
  simp at c1 c2 c3 c4 c5 c6
  clear HB HS K1 K2 K3 K4 k1 k2 k3 HT HL
  go_region
  all_goals
    go_wp2
    refine bodyPost_ret (results_ct rfl _ _ (w.heap.size + 1 + 1) 23 _ (0, 0) _ rfl (blk_set (blk_set HK.out 0 _) 1 _) Try.underlying23 rfl (by kernel_rfl)) rfl ⟨rfl, ?_⟩
    exact below_drew ((HZ.out.setCell (p := ⟨w.heap.size + 1 + 1, 0, none⟩) (by simp; omega) _).setCell (p := ⟨w.heap.size + 1 + 1, 1, none⟩) (by simp; omega) _)

set_option maxRecDepth 100000 in
set_option maxHeartbeats 1000000 in
theorem dec_tagged.calls_0 (a1 b0 b1 : Int) (w : World) (hx : (b0 == 0) = false) (hb0 : 0 ≤ b0) (hb : b0 ≤ 3) : Calls Try.prog 58 #[.agg #[.int .i64 0, .int .i64 a1], .agg #[.int .i64 b0, .int .i64 b1]] w fun e w' => e = .returned (.tuple #[.agg #[.int .i64 (dec_taggedRow 0 b0), .int .i64 0], .bool true]) ∧ Below w.heap.size w w' := by
  have HB := Aside0.mk (Below.refl (w.heap.size + 3) (((w.alloc (.cells #[.int .i64 0, .int .i64 a1] 23)).alloc (.cells #[.int .i64 b0, .int .i64 b1] 23)).alloc (.cells #[.int .i64 0, .int .i64 0] 23)))
  have HS := Aside0.mk (show w.heap.size + 3 ≤ (((w.alloc (.cells #[.int .i64 0, .int .i64 a1] 23)).alloc (.cells #[.int .i64 b0, .int .i64 b1] 23)).alloc (.cells #[.int .i64 0, .int .i64 0] 23)).heap.size by simp)
  have HT := Aside0.mk (dec_tagged.tab_at 0 b0 (by omega) (by omega) hb0 hb)
  have HL := Aside0.mk (((below_alloc (below_alloc (below_alloc (Below.refl w.heap.size w) (.cells #[.int .i64 0, .int .i64 a1] 23)) (.cells #[.int .i64 b0, .int .i64 b1] 23)) (.cells #[.int .i64 0, .int .i64 0] 23))))
  go_enter Try.func58, Try.ntmps58
  go_wp2_with (first | (go_at_call 39; refine (dec_nan.calls 1 0 _ rfl).mono ?_; rintro e wn ⟨rfl, hn⟩; have HX := Aside0.mk (HB.out.trans (hn.mono HS.out)); have HY := Aside0.mk (Nat.le_trans HS.out hn.size); clear HB hn HS; have HB := HX; have HS := HY; clear HX HY) | (go_at_call 57; refine (dec_over.calls 2 0 _ rfl).mono ?_; rintro e wn ⟨rfl, hn⟩; have HX := Aside0.mk (HB.out.trans (hn.mono HS.out)); have HY := Aside0.mk (Nat.le_trans HS.out hn.size); clear HB hn HS; have HB := HX; have HS := HY; clear HX HY) | (go_at_call 54; refine (dec_under.calls 3 0 _ rfl).mono ?_; rintro e wn ⟨rfl, hn⟩; have HX := Aside0.mk (HB.out.trans (hn.mono HS.out)); have HY := Aside0.mk (Nat.le_trans HS.out hn.size); clear HB hn HS; have HB := HX; have HS := HY; clear HX HY) | ((with_reducible refine Mine.gate_op (.store 66 (.tmp 6) (.tmp 36)) rfl ?_); refine Mine.store_new rfl 66 (.tmp 6) (.tmp 36) rfl rfl dec_tagged.tab rfl rfl 66 _ (by kernel_rfl) rfl dec_tagged.tab_one ?_))
  rename_i wn _ _ _ _ _ _
  obtain ⟨k1, k2, k3⟩ := Mine.blk3 w (.cells #[.int .i64 0, .int .i64 a1] 23) (.cells #[.int .i64 b0, .int .i64 b1] 23) (.cells #[.int .i64 0, .int .i64 0] 23)
  have K1 := blk_alloc ((HB.out.block w.heap.size (by omega)).trans k1) (.cells dec_tagged.tab 66)
  have K2 := blk_alloc ((HB.out.block (w.heap.size + 1) (by omega)).trans k2) (.cells dec_tagged.tab 66)
  have K3 := blk_alloc ((HB.out.block (w.heap.size + 1 + 1) (by omega)).trans k3) (.cells dec_tagged.tab 66)
  have K4 := blk_new wn (.cells dec_tagged.tab 66)
  have c1 := blk_cell K1 0
  have c2 := blk_cell K2 0
  have c3 := blk_cell K3 0
  have c4 := blk_cell K3 1
  have f3 := blk_frozen K3 0
  have f4 := blk_frozen K3 1
  have c5 := (blk_cell K4 ((0 : Int).toNat * 8 + b0.toNat * 2)).trans HT.out.1
  have c6 := (blk_cell K4 ((0 : Int).toNat * 8 + b0.toNat * 2 + 1)).trans HT.out.2
  have hlt : 0 < 4 := by omega
  have hlt2 : b0 < 4 := by omega
  have HZ := Aside0.mk ((HL.out.trans (HB.out.mono (by omega))).alloc (Nat.le_trans (by omega) HS.out) (.cells dec_tagged.tab 66))
  have HK := Aside0.mk K3
  simp at c1 c2 c3 c4 c5 c6
  clear HB HS K1 K2 K3 K4 k1 k2 k3 HT HL
  go_region
  all_goals
    go_wp2
    refine bodyPost_ret (results_ct rfl _ _ (w.heap.size + 1 + 1) 23 _ (0, 0) _ rfl (blk_set (blk_set HK.out 0 _) 1 _) Try.underlying23 rfl (by kernel_rfl)) rfl ⟨rfl, ?_⟩
    exact below_drew ((HZ.out.setCell (p := ⟨w.heap.size + 1 + 1, 0, none⟩) (by simp; omega) _).setCell (p := ⟨w.heap.size + 1 + 1, 1, none⟩) (by simp; omega) _)

theorem dec_tagged.calls (a0 a1 b0 b1 : Int) (r1 r2 : Int) (r3 : Bool) (w : World) (h : dec_tagged.f a0 a1 b0 b1 = some (r1, r2, r3)) :
    Calls Try.prog 58 #[.agg #[.int .i64 a0, .int .i64 a1], .agg #[.int .i64 b0, .int .i64 b1]] w fun e w' => e = .returned (.tuple #[.agg #[.int .i64 r1, .int .i64 r2], .bool r3]) ∧ Below w.heap.size w w' := by
  unfold dec_tagged.f at h
  by_cases c : a0 = 0 ∧ b0 = 0
  · rw [if_pos c] at h
    simp only [Option.some.injEq, Prod.mk.injEq] at h
    obtain ⟨rfl, rfl, rfl⟩ := h
    obtain ⟨rfl, rfl⟩ := c
    exact dec_tagged.calls_00 a1 b1 w
  · rw [if_neg c] at h
    by_cases d : 0 ≤ a0 ∧ a0 ≤ 3 ∧ 0 ≤ b0 ∧ b0 ≤ 3
    · rw [if_pos d] at h
      simp only [Option.some.injEq, Prod.mk.injEq] at h
      obtain ⟨rfl, rfl, rfl⟩ := h
      by_cases e : a0 = 0
      · subst e
        exact dec_tagged.calls_0 a1 b0 b1 w (by simp; omega) d.2.2.1 d.2.2.2
      · exact dec_tagged.calls_x a0 a1 b0 b1 w (by simpa using e) d.1 d.2.1 d.2.2.1 d.2.2.2
    · rw [if_neg d] at h
      cases h

/-! ### bits_Add64: function 59 -/
def bits_Add64.f (x y c : Int) : Option (Int × Int) := if 0 ≤ x ∧ 0 ≤ y ∧ 0 ≤ c ∧ c ≤ 1 then some ((x + y + c) % 18446744073709551616, (x + y + c) / 18446744073709551616) else none
theorem bits_Add64.found : Extern.find Try.f59 = some add64Entry := rfl
theorem bits_Add64.calls (x y c : Int) (r1 r2 : Int) (w : World) (h : bits_Add64.f x y c = some (r1, r2)) :
    Go.Proofs.Yticpobgkbapdmaa.Mine.CallsX Try.prog 59 #[.int .u64 x, .int .u64 y, .int .u64 c] w fun e w' => e = .returned (.tuple #[.int .u64 r1, .int .u64 r2]) ∧ Drawn0 w w' := by
  unfold bits_Add64.f at h
  by_cases b : 0 ≤ x ∧ 0 ≤ y ∧ 0 ≤ c ∧ c ≤ 1
  · rw [if_pos b] at h
    simp only [Option.some.injEq, Prod.mk.injEq] at h
    obtain ⟨rfl, rfl⟩ := h
    refine ⟨_, ?_, rfl, Drawn0.refl _⟩
    rw [run_callFunc_extern Try.func59 (by kernel_rfl) rfl (by kernel_rfl) bits_Add64.found, run_add64 x y c b.1 b.2.1 b.2.2.1 b.2.2.2]
    rfl
  · rw [if_neg b] at h
    cases h

/-! ### dec_Add: function 26 -/
def dec_Add.j0 : Nat → Int → Bool → Int → Int → Int → Int → Option (Int × Int)
  | 0, _, _, _, _, _, _ => none
  | k + 1, x9, x35, x493000, x493001, x494000, x494001 => if x35 = true then ((dec_over.f).bind fun bt505 => (some (bt505.1, bt505.2))) else (if x493001 < 0 then (if x494001 < 0 then (if x9 ≥ 0 then ((dec_under.f).bind fun bt507 => (some (bt507.1, bt507.2))) else (if x9 = (-9223372036854775808) then ((dec_under.f).bind fun bt509 => (some (bt509.1, bt509.2))) else (some (0, x9)))) else (some (0, x9))) else (some (0, x9)))
def dec_Add.f (k : Nat) (a0_0 : Int) (a0_1 : Int) (a1_0 : Int) (a1_1 : Int) : Option (Int × Int) := (dec_right.f a0_0 a0_1).bind fun bt495 => ((dec_right.f a1_0 a1_1).bind fun bt497 => ((dec_tagged.f bt495.1 bt495.2 bt497.1 bt497.2).bind fun bt499 => (if bt499.2.2 = true then (some (bt499.1, bt499.2.1)) else ((bits_Add64.f (IntKind.u64.wrap (bt495.2)) (IntKind.u64.wrap (bt497.2)) 0).bind fun bt503 => (if bt495.2 > 0 then (if bt497.2 > 0 then (dec_Add.j0 k (wrap64 (bt503.1)) (decide ((wrap64 (bt503.1)) ≤ 0)) bt495.1 bt495.2 bt497.1 bt497.2) else (dec_Add.j0 k (wrap64 (bt503.1)) false bt495.1 bt495.2 bt497.1 bt497.2)) else (dec_Add.j0 k (wrap64 (bt503.1)) false bt495.1 bt495.2 bt497.1 bt497.2))))))
set_option maxHeartbeats 8000000 in
set_option maxRecDepth 100000 in
theorem dec_Add.calls (k : Nat) (a0_0 : Int) (a0_1 : Int) (a1_0 : Int) (a1_1 : Int) (r1 : Int) (r2 : Int) (w : World) (h : dec_Add.f k a0_0 a0_1 a1_0 a1_1 = some (r1, r2)) :
    Calls Try.prog 26 #[.agg #[.int .i64 a0_0, .int .i64 a0_1], .agg #[.int .i64 a1_0, .int .i64 a1_1]] w fun e w' => e = .returned (.agg #[.int .i64 r1, .int .i64 r2]) ∧ Below w.heap.size w w' := by
  have hu23 := Try.underlying23
  have HB := Aside0.mk (Below.refl w.heap.size w)
  have H : ((dec_right.f a0_0 a0_1).bind fun bt495 => ((dec_right.f a1_0 a1_1).bind fun bt497 => ((dec_tagged.f bt495.1 bt495.2 bt497.1 bt497.2).bind fun bt499 => (if bt499.2.2 = true then (some (bt499.1, bt499.2.1)) else ((bits_Add64.f (IntKind.u64.wrap (bt495.2)) (IntKind.u64.wrap (bt497.2)) 0).bind fun bt503 => (if bt495.2 > 0 then (if bt497.2 > 0 then (dec_Add.j0 k (wrap64 (bt503.1)) (decide ((wrap64 (bt503.1)) ≤ 0)) bt495.1 bt495.2 bt497.1 bt497.2) else (dec_Add.j0 k (wrap64 (bt503.1)) false bt495.1 bt495.2 bt497.1 bt497.2)) else (dec_Add.j0 k (wrap64 (bt503.1)) false bt495.1 bt495.2 bt497.1 bt497.2))))))) = some (r1, r2) := h
  clear h
  replace H := Option.bind_eq_some_iff.mp H
  obtain ⟨⟨t495, t496⟩, A30, H⟩ := H
  replace H : ((dec_right.f a1_0 a1_1).bind fun bt497 => ((dec_tagged.f t495 t496 bt497.1 bt497.2).bind fun bt499 => (if bt499.2.2 = true then (some (bt499.1, bt499.2.1)) else ((bits_Add64.f (IntKind.u64.wrap (t496)) (IntKind.u64.wrap (bt497.2)) 0).bind fun bt503 => (if t496 > 0 then (if bt497.2 > 0 then (dec_Add.j0 k (wrap64 (bt503.1)) (decide ((wrap64 (bt503.1)) ≤ 0)) t495 t496 bt497.1 bt497.2) else (dec_Add.j0 k (wrap64 (bt503.1)) false t495 t496 bt497.1 bt497.2)) else (dec_Add.j0 k (wrap64 (bt503.1)) false t495 t496 bt497.1 bt497.2)))))) = some (r1, r2) := H
  have A3 := Aside0.mk A30
  clear A30
  replace H := Option.bind_eq_some_iff.mp H
  obtain ⟨⟨t497, t498⟩, A40, H⟩ := H
  replace H : ((dec_tagged.f t495 t496 t497 t498).bind fun bt499 => (if bt499.2.2 = true then (some (bt499.1, bt499.2.1)) else ((bits_Add64.f (IntKind.u64.wrap (t496)) (IntKind.u64.wrap (t498)) 0).bind fun bt503 => (if t496 > 0 then (if t498 > 0 then (dec_Add.j0 k (wrap64 (bt503.1)) (decide ((wrap64 (bt503.1)) ≤ 0)) t495 t496 t497 t498) else (dec_Add.j0 k (wrap64 (bt503.1)) false t495 t496 t497 t498)) else (dec_Add.j0 k (wrap64 (bt503.1)) false t495 t496 t497 t498))))) = some (r1, r2) := H
  have A4 := Aside0.mk A40
  clear A40
  replace H := Option.bind_eq_some_iff.mp H
  obtain ⟨⟨t499, t500, t501⟩, A50, H⟩ := H
  replace H : (if t501 = true then (some (t499, t500)) else ((bits_Add64.f (IntKind.u64.wrap (t496)) (IntKind.u64.wrap (t498)) 0).bind fun bt503 => (if t496 > 0 then (if t498 > 0 then (dec_Add.j0 k (wrap64 (bt503.1)) (decide ((wrap64 (bt503.1)) ≤ 0)) t495 t496 t497 t498) else (dec_Add.j0 k (wrap64 (bt503.1)) false t495 t496 t497 t498)) else (dec_Add.j0 k (wrap64 (bt503.1)) false t495 t496 t497 t498)))) = some (r1, r2) := H
  have A5 := Aside0.mk A50
  clear A50
  by_cases c6 : t501 = true
  · subst c6
    have H1 : (some (t499, t500)) = some (r1, r2) := by rw [if_pos rfl] at H; exact H
    clear H
    have H := H1
    clear H1
    simp only [Option.some.injEq, Prod.mk.injEq] at H
    obtain ⟨rfl, rfl⟩ := H
    go_enter Try.func26, Try.ntmps26
    try go_wp2_with (first | ((with_reducible refine gate_dst (N := 2) rfl ?_); refine box_event ?hg (N := 2) ?hd (cs := #[.int .i64 a0_0, .int .i64 a0_1]) (t := 23) ?hr ?_; (case hd => rfl); (case hg => rfl); (case hr => first | (go_simp; done) | (go_simp; rfl)); intro gb492 hg w7 hbox hb; have n0_ := Aside0.mk (below_step (by repeat (first | (with_reducible first | exact HB.out | apply below_alloc | apply pw_below_drewN | apply below_drew1) | exact HB.out)) hb); have n1_ := Aside0.mk (hbox); have n2_ := Aside0.mk ((by rw [hg]; exact (below_size (by repeat (first | (with_reducible first | exact HB.out | apply below_alloc | apply pw_below_drewN | apply below_drew1) | exact HB.out))) : w.heap.size ≤ gb492)); have n3_ := Aside0.mk ((by rw [hg]; exact (below_size (by repeat (first | (with_reducible first | exact HB.out | apply below_alloc | apply pw_below_drewN | apply below_drew1) | exact HB.out))) : w.heap.size ≤ gb492)); clear HB; have HB := n0_; have BK492 := n1_; have GW492 := n2_; have GE492 := n3_; clear n0_ n1_ n2_ n3_; clear hb hbox hg) | ((with_reducible refine gate_dst (N := 3) rfl ?_); refine box_event ?hg (N := 3) ?hd (cs := #[.int .i64 a1_0, .int .i64 a1_1]) (t := 23) ?hr ?_; (case hd => rfl); (case hg => rfl); (case hr => first | (go_simp; done) | (go_simp; rfl)); intro gb493 hg w8 hbox hb; have n0_ := Aside0.mk (blk_below (g := gb492) (o := .cells #[.int .i64 a0_0, .int .i64 a0_1] 23 (0, 0)) (by (with_reducible repeat (first | refine blk_drewN ?_ _ | refine blk_drew ?_ | refine blk_alloc ?_ _)); exact BK492.out) hb); have n1_ := Aside0.mk (below_step (by repeat (first | (with_reducible first | exact HB.out | apply below_alloc | apply pw_below_drewN | apply below_drew1 | refine below_set ?_ GE492.out) | exact HB.out)) hb); have n2_ := Aside0.mk (hbox); have n3_ := Aside0.mk ((by rw [hg]; exact (below_size (by repeat (first | (with_reducible first | exact HB.out | apply below_alloc | apply pw_below_drewN | apply below_drew1 | refine below_set ?_ GE492.out) | exact HB.out))) : w.heap.size ≤ gb493)); have n4_ := Aside0.mk ((by rw [hg]; exact (below_size (by repeat (first | (with_reducible first | exact HB.out | apply below_alloc | apply pw_below_drewN | apply below_drew1 | refine below_set ?_ GE492.out) | exact HB.out))) : w.heap.size ≤ gb493)); have n5_ := Aside0.mk ((by rw [hg]; exact Nat.ne_of_lt (blk_lt (g := gb492) (o := .cells #[.int .i64 a0_0, .int .i64 a0_1] 23 (0, 0)) (by (with_reducible repeat (first | refine blk_drewN ?_ _ | refine blk_drew ?_ | refine blk_alloc ?_ _)); exact BK492.out)) : gb492 ≠ gb493)); have n6_ := Aside0.mk ((by rw [hg]; exact Nat.ne_of_gt (blk_lt (g := gb492) (o := .cells #[.int .i64 a0_0, .int .i64 a0_1] 23 (0, 0)) (by (with_reducible repeat (first | refine blk_drewN ?_ _ | refine blk_drew ?_ | refine blk_alloc ?_ _)); exact BK492.out)) : gb493 ≠ gb492)); clear BK492; clear HB; have BK492 := n0_; have HB := n1_; have BK493 := n2_; have GW493 := n3_; have GE493 := n4_; have NB492_493 := n5_; have NB493_492 := n6_; clear n0_ n1_ n2_ n3_ n4_ n5_ n6_; clear hb hbox hg) | ((with_reducible refine gate_dst (N := 4) rfl ?_); refine box_event ?hg (N := 4) ?hd (cs := #[.int .i64 0, .int .i64 0]) (t := 23) ?hr ?_; (case hd => rfl); (case hg => rfl); (case hr => first | (go_simp; done) | (go_simp; rfl)); intro gb494 hg w9 hbox hb; have n0_ := Aside0.mk (blk_below (g := gb492) (o := .cells #[.int .i64 a0_0, .int .i64 a0_1] 23 (0, 0)) (by (with_reducible repeat (first | refine blk_drewN ?_ _ | refine blk_drew ?_ | refine blk_alloc ?_ _)); exact BK492.out) hb); have n1_ := Aside0.mk (blk_below (g := gb493) (o := .cells #[.int .i64 a1_0, .int .i64 a1_1] 23 (0, 0)) (by (with_reducible repeat (first | refine blk_drewN ?_ _ | refine blk_drew ?_ | refine blk_alloc ?_ _)); exact BK493.out) hb); have n2_ := Aside0.mk (below_step (by repeat (first | (with_reducible first | exact HB.out | apply below_alloc | apply pw_below_drewN | apply below_drew1 | refine below_set ?_ GE492.out | refine below_set ?_ GE493.out) | exact HB.out)) hb); have n3_ := Aside0.mk (hbox); have n4_ := Aside0.mk ((by rw [hg]; exact (below_size (by repeat (first | (with_reducible first | exact HB.out | apply below_alloc | apply pw_below_drewN | apply below_drew1 | refine below_set ?_ GE492.out | refine below_set ?_ GE493.out) | exact HB.out))) : w.heap.size ≤ gb494)); have n5_ := Aside0.mk ((by rw [hg]; exact (below_size (by repeat (first | (with_reducible first | exact HB.out | apply below_alloc | apply pw_below_drewN | apply below_drew1 | refine below_set ?_ GE492.out | refine below_set ?_ GE493.out) | exact HB.out))) : w.heap.size ≤ gb494)); have n6_ := Aside0.mk ((by rw [hg]; exact Nat.ne_of_lt (blk_lt (g := gb492) (o := .cells #[.int .i64 a0_0, .int .i64 a0_1] 23 (0, 0)) (by (with_reducible repeat (first | refine blk_drewN ?_ _ | refine blk_drew ?_ | refine blk_alloc ?_ _)); exact BK492.out)) : gb492 ≠ gb494)); have n7_ := Aside0.mk ((by rw [hg]; exact Nat.ne_of_gt (blk_lt (g := gb492) (o := .cells #[.int .i64 a0_0, .int .i64 a0_1] 23 (0, 0)) (by (with_reducible repeat (first | refine blk_drewN ?_ _ | refine blk_drew ?_ | refine blk_alloc ?_ _)); exact BK492.out)) : gb494 ≠ gb492)); have n8_ := Aside0.mk ((by rw [hg]; exact Nat.ne_of_lt (blk_lt (g := gb493) (o := .cells #[.int .i64 a1_0, .int .i64 a1_1] 23 (0, 0)) (by (with_reducible repeat (first | refine blk_drewN ?_ _ | refine blk_drew ?_ | refine blk_alloc ?_ _)); exact BK493.out)) : gb493 ≠ gb494)); have n9_ := Aside0.mk ((by rw [hg]; exact Nat.ne_of_gt (blk_lt (g := gb493) (o := .cells #[.int .i64 a1_0, .int .i64 a1_1] 23 (0, 0)) (by (with_reducible repeat (first | refine blk_drewN ?_ _ | refine blk_drew ?_ | refine blk_alloc ?_ _)); exact BK493.out)) : gb494 ≠ gb493)); clear BK492; clear BK493; clear HB; have BK492 := n0_; have BK493 := n1_; have HB := n2_; have BK494 := n3_; have GW494 := n4_; have GE494 := n5_; have NB492_494 := n6_; have NB494_492 := n7_; have NB493_494 := n8_; have NB494_493 := n9_; clear n0_ n1_ n2_ n3_ n4_ n5_ n6_ n7_ n8_ n9_; clear hb hbox hg))
    have n0_ := Aside0.mk (blk_drew BK492.out)
    have n1_ := Aside0.mk (blk_drew BK493.out)
    have n2_ := Aside0.mk (blk_drew BK494.out)
    have n3_ := Aside0.mk (below_drew1 HB.out)
    clear BK492
    clear BK493
    clear BK494
    clear HB
    have BK492 := n0_
    have BK493 := n1_
    have BK494 := n2_
    have HB := n3_
    clear n0_ n1_ n2_ n3_
    refine start_ (n := 6) (S := fun w' => w'.cell? ⟨gb492, 0, none⟩ = some (.int .i64 a0_0) ∧ w'.cell? ⟨gb492, 1, none⟩ = some (.int .i64 a0_1) ∧ w'.cell? ⟨gb493, 0, none⟩ = some (.int .i64 a1_0) ∧ w'.cell? ⟨gb493, 1, none⟩ = some (.int .i64 a1_1)) (ds := [4, 5]) #[false, false, false, false, false, false] (by kernel_rfl) rfl rfl ⟨(blk_cell BK492.out 0).trans rfl, (blk_cell BK492.out 1).trans rfl, (blk_cell BK493.out 0).trans rfl, (blk_cell BK493.out 1).trans rfl⟩ (fun hHeld => ?_)
    generalize w9.drew = w10 at BK492 BK493 BK494 HB hHeld ⊢
    refine take_ (i := 0) (N := some 10) (v := ?_) (a' := ?_) #[true, false, false, false, false, false] rfl rfl (by kernel_rfl) (fun _ _ _ h => h) (Or.inl ⟨by rfl, ?_⟩) hHeld ?_ ?_
    rotate_left
    · rintro w' ⟨s0, s1, s2, s3⟩
      go_simp
      with_reducible rfl
    rotate_left
    · simp only [Act.put, List.setIfInBounds_toArray, List.set_cons_zero, List.set_cons_succ, i64_w]
      rfl
    refine take_ (i := 2) (N := some 12) (v := ?_) (a' := ?_) #[true, false, true, false, false, false] rfl rfl (by kernel_rfl) (fun _ _ _ h => h) (Or.inl ⟨by rfl, ?_⟩) hHeld ?_ ?_
    rotate_left
    · rintro w' ⟨s0, s1, s2, s3⟩
      go_simp
      with_reducible rfl
    rotate_left
    · simp only [Act.put, List.setIfInBounds_toArray, List.set_cons_zero, List.set_cons_succ, i64_w]
      rfl
    refine one_ (i := 1) (N := some 11) #[true, true, true, false, false, false] rfl rfl (by kernel_rfl) (by decide) (fun K hK => ?_)
    refine goes_ Try.func37 (by kernel_rfl) rfl #[.agg #[.int .i64 a0_0, .int .i64 a0_1]] (by rfl) rfl rfl (by (try simp only [List.map_toArray, List.map_cons, List.map_nil]); first | done | rfl | (simp only [List.length_drop, List.length_take]; rfl)) ?_
    with_reducible refine (dec_right.calls a0_0 a0_1 t495 t496 _ A3.out).mono ?_
    rintro e w11 ⟨rfl, hb⟩
    refine ⟨_, rfl, ?_⟩
    have n0_ := Aside0.mk (blk_below (g := gb492) (o := .cells #[.int .i64 a0_0, .int .i64 a0_1] 23 (0, 0)) (by (with_reducible repeat (first | refine blk_drewN ?_ _ | refine blk_drew ?_ | refine blk_alloc ?_ _)); exact BK492.out) hb)
    have n1_ := Aside0.mk (blk_below (g := gb493) (o := .cells #[.int .i64 a1_0, .int .i64 a1_1] 23 (0, 0)) (by (with_reducible repeat (first | refine blk_drewN ?_ _ | refine blk_drew ?_ | refine blk_alloc ?_ _)); exact BK493.out) hb)
    have n2_ := Aside0.mk (blk_below (g := gb494) (o := .cells #[.int .i64 0, .int .i64 0] 23 (0, 0)) (by (with_reducible repeat (first | refine blk_drewN ?_ _ | refine blk_drew ?_ | refine blk_alloc ?_ _)); exact BK494.out) hb)
    have n3_ := Aside0.mk (below_step (by repeat (first | (with_reducible first | exact HB.out | apply below_alloc | apply pw_below_drewN | apply below_drew1 | refine below_set ?_ GE492.out | refine below_set ?_ GE493.out | refine below_set ?_ GE494.out) | exact HB.out)) hb)
    clear BK492
    clear BK493
    clear BK494
    clear HB
    have BK492 := n0_
    have BK493 := n1_
    have BK494 := n2_
    have HB := n3_
    clear n0_ n1_ n2_ n3_
    (try clear hb)
    (try clear hb2)
    (try clear hk)
    (try clear hi)
    refine hK.out _ _ ⟨(blk_cell BK492.out 0).trans rfl, (blk_cell BK492.out 1).trans rfl, (blk_cell BK493.out 0).trans rfl, (blk_cell BK493.out 1).trans rfl⟩ (fun hHeld => ?_)
    clear hK K
    refine norm_ (a' := ?_) ?_ ?_
    rotate_left
    · show Act.put _ (some 11) _ = _
      simp only [Act.put, List.setIfInBounds_toArray, List.set_cons_zero, List.set_cons_succ, i64_w]
      rfl
    refine one_ (i := 3) (N := some 13) #[true, true, true, true, false, false] rfl rfl (by kernel_rfl) (by decide) (fun K hK => ?_)
    refine goes_ Try.func37 (by kernel_rfl) rfl #[.agg #[.int .i64 a1_0, .int .i64 a1_1]] (by rfl) rfl rfl (by (try simp only [List.map_toArray, List.map_cons, List.map_nil]); first | done | rfl | (simp only [List.length_drop, List.length_take]; rfl)) ?_
    with_reducible refine (dec_right.calls a1_0 a1_1 t497 t498 _ A4.out).mono ?_
    rintro e w12 ⟨rfl, hb⟩
    refine ⟨_, rfl, ?_⟩
    have n0_ := Aside0.mk (blk_below (g := gb492) (o := .cells #[.int .i64 a0_0, .int .i64 a0_1] 23 (0, 0)) (by (with_reducible repeat (first | refine blk_drewN ?_ _ | refine blk_drew ?_ | refine blk_alloc ?_ _)); exact BK492.out) hb)
    have n1_ := Aside0.mk (blk_below (g := gb493) (o := .cells #[.int .i64 a1_0, .int .i64 a1_1] 23 (0, 0)) (by (with_reducible repeat (first | refine blk_drewN ?_ _ | refine blk_drew ?_ | refine blk_alloc ?_ _)); exact BK493.out) hb)
    have n2_ := Aside0.mk (blk_below (g := gb494) (o := .cells #[.int .i64 0, .int .i64 0] 23 (0, 0)) (by (with_reducible repeat (first | refine blk_drewN ?_ _ | refine blk_drew ?_ | refine blk_alloc ?_ _)); exact BK494.out) hb)
    have n3_ := Aside0.mk (below_step (by repeat (first | (with_reducible first | exact HB.out | apply below_alloc | apply pw_below_drewN | apply below_drew1 | refine below_set ?_ GE492.out | refine below_set ?_ GE493.out | refine below_set ?_ GE494.out) | exact HB.out)) hb)
    clear BK492
    clear BK493
    clear BK494
    clear HB
    have BK492 := n0_
    have BK493 := n1_
    have BK494 := n2_
    have HB := n3_
    clear n0_ n1_ n2_ n3_
    (try clear hb)
    (try clear hb2)
    (try clear hk)
    (try clear hi)
    refine hK.out _ _ ⟨(blk_cell BK492.out 0).trans rfl, (blk_cell BK492.out 1).trans rfl, (blk_cell BK493.out 0).trans rfl, (blk_cell BK493.out 1).trans rfl⟩ (fun hHeld => ?_)
    clear hK K
    refine norm_ (a' := ?_) ?_ ?_
    rotate_left
    · show Act.put _ (some 13) _ = _
      simp only [Act.put, List.setIfInBounds_toArray, List.set_cons_zero, List.set_cons_succ, i64_w]
      rfl
    refine last_ (i := 4) (N := none) #[true, true, true, true, true, false] rfl rfl (by kernel_rfl) (by decide) (fun K hK => ?_)
    have hs13 : w12.cell? ⟨gb492, 0, none⟩ = some (.int .i64 a0_0) := (blk_cell BK492.out 0).trans rfl
    have hfs13 := blk_frozen BK492.out 0
    have hns13_1 := NB493_492.out
    have hns13_2 := NB494_492.out
    have hms13_1 := NB492_493.out
    have hms13_2 := NB492_494.out
    have hs14 : w12.cell? ⟨gb492, 1, none⟩ = some (.int .i64 a0_1) := (blk_cell BK492.out 1).trans rfl
    have hfs14 := blk_frozen BK492.out 1
    have hns14_1 := NB493_492.out
    have hns14_2 := NB494_492.out
    have hms14_1 := NB492_493.out
    have hms14_2 := NB492_494.out
    refine skip_ (w1 := ?_) (by rfl) rfl ?_ ?_
    rotate_left
    · go_simp
      rfl
    refine hK.out _ _ ?_
    clear hK K
    refine last_ (i := 5) (N := none) #[true, true, true, true, true, true] rfl rfl (by kernel_rfl) (by decide) (fun K hK => ?_)
    have hs15 : w12.cell? ⟨gb493, 0, none⟩ = some (.int .i64 a1_0) := (blk_cell BK493.out 0).trans rfl
    have hfs15 := blk_frozen BK493.out 0
    have hns15_0 := NB492_493.out
    have hns15_2 := NB494_493.out
    have hms15_0 := NB493_492.out
    have hms15_2 := NB493_494.out
    have hs16 : w12.cell? ⟨gb493, 1, none⟩ = some (.int .i64 a1_1) := (blk_cell BK493.out 1).trans rfl
    have hfs16 := blk_frozen BK493.out 1
    have hns16_0 := NB492_493.out
    have hns16_2 := NB494_493.out
    have hms16_0 := NB493_492.out
    have hms16_2 := NB493_494.out
    refine skip_ (w1 := ?_) (by rfl) rfl ?_ ?_
    rotate_left
    · go_simp
      rfl
    refine hK.out _ _ ?_
    clear hK K
    refine done_ (by kernel_rfl) ?_
    have hnb17 := NB492_493.out
    have hnc17 := NB493_492.out
    have hnb18 := NB492_494.out
    have hnc18 := NB494_492.out
    have hcz19_0 : w12.cell? ⟨gb492, 0, none⟩ = some (.int .i64 a0_0) := (blk_cell BK492.out 0).trans rfl
    have hcz19_1 : w12.cell? ⟨gb492, 1, none⟩ = some (.int .i64 a0_1) := (blk_cell BK492.out 1).trans rfl
    have hfz19_0 := blk_frozen BK492.out 0
    have hfz19_1 := blk_frozen BK492.out 1
    have hnb20 := NB493_494.out
    have hnc20 := NB494_493.out
    have hcz21_0 : w12.cell? ⟨gb493, 0, none⟩ = some (.int .i64 a1_0) := (blk_cell BK493.out 0).trans rfl
    have hcz21_1 : w12.cell? ⟨gb493, 1, none⟩ = some (.int .i64 a1_1) := (blk_cell BK493.out 1).trans rfl
    have hfz21_0 := blk_frozen BK493.out 0
    have hfz21_1 := blk_frozen BK493.out 1
    try go_wp2_with (first | ((with_reducible refine gate_callee (f := 58) rfl ?_); refine goesL_ (some 17) rfl rfl Try.func58 (by kernel_rfl) rfl #[.agg #[.int .i64 t495, .int .i64 t496], .agg #[.int .i64 t497, .int .i64 t498]] rfl (by (try simp only [List.map_toArray, List.map_cons, List.map_nil]); first | done | rfl | (simp only [List.length_drop, List.length_take]; rfl)) ?_; (with_reducible refine (dec_tagged.calls t495 t496 t497 t498 t499 t500 true _ A5.out).mono ?_); rintro e w22 ⟨rfl, hb⟩; refine ⟨_, rfl, ?_⟩; have n0_ := Aside0.mk (blk_below (g := gb492) (o := .cells #[.int .i64 t495, .int .i64 t496] 23 (0, 0)) (by (with_reducible repeat (first | refine blk_drewN ?_ _ | refine blk_drew ?_ | refine blk_alloc ?_ _)); refine blk_far ?_ NB492_493.out _; (with_reducible repeat (first | refine blk_drewN ?_ _ | refine blk_drew ?_ | refine blk_alloc ?_ _)); refine blk_far ?_ NB492_493.out _; (with_reducible repeat (first | refine blk_drewN ?_ _ | refine blk_drew ?_ | refine blk_alloc ?_ _)); refine blk_put (cs := #[.int .i64 t495, .int .i64 a0_1]) ?_ 1 _ rfl; (with_reducible repeat (first | refine blk_drewN ?_ _ | refine blk_drew ?_ | refine blk_alloc ?_ _)); refine blk_put (cs := #[.int .i64 a0_0, .int .i64 a0_1]) ?_ 0 _ rfl; (with_reducible repeat (first | refine blk_drewN ?_ _ | refine blk_drew ?_ | refine blk_alloc ?_ _)); exact BK492.out) hb); have n1_ := Aside0.mk (blk_below (g := gb493) (o := .cells #[.int .i64 t497, .int .i64 t498] 23 (0, 0)) (by (with_reducible repeat (first | refine blk_drewN ?_ _ | refine blk_drew ?_ | refine blk_alloc ?_ _)); refine blk_put (cs := #[.int .i64 t497, .int .i64 a1_1]) ?_ 1 _ rfl; (with_reducible repeat (first | refine blk_drewN ?_ _ | refine blk_drew ?_ | refine blk_alloc ?_ _)); refine blk_put (cs := #[.int .i64 a1_0, .int .i64 a1_1]) ?_ 0 _ rfl; (with_reducible repeat (first | refine blk_drewN ?_ _ | refine blk_drew ?_ | refine blk_alloc ?_ _)); refine blk_far ?_ NB493_492.out _; (with_reducible repeat (first | refine blk_drewN ?_ _ | refine blk_drew ?_ | refine blk_alloc ?_ _)); refine blk_far ?_ NB493_492.out _; (with_reducible repeat (first | refine blk_drewN ?_ _ | refine blk_drew ?_ | refine blk_alloc ?_ _)); exact BK493.out) hb); have n2_ := Aside0.mk (blk_below (g := gb494) (o := .cells #[.int .i64 0, .int .i64 0] 23 (0, 0)) (by (with_reducible repeat (first | refine blk_drewN ?_ _ | refine blk_drew ?_ | refine blk_alloc ?_ _)); refine blk_far ?_ NB494_493.out _; (with_reducible repeat (first | refine blk_drewN ?_ _ | refine blk_drew ?_ | refine blk_alloc ?_ _)); refine blk_far ?_ NB494_493.out _; (with_reducible repeat (first | refine blk_drewN ?_ _ | refine blk_drew ?_ | refine blk_alloc ?_ _)); refine blk_far ?_ NB494_492.out _; (with_reducible repeat (first | refine blk_drewN ?_ _ | refine blk_drew ?_ | refine blk_alloc ?_ _)); refine blk_far ?_ NB494_492.out _; (with_reducible repeat (first | refine blk_drewN ?_ _ | refine blk_drew ?_ | refine blk_alloc ?_ _)); exact BK494.out) hb); have n3_ := Aside0.mk (below_step (by repeat (first | (with_reducible first | exact HB.out | apply below_alloc | apply pw_below_drewN | apply below_drew1 | refine below_set ?_ GE492.out | refine below_set ?_ GE493.out | refine below_set ?_ GE494.out) | exact HB.out)) hb); clear BK492; clear BK493; clear BK494; clear HB; have BK492 := n0_; have BK493 := n1_; have BK494 := n2_; have HB := n3_; clear n0_ n1_ n2_ n3_; (try clear hb); (try clear hb2); (try clear hk); (try clear hi)) | ((with_reducible refine gate_dst (N := 5) rfl ?_); refine box_event ?hg (N := 5) ?hd (cs := #[.int .i64 0, .int .i64 0]) (t := 23) ?hr ?_; (case hd => rfl); (case hg => rfl); (case hr => first | (go_simp; done) | (go_simp; rfl)); intro gb502 hg w23 hbox hb; have n0_ := Aside0.mk (blk_below (g := gb492) (o := .cells #[.int .i64 t495, .int .i64 t496] 23 (0, 0)) (by (with_reducible repeat (first | refine blk_drewN ?_ _ | refine blk_drew ?_ | refine blk_alloc ?_ _)); exact BK492.out) hb); have n1_ := Aside0.mk (blk_below (g := gb493) (o := .cells #[.int .i64 t497, .int .i64 t498] 23 (0, 0)) (by (with_reducible repeat (first | refine blk_drewN ?_ _ | refine blk_drew ?_ | refine blk_alloc ?_ _)); exact BK493.out) hb); have n2_ := Aside0.mk (blk_below (g := gb494) (o := .cells #[.int .i64 0, .int .i64 0] 23 (0, 0)) (by (with_reducible repeat (first | refine blk_drewN ?_ _ | refine blk_drew ?_ | refine blk_alloc ?_ _)); exact BK494.out) hb); have n3_ := Aside0.mk (below_step (by repeat (first | (with_reducible first | exact HB.out | apply below_alloc | apply pw_below_drewN | apply below_drew1 | refine below_set ?_ GE492.out | refine below_set ?_ GE493.out | refine below_set ?_ GE494.out) | exact HB.out)) hb); have n4_ := Aside0.mk (hbox); have n5_ := Aside0.mk ((by rw [hg]; exact (below_size (by repeat (first | (with_reducible first | exact HB.out | apply below_alloc | apply pw_below_drewN | apply below_drew1 | refine below_set ?_ GE492.out | refine below_set ?_ GE493.out | refine below_set ?_ GE494.out) | exact HB.out))) : w.heap.size ≤ gb502)); have n6_ := Aside0.mk ((by rw [hg]; exact (below_size (by repeat (first | (with_reducible first | exact HB.out | apply below_alloc | apply pw_below_drewN | apply below_drew1 | refine below_set ?_ GE492.out | refine below_set ?_ GE493.out | refine below_set ?_ GE494.out) | exact HB.out))) : w.heap.size ≤ gb502)); have n7_ := Aside0.mk ((by rw [hg]; exact Nat.ne_of_lt (blk_lt (g := gb492) (o := .cells #[.int .i64 t495, .int .i64 t496] 23 (0, 0)) (by (with_reducible repeat (first | refine blk_drewN ?_ _ | refine blk_drew ?_ | refine blk_alloc ?_ _)); exact BK492.out)) : gb492 ≠ gb502)); have n8_ := Aside0.mk ((by rw [hg]; exact Nat.ne_of_gt (blk_lt (g := gb492) (o := .cells #[.int .i64 t495, .int .i64 t496] 23 (0, 0)) (by (with_reducible repeat (first | refine blk_drewN ?_ _ | refine blk_drew ?_ | refine blk_alloc ?_ _)); exact BK492.out)) : gb502 ≠ gb492)); have n9_ := Aside0.mk ((by rw [hg]; exact Nat.ne_of_lt (blk_lt (g := gb493) (o := .cells #[.int .i64 t497, .int .i64 t498] 23 (0, 0)) (by (with_reducible repeat (first | refine blk_drewN ?_ _ | refine blk_drew ?_ | refine blk_alloc ?_ _)); exact BK493.out)) : gb493 ≠ gb502)); have n10_ := Aside0.mk ((by rw [hg]; exact Nat.ne_of_gt (blk_lt (g := gb493) (o := .cells #[.int .i64 t497, .int .i64 t498] 23 (0, 0)) (by (with_reducible repeat (first | refine blk_drewN ?_ _ | refine blk_drew ?_ | refine blk_alloc ?_ _)); exact BK493.out)) : gb502 ≠ gb493)); have n11_ := Aside0.mk ((by rw [hg]; exact Nat.ne_of_lt (blk_lt (g := gb494) (o := .cells #[.int .i64 0, .int .i64 0] 23 (0, 0)) (by (with_reducible repeat (first | refine blk_drewN ?_ _ | refine blk_drew ?_ | refine blk_alloc ?_ _)); exact BK494.out)) : gb494 ≠ gb502)); have n12_ := Aside0.mk ((by rw [hg]; exact Nat.ne_of_gt (blk_lt (g := gb494) (o := .cells #[.int .i64 0, .int .i64 0] 23 (0, 0)) (by (with_reducible repeat (first | refine blk_drewN ?_ _ | refine blk_drew ?_ | refine blk_alloc ?_ _)); exact BK494.out)) : gb502 ≠ gb494)); clear BK492; clear BK493; clear BK494; clear HB; have BK492 := n0_; have BK493 := n1_; have BK494 := n2_; have HB := n3_; have BK502 := n4_; have GW502 := n5_; have GE502 := n6_; have NB492_502 := n7_; have NB502_492 := n8_; have NB493_502 := n9_; have NB502_493 := n10_; have NB494_502 := n11_; have NB502_494 := n12_; clear n0_ n1_ n2_ n3_ n4_ n5_ n6_ n7_ n8_ n9_ n10_ n11_ n12_; clear hb hbox hg; have hnb24 := NB502_492.out; have hnc24 := NB492_502.out; have hnb25 := NB502_493.out; have hnc25 := NB493_502.out; have hnb26 := NB502_494.out; have hnc26 := NB494_502.out; have hcz27_0 : w23.cell? ⟨gb502, 0, none⟩ = some (.int .i64 0) := (blk_cell BK502.out 0).trans rfl; have hcz27_1 : w23.cell? ⟨gb502, 1, none⟩ = some (.int .i64 0) := (blk_cell BK502.out 1).trans rfl; have hfz27_0 := blk_frozen BK502.out 0; have hfz27_1 := blk_frozen BK502.out 1; have hcz28_0 : w23.cell? ⟨gb494, 0, none⟩ = some (.int .i64 0) := (blk_cell BK494.out 0).trans rfl; have hcz28_1 : w23.cell? ⟨gb494, 1, none⟩ = some (.int .i64 0) := (blk_cell BK494.out 1).trans rfl; have hfz28_0 := blk_frozen BK494.out 0; have hfz28_1 := blk_frozen BK494.out 1))
    refine bodyPost_ret (results_cell_row rfl _ _ gb494 23 #[.int .i64 t499, .int .i64 t500] (0, 0) _ rfl (by (with_reducible repeat (first | refine blk_drewN ?_ _ | refine blk_drew ?_ | refine blk_alloc ?_ _)); refine blk_put (cs := #[.int .i64 t499, .int .i64 0]) ?_ 1 _ rfl; (with_reducible repeat (first | refine blk_drewN ?_ _ | refine blk_drew ?_ | refine blk_alloc ?_ _)); refine blk_put (cs := #[.int .i64 0, .int .i64 0]) ?_ 0 _ rfl; (with_reducible repeat (first | refine blk_drewN ?_ _ | refine blk_drew ?_ | refine blk_alloc ?_ _)); refine blk_far ?_ NB494_502.out _; (with_reducible repeat (first | refine blk_drewN ?_ _ | refine blk_drew ?_ | refine blk_alloc ?_ _)); refine blk_far ?_ NB494_502.out _; (with_reducible repeat (first | refine blk_drewN ?_ _ | refine blk_drew ?_ | refine blk_alloc ?_ _)); exact BK494.out) Try.underlying23 rfl (by kernel_rfl)) rfl ?_
    exact ⟨by first | rfl | (simp [ ] <;> rfl) | (simp [*] <;> rfl), by repeat (first | (with_reducible first | exact HB.out | apply below_alloc | apply pw_below_drewN | apply below_drew1 | refine below_set ?_ GE492.out | refine below_set ?_ GE493.out | refine below_set ?_ GE494.out | refine below_set ?_ GE502.out) | exact HB.out)⟩
  · replace c6 := Bool.eq_false_iff.mpr c6
    subst c6
    have H1 : ((bits_Add64.f (IntKind.u64.wrap (t496)) (IntKind.u64.wrap (t498)) 0).bind fun bt503 => (if t496 > 0 then (if t498 > 0 then (dec_Add.j0 k (wrap64 (bt503.1)) (decide ((wrap64 (bt503.1)) ≤ 0)) t495 t496 t497 t498) else (dec_Add.j0 k (wrap64 (bt503.1)) false t495 t496 t497 t498)) else (dec_Add.j0 k (wrap64 (bt503.1)) false t495 t496 t497 t498))) = some (r1, r2) := by rw [if_neg (show ¬ (false = true) by decide)] at H; exact H
    clear H
    have H := H1
    clear H1
    replace H := Option.bind_eq_some_iff.mp H
    obtain ⟨⟨t503, t504⟩, A290, H⟩ := H
    replace H : (if t496 > 0 then (if t498 > 0 then (dec_Add.j0 k (wrap64 (t503)) (decide ((wrap64 (t503)) ≤ 0)) t495 t496 t497 t498) else (dec_Add.j0 k (wrap64 (t503)) false t495 t496 t497 t498)) else (dec_Add.j0 k (wrap64 (t503)) false t495 t496 t497 t498)) = some (r1, r2) := H
    have A29 := Aside0.mk A290
    clear A290
    have HC30 := Aside0.mk H
    clear H
    go_enter Try.func26, Try.ntmps26
    try go_wp2_with (first | ((with_reducible refine gate_dst (N := 2) rfl ?_); refine box_event ?hg (N := 2) ?hd (cs := #[.int .i64 a0_0, .int .i64 a0_1]) (t := 23) ?hr ?_; (case hd => rfl); (case hg => rfl); (case hr => first | (go_simp; done) | (go_simp; rfl)); intro gb492 hg w31 hbox hb; have n0_ := Aside0.mk (below_step (by repeat (first | (with_reducible first | exact HB.out | apply below_alloc | apply pw_below_drewN | apply below_drew1) | exact HB.out)) hb); have n1_ := Aside0.mk (hbox); have n2_ := Aside0.mk ((by rw [hg]; exact (below_size (by repeat (first | (with_reducible first | exact HB.out | apply below_alloc | apply pw_below_drewN | apply below_drew1) | exact HB.out))) : w.heap.size ≤ gb492)); have n3_ := Aside0.mk ((by rw [hg]; exact (below_size (by repeat (first | (with_reducible first | exact HB.out | apply below_alloc | apply pw_below_drewN | apply below_drew1) | exact HB.out))) : w.heap.size ≤ gb492)); clear HB; have HB := n0_; have BK492 := n1_; have GW492 := n2_; have GE492 := n3_; clear n0_ n1_ n2_ n3_; clear hb hbox hg) | ((with_reducible refine gate_dst (N := 3) rfl ?_); refine box_event ?hg (N := 3) ?hd (cs := #[.int .i64 a1_0, .int .i64 a1_1]) (t := 23) ?hr ?_; (case hd => rfl); (case hg => rfl); (case hr => first | (go_simp; done) | (go_simp; rfl)); intro gb493 hg w32 hbox hb; have n0_ := Aside0.mk (blk_below (g := gb492) (o := .cells #[.int .i64 a0_0, .int .i64 a0_1] 23 (0, 0)) (by (with_reducible repeat (first | refine blk_drewN ?_ _ | refine blk_drew ?_ | refine blk_alloc ?_ _)); exact BK492.out) hb); have n1_ := Aside0.mk (below_step (by repeat (first | (with_reducible first | exact HB.out | apply below_alloc | apply pw_below_drewN | apply below_drew1 | refine below_set ?_ GE492.out) | exact HB.out)) hb); have n2_ := Aside0.mk (hbox); have n3_ := Aside0.mk ((by rw [hg]; exact (below_size (by repeat (first | (with_reducible first | exact HB.out | apply below_alloc | apply pw_below_drewN | apply below_drew1 | refine below_set ?_ GE492.out) | exact HB.out))) : w.heap.size ≤ gb493)); have n4_ := Aside0.mk ((by rw [hg]; exact (below_size (by repeat (first | (with_reducible first | exact HB.out | apply below_alloc | apply pw_below_drewN | apply below_drew1 | refine below_set ?_ GE492.out) | exact HB.out))) : w.heap.size ≤ gb493)); have n5_ := Aside0.mk ((by rw [hg]; exact Nat.ne_of_lt (blk_lt (g := gb492) (o := .cells #[.int .i64 a0_0, .int .i64 a0_1] 23 (0, 0)) (by (with_reducible repeat (first | refine blk_drewN ?_ _ | refine blk_drew ?_ | refine blk_alloc ?_ _)); exact BK492.out)) : gb492 ≠ gb493)); have n6_ := Aside0.mk ((by rw [hg]; exact Nat.ne_of_gt (blk_lt (g := gb492) (o := .cells #[.int .i64 a0_0, .int .i64 a0_1] 23 (0, 0)) (by (with_reducible repeat (first | refine blk_drewN ?_ _ | refine blk_drew ?_ | refine blk_alloc ?_ _)); exact BK492.out)) : gb493 ≠ gb492)); clear BK492; clear HB; have BK492 := n0_; have HB := n1_; have BK493 := n2_; have GW493 := n3_; have GE493 := n4_; have NB492_493 := n5_; have NB493_492 := n6_; clear n0_ n1_ n2_ n3_ n4_ n5_ n6_; clear hb hbox hg) | ((with_reducible refine gate_dst (N := 4) rfl ?_); refine box_event ?hg (N := 4) ?hd (cs := #[.int .i64 0, .int .i64 0]) (t := 23) ?hr ?_; (case hd => rfl); (case hg => rfl); (case hr => first | (go_simp; done) | (go_simp; rfl)); intro gb494 hg w33 hbox hb; have n0_ := Aside0.mk (blk_below (g := gb492) (o := .cells #[.int .i64 a0_0, .int .i64 a0_1] 23 (0, 0)) (by (with_reducible repeat (first | refine blk_drewN ?_ _ | refine blk_drew ?_ | refine blk_alloc ?_ _)); exact BK492.out) hb); have n1_ := Aside0.mk (blk_below (g := gb493) (o := .cells #[.int .i64 a1_0, .int .i64 a1_1] 23 (0, 0)) (by (with_reducible repeat (first | refine blk_drewN ?_ _ | refine blk_drew ?_ | refine blk_alloc ?_ _)); exact BK493.out) hb); have n2_ := Aside0.mk (below_step (by repeat (first | (with_reducible first | exact HB.out | apply below_alloc | apply pw_below_drewN | apply below_drew1 | refine below_set ?_ GE492.out | refine below_set ?_ GE493.out) | exact HB.out)) hb); have n3_ := Aside0.mk (hbox); have n4_ := Aside0.mk ((by rw [hg]; exact (below_size (by repeat (first | (with_reducible first | exact HB.out | apply below_alloc | apply pw_below_drewN | apply below_drew1 | refine below_set ?_ GE492.out | refine below_set ?_ GE493.out) | exact HB.out))) : w.heap.size ≤ gb494)); have n5_ := Aside0.mk ((by rw [hg]; exact (below_size (by repeat (first | (with_reducible first | exact HB.out | apply below_alloc | apply pw_below_drewN | apply below_drew1 | refine below_set ?_ GE492.out | refine below_set ?_ GE493.out) | exact HB.out))) : w.heap.size ≤ gb494)); have n6_ := Aside0.mk ((by rw [hg]; exact Nat.ne_of_lt (blk_lt (g := gb492) (o := .cells #[.int .i64 a0_0, .int .i64 a0_1] 23 (0, 0)) (by (with_reducible repeat (first | refine blk_drewN ?_ _ | refine blk_drew ?_ | refine blk_alloc ?_ _)); exact BK492.out)) : gb492 ≠ gb494)); have n7_ := Aside0.mk ((by rw [hg]; exact Nat.ne_of_gt (blk_lt (g := gb492) (o := .cells #[.int .i64 a0_0, .int .i64 a0_1] 23 (0, 0)) (by (with_reducible repeat (first | refine blk_drewN ?_ _ | refine blk_drew ?_ | refine blk_alloc ?_ _)); exact BK492.out)) : gb494 ≠ gb492)); have n8_ := Aside0.mk ((by rw [hg]; exact Nat.ne_of_lt (blk_lt (g := gb493) (o := .cells #[.int .i64 a1_0, .int .i64 a1_1] 23 (0, 0)) (by (with_reducible repeat (first | refine blk_drewN ?_ _ | refine blk_drew ?_ | refine blk_alloc ?_ _)); exact BK493.out)) : gb493 ≠ gb494)); have n9_ := Aside0.mk ((by rw [hg]; exact Nat.ne_of_gt (blk_lt (g := gb493) (o := .cells #[.int .i64 a1_0, .int .i64 a1_1] 23 (0, 0)) (by (with_reducible repeat (first | refine blk_drewN ?_ _ | refine blk_drew ?_ | refine blk_alloc ?_ _)); exact BK493.out)) : gb494 ≠ gb493)); clear BK492; clear BK493; clear HB; have BK492 := n0_; have BK493 := n1_; have HB := n2_; have BK494 := n3_; have GW494 := n4_; have GE494 := n5_; have NB492_494 := n6_; have NB494_492 := n7_; have NB493_494 := n8_; have NB494_493 := n9_; clear n0_ n1_ n2_ n3_ n4_ n5_ n6_ n7_ n8_ n9_; clear hb hbox hg))
    have n0_ := Aside0.mk (blk_drew BK492.out)
    have n1_ := Aside0.mk (blk_drew BK493.out)
    have n2_ := Aside0.mk (blk_drew BK494.out)
    have n3_ := Aside0.mk (below_drew1 HB.out)
    clear BK492
    clear BK493
    clear BK494
    clear HB
    have BK492 := n0_
    have BK493 := n1_
    have BK494 := n2_
    have HB := n3_
    clear n0_ n1_ n2_ n3_
    refine start_ (n := 6) (S := fun w' => w'.cell? ⟨gb492, 0, none⟩ = some (.int .i64 a0_0) ∧ w'.cell? ⟨gb492, 1, none⟩ = some (.int .i64 a0_1) ∧ w'.cell? ⟨gb493, 0, none⟩ = some (.int .i64 a1_0) ∧ w'.cell? ⟨gb493, 1, none⟩ = some (.int .i64 a1_1)) (ds := [4, 5]) #[false, false, false, false, false, false] (by kernel_rfl) rfl rfl ⟨(blk_cell BK492.out 0).trans rfl, (blk_cell BK492.out 1).trans rfl, (blk_cell BK493.out 0).trans rfl, (blk_cell BK493.out 1).trans rfl⟩ (fun hHeld => ?_)
    generalize w33.drew = w34 at BK492 BK493 BK494 HB hHeld ⊢
    refine take_ (i := 0) (N := some 10) (v := ?_) (a' := ?_) #[true, false, false, false, false, false] rfl rfl (by kernel_rfl) (fun _ _ _ h => h) (Or.inl ⟨by rfl, ?_⟩) hHeld ?_ ?_
    rotate_left
    · rintro w' ⟨s0, s1, s2, s3⟩
      go_simp
      with_reducible rfl
    rotate_left
    · simp only [Act.put, List.setIfInBounds_toArray, List.set_cons_zero, List.set_cons_succ, i64_w]
      rfl
    refine take_ (i := 2) (N := some 12) (v := ?_) (a' := ?_) #[true, false, true, false, false, false] rfl rfl (by kernel_rfl) (fun _ _ _ h => h) (Or.inl ⟨by rfl, ?_⟩) hHeld ?_ ?_
    rotate_left
    · rintro w' ⟨s0, s1, s2, s3⟩
      go_simp
      with_reducible rfl
    rotate_left
    · simp only [Act.put, List.setIfInBounds_toArray, List.set_cons_zero, List.set_cons_succ, i64_w]
      rfl
    refine one_ (i := 1) (N := some 11) #[true, true, true, false, false, false] rfl rfl (by kernel_rfl) (by decide) (fun K hK => ?_)
    refine goes_ Try.func37 (by kernel_rfl) rfl #[.agg #[.int .i64 a0_0, .int .i64 a0_1]] (by rfl) rfl rfl (by (try simp only [List.map_toArray, List.map_cons, List.map_nil]); first | done | rfl | (simp only [List.length_drop, List.length_take]; rfl)) ?_
    with_reducible refine (dec_right.calls a0_0 a0_1 t495 t496 _ A3.out).mono ?_
    rintro e w35 ⟨rfl, hb⟩
    refine ⟨_, rfl, ?_⟩
    have n0_ := Aside0.mk (blk_below (g := gb492) (o := .cells #[.int .i64 a0_0, .int .i64 a0_1] 23 (0, 0)) (by (with_reducible repeat (first | refine blk_drewN ?_ _ | refine blk_drew ?_ | refine blk_alloc ?_ _)); exact BK492.out) hb)
    have n1_ := Aside0.mk (blk_below (g := gb493) (o := .cells #[.int .i64 a1_0, .int .i64 a1_1] 23 (0, 0)) (by (with_reducible repeat (first | refine blk_drewN ?_ _ | refine blk_drew ?_ | refine blk_alloc ?_ _)); exact BK493.out) hb)
    have n2_ := Aside0.mk (blk_below (g := gb494) (o := .cells #[.int .i64 0, .int .i64 0] 23 (0, 0)) (by (with_reducible repeat (first | refine blk_drewN ?_ _ | refine blk_drew ?_ | refine blk_alloc ?_ _)); exact BK494.out) hb)
    have n3_ := Aside0.mk (below_step (by repeat (first | (with_reducible first | exact HB.out | apply below_alloc | apply pw_below_drewN | apply below_drew1 | refine below_set ?_ GE492.out | refine below_set ?_ GE493.out | refine below_set ?_ GE494.out) | exact HB.out)) hb)
    clear BK492
    clear BK493
    clear BK494
    clear HB
    have BK492 := n0_
    have BK493 := n1_
    have BK494 := n2_
    have HB := n3_
    clear n0_ n1_ n2_ n3_
    (try clear hb)
    (try clear hb2)
    (try clear hk)
    (try clear hi)
    refine hK.out _ _ ⟨(blk_cell BK492.out 0).trans rfl, (blk_cell BK492.out 1).trans rfl, (blk_cell BK493.out 0).trans rfl, (blk_cell BK493.out 1).trans rfl⟩ (fun hHeld => ?_)
    clear hK K
    refine norm_ (a' := ?_) ?_ ?_
    rotate_left
    · show Act.put _ (some 11) _ = _
      simp only [Act.put, List.setIfInBounds_toArray, List.set_cons_zero, List.set_cons_succ, i64_w]
      rfl
    refine one_ (i := 3) (N := some 13) #[true, true, true, true, false, false] rfl rfl (by kernel_rfl) (by decide) (fun K hK => ?_)
    refine goes_ Try.func37 (by kernel_rfl) rfl #[.agg #[.int .i64 a1_0, .int .i64 a1_1]] (by rfl) rfl rfl (by (try simp only [List.map_toArray, List.map_cons, List.map_nil]); first | done | rfl | (simp only [List.length_drop, List.length_take]; rfl)) ?_
    with_reducible refine (dec_right.calls a1_0 a1_1 t497 t498 _ A4.out).mono ?_
    rintro e w36 ⟨rfl, hb⟩
    refine ⟨_, rfl, ?_⟩
    have n0_ := Aside0.mk (blk_below (g := gb492) (o := .cells #[.int .i64 a0_0, .int .i64 a0_1] 23 (0, 0)) (by (with_reducible repeat (first | refine blk_drewN ?_ _ | refine blk_drew ?_ | refine blk_alloc ?_ _)); exact BK492.out) hb)
    have n1_ := Aside0.mk (blk_below (g := gb493) (o := .cells #[.int .i64 a1_0, .int .i64 a1_1] 23 (0, 0)) (by (with_reducible repeat (first | refine blk_drewN ?_ _ | refine blk_drew ?_ | refine blk_alloc ?_ _)); exact BK493.out) hb)
    have n2_ := Aside0.mk (blk_below (g := gb494) (o := .cells #[.int .i64 0, .int .i64 0] 23 (0, 0)) (by (with_reducible repeat (first | refine blk_drewN ?_ _ | refine blk_drew ?_ | refine blk_alloc ?_ _)); exact BK494.out) hb)
    have n3_ := Aside0.mk (below_step (by repeat (first | (with_reducible first | exact HB.out | apply below_alloc | apply pw_below_drewN | apply below_drew1 | refine below_set ?_ GE492.out | refine below_set ?_ GE493.out | refine below_set ?_ GE494.out) | exact HB.out)) hb)
    clear BK492
    clear BK493
    clear BK494
    clear HB
    have BK492 := n0_
    have BK493 := n1_
    have BK494 := n2_
    have HB := n3_
    clear n0_ n1_ n2_ n3_
    (try clear hb)
    (try clear hb2)
    (try clear hk)
    (try clear hi)
    refine hK.out _ _ ⟨(blk_cell BK492.out 0).trans rfl, (blk_cell BK492.out 1).trans rfl, (blk_cell BK493.out 0).trans rfl, (blk_cell BK493.out 1).trans rfl⟩ (fun hHeld => ?_)
    clear hK K
    refine norm_ (a' := ?_) ?_ ?_
    rotate_left
    · show Act.put _ (some 13) _ = _
      simp only [Act.put, List.setIfInBounds_toArray, List.set_cons_zero, List.set_cons_succ, i64_w]
      rfl
    refine last_ (i := 4) (N := none) #[true, true, true, true, true, false] rfl rfl (by kernel_rfl) (by decide) (fun K hK => ?_)
    have hs37 : w36.cell? ⟨gb492, 0, none⟩ = some (.int .i64 a0_0) := (blk_cell BK492.out 0).trans rfl
    have hfs37 := blk_frozen BK492.out 0
    have hns37_1 := NB493_492.out
    have hns37_2 := NB494_492.out
    have hms37_1 := NB492_493.out
    have hms37_2 := NB492_494.out
    have hs38 : w36.cell? ⟨gb492, 1, none⟩ = some (.int .i64 a0_1) := (blk_cell BK492.out 1).trans rfl
    have hfs38 := blk_frozen BK492.out 1
    have hns38_1 := NB493_492.out
    have hns38_2 := NB494_492.out
    have hms38_1 := NB492_493.out
    have hms38_2 := NB492_494.out
    refine skip_ (w1 := ?_) (by rfl) rfl ?_ ?_
    rotate_left
    · go_simp
      rfl
    refine hK.out _ _ ?_
    clear hK K
    refine last_ (i := 5) (N := none) #[true, true, true, true, true, true] rfl rfl (by kernel_rfl) (by decide) (fun K hK => ?_)
    have hs39 : w36.cell? ⟨gb493, 0, none⟩ = some (.int .i64 a1_0) := (blk_cell BK493.out 0).trans rfl
    have hfs39 := blk_frozen BK493.out 0
    have hns39_0 := NB492_493.out
    have hns39_2 := NB494_493.out
    have hms39_0 := NB493_492.out
    have hms39_2 := NB493_494.out
    have hs40 : w36.cell? ⟨gb493, 1, none⟩ = some (.int .i64 a1_1) := (blk_cell BK493.out 1).trans rfl
    have hfs40 := blk_frozen BK493.out 1
    have hns40_0 := NB492_493.out
    have hns40_2 := NB494_493.out
    have hms40_0 := NB493_492.out
    have hms40_2 := NB493_494.out
    refine skip_ (w1 := ?_) (by rfl) rfl ?_ ?_
    rotate_left
    · go_simp
      rfl
    refine hK.out _ _ ?_
    clear hK K
    refine done_ (by kernel_rfl) ?_
    have hnb41 := NB492_493.out
    have hnc41 := NB493_492.out
    have hnb42 := NB492_494.out
    have hnc42 := NB494_492.out
    have hcz43_0 : w36.cell? ⟨gb492, 0, none⟩ = some (.int .i64 a0_0) := (blk_cell BK492.out 0).trans rfl
    have hcz43_1 : w36.cell? ⟨gb492, 1, none⟩ = some (.int .i64 a0_1) := (blk_cell BK492.out 1).trans rfl
    have hfz43_0 := blk_frozen BK492.out 0
    have hfz43_1 := blk_frozen BK492.out 1
    have hnb44 := NB493_494.out
    have hnc44 := NB494_493.out
    have hcz45_0 : w36.cell? ⟨gb493, 0, none⟩ = some (.int .i64 a1_0) := (blk_cell BK493.out 0).trans rfl
    have hcz45_1 : w36.cell? ⟨gb493, 1, none⟩ = some (.int .i64 a1_1) := (blk_cell BK493.out 1).trans rfl
    have hfz45_0 := blk_frozen BK493.out 0
    have hfz45_1 := blk_frozen BK493.out 1
    go_upto_region 8 with (first | ((with_reducible refine gate_callee (f := 58) rfl ?_); refine goesL_ (some 17) rfl rfl Try.func58 (by kernel_rfl) rfl #[.agg #[.int .i64 t495, .int .i64 t496], .agg #[.int .i64 t497, .int .i64 t498]] rfl (by (try simp only [List.map_toArray, List.map_cons, List.map_nil]); first | done | rfl | (simp only [List.length_drop, List.length_take]; rfl)) ?_; (with_reducible refine (dec_tagged.calls t495 t496 t497 t498 t499 t500 false _ A5.out).mono ?_); rintro e w46 ⟨rfl, hb⟩; refine ⟨_, rfl, ?_⟩; have n0_ := Aside0.mk (blk_below (g := gb492) (o := .cells #[.int .i64 t495, .int .i64 t496] 23 (0, 0)) (by (with_reducible repeat (first | refine blk_drewN ?_ _ | refine blk_drew ?_ | refine blk_alloc ?_ _)); refine blk_far ?_ NB492_493.out _; (with_reducible repeat (first | refine blk_drewN ?_ _ | refine blk_drew ?_ | refine blk_alloc ?_ _)); refine blk_far ?_ NB492_493.out _; (with_reducible repeat (first | refine blk_drewN ?_ _ | refine blk_drew ?_ | refine blk_alloc ?_ _)); refine blk_put (cs := #[.int .i64 t495, .int .i64 a0_1]) ?_ 1 _ rfl; (with_reducible repeat (first | refine blk_drewN ?_ _ | refine blk_drew ?_ | refine blk_alloc ?_ _)); refine blk_put (cs := #[.int .i64 a0_0, .int .i64 a0_1]) ?_ 0 _ rfl; (with_reducible repeat (first | refine blk_drewN ?_ _ | refine blk_drew ?_ | refine blk_alloc ?_ _)); exact BK492.out) hb); have n1_ := Aside0.mk (blk_below (g := gb493) (o := .cells #[.int .i64 t497, .int .i64 t498] 23 (0, 0)) (by (with_reducible repeat (first | refine blk_drewN ?_ _ | refine blk_drew ?_ | refine blk_alloc ?_ _)); refine blk_put (cs := #[.int .i64 t497, .int .i64 a1_1]) ?_ 1 _ rfl; (with_reducible repeat (first | refine blk_drewN ?_ _ | refine blk_drew ?_ | refine blk_alloc ?_ _)); refine blk_put (cs := #[.int .i64 a1_0, .int .i64 a1_1]) ?_ 0 _ rfl; (with_reducible repeat (first | refine blk_drewN ?_ _ | refine blk_drew ?_ | refine blk_alloc ?_ _)); refine blk_far ?_ NB493_492.out _; (with_reducible repeat (first | refine blk_drewN ?_ _ | refine blk_drew ?_ | refine blk_alloc ?_ _)); refine blk_far ?_ NB493_492.out _; (with_reducible repeat (first | refine blk_drewN ?_ _ | refine blk_drew ?_ | refine blk_alloc ?_ _)); exact BK493.out) hb); have n2_ := Aside0.mk (blk_below (g := gb494) (o := .cells #[.int .i64 0, .int .i64 0] 23 (0, 0)) (by (with_reducible repeat (first | refine blk_drewN ?_ _ | refine blk_drew ?_ | refine blk_alloc ?_ _)); refine blk_far ?_ NB494_493.out _; (with_reducible repeat (first | refine blk_drewN ?_ _ | refine blk_drew ?_ | refine blk_alloc ?_ _)); refine blk_far ?_ NB494_493.out _; (with_reducible repeat (first | refine blk_drewN ?_ _ | refine blk_drew ?_ | refine blk_alloc ?_ _)); refine blk_far ?_ NB494_492.out _; (with_reducible repeat (first | refine blk_drewN ?_ _ | refine blk_drew ?_ | refine blk_alloc ?_ _)); refine blk_far ?_ NB494_492.out _; (with_reducible repeat (first | refine blk_drewN ?_ _ | refine blk_drew ?_ | refine blk_alloc ?_ _)); exact BK494.out) hb); have n3_ := Aside0.mk (below_step (by repeat (first | (with_reducible first | exact HB.out | apply below_alloc | apply pw_below_drewN | apply below_drew1 | refine below_set ?_ GE492.out | refine below_set ?_ GE493.out | refine below_set ?_ GE494.out) | exact HB.out)) hb); clear BK492; clear BK493; clear BK494; clear HB; have BK492 := n0_; have BK493 := n1_; have BK494 := n2_; have HB := n3_; clear n0_ n1_ n2_ n3_; (try clear hb); (try clear hb2); (try clear hk); (try clear hi)) | ((with_reducible refine gate_dst (N := 5) rfl ?_); refine box_event ?hg (N := 5) ?hd (cs := #[.int .i64 0, .int .i64 0]) (t := 23) ?hr ?_; (case hd => rfl); (case hg => rfl); (case hr => first | (go_simp; done) | (go_simp; rfl)); intro gb502 hg w47 hbox hb; have n0_ := Aside0.mk (blk_below (g := gb492) (o := .cells #[.int .i64 t495, .int .i64 t496] 23 (0, 0)) (by (with_reducible repeat (first | refine blk_drewN ?_ _ | refine blk_drew ?_ | refine blk_alloc ?_ _)); exact BK492.out) hb); have n1_ := Aside0.mk (blk_below (g := gb493) (o := .cells #[.int .i64 t497, .int .i64 t498] 23 (0, 0)) (by (with_reducible repeat (first | refine blk_drewN ?_ _ | refine blk_drew ?_ | refine blk_alloc ?_ _)); exact BK493.out) hb); have n2_ := Aside0.mk (blk_below (g := gb494) (o := .cells #[.int .i64 0, .int .i64 0] 23 (0, 0)) (by (with_reducible repeat (first | refine blk_drewN ?_ _ | refine blk_drew ?_ | refine blk_alloc ?_ _)); exact BK494.out) hb); have n3_ := Aside0.mk (below_step (by repeat (first | (with_reducible first | exact HB.out | apply below_alloc | apply pw_below_drewN | apply below_drew1 | refine below_set ?_ GE492.out | refine below_set ?_ GE493.out | refine below_set ?_ GE494.out) | exact HB.out)) hb); have n4_ := Aside0.mk (hbox); have n5_ := Aside0.mk ((by rw [hg]; exact (below_size (by repeat (first | (with_reducible first | exact HB.out | apply below_alloc | apply pw_below_drewN | apply below_drew1 | refine below_set ?_ GE492.out | refine below_set ?_ GE493.out | refine below_set ?_ GE494.out) | exact HB.out))) : w.heap.size ≤ gb502)); have n6_ := Aside0.mk ((by rw [hg]; exact (below_size (by repeat (first | (with_reducible first | exact HB.out | apply below_alloc | apply pw_below_drewN | apply below_drew1 | refine below_set ?_ GE492.out | refine below_set ?_ GE493.out | refine below_set ?_ GE494.out) | exact HB.out))) : w.heap.size ≤ gb502)); have n7_ := Aside0.mk ((by rw [hg]; exact Nat.ne_of_lt (blk_lt (g := gb492) (o := .cells #[.int .i64 t495, .int .i64 t496] 23 (0, 0)) (by (with_reducible repeat (first | refine blk_drewN ?_ _ | refine blk_drew ?_ | refine blk_alloc ?_ _)); exact BK492.out)) : gb492 ≠ gb502)); have n8_ := Aside0.mk ((by rw [hg]; exact Nat.ne_of_gt (blk_lt (g := gb492) (o := .cells #[.int .i64 t495, .int .i64 t496] 23 (0, 0)) (by (with_reducible repeat (first | refine blk_drewN ?_ _ | refine blk_drew ?_ | refine blk_alloc ?_ _)); exact BK492.out)) : gb502 ≠ gb492)); have n9_ := Aside0.mk ((by rw [hg]; exact Nat.ne_of_lt (blk_lt (g := gb493) (o := .cells #[.int .i64 t497, .int .i64 t498] 23 (0, 0)) (by (with_reducible repeat (first | refine blk_drewN ?_ _ | refine blk_drew ?_ | refine blk_alloc ?_ _)); exact BK493.out)) : gb493 ≠ gb502)); have n10_ := Aside0.mk ((by rw [hg]; exact Nat.ne_of_gt (blk_lt (g := gb493) (o := .cells #[.int .i64 t497, .int .i64 t498] 23 (0, 0)) (by (with_reducible repeat (first | refine blk_drewN ?_ _ | refine blk_drew ?_ | refine blk_alloc ?_ _)); exact BK493.out)) : gb502 ≠ gb493)); have n11_ := Aside0.mk ((by rw [hg]; exact Nat.ne_of_lt (blk_lt (g := gb494) (o := .cells #[.int .i64 0, .int .i64 0] 23 (0, 0)) (by (with_reducible repeat (first | refine blk_drewN ?_ _ | refine blk_drew ?_ | refine blk_alloc ?_ _)); exact BK494.out)) : gb494 ≠ gb502)); have n12_ := Aside0.mk ((by rw [hg]; exact Nat.ne_of_gt (blk_lt (g := gb494) (o := .cells #[.int .i64 0, .int .i64 0] 23 (0, 0)) (by (with_reducible repeat (first | refine blk_drewN ?_ _ | refine blk_drew ?_ | refine blk_alloc ?_ _)); exact BK494.out)) : gb502 ≠ gb494)); clear BK492; clear BK493; clear BK494; clear HB; have BK492 := n0_; have BK493 := n1_; have BK494 := n2_; have HB := n3_; have BK502 := n4_; have GW502 := n5_; have GE502 := n6_; have NB492_502 := n7_; have NB502_492 := n8_; have NB493_502 := n9_; have NB502_493 := n10_; have NB494_502 := n11_; have NB502_494 := n12_; clear n0_ n1_ n2_ n3_ n4_ n5_ n6_ n7_ n8_ n9_ n10_ n11_ n12_; clear hb hbox hg; have hnb48 := NB502_492.out; have hnc48 := NB492_502.out; have hnb49 := NB502_493.out; have hnc49 := NB493_502.out; have hnb50 := NB502_494.out; have hnc50 := NB494_502.out; have hcz51_0 : w47.cell? ⟨gb502, 0, none⟩ = some (.int .i64 0) := (blk_cell BK502.out 0).trans rfl; have hcz51_1 : w47.cell? ⟨gb502, 1, none⟩ = some (.int .i64 0) := (blk_cell BK502.out 1).trans rfl; have hfz51_0 := blk_frozen BK502.out 0; have hfz51_1 := blk_frozen BK502.out 1; have hcz52_0 : w47.cell? ⟨gb492, 0, none⟩ = some (.int .i64 t495) := (blk_cell BK492.out 0).trans rfl; have hcz52_1 : w47.cell? ⟨gb492, 1, none⟩ = some (.int .i64 t496) := (blk_cell BK492.out 1).trans rfl; have hfz52_0 := blk_frozen BK492.out 0; have hfz52_1 := blk_frozen BK492.out 1; have hcz53_0 : w47.cell? ⟨gb493, 0, none⟩ = some (.int .i64 t497) := (blk_cell BK493.out 0).trans rfl; have hcz53_1 : w47.cell? ⟨gb493, 1, none⟩ = some (.int .i64 t498) := (blk_cell BK493.out 1).trans rfl; have hfz53_0 := blk_frozen BK493.out 0; have hfz53_1 := blk_frozen BK493.out 1) | ((with_reducible refine gate_callee (f := 59) rfl ?_); refine Mine.goesX_ (some 29) rfl rfl Try.func59 (by kernel_rfl) rfl #[.int .u64 (IntKind.u64.wrap (t496)), .int .u64 (IntKind.u64.wrap (t498)), .int .u64 0] rfl (by (try simp only [List.map_toArray, List.map_cons, List.map_nil]); first | done | rfl | (simp only [List.length_drop, List.length_take]; rfl)) ?_; (with_reducible refine (bits_Add64.calls (IntKind.u64.wrap (t496)) (IntKind.u64.wrap (t498)) 0 t503 t504 _ A29.out).mono ?_); rintro e w' ⟨rfl, ⟨nd, rfl⟩⟩; refine ⟨_, rfl, ?_⟩))
    (try simp only [Act.put, List.setIfInBounds_toArray, List.set_cons_zero, List.set_cons_succ])
    go_cut [35] (fun v35 wc => ∃ (kq : Nat) (x35_29 : Bool), v35 = .bool x35_29 ∧ Aside0 (dec_Add.j0 kq (wrap64 (t503)) x35_29 t495 t496 t497 t498 = some (r1, r2)) ∧ Aside0 (kq ≤ k) ∧ Aside0 (wc.heap[gb492]? = some (.cells #[.int .i64 t495, .int .i64 t496] 23 (0, 0))) ∧ Aside0 (wc.heap[gb493]? = some (.cells #[.int .i64 t497, .int .i64 t498] 23 (0, 0))) ∧ Aside0 (wc.heap[gb494]? = some (.cells #[.int .i64 0, .int .i64 0] 23 (0, 0))) ∧ Aside0 (wc.heap[gb502]? = some (.cells #[.int .i64 t499, .int .i64 t500] 23 (0, 0))) ∧ Aside0 (Below w.heap.size w wc))
    case first =>
      have H := HC30.out
      clear HC30
      by_cases c54 : t496 > 0
      · rw [if_pos c54] at H
        have c54b0 : decide (0 < t496) = true := decide_eq_true c54
        clear c54
        (first | rw [c54b0] | (simp only [i64_w]; rw [c54b0]) | skip)
        by_cases c55 : t498 > 0
        · rw [if_pos c55] at H
          have c55b0 : decide (0 < t498) = true := decide_eq_true c55
          clear c55
          have H' := Aside0.mk H
          clear H
          have hnb56 := NB492_493.out
          have hnc56 := NB493_492.out
          have hnb57 := NB492_494.out
          have hnc57 := NB494_492.out
          have hnb58 := NB492_502.out
          have hnc58 := NB502_492.out
          have hcz59_0 : w47.cell? ⟨gb492, 0, none⟩ = some (.int .i64 t495) := (blk_cell BK492.out 0).trans rfl
          have hcz59_1 : w47.cell? ⟨gb492, 1, none⟩ = some (.int .i64 t496) := (blk_cell BK492.out 1).trans rfl
          have hfz59_0 := blk_frozen BK492.out 0
          have hfz59_1 := blk_frozen BK492.out 1
          have hnb60 := NB493_494.out
          have hnc60 := NB494_493.out
          have hnb61 := NB493_502.out
          have hnc61 := NB502_493.out
          have hcz62_0 : w47.cell? ⟨gb493, 0, none⟩ = some (.int .i64 t497) := (blk_cell BK493.out 0).trans rfl
          have hcz62_1 : w47.cell? ⟨gb493, 1, none⟩ = some (.int .i64 t498) := (blk_cell BK493.out 1).trans rfl
          have hfz62_0 := blk_frozen BK493.out 0
          have hfz62_1 := blk_frozen BK493.out 1
          go_wp2
          go_meet
          case rel => exact ⟨_, (decide ((wrap64 (t503)) ≤ 0)), (by first | rfl | (simp; done) | (simp [*]; done)), H', ⟨by first | omega | exact Nat.le_refl _⟩, ⟨by (with_reducible repeat (first | refine blk_drewN ?_ _ | refine blk_drew ?_ | refine blk_alloc ?_ _)); refine blk_far ?_ NB492_502.out _; (with_reducible repeat (first | refine blk_drewN ?_ _ | refine blk_drew ?_ | refine blk_alloc ?_ _)); refine blk_far ?_ NB492_502.out _; (with_reducible repeat (first | refine blk_drewN ?_ _ | refine blk_drew ?_ | refine blk_alloc ?_ _)); exact BK492.out⟩, ⟨by (with_reducible repeat (first | refine blk_drewN ?_ _ | refine blk_drew ?_ | refine blk_alloc ?_ _)); refine blk_far ?_ NB493_502.out _; (with_reducible repeat (first | refine blk_drewN ?_ _ | refine blk_drew ?_ | refine blk_alloc ?_ _)); refine blk_far ?_ NB493_502.out _; (with_reducible repeat (first | refine blk_drewN ?_ _ | refine blk_drew ?_ | refine blk_alloc ?_ _)); exact BK493.out⟩, ⟨by (with_reducible repeat (first | refine blk_drewN ?_ _ | refine blk_drew ?_ | refine blk_alloc ?_ _)); refine blk_far ?_ NB494_502.out _; (with_reducible repeat (first | refine blk_drewN ?_ _ | refine blk_drew ?_ | refine blk_alloc ?_ _)); refine blk_far ?_ NB494_502.out _; (with_reducible repeat (first | refine blk_drewN ?_ _ | refine blk_drew ?_ | refine blk_alloc ?_ _)); exact BK494.out⟩, ⟨by (with_reducible repeat (first | refine blk_drewN ?_ _ | refine blk_drew ?_ | refine blk_alloc ?_ _)); refine blk_put (cs := #[.int .i64 t499, .int .i64 0]) ?_ 1 _ rfl; (with_reducible repeat (first | refine blk_drewN ?_ _ | refine blk_drew ?_ | refine blk_alloc ?_ _)); refine blk_put (cs := #[.int .i64 0, .int .i64 0]) ?_ 0 _ rfl; (with_reducible repeat (first | refine blk_drewN ?_ _ | refine blk_drew ?_ | refine blk_alloc ?_ _)); exact BK502.out⟩, ⟨by repeat (first | (with_reducible first | exact HB.out | apply below_alloc | apply pw_below_drewN | apply below_drew1 | refine below_set ?_ GE492.out | refine below_set ?_ GE493.out | refine below_set ?_ GE494.out | refine below_set ?_ GE502.out) | exact HB.out)⟩⟩
        · rw [if_neg c55] at H
          have c55b0 : decide (0 < t498) = false := decide_eq_false c55
          clear c55
          have H' := Aside0.mk H
          clear H
          have hnb63 := NB492_493.out
          have hnc63 := NB493_492.out
          have hnb64 := NB492_494.out
          have hnc64 := NB494_492.out
          have hnb65 := NB492_502.out
          have hnc65 := NB502_492.out
          have hcz66_0 : w47.cell? ⟨gb492, 0, none⟩ = some (.int .i64 t495) := (blk_cell BK492.out 0).trans rfl
          have hcz66_1 : w47.cell? ⟨gb492, 1, none⟩ = some (.int .i64 t496) := (blk_cell BK492.out 1).trans rfl
          have hfz66_0 := blk_frozen BK492.out 0
          have hfz66_1 := blk_frozen BK492.out 1
          have hnb67 := NB493_494.out
          have hnc67 := NB494_493.out
          have hnb68 := NB493_502.out
          have hnc68 := NB502_493.out
          have hcz69_0 : w47.cell? ⟨gb493, 0, none⟩ = some (.int .i64 t497) := (blk_cell BK493.out 0).trans rfl
          have hcz69_1 : w47.cell? ⟨gb493, 1, none⟩ = some (.int .i64 t498) := (blk_cell BK493.out 1).trans rfl
          have hfz69_0 := blk_frozen BK493.out 0
          have hfz69_1 := blk_frozen BK493.out 1
          go_wp2
          go_meet
          case rel => exact ⟨_, (false), (by first | rfl | (simp; done) | (simp [*]; done)), H', ⟨by first | omega | exact Nat.le_refl _⟩, ⟨by (with_reducible repeat (first | refine blk_drewN ?_ _ | refine blk_drew ?_ | refine blk_alloc ?_ _)); refine blk_far ?_ NB492_502.out _; (with_reducible repeat (first | refine blk_drewN ?_ _ | refine blk_drew ?_ | refine blk_alloc ?_ _)); refine blk_far ?_ NB492_502.out _; (with_reducible repeat (first | refine blk_drewN ?_ _ | refine blk_drew ?_ | refine blk_alloc ?_ _)); exact BK492.out⟩, ⟨by (with_reducible repeat (first | refine blk_drewN ?_ _ | refine blk_drew ?_ | refine blk_alloc ?_ _)); refine blk_far ?_ NB493_502.out _; (with_reducible repeat (first | refine blk_drewN ?_ _ | refine blk_drew ?_ | refine blk_alloc ?_ _)); refine blk_far ?_ NB493_502.out _; (with_reducible repeat (first | refine blk_drewN ?_ _ | refine blk_drew ?_ | refine blk_alloc ?_ _)); exact BK493.out⟩, ⟨by (with_reducible repeat (first | refine blk_drewN ?_ _ | refine blk_drew ?_ | refine blk_alloc ?_ _)); refine blk_far ?_ NB494_502.out _; (with_reducible repeat (first | refine blk_drewN ?_ _ | refine blk_drew ?_ | refine blk_alloc ?_ _)); refine blk_far ?_ NB494_502.out _; (with_reducible repeat (first | refine blk_drewN ?_ _ | refine blk_drew ?_ | refine blk_alloc ?_ _)); exact BK494.out⟩, ⟨by (with_reducible repeat (first | refine blk_drewN ?_ _ | refine blk_drew ?_ | refine blk_alloc ?_ _)); refine blk_put (cs := #[.int .i64 t499, .int .i64 0]) ?_ 1 _ rfl; (with_reducible repeat (first | refine blk_drewN ?_ _ | refine blk_drew ?_ | refine blk_alloc ?_ _)); refine blk_put (cs := #[.int .i64 0, .int .i64 0]) ?_ 0 _ rfl; (with_reducible repeat (first | refine blk_drewN ?_ _ | refine blk_drew ?_ | refine blk_alloc ?_ _)); exact BK502.out⟩, ⟨by repeat (first | (with_reducible first | exact HB.out | apply below_alloc | apply pw_below_drewN | apply below_drew1 | refine below_set ?_ GE492.out | refine below_set ?_ GE493.out | refine below_set ?_ GE494.out | refine below_set ?_ GE502.out) | exact HB.out)⟩⟩
      · rw [if_neg c54] at H
        have c54b0 : decide (0 < t496) = false := decide_eq_false c54
        clear c54
        (first | rw [c54b0] | (simp only [i64_w]; rw [c54b0]) | skip)
        have H' := Aside0.mk H
        clear H
        have hnb70 := NB492_493.out
        have hnc70 := NB493_492.out
        have hnb71 := NB492_494.out
        have hnc71 := NB494_492.out
        have hnb72 := NB492_502.out
        have hnc72 := NB502_492.out
        have hcz73_0 : w47.cell? ⟨gb492, 0, none⟩ = some (.int .i64 t495) := (blk_cell BK492.out 0).trans rfl
        have hcz73_1 : w47.cell? ⟨gb492, 1, none⟩ = some (.int .i64 t496) := (blk_cell BK492.out 1).trans rfl
        have hfz73_0 := blk_frozen BK492.out 0
        have hfz73_1 := blk_frozen BK492.out 1
        go_wp2
        go_meet
        case rel => exact ⟨_, (false), (by first | rfl | (simp; done) | (simp [*]; done)), H', ⟨by first | omega | exact Nat.le_refl _⟩, ⟨by (with_reducible repeat (first | refine blk_drewN ?_ _ | refine blk_drew ?_ | refine blk_alloc ?_ _)); refine blk_far ?_ NB492_502.out _; (with_reducible repeat (first | refine blk_drewN ?_ _ | refine blk_drew ?_ | refine blk_alloc ?_ _)); refine blk_far ?_ NB492_502.out _; (with_reducible repeat (first | refine blk_drewN ?_ _ | refine blk_drew ?_ | refine blk_alloc ?_ _)); exact BK492.out⟩, ⟨by (with_reducible repeat (first | refine blk_drewN ?_ _ | refine blk_drew ?_ | refine blk_alloc ?_ _)); refine blk_far ?_ NB493_502.out _; (with_reducible repeat (first | refine blk_drewN ?_ _ | refine blk_drew ?_ | refine blk_alloc ?_ _)); refine blk_far ?_ NB493_502.out _; (with_reducible repeat (first | refine blk_drewN ?_ _ | refine blk_drew ?_ | refine blk_alloc ?_ _)); exact BK493.out⟩, ⟨by (with_reducible repeat (first | refine blk_drewN ?_ _ | refine blk_drew ?_ | refine blk_alloc ?_ _)); refine blk_far ?_ NB494_502.out _; (with_reducible repeat (first | refine blk_drewN ?_ _ | refine blk_drew ?_ | refine blk_alloc ?_ _)); refine blk_far ?_ NB494_502.out _; (with_reducible repeat (first | refine blk_drewN ?_ _ | refine blk_drew ?_ | refine blk_alloc ?_ _)); exact BK494.out⟩, ⟨by (with_reducible repeat (first | refine blk_drewN ?_ _ | refine blk_drew ?_ | refine blk_alloc ?_ _)); refine blk_put (cs := #[.int .i64 t499, .int .i64 0]) ?_ 1 _ rfl; (with_reducible repeat (first | refine blk_drewN ?_ _ | refine blk_drew ?_ | refine blk_alloc ?_ _)); refine blk_put (cs := #[.int .i64 0, .int .i64 0]) ?_ 0 _ rfl; (with_reducible repeat (first | refine blk_drewN ?_ _ | refine blk_drew ?_ | refine blk_alloc ?_ _)); exact BK502.out⟩, ⟨by repeat (first | (with_reducible first | exact HB.out | apply below_alloc | apply pw_below_drewN | apply below_drew1 | refine below_set ?_ GE492.out | refine below_set ?_ GE493.out | refine below_set ?_ GE494.out | refine below_set ?_ GE502.out) | exact HB.out)⟩⟩
    case rest =>
      clear HC30
      try clear c1
      try clear c2
      try clear p2
      try clear c3
      try clear c4
      try clear c5
      try clear c6
      try clear p6
      try clear c7
      try clear c17
      try clear c18
      try clear c20
      try clear c24
      try clear c25
      try clear c26
      try clear c37
      try clear c41
      try clear c42
      try clear c44
      try clear c48
      try clear c49
      try clear c50
      try clear c54
      try clear c54b0
      try clear c55
      try clear c55b0
      try clear c56
      try clear c57
      try clear c58
      try clear c59
      try clear c60
      try clear c61
      try clear c63
      try clear c64
      try clear p64
      try clear c65
      try clear c67
      try clear c68
      try clear c70
      try clear c71
      try clear c72
      try clear hcz19_0
      try clear hcz19_1
      try clear hcz21_0
      try clear hcz21_1
      try clear hcz27_0
      try clear hcz27_1
      try clear hcz28_0
      try clear hcz28_1
      try clear hcz43_0
      try clear hcz43_1
      try clear hcz45_0
      try clear hcz45_1
      try clear hcz51_0
      try clear hcz51_1
      try clear hcz52_0
      try clear hcz52_1
      try clear hcz53_0
      try clear hcz53_1
      try clear hcz59_0
      try clear hcz59_1
      try clear hcz62_0
      try clear hcz62_1
      try clear hcz66_0
      try clear hcz66_1
      try clear hcz69_0
      try clear hcz69_1
      try clear hcz73_0
      try clear hcz73_1
      try clear hfz19_0
      try clear hfz19_1
      try clear hfz21_0
      try clear hfz21_1
      try clear hfz27_0
      try clear hfz27_1
      try clear hfz28_0
      try clear hfz28_1
      try clear hfz43_0
      try clear hfz43_1
      try clear hfz45_0
      try clear hfz45_1
      try clear hfz51_0
      try clear hfz51_1
      try clear hfz52_0
      try clear hfz52_1
      try clear hfz53_0
      try clear hfz53_1
      try clear hfz59_0
      try clear hfz59_1
      try clear hfz62_0
      try clear hfz62_1
      try clear hfz66_0
      try clear hfz66_1
      try clear hfz69_0
      try clear hfz69_1
      try clear hfz73_0
      try clear hfz73_1
      obtain ⟨kq, x35_29, rfl, HA, HJ29, BK492, BK493, BK494, BK502, HB⟩ := hcut
      cases kq with
      | zero => exact absurd HA.out (by simp [dec_Add.j0])
      | succ kj29 =>
        have H := HA.out
        clear HA
        simp only [dec_Add.j0] at H
        by_cases c74 : x35_29 = true
        · subst c74
          have H1 : ((dec_over.f).bind fun bt505 => (some (bt505.1, bt505.2))) = some (r1, r2) := by rw [if_pos rfl] at H; exact H
          clear H
          have H := H1
          clear H1
          replace H := Option.bind_eq_some_iff.mp H
          obtain ⟨⟨t505, t506⟩, A750, H⟩ := H
          replace H : (some (t505, t506)) = some (r1, r2) := H
          have A75 := Aside0.mk A750
          clear A750
          simp only [Option.some.injEq, Prod.mk.injEq] at H
          obtain ⟨rfl, rfl⟩ := H
          go_wp2_with (first | ((with_reducible refine gate_callee (f := 57) rfl ?_); refine goesL_ (some 48) rfl rfl Try.func57 (by kernel_rfl) rfl #[] rfl (by (try simp only [List.map_toArray, List.map_cons, List.map_nil]); first | done | rfl | (simp only [List.length_drop, List.length_take]; rfl)) ?_; (with_reducible refine (dec_over.calls  t505 t506 _ A75.out).mono ?_); rintro e w76 ⟨rfl, hb⟩; refine ⟨_, rfl, ?_⟩; have n0_ := Aside0.mk (blk_below (g := gb492) (o := .cells #[.int .i64 t495, .int .i64 t496] 23 (0, 0)) (by (with_reducible repeat (first | refine blk_drewN ?_ _ | refine blk_drew ?_ | refine blk_alloc ?_ _)); exact BK492.out) hb); have n1_ := Aside0.mk (blk_below (g := gb493) (o := .cells #[.int .i64 t497, .int .i64 t498] 23 (0, 0)) (by (with_reducible repeat (first | refine blk_drewN ?_ _ | refine blk_drew ?_ | refine blk_alloc ?_ _)); exact BK493.out) hb); have n2_ := Aside0.mk (blk_below (g := gb494) (o := .cells #[.int .i64 0, .int .i64 0] 23 (0, 0)) (by (with_reducible repeat (first | refine blk_drewN ?_ _ | refine blk_drew ?_ | refine blk_alloc ?_ _)); exact BK494.out) hb); have n3_ := Aside0.mk (blk_below (g := gb502) (o := .cells #[.int .i64 t499, .int .i64 t500] 23 (0, 0)) (by (with_reducible repeat (first | refine blk_drewN ?_ _ | refine blk_drew ?_ | refine blk_alloc ?_ _)); exact BK502.out) hb); have n4_ := Aside0.mk (below_step (by repeat (first | (with_reducible first | exact HB.out | apply below_alloc | apply pw_below_drewN | apply below_drew1 | refine below_set ?_ GE492.out | refine below_set ?_ GE493.out | refine below_set ?_ GE494.out | refine below_set ?_ GE502.out) | exact HB.out)) hb); clear BK492; clear BK493; clear BK494; clear BK502; clear HB; have BK492 := n0_; have BK493 := n1_; have BK494 := n2_; have BK502 := n3_; have HB := n4_; clear n0_ n1_ n2_ n3_ n4_; (try clear hb); (try clear hb2); (try clear hk); (try clear hi); have hnb77 := NB494_492.out; have hnc77 := NB492_494.out; have hnb78 := NB494_493.out; have hnc78 := NB493_494.out; have hnb79 := NB494_502.out; have hnc79 := NB502_494.out; have hcz80_0 : w76.cell? ⟨gb494, 0, none⟩ = some (.int .i64 0) := (blk_cell BK494.out 0).trans rfl; have hcz80_1 : w76.cell? ⟨gb494, 1, none⟩ = some (.int .i64 0) := (blk_cell BK494.out 1).trans rfl; have hfz80_0 := blk_frozen BK494.out 0; have hfz80_1 := blk_frozen BK494.out 1))
          refine bodyPost_ret (results_cell_row rfl _ _ gb494 23 #[.int .i64 t505, .int .i64 t506] (0, 0) _ rfl (by (with_reducible repeat (first | refine blk_drewN ?_ _ | refine blk_drew ?_ | refine blk_alloc ?_ _)); refine blk_put (cs := #[.int .i64 t505, .int .i64 0]) ?_ 1 _ rfl; (with_reducible repeat (first | refine blk_drewN ?_ _ | refine blk_drew ?_ | refine blk_alloc ?_ _)); refine blk_put (cs := #[.int .i64 0, .int .i64 0]) ?_ 0 _ rfl; (with_reducible repeat (first | refine blk_drewN ?_ _ | refine blk_drew ?_ | refine blk_alloc ?_ _)); exact BK494.out) Try.underlying23 rfl (by kernel_rfl)) rfl ?_
          exact ⟨by first | rfl | (simp [ ] <;> rfl) | (simp [*] <;> rfl), by repeat (first | (with_reducible first | exact HB.out | apply below_alloc | apply pw_below_drewN | apply below_drew1 | refine below_set ?_ GE492.out | refine below_set ?_ GE493.out | refine below_set ?_ GE494.out | refine below_set ?_ GE502.out) | exact HB.out)⟩
        · replace c74 := Bool.eq_false_iff.mpr c74
          subst c74
          have H1 : (if t496 < 0 then (if t498 < 0 then (if (wrap64 (t503)) ≥ 0 then ((dec_under.f).bind fun bt507 => (some (bt507.1, bt507.2))) else (if (wrap64 (t503)) = (-9223372036854775808) then ((dec_under.f).bind fun bt509 => (some (bt509.1, bt509.2))) else (some (0, (wrap64 (t503)))))) else (some (0, (wrap64 (t503))))) else (some (0, (wrap64 (t503))))) = some (r1, r2) := by rw [if_neg (show ¬ (false = true) by decide)] at H; exact H
          clear H
          have H := H1
          clear H1
          by_cases c81 : t496 < 0
          · rw [if_pos c81] at H
            have c81b0 : decide (t496 < 0) = true := decide_eq_true c81
            clear c81
            by_cases c82 : t498 < 0
            · rw [if_pos c82] at H
              have c82b0 : decide (t498 < 0) = true := decide_eq_true c82
              clear c82
              by_cases c83 : (wrap64 (t503)) ≥ 0
              · rw [if_pos c83] at H
                have c83b0 : decide (0 ≤ (wrap64 (t503))) = true := decide_eq_true c83
                clear c83
                replace H := Option.bind_eq_some_iff.mp H
                obtain ⟨⟨t507, t508⟩, A840, H⟩ := H
                replace H : (some (t507, t508)) = some (r1, r2) := H
                have A84 := Aside0.mk A840
                clear A840
                simp only [Option.some.injEq, Prod.mk.injEq] at H
                obtain ⟨rfl, rfl⟩ := H
                have hnb85 := NB492_493.out
                have hnc85 := NB493_492.out
                have hnb86 := NB492_494.out
                have hnc86 := NB494_492.out
                have hnb87 := NB492_502.out
                have hnc87 := NB502_492.out
                have hcz88_0 : wc.cell? ⟨gb492, 0, none⟩ = some (.int .i64 t495) := (blk_cell BK492.out 0).trans rfl
                have hcz88_1 : wc.cell? ⟨gb492, 1, none⟩ = some (.int .i64 t496) := (blk_cell BK492.out 1).trans rfl
                have hfz88_0 := blk_frozen BK492.out 0
                have hfz88_1 := blk_frozen BK492.out 1
                have hnb89 := NB493_494.out
                have hnc89 := NB494_493.out
                have hnb90 := NB493_502.out
                have hnc90 := NB502_493.out
                have hcz91_0 : wc.cell? ⟨gb493, 0, none⟩ = some (.int .i64 t497) := (blk_cell BK493.out 0).trans rfl
                have hcz91_1 : wc.cell? ⟨gb493, 1, none⟩ = some (.int .i64 t498) := (blk_cell BK493.out 1).trans rfl
                have hfz91_0 := blk_frozen BK493.out 0
                have hfz91_1 := blk_frozen BK493.out 1
                go_wp2_with (first | ((with_reducible refine gate_callee (f := 54) rfl ?_); refine goesL_ (some 66) rfl rfl Try.func54 (by kernel_rfl) rfl #[] rfl (by (try simp only [List.map_toArray, List.map_cons, List.map_nil]); first | done | rfl | (simp only [List.length_drop, List.length_take]; rfl)) ?_; (with_reducible refine (dec_under.calls  t507 t508 _ A84.out).mono ?_); rintro e w92 ⟨rfl, hb⟩; refine ⟨_, rfl, ?_⟩; have n0_ := Aside0.mk (blk_below (g := gb492) (o := .cells #[.int .i64 t495, .int .i64 t496] 23 (0, 0)) (by (with_reducible repeat (first | refine blk_drewN ?_ _ | refine blk_drew ?_ | refine blk_alloc ?_ _)); exact BK492.out) hb); have n1_ := Aside0.mk (blk_below (g := gb493) (o := .cells #[.int .i64 t497, .int .i64 t498] 23 (0, 0)) (by (with_reducible repeat (first | refine blk_drewN ?_ _ | refine blk_drew ?_ | refine blk_alloc ?_ _)); exact BK493.out) hb); have n2_ := Aside0.mk (blk_below (g := gb494) (o := .cells #[.int .i64 0, .int .i64 0] 23 (0, 0)) (by (with_reducible repeat (first | refine blk_drewN ?_ _ | refine blk_drew ?_ | refine blk_alloc ?_ _)); exact BK494.out) hb); have n3_ := Aside0.mk (blk_below (g := gb502) (o := .cells #[.int .i64 t499, .int .i64 t500] 23 (0, 0)) (by (with_reducible repeat (first | refine blk_drewN ?_ _ | refine blk_drew ?_ | refine blk_alloc ?_ _)); exact BK502.out) hb); have n4_ := Aside0.mk (below_step (by repeat (first | (with_reducible first | exact HB.out | apply below_alloc | apply pw_below_drewN | apply below_drew1 | refine below_set ?_ GE492.out | refine below_set ?_ GE493.out | refine below_set ?_ GE494.out | refine below_set ?_ GE502.out) | exact HB.out)) hb); clear BK492; clear BK493; clear BK494; clear BK502; clear HB; have BK492 := n0_; have BK493 := n1_; have BK494 := n2_; have BK502 := n3_; have HB := n4_; clear n0_ n1_ n2_ n3_ n4_; (try clear hb); (try clear hb2); (try clear hk); (try clear hi); have hnb93 := NB494_502.out; have hnc93 := NB502_494.out; have hcz94_0 : w92.cell? ⟨gb494, 0, none⟩ = some (.int .i64 0) := (blk_cell BK494.out 0).trans rfl; have hcz94_1 : w92.cell? ⟨gb494, 1, none⟩ = some (.int .i64 0) := (blk_cell BK494.out 1).trans rfl; have hfz94_0 := blk_frozen BK494.out 0; have hfz94_1 := blk_frozen BK494.out 1))
                refine bodyPost_ret (results_cell_row rfl _ _ gb494 23 #[.int .i64 t507, .int .i64 t508] (0, 0) _ rfl (by (with_reducible repeat (first | refine blk_drewN ?_ _ | refine blk_drew ?_ | refine blk_alloc ?_ _)); refine blk_put (cs := #[.int .i64 t507, .int .i64 0]) ?_ 1 _ rfl; (with_reducible repeat (first | refine blk_drewN ?_ _ | refine blk_drew ?_ | refine blk_alloc ?_ _)); refine blk_put (cs := #[.int .i64 0, .int .i64 0]) ?_ 0 _ rfl; (with_reducible repeat (first | refine blk_drewN ?_ _ | refine blk_drew ?_ | refine blk_alloc ?_ _)); exact BK494.out) Try.underlying23 rfl (by kernel_rfl)) rfl ?_
                exact ⟨by first | rfl | (simp [ ] <;> rfl) | (simp [*] <;> rfl), by repeat (first | (with_reducible first | exact HB.out | apply below_alloc | apply pw_below_drewN | apply below_drew1 | refine below_set ?_ GE492.out | refine below_set ?_ GE493.out | refine below_set ?_ GE494.out | refine below_set ?_ GE502.out) | exact HB.out)⟩
              · rw [if_neg c83] at H
                have c83b0 : decide (0 ≤ (wrap64 (t503))) = false := decide_eq_false c83
                clear c83
                by_cases c95 : (wrap64 (t503)) = (-9223372036854775808)
                · rw [if_pos c95] at H
                  have c95b0 : ((wrap64 (t503)) == (-9223372036854775808)) = true := beq_iff_eq.mpr c95
                  have c95b1 : ((wrap64 (t503)) != (-9223372036854775808)) = false := bne_eq_false_iff_eq.mpr c95
                  clear c95
                  replace H := Option.bind_eq_some_iff.mp H
                  obtain ⟨⟨t509, t510⟩, A960, H⟩ := H
                  replace H : (some (t509, t510)) = some (r1, r2) := H
                  have A96 := Aside0.mk A960
                  clear A960
                  simp only [Option.some.injEq, Prod.mk.injEq] at H
                  obtain ⟨rfl, rfl⟩ := H
                  have hnb97 := NB492_493.out
                  have hnc97 := NB493_492.out
                  have hnb98 := NB492_494.out
                  have hnc98 := NB494_492.out
                  have hnb99 := NB492_502.out
                  have hnc99 := NB502_492.out
                  have hcz100_0 : wc.cell? ⟨gb492, 0, none⟩ = some (.int .i64 t495) := (blk_cell BK492.out 0).trans rfl
                  have hcz100_1 : wc.cell? ⟨gb492, 1, none⟩ = some (.int .i64 t496) := (blk_cell BK492.out 1).trans rfl
                  have hfz100_0 := blk_frozen BK492.out 0
                  have hfz100_1 := blk_frozen BK492.out 1
                  have hnb101 := NB493_494.out
                  have hnc101 := NB494_493.out
                  have hnb102 := NB493_502.out
                  have hnc102 := NB502_493.out
                  have hcz103_0 : wc.cell? ⟨gb493, 0, none⟩ = some (.int .i64 t497) := (blk_cell BK493.out 0).trans rfl
                  have hcz103_1 : wc.cell? ⟨gb493, 1, none⟩ = some (.int .i64 t498) := (blk_cell BK493.out 1).trans rfl
                  have hfz103_0 := blk_frozen BK493.out 0
                  have hfz103_1 := blk_frozen BK493.out 1
                  go_wp2_with (first | ((with_reducible refine gate_callee (f := 54) rfl ?_); refine goesL_ (some 66) rfl rfl Try.func54 (by kernel_rfl) rfl #[] rfl (by (try simp only [List.map_toArray, List.map_cons, List.map_nil]); first | done | rfl | (simp only [List.length_drop, List.length_take]; rfl)) ?_; (with_reducible refine (dec_under.calls  t509 t510 _ A96.out).mono ?_); rintro e w104 ⟨rfl, hb⟩; refine ⟨_, rfl, ?_⟩; have n0_ := Aside0.mk (blk_below (g := gb492) (o := .cells #[.int .i64 t495, .int .i64 t496] 23 (0, 0)) (by (with_reducible repeat (first | refine blk_drewN ?_ _ | refine blk_drew ?_ | refine blk_alloc ?_ _)); exact BK492.out) hb); have n1_ := Aside0.mk (blk_below (g := gb493) (o := .cells #[.int .i64 t497, .int .i64 t498] 23 (0, 0)) (by (with_reducible repeat (first | refine blk_drewN ?_ _ | refine blk_drew ?_ | refine blk_alloc ?_ _)); exact BK493.out) hb); have n2_ := Aside0.mk (blk_below (g := gb494) (o := .cells #[.int .i64 0, .int .i64 0] 23 (0, 0)) (by (with_reducible repeat (first | refine blk_drewN ?_ _ | refine blk_drew ?_ | refine blk_alloc ?_ _)); exact BK494.out) hb); have n3_ := Aside0.mk (blk_below (g := gb502) (o := .cells #[.int .i64 t499, .int .i64 t500] 23 (0, 0)) (by (with_reducible repeat (first | refine blk_drewN ?_ _ | refine blk_drew ?_ | refine blk_alloc ?_ _)); exact BK502.out) hb); have n4_ := Aside0.mk (below_step (by repeat (first | (with_reducible first | exact HB.out | apply below_alloc | apply pw_below_drewN | apply below_drew1 | refine below_set ?_ GE492.out | refine below_set ?_ GE493.out | refine below_set ?_ GE494.out | refine below_set ?_ GE502.out) | exact HB.out)) hb); clear BK492; clear BK493; clear BK494; clear BK502; clear HB; have BK492 := n0_; have BK493 := n1_; have BK494 := n2_; have BK502 := n3_; have HB := n4_; clear n0_ n1_ n2_ n3_ n4_; (try clear hb); (try clear hb2); (try clear hk); (try clear hi); have hnb105 := NB494_502.out; have hnc105 := NB502_494.out; have hcz106_0 : w104.cell? ⟨gb494, 0, none⟩ = some (.int .i64 0) := (blk_cell BK494.out 0).trans rfl; have hcz106_1 : w104.cell? ⟨gb494, 1, none⟩ = some (.int .i64 0) := (blk_cell BK494.out 1).trans rfl; have hfz106_0 := blk_frozen BK494.out 0; have hfz106_1 := blk_frozen BK494.out 1))
                  refine bodyPost_ret (results_cell_row rfl _ _ gb494 23 #[.int .i64 t509, .int .i64 t510] (0, 0) _ rfl (by (with_reducible repeat (first | refine blk_drewN ?_ _ | refine blk_drew ?_ | refine blk_alloc ?_ _)); refine blk_put (cs := #[.int .i64 t509, .int .i64 0]) ?_ 1 _ rfl; (with_reducible repeat (first | refine blk_drewN ?_ _ | refine blk_drew ?_ | refine blk_alloc ?_ _)); refine blk_put (cs := #[.int .i64 0, .int .i64 0]) ?_ 0 _ rfl; (with_reducible repeat (first | refine blk_drewN ?_ _ | refine blk_drew ?_ | refine blk_alloc ?_ _)); exact BK494.out) Try.underlying23 rfl (by kernel_rfl)) rfl ?_
                  exact ⟨by first | rfl | (simp [ ] <;> rfl) | (simp [*] <;> rfl), by repeat (first | (with_reducible first | exact HB.out | apply below_alloc | apply pw_below_drewN | apply below_drew1 | refine below_set ?_ GE492.out | refine below_set ?_ GE493.out | refine below_set ?_ GE494.out | refine below_set ?_ GE502.out) | exact HB.out)⟩
                · rw [if_neg c95] at H
                  have c95b0 : ((wrap64 (t503)) == (-9223372036854775808)) = false := beq_eq_false_iff_ne.mpr c95
                  have c95b1 : ((wrap64 (t503)) != (-9223372036854775808)) = true := bne_iff_ne.mpr c95
                  simp only [Option.some.injEq, Prod.mk.injEq] at H
                  obtain ⟨rfl, rfl⟩ := H
                  have hnb107 := NB492_493.out
                  have hnc107 := NB493_492.out
                  have hnb108 := NB492_494.out
                  have hnc108 := NB494_492.out
                  have hnb109 := NB492_502.out
                  have hnc109 := NB502_492.out
                  have hcz110_0 : wc.cell? ⟨gb492, 0, none⟩ = some (.int .i64 t495) := (blk_cell BK492.out 0).trans rfl
                  have hcz110_1 : wc.cell? ⟨gb492, 1, none⟩ = some (.int .i64 t496) := (blk_cell BK492.out 1).trans rfl
                  have hfz110_0 := blk_frozen BK492.out 0
                  have hfz110_1 := blk_frozen BK492.out 1
                  have hnb111 := NB493_494.out
                  have hnc111 := NB494_493.out
                  have hnb112 := NB493_502.out
                  have hnc112 := NB502_493.out
                  have hcz113_0 : wc.cell? ⟨gb493, 0, none⟩ = some (.int .i64 t497) := (blk_cell BK493.out 0).trans rfl
                  have hcz113_1 : wc.cell? ⟨gb493, 1, none⟩ = some (.int .i64 t498) := (blk_cell BK493.out 1).trans rfl
                  have hfz113_0 := blk_frozen BK493.out 0
                  have hfz113_1 := blk_frozen BK493.out 1
                  have hnb114 := NB494_502.out
                  have hnc114 := NB502_494.out
                  have hcz115_0 : wc.cell? ⟨gb494, 0, none⟩ = some (.int .i64 0) := (blk_cell BK494.out 0).trans rfl
                  have hcz115_1 : wc.cell? ⟨gb494, 1, none⟩ = some (.int .i64 0) := (blk_cell BK494.out 1).trans rfl
                  have hfz115_0 := blk_frozen BK494.out 0
                  have hfz115_1 := blk_frozen BK494.out 1
                  go_wp2
                  refine bodyPost_ret (results_cell_row rfl _ _ gb494 23 #[.int .i64 0, .int .i64 (wrap64 (t503))] (0, 0) _ rfl (by (with_reducible repeat (first | refine blk_drewN ?_ _ | refine blk_drew ?_ | refine blk_alloc ?_ _)); refine blk_put (cs := #[.int .i64 0, .int .i64 0]) ?_ 1 _ rfl; (with_reducible repeat (first | refine blk_drewN ?_ _ | refine blk_drew ?_ | refine blk_alloc ?_ _)); refine blk_put (cs := #[.int .i64 0, .int .i64 0]) ?_ 0 _ rfl; (with_reducible repeat (first | refine blk_drewN ?_ _ | refine blk_drew ?_ | refine blk_alloc ?_ _)); exact BK494.out) Try.underlying23 rfl (by kernel_rfl)) rfl ?_
                  exact ⟨by first | rfl | (simp [ ] <;> rfl) | (simp [*] <;> rfl), by repeat (first | (with_reducible first | exact HB.out | apply below_alloc | apply pw_below_drewN | apply below_drew1 | refine below_set ?_ GE492.out | refine below_set ?_ GE493.out | refine below_set ?_ GE494.out | refine below_set ?_ GE502.out) | exact HB.out)⟩
            · rw [if_neg c82] at H
              have c82b0 : decide (t498 < 0) = false := decide_eq_false c82
              clear c82
              simp only [Option.some.injEq, Prod.mk.injEq] at H
              obtain ⟨rfl, rfl⟩ := H
              have hnb116 := NB492_493.out
              have hnc116 := NB493_492.out
              have hnb117 := NB492_494.out
              have hnc117 := NB494_492.out
              have hnb118 := NB492_502.out
              have hnc118 := NB502_492.out
              have hcz119_0 : wc.cell? ⟨gb492, 0, none⟩ = some (.int .i64 t495) := (blk_cell BK492.out 0).trans rfl
              have hcz119_1 : wc.cell? ⟨gb492, 1, none⟩ = some (.int .i64 t496) := (blk_cell BK492.out 1).trans rfl
              have hfz119_0 := blk_frozen BK492.out 0
              have hfz119_1 := blk_frozen BK492.out 1
              have hnb120 := NB493_494.out
              have hnc120 := NB494_493.out
              have hnb121 := NB493_502.out
              have hnc121 := NB502_493.out
              have hcz122_0 : wc.cell? ⟨gb493, 0, none⟩ = some (.int .i64 t497) := (blk_cell BK493.out 0).trans rfl
              have hcz122_1 : wc.cell? ⟨gb493, 1, none⟩ = some (.int .i64 t498) := (blk_cell BK493.out 1).trans rfl
              have hfz122_0 := blk_frozen BK493.out 0
              have hfz122_1 := blk_frozen BK493.out 1
              have hnb123 := NB494_502.out
              have hnc123 := NB502_494.out
              have hcz124_0 : wc.cell? ⟨gb494, 0, none⟩ = some (.int .i64 0) := (blk_cell BK494.out 0).trans rfl
              have hcz124_1 : wc.cell? ⟨gb494, 1, none⟩ = some (.int .i64 0) := (blk_cell BK494.out 1).trans rfl
              have hfz124_0 := blk_frozen BK494.out 0
              have hfz124_1 := blk_frozen BK494.out 1
              go_wp2
              refine bodyPost_ret (results_cell_row rfl _ _ gb494 23 #[.int .i64 0, .int .i64 (wrap64 (t503))] (0, 0) _ rfl (by (with_reducible repeat (first | refine blk_drewN ?_ _ | refine blk_drew ?_ | refine blk_alloc ?_ _)); refine blk_put (cs := #[.int .i64 0, .int .i64 0]) ?_ 1 _ rfl; (with_reducible repeat (first | refine blk_drewN ?_ _ | refine blk_drew ?_ | refine blk_alloc ?_ _)); refine blk_put (cs := #[.int .i64 0, .int .i64 0]) ?_ 0 _ rfl; (with_reducible repeat (first | refine blk_drewN ?_ _ | refine blk_drew ?_ | refine blk_alloc ?_ _)); exact BK494.out) Try.underlying23 rfl (by kernel_rfl)) rfl ?_
              exact ⟨by first | rfl | (simp [ ] <;> rfl) | (simp [*] <;> rfl), by repeat (first | (with_reducible first | exact HB.out | apply below_alloc | apply pw_below_drewN | apply below_drew1 | refine below_set ?_ GE492.out | refine below_set ?_ GE493.out | refine below_set ?_ GE494.out | refine below_set ?_ GE502.out) | exact HB.out)⟩
          · rw [if_neg c81] at H
            have c81b0 : decide (t496 < 0) = false := decide_eq_false c81
            clear c81
            simp only [Option.some.injEq, Prod.mk.injEq] at H
            obtain ⟨rfl, rfl⟩ := H
            have hnb125 := NB492_493.out
            have hnc125 := NB493_492.out
            have hnb126 := NB492_494.out
            have hnc126 := NB494_492.out
            have hnb127 := NB492_502.out
            have hnc127 := NB502_492.out
            have hcz128_0 : wc.cell? ⟨gb492, 0, none⟩ = some (.int .i64 t495) := (blk_cell BK492.out 0).trans rfl
            have hcz128_1 : wc.cell? ⟨gb492, 1, none⟩ = some (.int .i64 t496) := (blk_cell BK492.out 1).trans rfl
            have hfz128_0 := blk_frozen BK492.out 0
            have hfz128_1 := blk_frozen BK492.out 1
            have hnb129 := NB494_493.out
            have hnc129 := NB493_494.out
            have hnb130 := NB494_502.out
            have hnc130 := NB502_494.out
            have hcz131_0 : wc.cell? ⟨gb494, 0, none⟩ = some (.int .i64 0) := (blk_cell BK494.out 0).trans rfl
            have hcz131_1 : wc.cell? ⟨gb494, 1, none⟩ = some (.int .i64 0) := (blk_cell BK494.out 1).trans rfl
            have hfz131_0 := blk_frozen BK494.out 0
            have hfz131_1 := blk_frozen BK494.out 1
            go_wp2
            refine bodyPost_ret (results_cell_row rfl _ _ gb494 23 #[.int .i64 0, .int .i64 (wrap64 (t503))] (0, 0) _ rfl (by (with_reducible repeat (first | refine blk_drewN ?_ _ | refine blk_drew ?_ | refine blk_alloc ?_ _)); refine blk_put (cs := #[.int .i64 0, .int .i64 0]) ?_ 1 _ rfl; (with_reducible repeat (first | refine blk_drewN ?_ _ | refine blk_drew ?_ | refine blk_alloc ?_ _)); refine blk_put (cs := #[.int .i64 0, .int .i64 0]) ?_ 0 _ rfl; (with_reducible repeat (first | refine blk_drewN ?_ _ | refine blk_drew ?_ | refine blk_alloc ?_ _)); exact BK494.out) Try.underlying23 rfl (by kernel_rfl)) rfl ?_
            exact ⟨by first | rfl | (simp [ ] <;> rfl) | (simp [*] <;> rfl), by repeat (first | (with_reducible first | exact HB.out | apply below_alloc | apply pw_below_drewN | apply below_drew1 | refine below_set ?_ GE492.out | refine below_set ?_ GE493.out | refine below_set ?_ GE494.out | refine below_set ?_ GE502.out) | exact HB.out)⟩

end Go.Proofs.Yticpobgkbapdmaa.PD
