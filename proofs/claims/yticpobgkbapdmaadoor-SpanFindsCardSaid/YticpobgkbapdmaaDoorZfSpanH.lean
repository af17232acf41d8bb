/- The law of span that finds a text in another one. -/
import Derived.Deep.RegionWith
import Derived.Test.YticpobgkbapdmaaDoorZfSpanG
namespace Go.Proofs.YticpobgkbapdmaaDoor.CharA
end Go.Proofs.YticpobgkbapdmaaDoor.CharA
namespace Go.Proofs.YticpobgkbapdmaaDoor.CharB
end Go.Proofs.YticpobgkbapdmaaDoor.CharB
namespace Go.Proofs.YticpobgkbapdmaaDoor.CharC
end Go.Proofs.YticpobgkbapdmaaDoor.CharC
namespace Go.Proofs.YticpobgkbapdmaaDoor.CharD
end Go.Proofs.YticpobgkbapdmaaDoor.CharD
namespace Go.Proofs.YticpobgkbapdmaaDoor.CharE
end Go.Proofs.YticpobgkbapdmaaDoor.CharE
namespace Go.Proofs.YticpobgkbapdmaaDoor.CharF
end Go.Proofs.YticpobgkbapdmaaDoor.CharF
namespace Go.Proofs.YticpobgkbapdmaaDoor.SpanA
end Go.Proofs.YticpobgkbapdmaaDoor.SpanA
namespace Go.Proofs.YticpobgkbapdmaaDoor.SpanB
end Go.Proofs.YticpobgkbapdmaaDoor.SpanB
namespace Go.Proofs.YticpobgkbapdmaaDoor.SpanC
end Go.Proofs.YticpobgkbapdmaaDoor.SpanC
namespace Go.Proofs.YticpobgkbapdmaaDoor.SpanD
end Go.Proofs.YticpobgkbapdmaaDoor.SpanD
namespace Go.Proofs.YticpobgkbapdmaaDoor.SpanE
end Go.Proofs.YticpobgkbapdmaaDoor.SpanE
namespace Go.Proofs.YticpobgkbapdmaaDoor.SpanF
end Go.Proofs.YticpobgkbapdmaaDoor.SpanF
namespace Go.Proofs.YticpobgkbapdmaaDoor.SpanG
end Go.Proofs.YticpobgkbapdmaaDoor.SpanG
namespace Go.Proofs.YticpobgkbapdmaaDoorW.PrintLast
end Go.Proofs.YticpobgkbapdmaaDoorW.PrintLast
namespace Go.Proofs.YticpobgkbapdmaaDoorW.PrintMore
end Go.Proofs.YticpobgkbapdmaaDoorW.PrintMore
namespace Go.Proofs.YticpobgkbapdmaaDoorW.PrintWords
end Go.Proofs.YticpobgkbapdmaaDoorW.PrintWords
namespace Go.Proofs.YticpobgkbapdmaaDoor.SpanH
open Go.RowKit Go.Shelf Go.Proofs.YticpobgkbapdmaaDoorW.PrintWords Go.Proofs.YticpobgkbapdmaaDoorW.PrintLast Go.Proofs.YticpobgkbapdmaaDoorW.PrintMore Go.Proofs.YticpobgkbapdmaaDoor.CharA Go.Proofs.YticpobgkbapdmaaDoor.CharB Go.Proofs.YticpobgkbapdmaaDoor.CharC Go.Proofs.YticpobgkbapdmaaDoor.CharD Go.Proofs.YticpobgkbapdmaaDoor.CharE Go.Proofs.YticpobgkbapdmaaDoor.CharF Go.Proofs.YticpobgkbapdmaaDoor.SpanA Go.Proofs.YticpobgkbapdmaaDoor.SpanB Go.Proofs.YticpobgkbapdmaaDoor.SpanC Go.Proofs.YticpobgkbapdmaaDoor.SpanD Go.Proofs.YticpobgkbapdmaaDoor.SpanE Go.Proofs.YticpobgkbapdmaaDoor.SpanF Go.Proofs.YticpobgkbapdmaaDoor.SpanG
set_option linter.unusedVariables false
set_option linter.unusedSimpArgs false
set_option maxHeartbeats 1000000 in
set_option maxRecDepth 100000 in
theorem finds_calls (s t : ByteArray) (w : World) (hT : Tabs w) (hM : MaxL w) (hw2 : 2 ≤ w.heap.size) (hs : s.size ≤ 9223372036854775807) (ht : t.size ≤ 9223372036854775807) :
    Calls Tryd.prog 12 #[.string s, .string t] w fun e w' => e = .returned (.bool true) ∧ Below w.heap.size w w' := by
  have c5 : ∀ w', Below w.heap.size w w' → _ := fun w' hb => works_calls w' (tabs_below hT hb) (Nat.le_trans hw2 hb.size)
  by_cases hl : s.size ≤ 3000
  · have l1 : decide ((3000 : Int) < (s.size : Int)) = false := by simp; omega
    by_cases hl2 : t.size ≤ 3000
    · have l2 : decide ((3000 : Int) < (t.size : Int)) = false := by simp; omega
      have c1 := PR1.breviaryref02_Find.calls (s.size + 6) s t _ w (ref_find s t (by omega) (by omega) _ (by omega))
      have c2 : ∀ w', Below w.heap.size w w' → _ := fun w' hb => has_calls s t w' (by omega) (maxL_below hM hb)
      have c3 : ∀ w', Below w.heap.size w w' → _ := fun w' hb => before_calls s t w' (by omega) (maxL_below hM hb)
      have c4 : ∀ w', Below w.heap.size w w' → _ := fun w' hb => after_calls s t w' (by omega) (maxL_below hM hb)
      by_cases hk : Lib.index s.data.toList t.data.toList < 0
      · rw [cut_not _ _ hk] at c3 c4
        have e1 : (ba ([] : List UInt8)).toList = [] := ba_tl _
        have e2 : decide (0 ≤ Lib.index s.data.toList t.data.toList) = false := by simp; omega
        have e3 : decide (Lib.index s.data.toList t.data.toList < 0) = true := by simp; omega
        rw [e2] at c2
        simp only [Bool.false_eq_true, if_false] at c3 c4
        generalize Lib.index s.data.toList t.data.toList = ix at *
        clear hT hM
        go_enter Tryd.func12, Tryd.ntmps12
        go_wp2_with fail
        refine c1.mono ?_
        rintro e w1 ⟨rfl, m1, rfl⟩
        have b1 := drewN_below w m1
        clear c1
        go_wp2_with fail
        refine (c2 _ b1).mono ?_
        rintro e w2 ⟨rfl, b2⟩
        have b12 := chain b1 (Nat.le_refl _) b2
        clear b1 b2 c2
        go_wp2_with fail
        refine (c3 _ b12).mono ?_
        rintro e w3 ⟨rfl, b3⟩
        have b13 := chain b12 (Nat.le_refl _) b3
        clear b12 b3 c3
        go_wp2_with fail
        refine (c4 _ b13).mono ?_
        rintro e w4 ⟨rfl, b4⟩
        have b14 := chain b13 (Nat.le_refl _) b4
        clear b13 b4 c4
        go_wp2_with fail
        refine (c5 _ b14).mono ?_
        rintro e w8 ⟨rfl, b8⟩
        go_wp2_with fail
        go_ret
        exact ⟨rfl, chain b14 (Nat.le_refl _) b8⟩
      · obtain ⟨k, hkk⟩ : ∃ k : Nat, Lib.index s.data.toList t.data.toList = (k : Int) := ⟨(Lib.index s.data.toList t.data.toList).toNat, by omega⟩
        have hfit := index_fits _ _ k hkk
        rw [← Lib.size_eq, ← Lib.size_eq] at hfit
        rw [cut_found _ _ k hkk] at c3 c4
        have e1 : (ba (s.data.toList.take k)).toList = (s.extract 0 k).toList := by rw [ba_tl, tl, extract_list]; simp
        have e2 : (ba (s.data.toList.drop (k + t.data.toList.length))).toList = (s.extract (k + t.size) s.size).toList := by
          rw [ba_tl, tl, extract_list, List.take_of_length_le (by rw [List.length_drop, ← Lib.size_eq]; omega), ← Lib.size_eq]
        have e3 : decide (0 ≤ Lib.index s.data.toList t.data.toList) = true := by simp; omega
        have e4 : wrap64 ((k : Int) + (t.size : Int)) = ((k + t.size : Nat) : Int) := by rw [w64 (by omega) (by omega)]; omega
        rw [e3] at c2
        rw [hkk] at c1
        simp only [if_true] at c3 c4
        clear hT hM e3 hkk hk
        generalize s.data.toList.take k = x1 at *
        generalize s.data.toList.drop (k + t.data.toList.length) = x2 at *
        have e5 : IntKind.i64.wrap ((k : Int) + (t.size : Int)) = ((k + t.size : Nat) : Int) := by first | exact e4 | (simp [IntKind.wrap, IntKind.bits, IntKind.signed]; omega) | (unfold IntKind.wrap; simp; omega)
        have hk1 : (0 : Int) ≤ (k : Int) := by omega
        have hk2 : (k : Int) ≤ (s.size : Int) := by omega
        have hk3 : (0 : Int) ≤ ((k + t.size : Nat) : Int) := by omega
        have hk4 : ((k + t.size : Nat) : Int) ≤ (s.size : Int) := by omega
        go_enter Tryd.func12, Tryd.ntmps12
        go_wp2_with fail
        refine c1.mono ?_
        rintro e w1 ⟨rfl, m1, rfl⟩
        have b1 := (drewN_below w m1).drew
        clear c1
        go_wp2_with fail
        refine wp_region_any (by kernel_rfl) ?_
        try (change wpAny _ _ _ _ _ _ _ (World.drew _))
        refine wpAny_take (i := 0) (v := ?_) rfl (by kernel_rfl) (by kernel_rfl) (by kernel_rfl) (fun _ _ _ h => h) (Or.inl ⟨by rfl, ?_⟩) ?_
        rotate_left
        · intro w; go_simp; try with_reducible rfl
        go_simp
        refine wpAny_take (i := 1) (v := ?_) rfl (by kernel_rfl) (by kernel_rfl) (by kernel_rfl) (fun _ _ _ h => h) (Or.inl ⟨by rfl, ?_⟩) ?_
        rotate_left
        · intro w; go_simp; try with_reducible rfl
        go_simp
        refine wpAny_ready (rs := [2]) (by kernel_rfl) (by simp) ?_
        refine AllReady.cons rfl (fun K hK => ?_) AllReady.nil
        go_simp
        go_wp2_with (go_at_call 43; refine (c2 _ b1).mono ?_; rintro e w2 ⟨rfl, b2⟩; have b12 := chain b1 (Nat.le_refl _) b2)
        try (refine hK _ _ ?_; clear hK K)
        refine wpAny_take (i := 3) (v := ?_) rfl (by kernel_rfl) (by kernel_rfl) (by kernel_rfl) (fun _ _ _ h => h) (Or.inl ⟨by rfl, ?_⟩) ?_
        rotate_left
        · intro w; go_simp; try with_reducible rfl
        go_simp
        refine wpAny_take (i := 4) (v := ?_) rfl (by kernel_rfl) (by kernel_rfl) (by kernel_rfl) (fun _ _ _ h => h) (Or.inl ⟨by rfl, ?_⟩) ?_
        rotate_left
        · intro w; go_simp; try with_reducible rfl
        go_simp
        refine wpAny_take (i := 5) (v := ?_) rfl (by kernel_rfl) (by kernel_rfl) (by kernel_rfl) (fun _ _ _ h => h) (Or.inl ⟨by rfl, ?_⟩) ?_
        rotate_left
        · intro w; go_simp; try with_reducible rfl
        go_simp
        refine wpAny_take (i := 7) (v := ?_) rfl (by kernel_rfl) (by kernel_rfl) (by kernel_rfl) (fun _ _ _ h => h) (Or.inl ⟨by rfl, ?_⟩) ?_
        rotate_left
        · intro w; go_simp; try with_reducible rfl
        go_simp
        refine wpAny_take (i := 8) (v := ?_) rfl (by kernel_rfl) (by kernel_rfl) (by kernel_rfl) (fun _ _ _ h => h) (Or.inl ⟨by rfl, ?_⟩) ?_
        rotate_left
        · intro w; go_simp; try with_reducible rfl
        go_simp
        refine wpAny_take (i := 9) (v := ?_) rfl (by kernel_rfl) (by kernel_rfl) (by kernel_rfl) (fun _ _ _ h => h) (Or.inl ⟨by rfl, ?_⟩) ?_
        rotate_left
        · intro w; go_simp; try with_reducible rfl
        go_simp
        refine wpAny_ready (rs := [6]) (by kernel_rfl) (by simp) ?_
        refine AllReady.cons rfl (fun K hK => ?_) AllReady.nil
        go_simp
        go_wp2_with (go_at_call 44; refine (c3 _ b12).mono ?_; rintro e w3 ⟨rfl, b3⟩; have b13 := chain b12 (Nat.le_refl _) b3)
        try (refine hK _ _ ?_; clear hK K)
        refine wpAny_take (i := 10) (v := ?_) rfl (by kernel_rfl) (by kernel_rfl) (by kernel_rfl) (fun _ _ _ h => h) (Or.inl ⟨by rfl, ?_⟩) ?_
        rotate_left
        · intro w; go_simp; try with_reducible rfl
        go_simp
        refine wpAny_take (i := 11) (v := ?_) rfl (by kernel_rfl) (by kernel_rfl) (by kernel_rfl) (fun _ _ _ h => h) (Or.inl ⟨by rfl, ?_⟩) ?_
        rotate_left
        · intro w; go_simp; try with_reducible rfl
        go_simp
        refine wpAny_take (i := 12) (v := ?_) rfl (by kernel_rfl) (by kernel_rfl) (by kernel_rfl) (fun _ _ _ h => h) (Or.inl ⟨by rfl, ?_⟩) ?_
        rotate_left
        · intro w; go_simp; try with_reducible rfl
        go_simp
        refine wpAny_take (i := 13) (v := ?_) rfl (by kernel_rfl) (by kernel_rfl) (by kernel_rfl) (fun _ _ _ h => h) (Or.inl ⟨by rfl, ?_⟩) ?_
        rotate_left
        · intro w; go_simp; try with_reducible rfl
        go_simp
        refine wpAny_take (i := 14) (v := ?_) rfl (by kernel_rfl) (by kernel_rfl) (by kernel_rfl) (fun _ _ _ h => h) (Or.inl ⟨by rfl, ?_⟩) ?_
        rotate_left
        · intro w; go_simp; try with_reducible rfl
        go_simp
        refine wpAny_take (i := 16) (v := ?_) rfl (by kernel_rfl) (by kernel_rfl) (by kernel_rfl) (fun _ _ _ h => h) (Or.inl ⟨by rfl, ?_⟩) ?_
        rotate_left
        · intro w; go_simp; try with_reducible rfl
        go_simp
        refine wpAny_take (i := 17) (v := ?_) rfl (by kernel_rfl) (by kernel_rfl) (by kernel_rfl) (fun _ _ _ h => h) (Or.inl ⟨by rfl, ?_⟩) ?_
        rotate_left
        · intro w; go_simp; try with_reducible rfl
        go_simp
        refine wpAny_take (i := 18) (v := ?_) rfl (by kernel_rfl) (by kernel_rfl) (by kernel_rfl) (fun _ _ _ h => h) (Or.inl ⟨by rfl, ?_⟩) ?_
        rotate_left
        · intro w; go_simp; try with_reducible rfl
        go_simp
        refine wpAny_take (i := 19) (v := ?_) rfl (by kernel_rfl) (by kernel_rfl) (by kernel_rfl) (fun _ _ _ h => h) (Or.inl ⟨by rfl, ?_⟩) ?_
        rotate_left
        · intro w; go_simp; try with_reducible rfl
        go_simp
        refine wpAny_take (i := 20) (v := ?_) rfl (by kernel_rfl) (by kernel_rfl) (by kernel_rfl) (fun _ _ _ h => h) (Or.inl ⟨by rfl, ?_⟩) ?_
        rotate_left
        · intro w; go_simp; try with_reducible rfl
        go_simp
        refine wpAny_take (i := 21) (v := ?_) rfl (by kernel_rfl) (by kernel_rfl) (by kernel_rfl) (fun _ _ _ h => h) (Or.inl ⟨by rfl, ?_⟩) ?_
        rotate_left
        · intro w; go_simp; (try rw [if_pos ⟨by omega, by omega⟩, show ((k : Int) + (t.size : Int)).toNat = k + t.size by omega]); try with_reducible rfl
        go_simp
        refine wpAny_ready (rs := [15]) (by kernel_rfl) (by simp) ?_
        refine AllReady.cons rfl (fun K hK => ?_) AllReady.nil
        go_simp
        go_wp2_with (go_at_call 45; refine (c4 _ b13).mono ?_; rintro e w4 ⟨rfl, b4⟩; have b14 := chain b13 (Nat.le_refl _) b4)
        try (refine hK _ _ ?_; clear hK K)
        refine wpAny_take (i := 22) (v := ?_) rfl (by kernel_rfl) (by kernel_rfl) (by kernel_rfl) (fun _ _ _ h => h) (Or.inl ⟨by rfl, ?_⟩) ?_
        rotate_left
        · intro w; go_simp; try with_reducible rfl
        go_simp
        refine wpAny_take (i := 23) (v := ?_) rfl (by kernel_rfl) (by kernel_rfl) (by kernel_rfl) (fun _ _ _ h => h) (Or.inl ⟨by rfl, ?_⟩) ?_
        rotate_left
        · intro w; go_simp; try with_reducible rfl
        go_simp
        refine wpAny_take (i := 24) (v := ?_) rfl (by kernel_rfl) (by kernel_rfl) (by kernel_rfl) (fun _ _ _ h => h) (Or.inl ⟨by rfl, ?_⟩) ?_
        rotate_left
        · intro w; go_simp; try with_reducible rfl
        go_simp
        refine wpAny_ready (rs := [25]) (by kernel_rfl) (by simp) ?_
        refine AllReady.cons rfl (fun K hK => ?_) AllReady.nil
        go_simp
        go_wp2_with (go_at_call 32; refine (c5 _ b14).mono ?_; rintro e w8 ⟨rfl, b8⟩; have b18 := chain b14 (Nat.le_refl _) b8)
        try (refine hK _ _ ?_; clear hK K)
        refine wpAny_take (i := 26) (v := ?_) rfl (by kernel_rfl) (by kernel_rfl) (by kernel_rfl) (fun _ _ _ h => h) (Or.inl ⟨by rfl, ?_⟩) ?_
        rotate_left
        · intro w; go_simp; try with_reducible rfl
        go_simp
        refine wpAny_take (i := 27) (v := ?_) rfl (by kernel_rfl) (by kernel_rfl) (by kernel_rfl) (fun _ _ _ h => h) (Or.inl ⟨by rfl, ?_⟩) ?_
        rotate_left
        · intro w; go_simp; try with_reducible rfl
        go_simp
        refine wpAny_done (by kernel_rfl) ?_ _
        go_wp2_with fail
        go_ret
        exact ⟨rfl, b18⟩
    · have l2 : decide ((3000 : Int) < (t.size : Int)) = true := by simp; omega
      clear hT hM
      go_enter Tryd.func12, Tryd.ntmps12
      go_wp2_with fail
      refine (c5 _ (Below.refl _ _)).mono ?_
      rintro e w8 ⟨rfl, b8⟩
      go_wp2_with fail
      go_ret
      exact ⟨rfl, b8⟩
  · have l1 : decide ((3000 : Int) < (s.size : Int)) = true := by simp; omega
    clear hT hM
    go_enter Tryd.func12, Tryd.ntmps12
    go_wp2_with fail
    refine (c5 _ (Below.refl _ _)).mono ?_
    rintro e w8 ⟨rfl, b8⟩
    go_wp2_with fail
    go_ret
    exact ⟨rfl, b8⟩
theorem findsW (s t : ByteArray) (w : World) (hT : Tabs w) (hS : w.ShapedOpen Tryd.prog) (hs : s.size ≤ 9223372036854775807) (ht : t.size ≤ 9223372036854775807) : Calls Tryd.prog 12 #[.string s, .string t] w fun e w' => e = .returned (.bool true) ∧ Below w.heap.size w w' :=
  finds_calls s t w hT (Tryd.laysM219.s1_3 w hS) (tabs_two hT) hs ht
end Go.Proofs.YticpobgkbapdmaaDoor.SpanH
