/- What the proof of this claim uses of PDx11: 2 declarations. -/
import Derived.Test.YticpobgkbapdmaaCsPDx0
import Derived.Test.YticpobgkbapdmaaCsPDx1
import Derived.Test.YticpobgkbapdmaaCsPDx4
import Derived.Test.YticpobgkbapdmaaCsPDx5
import Derived.Test.YticpobgkbapdmaaCsPDx6
import Derived.Test.YticpobgkbapdmaaCsPDx7
import Derived.Test.YticpobgkbapdmaaCsPDx8
namespace Go.Proofs.YticpobgkbapdmaaW.PrintLast
end Go.Proofs.YticpobgkbapdmaaW.PrintLast
namespace Go.Proofs.YticpobgkbapdmaaW.PrintMore
end Go.Proofs.YticpobgkbapdmaaW.PrintMore
namespace Go.Proofs.YticpobgkbapdmaaW.PrintWords
end Go.Proofs.YticpobgkbapdmaaW.PrintWords
namespace Go.Proofs.Yticpobgkbapdmaa.PD
open Go.RowKit Go.Proofs.YticpobgkbapdmaaW.PrintWords Go.Proofs.YticpobgkbapdmaaW.PrintLast Go.Proofs.YticpobgkbapdmaaW.PrintMore

set_option linter.unusedVariables false
set_option linter.unusedSimpArgs false

attribute [local go_sem high] eqA23
/-! ### breviaryref03_Mod: function 17 -/
/-! ### breviarylaw03_works: function 18 -/
def breviarylaw03_works.f (k : Nat)  : Option (Bool) := (dec_Mul.f k 0 1500000 0 1500000).bind fun bt355 => (if (bt355.1 == 0 && (bt355.2 == 2250000)) = true then ((dec_Div.f k 0 1000000 0 3000000).bind fun bt357 => (some (bt357.1 == 0 && (bt357.2 == 333333)))) else (some false))
set_option maxHeartbeats 8000000 in
set_option maxRecDepth 100000 in
theorem breviarylaw03_works.calls (k : Nat)  (r : Bool) (w : World) (h : breviarylaw03_works.f k  = some r) :
    Calls Try.prog 18 #[] w fun e w' => e = .returned (.bool r) ∧ Below w.heap.size w w' := by
  have hu23 := Try.underlying23
  have HB := Aside0.mk (Below.refl w.heap.size w)
  have H : ((dec_Mul.f k 0 1500000 0 1500000).bind fun bt355 => (if (bt355.1 == 0 && (bt355.2 == 2250000)) = true then ((dec_Div.f k 0 1000000 0 3000000).bind fun bt357 => (some (bt357.1 == 0 && (bt357.2 == 333333)))) else (some false))) = some r := h
  clear h
  replace H := Option.bind_eq_some_iff.mp H
  obtain ⟨⟨t355, t356⟩, A10, H⟩ := H
  replace H : (if (t355 == 0 && (t356 == 2250000)) = true then ((dec_Div.f k 0 1000000 0 3000000).bind fun bt357 => (some (bt357.1 == 0 && (bt357.2 == 333333)))) else (some false)) = some r := H
  have A1 := Aside0.mk A10
  clear A10
  by_cases c2 : (t355 == 0 && (t356 == 2250000)) = true
  · rw [if_pos c2] at H
    have c2b0 : (t355 == 0 && (t356 == 2250000)) = true := c2
    (try (have c2b1 : decide (t355 = 0 && (t356 == 2250000)) = true := by simpa using c2))
    (try (have c2b2 : (t355 == 0 && (t356 == 2250000)) = true := by simpa using c2))
    clear c2
    replace H := Option.bind_eq_some_iff.mp H
    obtain ⟨⟨t357, t358⟩, A30, H⟩ := H
    replace H : (some (t357 == 0 && (t358 == 333333))) = some r := H
    have A3 := Aside0.mk A30
    clear A30
    obtain rfl := Option.some.inj H
    go_enter Try.func18, Try.ntmps18
    go_wp2_with (first | ((with_reducible refine gate_callee (f := 12) rfl ?_); refine goesL_ (some 3) rfl rfl Try.func12 (by kernel_rfl) rfl #[.agg #[.int .i64 0, .int .i64 1500000], .agg #[.int .i64 0, .int .i64 1500000]] rfl (by (try simp only [List.map_toArray, List.map_cons, List.map_nil]); first | done | rfl | (simp only [List.length_drop, List.length_take]; rfl)) ?_; (with_reducible refine (dec_Mul.calls k 0 1500000 0 1500000 t355 t356 _ A1.out).mono ?_); rintro e w4 ⟨rfl, hb⟩; refine ⟨_, rfl, ?_⟩; have n0_ := Aside0.mk (below_step (by repeat (first | (with_reducible first | exact HB.out | apply below_alloc | apply pw_below_drewN | apply below_drew1) | exact HB.out)) hb); clear HB; have HB := n0_; clear n0_; (try clear hb); (try clear hb2); (try clear hk); (try clear hi)) | (go_at_call 14; (with_reducible refine (dec_Div.calls k 0 1000000 0 3000000 t357 t358 _ A3.out).mono ?_); rintro e w5 ⟨rfl, hb⟩; have n0_ := Aside0.mk (below_step (by repeat (first | (with_reducible first | exact HB.out | apply below_alloc | apply pw_below_drewN | apply below_drew1) | exact HB.out)) hb); clear HB; have HB := n0_; clear n0_; (try clear hb); (try clear hb2); (try clear hk); (try clear hi)))
    go_ret
    exact ⟨by first | rfl | (simp [ ] <;> rfl) | (simp [*] <;> rfl), by repeat (first | (with_reducible first | exact HB.out | apply below_alloc | apply pw_below_drewN | apply below_drew1) | exact HB.out)⟩
  · rw [if_neg c2] at H
    have c2b0 : (t355 == 0 && (t356 == 2250000)) = false := by simpa using c2
    (try (have c2b1 : decide (t355 = 0 && (t356 == 2250000)) = false := by simpa using c2))
    (try (have c2b2 : (t355 == 0 && (t356 == 2250000)) = false := by simpa using c2))
    (try (have c2b3 : ¬ (t355 = 0 && (t356 == 2250000)) := by simpa using c2))
    clear c2
    obtain rfl := Option.some.inj H
    go_enter Try.func18, Try.ntmps18
    go_wp2_with (first | ((with_reducible refine gate_callee (f := 12) rfl ?_); refine goesL_ (some 3) rfl rfl Try.func12 (by kernel_rfl) rfl #[.agg #[.int .i64 0, .int .i64 1500000], .agg #[.int .i64 0, .int .i64 1500000]] rfl (by (try simp only [List.map_toArray, List.map_cons, List.map_nil]); first | done | rfl | (simp only [List.length_drop, List.length_take]; rfl)) ?_; (with_reducible refine (dec_Mul.calls k 0 1500000 0 1500000 t355 t356 _ A1.out).mono ?_); rintro e w6 ⟨rfl, hb⟩; refine ⟨_, rfl, ?_⟩; have n0_ := Aside0.mk (below_step (by repeat (first | (with_reducible first | exact HB.out | apply below_alloc | apply pw_below_drewN | apply below_drew1) | exact HB.out)) hb); clear HB; have HB := n0_; clear n0_; (try clear hb); (try clear hb2); (try clear hk); (try clear hi)))
    go_ret
    exact ⟨by first | rfl | (simp [ ] <;> rfl) | (simp [*] <;> rfl), by repeat (first | (with_reducible first | exact HB.out | apply below_alloc | apply pw_below_drewN | apply below_drew1) | exact HB.out)⟩

end Go.Proofs.Yticpobgkbapdmaa.PD
