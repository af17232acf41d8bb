/- figure.Show: what it computes. -/
import Derived.Test.YthilcidoacgdfaaGreatDoorZvFigF
import Derived.Deep.QuietTactic
import Derived.BigQuiet
namespace Go.Proofs.YthilcidoacgdfaaGreatDoor.CharB
end Go.Proofs.YthilcidoacgdfaaGreatDoor.CharB
namespace Go.Proofs.YthilcidoacgdfaaGreatDoor.CharD
end Go.Proofs.YthilcidoacgdfaaGreatDoor.CharD
namespace Go.Proofs.YthilcidoacgdfaaGreatDoor.CharF
end Go.Proofs.YthilcidoacgdfaaGreatDoor.CharF
namespace Go.Proofs.YthilcidoacgdfaaGreatDoor.DecA
end Go.Proofs.YthilcidoacgdfaaGreatDoor.DecA
namespace Go.Proofs.YthilcidoacgdfaaGreatDoor.DecE
end Go.Proofs.YthilcidoacgdfaaGreatDoor.DecE
namespace Go.Proofs.YthilcidoacgdfaaGreatDoor.FigA
end Go.Proofs.YthilcidoacgdfaaGreatDoor.FigA
namespace Go.Proofs.YthilcidoacgdfaaGreatDoor.FigC
end Go.Proofs.YthilcidoacgdfaaGreatDoor.FigC
namespace Go.Proofs.YthilcidoacgdfaaGreatDoor.FigD
end Go.Proofs.YthilcidoacgdfaaGreatDoor.FigD
namespace Go.Proofs.YthilcidoacgdfaaGreatDoor.FigE
end Go.Proofs.YthilcidoacgdfaaGreatDoor.FigE
namespace Go.Proofs.YthilcidoacgdfaaGreatDoor.FigF
end Go.Proofs.YthilcidoacgdfaaGreatDoor.FigF
namespace Go.Proofs.YthilcidoacgdfaaGreatDoor.SpanA
end Go.Proofs.YthilcidoacgdfaaGreatDoor.SpanA
namespace Go.Proofs.YthilcidoacgdfaaGreatDoorW.PrintLast
end Go.Proofs.YthilcidoacgdfaaGreatDoorW.PrintLast
namespace Go.Proofs.YthilcidoacgdfaaGreatDoorW.PrintMore
end Go.Proofs.YthilcidoacgdfaaGreatDoorW.PrintMore
namespace Go.Proofs.YthilcidoacgdfaaGreatDoorW.PrintWords
end Go.Proofs.YthilcidoacgdfaaGreatDoorW.PrintWords
namespace Go.Proofs.YthilcidoacgdfaaGreatDoor.FigG
open Go.RowKit Go.Shelf Go.Proofs.YthilcidoacgdfaaGreatDoorW.PrintWords Go.Proofs.YthilcidoacgdfaaGreatDoorW.PrintLast Go.Proofs.YthilcidoacgdfaaGreatDoorW.PrintMore Go.Proofs.YthilcidoacgdfaaGreatDoor.CharB Go.Proofs.YthilcidoacgdfaaGreatDoor.CharD Go.Proofs.YthilcidoacgdfaaGreatDoor.CharF Go.Proofs.YthilcidoacgdfaaGreatDoor.SpanA Go.Proofs.YthilcidoacgdfaaGreatDoor.DecA Go.Proofs.YthilcidoacgdfaaGreatDoor.DecE Go.Proofs.YthilcidoacgdfaaGreatDoor.FigA Go.Proofs.YthilcidoacgdfaaGreatDoor.FigC Go.Proofs.YthilcidoacgdfaaGreatDoor.FigD Go.Proofs.YthilcidoacgdfaaGreatDoor.FigE Go.Proofs.YthilcidoacgdfaaGreatDoor.FigF
set_option linter.unusedVariables false
set_option linter.unusedSimpArgs false
theorem chain {B : Nat} {a b c : World} (h : Below B a b) (hB : B ≤ a.heap.size) (h2 : Below b.heap.size b c) : Below B a c := h.trans (h2.mono (Nat.le_trans hB h.size))
theorem right_call (t v : Int) (w : World) : Calls Tryz.prog 22 #[.agg #[.int .i64 t, .int .i64 v]] w fun e w' => e = .returned (.bool (rightB (t, v))) ∧ Below w.heap.size w w' := PF.dec_Right.calls t v _ w (dec_Right_f t v)
/-- The box of a number. -/
def Box (b : Nat) (t v : Int) (W : World) : Prop := W.heap[b]? = some (Obj.cells #[.int .i64 t, .int .i64 v] 32 (0, 0))
theorem Box.lt {b : Nat} {t v : Int} {W : World} (h : Box b t v W) : b < W.heap.size := (Array.getElem?_eq_some_iff.1 h).1
theorem Box.below {b : Nat} {t v : Int} {W W' : World} (h : Box b t v W) (hb : Below W.heap.size W W') : Box b t v W' := (hb.block b h.lt).trans h
theorem Box.c0 {b : Nat} {t v : Int} {W : World} (h : Box b t v W) : W.cell? ⟨b, 0, none⟩ = some (.int .i64 t) := by rw [cell_h h]; rfl
theorem Box.c1 {b : Nat} {t v : Int} {W : World} (h : Box b t v W) : W.cell? ⟨b, 1, none⟩ = some (.int .i64 v) := by rw [cell_h h]; rfl
theorem Box.fr {b : Nat} {t v : Int} {W : World} (h : Box b t v W) (i : Nat) : W.frozen? ⟨b, i, none⟩ = false := Lib.frozen_of_heap h i
theorem Box.put {b : Nat} {t v t' v' : Int} {W : World} (h : Box b t v W) : Box b t' v' ((W.setCell ⟨b, 0, none⟩ (.int .i64 t')).setCell ⟨b, 1, none⟩ (.int .i64 v')) := by
  unfold Box at h ⊢
  exact blk_put (cs := #[.int .i64 t', .int .i64 v]) (blk_put (cs := #[.int .i64 t, .int .i64 v]) h 0 _ rfl) 1 _ rfl
theorem box_new (t v : Int) (w : World) : Box w.heap.size t v (w.alloc (Obj.cells #[.int .i64 t, .int .i64 v] 32)) := blk_new w _
set_option maxHeartbeats 1600000 in
set_option maxRecDepth 100000 in
theorem show_bad (t v : Int) (w : World) (h : rightB (t, v) = false) :
    Calls Tryz.prog 39 #[.agg #[.int .i64 t, .int .i64 v]] w fun e w' => e = .returned (.string ⟨#[78, 97, 78]⟩) ∧ Below w.heap.size w w' := by
  have cr := fun W => right_call t v W
  rw [h] at cr
  clear h
  have hB := Aside0.mk ((Below.refl w.heap.size w).alloc (Nat.le_refl _) (Obj.cells #[.int .i64 t, .int .i64 v] 32))
  go_enter Tryz.func39, Tryz.ntmps39
  go_wp2_with fail
  refine (cr _).mono ?_
  rintro e w1 ⟨rfl, b1⟩
  have B1 := Aside0.mk (hB.out.trans (b1.mono (by simp)))
  clear b1
  go_wp2_with fail
  go_ret
  exact ⟨rfl, B1.out⟩
set_option maxHeartbeats 1600000 in
set_option maxRecDepth 100000 in
theorem show_tag (t : Int) (s : ByteArray) (w : World) (h : (t = 1 ∧ s = ⟨#[78, 97, 78]⟩) ∨ (t = 2 ∧ s = ⟨#[73, 110, 102, 105, 110, 105, 116, 121]⟩) ∨ (t = 3 ∧ s = ⟨#[45, 73, 110, 102, 105, 110, 105, 116, 121]⟩)) :
    Calls Tryz.prog 39 #[.agg #[.int .i64 t, .int .i64 0]] w fun e w' => e = .returned (.string s) ∧ Below w.heap.size w w' := by
  have cr := fun W => right_call t 0 W
  have hB := Aside0.mk ((Below.refl w.heap.size w).alloc (Nat.le_refl _) (Obj.cells #[.int .i64 t, .int .i64 0] 32))
  have hX := Aside0.mk (box_new t 0 w)
  rcases h with ⟨rfl, rfl⟩ | ⟨rfl, rfl⟩ | ⟨rfl, rfl⟩
  all_goals
    rw [show rightB (_, 0) = true from rfl] at cr
    go_enter Tryz.func39, Tryz.ntmps39
    go_wp2_with fail
    refine (cr _).mono ?_
    rintro e w1 ⟨rfl, b1⟩
    have B1 := Aside0.mk (hB.out.trans (b1.mono (by simp)))
    have X1 := hX.out.below b1
    have g0 := X1.c0
    clear b1 X1
    go_wp2_with fail
    go_ret
    exact ⟨rfl, B1.out⟩
/-- What a number's text is made of. -/
theorem showN_of (n : Nat) (a x z : List UInt8) (ha : decP 1 (n / 1000000) = a) (hx : decP 6 (n % 1000000) = x) (hz : Lib.trimRightB x 48 = z) : showN n = a ++ (if z = [] then [] else 46 :: z) := by
  unfold showN
  rw [ha, hx]
  have : trimZ x = z := hz
  rw [this]
theorem decP_le (m n : Nat) (hm : m ≤ 6) (hn : n < 18446744073709551616) : (decP m n).length ≤ 20 := by
  rw [decP_len]
  have := dg_le_length 20 n (Nat.lt_trans hn (by decide))
  omega
def SH (neg : Bool) (n : Nat) : List UInt8 := (if neg then [45] else []) ++ showN n
set_option maxHeartbeats 1600000 in
set_option maxRecDepth 100000 in
theorem show_pos (n : Nat) (w : World) (h0 : 0 ≤ n) (h : n ≤ 9223372036854775807) :
    Calls Tryz.prog 39 #[.agg #[.int .i64 0, .int .i64 (n : Int)]] w fun e w' => e = .returned (.string (ba (SH false n))) ∧ Below w.heap.size w w' := by
  have cr := fun W => right_call 0 (n : Int) W
  rw [show rightB (0, (n : Int)) = true by unfold rightB; simp] at cr
  have hB := Aside0.mk ((Below.refl w.heap.size w).alloc (Nat.le_refl _) (Obj.cells #[.int .i64 0, .int .i64 (n : Int)] 32))
  have hX := Aside0.mk (box_new 0 (n : Int) w)
  have d1 := fun W => digits_call (n / 1000000) 1 W (by omega) (by omega) (by omega)
  have d2 := fun W => digits_call (n % 1000000) 6 W (by omega) (by omega) (by omega)
  have e1 : ((n / 1000000 : Nat) : Int) = (n : Int) / 1000000 := by omega
  have e2 : ((n % 1000000 : Nat) : Int) = (n : Int) % 1000000 := by omega
  rw [e1] at d1
  rw [e2] at d2
  have hla := decP_le 1 (n / 1000000) (by omega) (by omega)
  have hlx := decP_le 6 (n % 1000000) (by omega) (by omega)
  have tr := fun W => Tryz.strings_TrimRight_one (ba (decP 6 (n % 1000000))) 48 (by decide) W (by rw [ba_size]; omega)
  rw [ba_list] at tr
  obtain ⟨k, hk⟩ := trimZ_spec (decP 6 (n % 1000000))
  have hlz := congrArg List.length hk
  rw [List.length_append] at hlz
  unfold SH
  obtain ⟨a, ha⟩ : ∃ a, decP 1 (n / 1000000) = a := ⟨_, rfl⟩
  obtain ⟨x, hx⟩ : ∃ x, decP 6 (n % 1000000) = x := ⟨_, rfl⟩
  obtain ⟨z, hz⟩ : ∃ z, Lib.trimRightB x 48 = z := ⟨_, rfl⟩
  rw [showN_of n a x z ha hx hz]
  rw [ha] at d1 hla
  rw [hx] at d2 hlx tr hlz
  rw [show trimZ x = z from hz] at hlz
  rw [hz] at tr
  have tr : ∀ W, Calls Tryz.prog 79 #[.string (ba x), .string ⟨#[48]⟩] W fun e w' => e = .returned (.string (ba z)) ∧ w' = W := tr
  have hzz : z.length ≤ 20 := by omega
  clear hk hlz ha hx hz e1 e2 hlx
  have tz : (ba z).toList = z := nil_of z
  have sz : (ba z).size ≤ 20 := by rw [ba_size]; exact hzz
  have sa : (ba a).size ≤ 20 := by rw [ba_size]; exact hla
  by_cases hz0 : z = []
  · rw [if_pos hz0, List.append_nil]
    have tz0 : (ba z).toList = [] := by rw [tz, hz0]
    clear hz0 tz hzz hla
    go_enter Tryz.func39, Tryz.ntmps39
    go_wp2_with fail
    refine (cr _).mono ?_
    rintro e w1 ⟨rfl, b1⟩
    have B1 := Aside0.mk (hB.out.trans (b1.mono (by simp)))
    have X1 := hX.out.below b1
    have g0 := X1.c0
    have g1 := X1.c1
    clear b1 X1
    go_wp2_with fail
    repeat (go_quiet (fail); try go_wp2_with fail)
    refine (d1 _).mono ?_
    rintro e w2 ⟨rfl, b2⟩
    have B2 := Aside0.mk (chain (CharB.below_drewN B1.out _) (Nat.le_refl _) b2)
    clear b2
    go_wp2_with fail
    refine (d2 _).mono ?_
    rintro e w3 ⟨rfl, b3⟩
    have B3 := Aside0.mk (chain B2.out (Nat.le_refl _) b3)
    clear b3
    go_wp2_with fail
    refine (tr _).mono ?_
    rintro e w4 ⟨rfl, rfl⟩
    go_wp2_with fail
    go_ret
    exact ⟨by first | rfl | (simp [ba_app]; done) | (congr 2; apply ext_list; simp [app_list, ba_list]; done), B3.out⟩
  · rw [if_neg hz0]
    have tz0 : (ba z).toList.isEmpty = false := by rw [tz]; cases z with | nil => exact absurd rfl hz0 | cons _ _ => rfl
    clear tz hzz hla
    go_enter Tryz.func39, Tryz.ntmps39
    go_wp2_with fail
    refine (cr _).mono ?_
    rintro e w1 ⟨rfl, b1⟩
    have B1 := Aside0.mk (hB.out.trans (b1.mono (by simp)))
    have X1 := hX.out.below b1
    have g0 := X1.c0
    have g1 := X1.c1
    clear b1 X1
    go_wp2_with fail
    repeat (go_quiet (fail); try go_wp2_with fail)
    refine (d1 _).mono ?_
    rintro e w2 ⟨rfl, b2⟩
    have B2 := Aside0.mk (chain (CharB.below_drewN B1.out _) (Nat.le_refl _) b2)
    clear b2
    go_wp2_with fail
    refine (d2 _).mono ?_
    rintro e w3 ⟨rfl, b3⟩
    have B3 := Aside0.mk (chain B2.out (Nat.le_refl _) b3)
    clear b3
    go_wp2_with fail
    refine (tr _).mono ?_
    rintro e w4 ⟨rfl, rfl⟩
    go_wp2_with fail
    go_ret
    exact ⟨by first | rfl | (simp [ba_app]; done) | (congr 2; apply ext_list; simp [app_list, ba_list]; done), B3.out⟩
set_option maxHeartbeats 1600000 in
set_option maxRecDepth 100000 in
theorem show_neg (n : Nat) (w : World) (h0 : 0 < n) (h : n ≤ 9223372036854775807) :
    Calls Tryz.prog 39 #[.agg #[.int .i64 0, .int .i64 (-(n : Int))]] w fun e w' => e = .returned (.string (ba (SH true n))) ∧ Below w.heap.size w w' := by
  have cr := fun W => right_call 0 (-(n : Int)) W
  rw [show rightB (0, (-(n : Int))) = true by unfold rightB; simp; omega] at cr
  have hB := Aside0.mk ((Below.refl w.heap.size w).alloc (Nat.le_refl _) (Obj.cells #[.int .i64 0, .int .i64 (-(n : Int))] 32))
  have hX := Aside0.mk (box_new 0 (-(n : Int)) w)
  have d1 := fun W => digits_call (n / 1000000) 1 W (by omega) (by omega) (by omega)
  have d2 := fun W => digits_call (n % 1000000) 6 W (by omega) (by omega) (by omega)
  have e1 : ((n / 1000000 : Nat) : Int) = (n : Int) / 1000000 := by omega
  have e2 : ((n % 1000000 : Nat) : Int) = (n : Int) % 1000000 := by omega
  rw [e1] at d1
  rw [e2] at d2
  have hla := decP_le 1 (n / 1000000) (by omega) (by omega)
  have hlx := decP_le 6 (n % 1000000) (by omega) (by omega)
  have tr := fun W => Tryz.strings_TrimRight_one (ba (decP 6 (n % 1000000))) 48 (by decide) W (by rw [ba_size]; omega)
  rw [ba_list] at tr
  obtain ⟨k, hk⟩ := trimZ_spec (decP 6 (n % 1000000))
  have hlz := congrArg List.length hk
  rw [List.length_append] at hlz
  unfold SH
  obtain ⟨a, ha⟩ : ∃ a, decP 1 (n / 1000000) = a := ⟨_, rfl⟩
  obtain ⟨x, hx⟩ : ∃ x, decP 6 (n % 1000000) = x := ⟨_, rfl⟩
  obtain ⟨z, hz⟩ : ∃ z, Lib.trimRightB x 48 = z := ⟨_, rfl⟩
  rw [showN_of n a x z ha hx hz]
  rw [ha] at d1 hla
  rw [hx] at d2 hlx tr hlz
  rw [show trimZ x = z from hz] at hlz
  rw [hz] at tr
  have tr : ∀ W, Calls Tryz.prog 79 #[.string (ba x), .string ⟨#[48]⟩] W fun e w' => e = .returned (.string (ba z)) ∧ w' = W := tr
  have hzz : z.length ≤ 20 := by omega
  clear hk hlz ha hx hz e1 e2 hlx
  have tz : (ba z).toList = z := nil_of z
  have sz : (ba z).size ≤ 20 := by rw [ba_size]; exact hzz
  have sa : (ba a).size ≤ 20 := by rw [ba_size]; exact hla
  have hw : wrap64 (- -(n : Int)) = (n : Int) := by unfold wrap64; omega
  by_cases hz0 : z = []
  · rw [if_pos hz0, List.append_nil]
    have tz0 : (ba z).toList = [] := by rw [tz, hz0]
    clear hz0 tz hzz hla
    go_enter Tryz.func39, Tryz.ntmps39
    go_wp2_with fail
    refine (cr _).mono ?_
    rintro e w1 ⟨rfl, b1⟩
    have B1 := Aside0.mk (hB.out.trans (b1.mono (by simp)))
    have X1 := hX.out.below b1
    have g0 := X1.c0
    have g1 := X1.c1
    clear b1 X1
    go_wp2_with fail
    repeat (go_quiet (fail); try go_wp2_with fail)
    refine (d1 _).mono ?_
    rintro e w2 ⟨rfl, b2⟩
    have B2 := Aside0.mk (chain (CharB.below_drewN B1.out _) (Nat.le_refl _) b2)
    clear b2
    go_wp2_with fail
    refine (d2 _).mono ?_
    rintro e w3 ⟨rfl, b3⟩
    have B3 := Aside0.mk (chain B2.out (Nat.le_refl _) b3)
    clear b3
    go_wp2_with fail
    refine (tr _).mono ?_
    rintro e w4 ⟨rfl, rfl⟩
    go_wp2_with fail
    go_ret
    exact ⟨by first | rfl | (simp [ba_app]; done) | (congr 2; apply ext_list; simp [app_list, ba_list]; done), B3.out⟩
  · rw [if_neg hz0]
    have tz0 : (ba z).toList.isEmpty = false := by rw [tz]; cases z with | nil => exact absurd rfl hz0 | cons _ _ => rfl
    clear tz hzz hla
    go_enter Tryz.func39, Tryz.ntmps39
    go_wp2_with fail
    refine (cr _).mono ?_
    rintro e w1 ⟨rfl, b1⟩
    have B1 := Aside0.mk (hB.out.trans (b1.mono (by simp)))
    have X1 := hX.out.below b1
    have g0 := X1.c0
    have g1 := X1.c1
    clear b1 X1
    go_wp2_with fail
    repeat (go_quiet (fail); try go_wp2_with fail)
    refine (d1 _).mono ?_
    rintro e w2 ⟨rfl, b2⟩
    have B2 := Aside0.mk (chain (CharB.below_drewN B1.out _) (Nat.le_refl _) b2)
    clear b2
    go_wp2_with fail
    refine (d2 _).mono ?_
    rintro e w3 ⟨rfl, b3⟩
    have B3 := Aside0.mk (chain B2.out (Nat.le_refl _) b3)
    clear b3
    go_wp2_with fail
    refine (tr _).mono ?_
    rintro e w4 ⟨rfl, rfl⟩
    go_wp2_with fail
    go_ret
    exact ⟨by first | rfl | (simp [ba_app]; done) | (congr 2; apply ext_list; simp [app_list, ba_list]; done), B3.out⟩
theorem show_call (t v : Int) (hv : I64 v) (w : World) :
    Calls Tryz.prog 39 #[.agg #[.int .i64 t, .int .i64 v]] w fun e w' => e = .returned (.string (ba (showS (t, v)))) ∧ Below w.heap.size w w' := by
  cases hr : rightB (t, v) with
  | false =>
    have e : showS (t, v) = [78, 97, 78] := by unfold showS; rw [if_pos (.inl hr)]
    rw [e]
    exact show_bad t v w hr
  | true =>
    by_cases h0 : t = 0
    · subst h0
      have hne : v ≠ -9223372036854775808 := by unfold rightB at hr; simpa using hr
      have e : showS (0, v) = (if v < 0 then [45] else []) ++ showN (ab v).toNat := by unfold showS; rw [if_neg (by simp [hr]), if_neg (by simp), if_neg (by simp)]
      unfold I64 at hv
      by_cases hs : v < 0
      · obtain ⟨n, rfl⟩ : ∃ n : Nat, v = -(n : Int) := ⟨(-v).toNat, by omega⟩
        have en : (ab (-(n : Int))).toNat = n := by unfold ab; rw [if_pos hs]; omega
        rw [e, if_pos hs, en]
        exact show_neg n w (by omega) (by omega)
      · obtain ⟨n, rfl⟩ : ∃ n : Nat, v = (n : Int) := ⟨v.toNat, by omega⟩
        have en : (ab (n : Int)).toNat = n := by unfold ab; rw [if_neg hs]; omega
        rw [e, if_neg hs, en]
        exact show_pos n w (by omega) (by omega)
    · have hr' := hr
      unfold rightB at hr
      rw [if_neg h0] at hr
      simp at hr
      obtain ⟨h1, rfl⟩ := hr
      refine show_tag t (ba (showS (t, 0))) w ?_
      have hn : ¬ (rightB (t, 0) = false) := by rw [hr']; simp
      rcases h1 with (rfl | rfl) | rfl
      · exact .inl ⟨rfl, rfl⟩
      · exact .inr (.inl ⟨rfl, rfl⟩)
      · exact .inr (.inr ⟨rfl, rfl⟩)
end Go.Proofs.YthilcidoacgdfaaGreatDoor.FigG
