/- The law ValueBack: its walk. -/
import Derived.Test.YthilcidoacgdfaaGreatDoorZvValC
namespace Go.Proofs.YthilcidoacgdfaaGreatDoor.CharB
end Go.Proofs.YthilcidoacgdfaaGreatDoor.CharB
namespace Go.Proofs.YthilcidoacgdfaaGreatDoor.CharF
end Go.Proofs.YthilcidoacgdfaaGreatDoor.CharF
namespace Go.Proofs.YthilcidoacgdfaaGreatDoor.DecA
end Go.Proofs.YthilcidoacgdfaaGreatDoor.DecA
namespace Go.Proofs.YthilcidoacgdfaaGreatDoor.DecE
end Go.Proofs.YthilcidoacgdfaaGreatDoor.DecE
namespace Go.Proofs.YthilcidoacgdfaaGreatDoor.FigA
end Go.Proofs.YthilcidoacgdfaaGreatDoor.FigA
namespace Go.Proofs.YthilcidoacgdfaaGreatDoor.FigD
end Go.Proofs.YthilcidoacgdfaaGreatDoor.FigD
namespace Go.Proofs.YthilcidoacgdfaaGreatDoor.FigG
end Go.Proofs.YthilcidoacgdfaaGreatDoor.FigG
namespace Go.Proofs.YthilcidoacgdfaaGreatDoor.FigH
end Go.Proofs.YthilcidoacgdfaaGreatDoor.FigH
namespace Go.Proofs.YthilcidoacgdfaaGreatDoor.FigI
end Go.Proofs.YthilcidoacgdfaaGreatDoor.FigI
namespace Go.Proofs.YthilcidoacgdfaaGreatDoor.SpanA
end Go.Proofs.YthilcidoacgdfaaGreatDoor.SpanA
namespace Go.Proofs.YthilcidoacgdfaaGreatDoor.ValA
end Go.Proofs.YthilcidoacgdfaaGreatDoor.ValA
namespace Go.Proofs.YthilcidoacgdfaaGreatDoor.ValB
end Go.Proofs.YthilcidoacgdfaaGreatDoor.ValB
namespace Go.Proofs.YthilcidoacgdfaaGreatDoor.ValC
end Go.Proofs.YthilcidoacgdfaaGreatDoor.ValC
namespace Go.Proofs.YthilcidoacgdfaaGreatDoorW.PrintLast
end Go.Proofs.YthilcidoacgdfaaGreatDoorW.PrintLast
namespace Go.Proofs.YthilcidoacgdfaaGreatDoorW.PrintMore
end Go.Proofs.YthilcidoacgdfaaGreatDoorW.PrintMore
namespace Go.Proofs.YthilcidoacgdfaaGreatDoorW.PrintWords
end Go.Proofs.YthilcidoacgdfaaGreatDoorW.PrintWords
namespace Go.Proofs.YthilcidoacgdfaaGreatDoor.ValD
open Go.RowKit Go.Shelf Go.Proofs.YthilcidoacgdfaaGreatDoorW.PrintWords Go.Proofs.YthilcidoacgdfaaGreatDoorW.PrintLast Go.Proofs.YthilcidoacgdfaaGreatDoorW.PrintMore Go.Proofs.YthilcidoacgdfaaGreatDoor.CharB Go.Proofs.YthilcidoacgdfaaGreatDoor.CharF Go.Proofs.YthilcidoacgdfaaGreatDoor.SpanA Go.Proofs.YthilcidoacgdfaaGreatDoor.DecA Go.Proofs.YthilcidoacgdfaaGreatDoor.DecE Go.Proofs.YthilcidoacgdfaaGreatDoor.FigA Go.Proofs.YthilcidoacgdfaaGreatDoor.FigD Go.Proofs.YthilcidoacgdfaaGreatDoor.FigG Go.Proofs.YthilcidoacgdfaaGreatDoor.FigH Go.Proofs.YthilcidoacgdfaaGreatDoor.FigI Go.Proofs.YthilcidoacgdfaaGreatDoor.ValA Go.Proofs.YthilcidoacgdfaaGreatDoor.ValB Go.Proofs.YthilcidoacgdfaaGreatDoor.ValC
set_option linter.unusedVariables false
set_option linter.unusedSimpArgs false
theorem trimZ_len (z : List UInt8) : (trimZ z).length ≤ z.length := by
  obtain ⟨k, hk⟩ := trimZ_spec z
  have := congrArg List.length hk
  rw [List.length_append] at this
  omega
theorem show_len (t v : Int) (hv : I64 v) : (showS (t, v)).length ≤ 100 := by
  unfold showS
  split
  · simp
  split
  · simp
  split
  · simp
  · unfold I64 at hv
    have h1 : (ab v).toNat < 18446744073709551616 := by unfold ab; split <;> omega
    have h2 := decP_le 1 ((ab v).toNat / 1000000) (by omega) (by omega)
    have h3 := trimZ_len (decP 6 ((ab v).toNat % 1000000))
    rw [decP6_len] at h3
    unfold showN
    simp only [List.length_append]
    have h4 : ((if v < 0 then [45] else []) : List UInt8).length ≤ 1 := by split <;> simp
    have h5 : ((if trimZ (decP 6 ((ab v).toNat % 1000000)) = [] then [] else 46 :: trimZ (decP 6 ((ab v).toNat % 1000000))) : List UInt8).length ≤ 7 := by
      split
      · simp
      · simp; omega
    omega
theorem rright (t v : Int) (w : World) : Calls Tryz.prog 14 #[.agg #[.int .i64 t, .int .i64 v]] w fun e w' => e = .returned (.bool (rightB (t, v))) ∧ Below w.heap.size w w' := by
  exact PF.breviaryref03_Right.calls t v _ w (ref_Right_f t v)
/-- The box of a value: a text. -/
def VBox (b : Nat) (A : Option Addr) (k : Nat) (s : ByteArray) (W : World) : Prop := W.heap[b]? = some (Obj.cells #[.int .i64 4, .slice A 0 k, .bool false, .int .i64 0, .int .i64 0, .string s] 35 (0, 0))
theorem VBox.lt {b : Nat} {A : Option Addr} {k : Nat} {s : ByteArray} {W : World} (h : VBox b A k s W) : b < W.heap.size := (Array.getElem?_eq_some_iff.1 h).1
theorem VBox.below {b : Nat} {A : Option Addr} {k : Nat} {s : ByteArray} {W W' : World} (h : VBox b A k s W) (hb : Below W.heap.size W W') : VBox b A k s W' := (hb.block b h.lt).trans h
theorem VBox.cell {b : Nat} {A : Option Addr} {k : Nat} {s : ByteArray} {W : World} (h : VBox b A k s W) (i : Nat) (x : Value) (hx : (#[.int .i64 4, .slice A 0 k, .bool false, .int .i64 0, .int .i64 0, .string s] : Array Value)[i]? = some x) : W.cell? ⟨b, i, none⟩ = some x := by rw [cell_h h]; exact hx
theorem vbox_new (A : Option Addr) (k : Nat) (s : ByteArray) (w : World) : VBox w.heap.size A k s (w.alloc (Obj.cells #[.int .i64 4, .slice A 0 k, .bool false, .int .i64 0, .int .i64 0, .string s] 35)) := blk_new w _
theorem nrm_I64 {t v : Int} (hv : I64 v) : I64 (nrm (t, v)).2 := by
  cases h : rightB (t, v) with
  | true => rw [nrm_of h]; exact hv
  | false => unfold nrm; rw [h]; unfold I64; exact ⟨by show (-9223372036854775808 : Int) ≤ 0; decide, by show (0 : Int) ≤ 9223372036854775807; decide⟩
set_option maxHeartbeats 4000000 in
set_option maxRecDepth 100000 in
theorem back_yes (t v : Int) (b : Bool) (w : World) (hT : Tabs w) (hv : I64 v) (ht : t = 0) (h2 : -9223372036854775807 ≤ v ∧ v ≤ 9223372036854775807) (hn : nrm (t, v) = (0, v)) : Calls Tryz.prog 4 #[.agg #[.int .i64 t, .int .i64 v], .bool b] w fun e w' => e = .returned (.bool true) ∧ Below w.heap.size w w' := by
  have hz := show_len (nrm (t, v)).1 (nrm (t, v)).2 (nrm_I64 hv)
  rw [show ((nrm (t, v)).1, (nrm (t, v)).2) = nrm (t, v) from rfl] at hz
  have c1 := fun W => num_call t v W
  have c2 := fun A c W => tostr_num A 0 c false t v ⟨#[]⟩ W hv
  have c4 : ∀ A c W, Below w.heap.size w W → _ := fun A c W hb => tonum_str A 0 c false 0 0 (ba (showS (nrm (t, v)))) W (by rw [ba_size]; omega) (tabs_below hT hb)
  rw [ba_list, hn, back h2] at c4
  rw [hn] at c2
  subst ht
  have c5 : ∀ W, Below w.heap.size w W → _ := fun W hb => works16 W (tabs_below hT hb)
  have c6 := fun W => rright 0 v W
  rw [show rightB (0, v) = true by unfold rightB; simp; omega] at c6
  have c7 := fun W => bool_call b W
  have c8 : ∀ A c W, Calls Tryz.prog 15 #[.pointer none, .agg #[.int .i64 2, .slice A 0 c, .bool b, .int .i64 0, .int .i64 0, .string ⟨#[]⟩]] W fun e w' => e = .returned (.agg #[.int .i64 0, .int .i64 (if b = true then 1000000 else 0)]) ∧ Below W.heap.size W w' := by
    intro A c W; cases b with | true => exact tonum_bool_true A 0 c 0 0 ⟨#[]⟩ W | false => exact tonum_bool_false A 0 c 0 0 ⟨#[]⟩ W
  have c9 := fun W => num_call 0 (if b = true then 1000000 else 0) W
  have c10 : ∀ A c W, Calls Tryz.prog 16 #[.agg #[.int .i64 3, .slice A 0 c, .bool false, .int .i64 0, .int .i64 (if b = true then 1000000 else 0), .string ⟨#[]⟩]] W fun e w' => e = .returned (.bool b) ∧ Below W.heap.size W w' := by
    intro A c W; have h := tobool_num A 0 c false 0 (if b = true then 1000000 else 0) ⟨#[]⟩ W; rw [show trueN (nrm (0, (if b = true then 1000000 else 0))) = b by cases b <;> decide] at h; exact h
  generalize showS (0, v) = z at *
  generalize (if b = true then (1000000 : Int) else 0) = u at *
  have X0 := Aside0.mk (FigG.box_new 0 v w)
  have B0 := Aside0.mk ((Below.refl w.heap.size w).alloc (Nat.le_refl _) (Obj.cells #[.int .i64 0, .int .i64 v] 32))
  have HC4 := Aside0.mk c4
  have HC5 := Aside0.mk c5
  clear hT hz c5 hv c4
  go_enter Tryz.func4, Tryz.ntmps4
  go_wp2_with fail
  refine (c1 _).mono ?_
  rintro e w1 ⟨A1, k1, rfl, b1⟩
  have B1 := Aside0.mk (chain B0.out (Nat.le_refl _) b1)
  have X1 := Aside0.mk (X0.out.below b1)
  clear b1 X0
  go_wp2_with fail
  refine (c2 _ _ _).mono ?_
  rintro e w2 ⟨rfl, b2⟩
  have B2 := Aside0.mk (chain B1.out (Nat.le_refl _) b2)
  have X2 := Aside0.mk (X1.out.below b2)
  clear b2 X1 B1 B0
  go_wp2_with fail
  have c3 := fun W => str_call (ba z) W
  refine (c3 _).mono ?_
  rintro e w3 ⟨A3, k3, rfl, b3⟩
  have al := (Below.refl w3.heap.size w3).alloc (Nat.le_refl _) (Obj.cells #[.int .i64 4, .slice A3 0 k3, .bool false, .int .i64 0, .int .i64 0, .string (ba z)] 35)
  have B3 := Aside0.mk (chain (chain B2.out (Nat.le_refl _) b3) (Nat.le_refl _) al)
  have X3 := Aside0.mk ((X2.out.below b3).below al)
  have V3 := Aside0.mk (vbox_new A3 k3 (ba z) w3)
  clear b3 al X2 B2 c1 c2 c3
  have KS : Aside0 (∀ W W' : World, (W.cell? ⟨w.heap.size, 0, none⟩ = some (.int .i64 0) ∧ W.cell? ⟨w.heap.size, 1, none⟩ = some (.int .i64 v) ∧ W.cell? ⟨w3.heap.size, 0, none⟩ = some (.int .i64 4) ∧ W.cell? ⟨w3.heap.size, 1, none⟩ = some (.slice A3 0 k3) ∧ W.cell? ⟨w3.heap.size, 2, none⟩ = some (.bool false) ∧ W.cell? ⟨w3.heap.size, 3, none⟩ = some (.int .i64 0) ∧ W.cell? ⟨w3.heap.size, 4, none⟩ = some (.int .i64 0) ∧ W.cell? ⟨w3.heap.size, 5, none⟩ = some (.string (ba z)) ∧ Box w.heap.size 0 v W ∧ VBox w3.heap.size A3 k3 (ba z) W ∧ Below w.heap.size w W) → Below W.heap.size W W' → (W'.cell? ⟨w.heap.size, 0, none⟩ = some (.int .i64 0) ∧ W'.cell? ⟨w.heap.size, 1, none⟩ = some (.int .i64 v) ∧ W'.cell? ⟨w3.heap.size, 0, none⟩ = some (.int .i64 4) ∧ W'.cell? ⟨w3.heap.size, 1, none⟩ = some (.slice A3 0 k3) ∧ W'.cell? ⟨w3.heap.size, 2, none⟩ = some (.bool false) ∧ W'.cell? ⟨w3.heap.size, 3, none⟩ = some (.int .i64 0) ∧ W'.cell? ⟨w3.heap.size, 4, none⟩ = some (.int .i64 0) ∧ W'.cell? ⟨w3.heap.size, 5, none⟩ = some (.string (ba z)) ∧ Box w.heap.size 0 v W' ∧ VBox w3.heap.size A3 k3 (ba z) W' ∧ Below w.heap.size w W')) := ⟨fun W W' h hb => by
    obtain ⟨_, _, _, _, _, _, _, _, hx, hy, hw⟩ := h
    have hx' := hx.below hb; have hy' := hy.below hb
    exact ⟨hx'.c0, hx'.c1, hy'.cell 0 _ rfl, hy'.cell 1 _ rfl, hy'.cell 2 _ rfl, hy'.cell 3 _ rfl, hy'.cell 4 _ rfl, hy'.cell 5 _ rfl, hx', hy', chain hw (Nat.le_refl _) hb⟩⟩
  have GS : Aside0 (∀ W : World, (W.cell? ⟨w.heap.size, 0, none⟩ = some (.int .i64 0) ∧ W.cell? ⟨w.heap.size, 1, none⟩ = some (.int .i64 v) ∧ W.cell? ⟨w3.heap.size, 0, none⟩ = some (.int .i64 4) ∧ W.cell? ⟨w3.heap.size, 1, none⟩ = some (.slice A3 0 k3) ∧ W.cell? ⟨w3.heap.size, 2, none⟩ = some (.bool false) ∧ W.cell? ⟨w3.heap.size, 3, none⟩ = some (.int .i64 0) ∧ W.cell? ⟨w3.heap.size, 4, none⟩ = some (.int .i64 0) ∧ W.cell? ⟨w3.heap.size, 5, none⟩ = some (.string (ba z)) ∧ Box w.heap.size 0 v W ∧ VBox w3.heap.size A3 k3 (ba z) W ∧ Below w.heap.size w W) → Below w.heap.size w W) := ⟨fun W h => h.2.2.2.2.2.2.2.2.2.2⟩
  go_wp2_with fail
  first | (go_region_held3 (fun w' => w'.cell? ⟨w.heap.size, 0, none⟩ = some (.int .i64 0) ∧ w'.cell? ⟨w.heap.size, 1, none⟩ = some (.int .i64 v) ∧ w'.cell? ⟨w3.heap.size, 0, none⟩ = some (.int .i64 4) ∧ w'.cell? ⟨w3.heap.size, 1, none⟩ = some (.slice A3 0 k3) ∧ w'.cell? ⟨w3.heap.size, 2, none⟩ = some (.bool false) ∧ w'.cell? ⟨w3.heap.size, 3, none⟩ = some (.int .i64 0) ∧ w'.cell? ⟨w3.heap.size, 4, none⟩ = some (.int .i64 0) ∧ w'.cell? ⟨w3.heap.size, 5, none⟩ = some (.string (ba z)) ∧ Box w.heap.size 0 v w' ∧ VBox w3.heap.size A3 k3 (ba z) w' ∧ Below w.heap.size w w') (first | assumption | exact ⟨by assumption, by assumption, by assumption, by assumption, by assumption, by assumption, by assumption, by assumption, by assumption, by assumption, by assumption⟩ | exact ⟨X3.out.c0, X3.out.c1, V3.out.cell 0 _ rfl, V3.out.cell 1 _ rfl, V3.out.cell 2 _ rfl, V3.out.cell 3 _ rfl, V3.out.cell 4 _ rfl, V3.out.cell 5 _ rfl, X3.out, V3.out, Below.drew B3.out⟩ | exact KS.out _ _ (by assumption) (by assumption) | exact KS.out _ _ ⟨by assumption, by assumption, by assumption, by assumption, by assumption, by assumption, by assumption, by assumption, by assumption, by assumption, by assumption⟩ (by assumption))
    (first | (go_at_call 14; refine (c6 _).mono ?_; rintro e w' ⟨rfl, hb⟩) | (go_at_call 15; refine (HC4.out _ _ _ (GS.out _ (by assumption))).mono ?_; rintro e w' ⟨rfl, hb⟩))) | fail
  all_goals
    go_wp2_with fail
    have Bz := Aside0.mk (show Below w.heap.size w _ from by first | exact GS.out _ (by assumption) | exact GS.out _ (KS.out _ _ (by assumption) (by assumption)) | exact GS.out _ (KS.out _ _ ⟨by assumption, by assumption, by assumption, by assumption, by assumption, by assumption, by assumption, by assumption, by assumption, by assumption, by assumption⟩ (by assumption)))
    clear GS KS X3 V3 B3 HC4
    refine (c7 _).mono ?_
    rintro e w5 ⟨A5, k5, rfl, b5⟩
    have B5 := Aside0.mk (chain Bz.out (Nat.le_refl _) b5)
    clear b5
    go_wp2_with fail
    refine (c8 _ _ _).mono ?_
    rintro e w6 ⟨rfl, b6⟩
    have B6 := Aside0.mk (chain B5.out (Nat.le_refl _) b6)
    clear b6
    go_wp2_with fail
    refine (c9 _).mono ?_
    rintro e w7 ⟨A7, k7, rfl, b7⟩
    have B7 := Aside0.mk (chain B6.out (Nat.le_refl _) b7)
    clear b7
    go_wp2_with fail
    refine (c10 _ _ _).mono ?_
    rintro e w8 ⟨rfl, b8⟩
    have B8 := Aside0.mk (chain B7.out (Nat.le_refl _) b8)
    clear b8
    go_wp2_with fail
    refine (HC5.out _ B8.out).mono ?_
    rintro e w9 ⟨rfl, b9⟩
    have B9 := Aside0.mk (chain B8.out (Nat.le_refl _) b9)
    clear b9
    go_wp2_with fail
    go_ret
    exact ⟨by first | rfl | (simp; done), B9.out⟩
set_option maxHeartbeats 4000000 in
set_option maxRecDepth 100000 in
theorem back_not (t v : Int) (b : Bool) (w : World) (hT : Tabs w) (hv : I64 v) (hr : rightB (t, v) = false) : Calls Tryz.prog 4 #[.agg #[.int .i64 t, .int .i64 v], .bool b] w fun e w' => e = .returned (.bool true) ∧ Below w.heap.size w w' := by
  have hz := show_len (nrm (t, v)).1 (nrm (t, v)).2 (nrm_I64 hv)
  rw [show ((nrm (t, v)).1, (nrm (t, v)).2) = nrm (t, v) from rfl] at hz
  have c1 := fun W => num_call t v W
  have c2 := fun A c W => tostr_num A 0 c false t v ⟨#[]⟩ W hv
  have c4 : ∀ A c W, Below w.heap.size w W → _ := fun A c W hb => tonum_str A 0 c false 0 0 (ba (showS (nrm (t, v)))) W (by rw [ba_size]; omega) (tabs_below hT hb)
  have c5 : ∀ W, Below w.heap.size w W → _ := fun W hb => works16 W (tabs_below hT hb)
  have c6 := fun W => rright t v W
  rw [hr] at c6
  have c7 := fun W => bool_call b W
  have c8 : ∀ A c W, Calls Tryz.prog 15 #[.pointer none, .agg #[.int .i64 2, .slice A 0 c, .bool b, .int .i64 0, .int .i64 0, .string ⟨#[]⟩]] W fun e w' => e = .returned (.agg #[.int .i64 0, .int .i64 (if b = true then 1000000 else 0)]) ∧ Below W.heap.size W w' := by
    intro A c W; cases b with | true => exact tonum_bool_true A 0 c 0 0 ⟨#[]⟩ W | false => exact tonum_bool_false A 0 c 0 0 ⟨#[]⟩ W
  have c9 := fun W => num_call 0 (if b = true then 1000000 else 0) W
  have c10 : ∀ A c W, Calls Tryz.prog 16 #[.agg #[.int .i64 3, .slice A 0 c, .bool false, .int .i64 0, .int .i64 (if b = true then 1000000 else 0), .string ⟨#[]⟩]] W fun e w' => e = .returned (.bool b) ∧ Below W.heap.size W w' := by
    intro A c W; have h := tobool_num A 0 c false 0 (if b = true then 1000000 else 0) ⟨#[]⟩ W; rw [show trueN (nrm (0, (if b = true then 1000000 else 0))) = b by cases b <;> decide] at h; exact h
  clear c4
  generalize showS (nrm (t, v)) = z at *
  generalize (if b = true then (1000000 : Int) else 0) = u at *
  have X0 := Aside0.mk (FigG.box_new t v w)
  have B0 := Aside0.mk ((Below.refl w.heap.size w).alloc (Nat.le_refl _) (Obj.cells #[.int .i64 t, .int .i64 v] 32))
  have HC5 := Aside0.mk c5
  clear hT hz c5 hv
  go_enter Tryz.func4, Tryz.ntmps4
  go_wp2_with fail
  refine (c1 _).mono ?_
  rintro e w1 ⟨A1, k1, rfl, b1⟩
  have B1 := Aside0.mk (chain B0.out (Nat.le_refl _) b1)
  have X1 := Aside0.mk (X0.out.below b1)
  clear b1 X0
  go_wp2_with fail
  refine (c2 _ _ _).mono ?_
  rintro e w2 ⟨rfl, b2⟩
  have B2 := Aside0.mk (chain B1.out (Nat.le_refl _) b2)
  have X2 := Aside0.mk (X1.out.below b2)
  clear b2 X1 B1 B0
  go_wp2_with fail
  have c3 := fun W => str_call (ba z) W
  refine (c3 _).mono ?_
  rintro e w3 ⟨A3, k3, rfl, b3⟩
  have al := (Below.refl w3.heap.size w3).alloc (Nat.le_refl _) (Obj.cells #[.int .i64 4, .slice A3 0 k3, .bool false, .int .i64 0, .int .i64 0, .string (ba z)] 35)
  have B3 := Aside0.mk (chain (chain B2.out (Nat.le_refl _) b3) (Nat.le_refl _) al)
  have X3 := Aside0.mk ((X2.out.below b3).below al)
  have V3 := Aside0.mk (vbox_new A3 k3 (ba z) w3)
  clear b3 al X2 B2 c1 c2 c3
  have XD : Aside0 (Box w.heap.size t v (w3.alloc (Obj.cells #[.int .i64 4, .slice A3 0 k3, .bool false, .int .i64 0, .int .i64 0, .string (ba z)] 35)).drew) := ⟨X3.out⟩
  have BD := Aside0.mk (Below.drew B3.out)
  have x0 := X3.out.c0
  have x1 := X3.out.c1
  clear X3 V3 B3
  go_wp2_with fail
  first | (go_region_with (first | (go_at_call 14; refine (c6 _).mono ?_; rintro e w' ⟨rfl, hb⟩; have Bz := Aside0.mk (chain BD.out (Nat.le_refl _) hb); have hx := XD.out.below hb; clear x0 x1; have x0 := hx.c0; have x1 := hx.c1; clear hx hb))) | fail
  all_goals
    go_wp2_with fail
    refine (c7 _).mono ?_
    rintro e w5 ⟨A5, k5, rfl, b5⟩
    have B5 := Aside0.mk (chain Bz.out (Nat.le_refl _) b5)
    clear b5
    go_wp2_with fail
    refine (c8 _ _ _).mono ?_
    rintro e w6 ⟨rfl, b6⟩
    have B6 := Aside0.mk (chain B5.out (Nat.le_refl _) b6)
    clear b6
    go_wp2_with fail
    refine (c9 _).mono ?_
    rintro e w7 ⟨A7, k7, rfl, b7⟩
    have B7 := Aside0.mk (chain B6.out (Nat.le_refl _) b7)
    clear b7
    go_wp2_with fail
    refine (c10 _ _ _).mono ?_
    rintro e w8 ⟨rfl, b8⟩
    have B8 := Aside0.mk (chain B7.out (Nat.le_refl _) b8)
    clear b8
    go_wp2_with fail
    refine (HC5.out _ B8.out).mono ?_
    rintro e w9 ⟨rfl, b9⟩
    have B9 := Aside0.mk (chain B8.out (Nat.le_refl _) b9)
    clear b9
    go_wp2_with fail
    go_ret
    exact ⟨by first | rfl | (simp; done), B9.out⟩
set_option maxHeartbeats 4000000 in
set_option maxRecDepth 100000 in
theorem back_tag (t v : Int) (b : Bool) (w : World) (hT : Tabs w) (hv : I64 v) (hr : rightB (t, v) = true) (ht : t ≠ 0) : Calls Tryz.prog 4 #[.agg #[.int .i64 t, .int .i64 v], .bool b] w fun e w' => e = .returned (.bool true) ∧ Below w.heap.size w w' := by
  have hz := show_len (nrm (t, v)).1 (nrm (t, v)).2 (nrm_I64 hv)
  rw [show ((nrm (t, v)).1, (nrm (t, v)).2) = nrm (t, v) from rfl] at hz
  have c1 := fun W => num_call t v W
  have c2 := fun A c W => tostr_num A 0 c false t v ⟨#[]⟩ W hv
  have c4 : ∀ A c W, Below w.heap.size w W → _ := fun A c W hb => tonum_str A 0 c false 0 0 (ba (showS (nrm (t, v)))) W (by rw [ba_size]; omega) (tabs_below hT hb)
  have c5 : ∀ W, Below w.heap.size w W → _ := fun W hb => works16 W (tabs_below hT hb)
  have c6 := fun W => rright t v W
  rw [hr] at c6
  have c7 := fun W => bool_call b W
  have c8 : ∀ A c W, Calls Tryz.prog 15 #[.pointer none, .agg #[.int .i64 2, .slice A 0 c, .bool b, .int .i64 0, .int .i64 0, .string ⟨#[]⟩]] W fun e w' => e = .returned (.agg #[.int .i64 0, .int .i64 (if b = true then 1000000 else 0)]) ∧ Below W.heap.size W w' := by
    intro A c W; cases b with | true => exact tonum_bool_true A 0 c 0 0 ⟨#[]⟩ W | false => exact tonum_bool_false A 0 c 0 0 ⟨#[]⟩ W
  have c9 := fun W => num_call 0 (if b = true then 1000000 else 0) W
  have c10 : ∀ A c W, Calls Tryz.prog 16 #[.agg #[.int .i64 3, .slice A 0 c, .bool false, .int .i64 0, .int .i64 (if b = true then 1000000 else 0), .string ⟨#[]⟩]] W fun e w' => e = .returned (.bool b) ∧ Below W.heap.size W w' := by
    intro A c W; have h := tobool_num A 0 c false 0 (if b = true then 1000000 else 0) ⟨#[]⟩ W; rw [show trueN (nrm (0, (if b = true then 1000000 else 0))) = b by cases b <;> decide] at h; exact h
  clear c4
  generalize showS (nrm (t, v)) = z at *
  generalize (if b = true then (1000000 : Int) else 0) = u at *
  have ht2 : (t == 0) = false := by simpa using ht
  have X0 := Aside0.mk (FigG.box_new t v w)
  have B0 := Aside0.mk ((Below.refl w.heap.size w).alloc (Nat.le_refl _) (Obj.cells #[.int .i64 t, .int .i64 v] 32))
  have HC5 := Aside0.mk c5
  clear hT hz c5 hv
  go_enter Tryz.func4, Tryz.ntmps4
  go_wp2_with fail
  refine (c1 _).mono ?_
  rintro e w1 ⟨A1, k1, rfl, b1⟩
  have B1 := Aside0.mk (chain B0.out (Nat.le_refl _) b1)
  have X1 := Aside0.mk (X0.out.below b1)
  clear b1 X0
  go_wp2_with fail
  refine (c2 _ _ _).mono ?_
  rintro e w2 ⟨rfl, b2⟩
  have B2 := Aside0.mk (chain B1.out (Nat.le_refl _) b2)
  have X2 := Aside0.mk (X1.out.below b2)
  clear b2 X1 B1 B0
  go_wp2_with fail
  have c3 := fun W => str_call (ba z) W
  refine (c3 _).mono ?_
  rintro e w3 ⟨A3, k3, rfl, b3⟩
  have al := (Below.refl w3.heap.size w3).alloc (Nat.le_refl _) (Obj.cells #[.int .i64 4, .slice A3 0 k3, .bool false, .int .i64 0, .int .i64 0, .string (ba z)] 35)
  have B3 := Aside0.mk (chain (chain B2.out (Nat.le_refl _) b3) (Nat.le_refl _) al)
  have X3 := Aside0.mk ((X2.out.below b3).below al)
  have V3 := Aside0.mk (vbox_new A3 k3 (ba z) w3)
  clear b3 al X2 B2 c1 c2 c3
  have XD : Aside0 (Box w.heap.size t v (w3.alloc (Obj.cells #[.int .i64 4, .slice A3 0 k3, .bool false, .int .i64 0, .int .i64 0, .string (ba z)] 35)).drew) := ⟨X3.out⟩
  have BD := Aside0.mk (Below.drew B3.out)
  have x0 := X3.out.c0
  have x1 := X3.out.c1
  clear X3 V3 B3
  go_wp2_with fail
  first | (go_region_with (first | (go_at_call 14; refine (c6 _).mono ?_; rintro e w' ⟨rfl, hb⟩; have Bz := Aside0.mk (chain BD.out (Nat.le_refl _) hb); have hx := XD.out.below hb; clear x0 x1; have x0 := hx.c0; have x1 := hx.c1; clear hx hb))) | fail
  all_goals
    go_wp2_with fail
    refine (c7 _).mono ?_
    rintro e w5 ⟨A5, k5, rfl, b5⟩
    have B5 := Aside0.mk (chain Bz.out (Nat.le_refl _) b5)
    clear b5
    go_wp2_with fail
    refine (c8 _ _ _).mono ?_
    rintro e w6 ⟨rfl, b6⟩
    have B6 := Aside0.mk (chain B5.out (Nat.le_refl _) b6)
    clear b6
    go_wp2_with fail
    refine (c9 _).mono ?_
    rintro e w7 ⟨A7, k7, rfl, b7⟩
    have B7 := Aside0.mk (chain B6.out (Nat.le_refl _) b7)
    clear b7
    go_wp2_with fail
    refine (c10 _ _ _).mono ?_
    rintro e w8 ⟨rfl, b8⟩
    have B8 := Aside0.mk (chain B7.out (Nat.le_refl _) b8)
    clear b8
    go_wp2_with fail
    refine (HC5.out _ B8.out).mono ?_
    rintro e w9 ⟨rfl, b9⟩
    have B9 := Aside0.mk (chain B8.out (Nat.le_refl _) b9)
    clear b9
    go_wp2_with fail
    go_ret
    exact ⟨by first | rfl | (simp; done), B9.out⟩
theorem back_calls (t v : Int) (b : Bool) (w : World) (hT : Tabs w) (hv : I64 v) : Calls Tryz.prog 4 #[.agg #[.int .i64 t, .int .i64 v], .bool b] w fun e w' => e = .returned (.bool true) ∧ Below w.heap.size w w' := by
  cases hr : rightB (t, v) with
  | false => exact back_not t v b w hT hv hr
  | true =>
    by_cases ht : t = 0
    · have h2 : -9223372036854775807 ≤ v ∧ v ≤ 9223372036854775807 := by
        subst ht
        have hr' := hr
        unfold rightB at hr'
        simp at hr'
        unfold I64 at hv
        omega
      exact back_yes t v b w hT hv ht h2 (by subst ht; exact nrm_of hr)
    · exact back_tag t v b w hT hv hr ht
theorem i64_of {n : Int} (h : (Lit.int .i64 n).wf = true) : I64 n := by
  have : -9223372036854775808 ≤ n ∧ n ≤ 9223372036854775807 := by simpa [Lit.wf, IntKind.min, IntKind.max, IntKind.bits, IntKind.signed] using h
  exact this
theorem backW (t v : Int) (b : Bool) (w : World) (hT : Tabs w) (_ : (Lit.int .i64 t).wf = true) (h : (Lit.int .i64 v).wf = true) : Calls Tryz.prog 4 #[.agg #[.int .i64 t, .int .i64 v], .bool b] w fun e w' => e = .returned (.bool true) ∧ Below w.heap.size w w' := back_calls t v b w hT (i64_of h)
end Go.Proofs.YthilcidoacgdfaaGreatDoor.ValD
