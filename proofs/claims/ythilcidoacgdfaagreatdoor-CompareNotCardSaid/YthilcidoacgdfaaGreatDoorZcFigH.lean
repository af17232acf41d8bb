/- figure.Lit: what it computes. -/
import Derived.Test.YthilcidoacgdfaaGreatDoorZcFigG
import Derived.Lib.ConvBytes
namespace Go.Proofs.YthilcidoacgdfaaGreatDoor.CharB
end Go.Proofs.YthilcidoacgdfaaGreatDoor.CharB
namespace Go.Proofs.YthilcidoacgdfaaGreatDoor.CharD
end Go.Proofs.YthilcidoacgdfaaGreatDoor.CharD
namespace Go.Proofs.YthilcidoacgdfaaGreatDoor.CharF
end Go.Proofs.YthilcidoacgdfaaGreatDoor.CharF
namespace Go.Proofs.YthilcidoacgdfaaGreatDoor.DecA
end Go.Proofs.YthilcidoacgdfaaGreatDoor.DecA
namespace Go.Proofs.YthilcidoacgdfaaGreatDoor.DecE
end Go.Proofs.YthilcidoacgdfaaGreatDoor.DecE
namespace Go.Proofs.YthilcidoacgdfaaGreatDoor.DecF
end Go.Proofs.YthilcidoacgdfaaGreatDoor.DecF
namespace Go.Proofs.YthilcidoacgdfaaGreatDoor.DecG
end Go.Proofs.YthilcidoacgdfaaGreatDoor.DecG
namespace Go.Proofs.YthilcidoacgdfaaGreatDoor.FigA
end Go.Proofs.YthilcidoacgdfaaGreatDoor.FigA
namespace Go.Proofs.YthilcidoacgdfaaGreatDoor.FigB
end Go.Proofs.YthilcidoacgdfaaGreatDoor.FigB
namespace Go.Proofs.YthilcidoacgdfaaGreatDoor.FigC
end Go.Proofs.YthilcidoacgdfaaGreatDoor.FigC
namespace Go.Proofs.YthilcidoacgdfaaGreatDoor.FigD
end Go.Proofs.YthilcidoacgdfaaGreatDoor.FigD
namespace Go.Proofs.YthilcidoacgdfaaGreatDoor.FigE
end Go.Proofs.YthilcidoacgdfaaGreatDoor.FigE
namespace Go.Proofs.YthilcidoacgdfaaGreatDoor.FigF
end Go.Proofs.YthilcidoacgdfaaGreatDoor.FigF
namespace Go.Proofs.YthilcidoacgdfaaGreatDoor.FigG
end Go.Proofs.YthilcidoacgdfaaGreatDoor.FigG
namespace Go.Proofs.YthilcidoacgdfaaGreatDoor.SpanA
end Go.Proofs.YthilcidoacgdfaaGreatDoor.SpanA
namespace Go.Proofs.YthilcidoacgdfaaGreatDoorW.PrintLast
end Go.Proofs.YthilcidoacgdfaaGreatDoorW.PrintLast
namespace Go.Proofs.YthilcidoacgdfaaGreatDoorW.PrintMore
end Go.Proofs.YthilcidoacgdfaaGreatDoorW.PrintMore
namespace Go.Proofs.YthilcidoacgdfaaGreatDoorW.PrintWords
end Go.Proofs.YthilcidoacgdfaaGreatDoorW.PrintWords
namespace Go.Proofs.YthilcidoacgdfaaGreatDoor.FigH
open Go.RowKit Go.Shelf Go.Proofs.YthilcidoacgdfaaGreatDoorW.PrintWords Go.Proofs.YthilcidoacgdfaaGreatDoorW.PrintLast Go.Proofs.YthilcidoacgdfaaGreatDoorW.PrintMore Go.Proofs.YthilcidoacgdfaaGreatDoor.CharB Go.Proofs.YthilcidoacgdfaaGreatDoor.CharD Go.Proofs.YthilcidoacgdfaaGreatDoor.CharF Go.Proofs.YthilcidoacgdfaaGreatDoor.SpanA Go.Proofs.YthilcidoacgdfaaGreatDoor.DecA Go.Proofs.YthilcidoacgdfaaGreatDoor.DecE Go.Proofs.YthilcidoacgdfaaGreatDoor.DecF Go.Proofs.YthilcidoacgdfaaGreatDoor.DecG Go.Proofs.YthilcidoacgdfaaGreatDoor.FigA Go.Proofs.YthilcidoacgdfaaGreatDoor.FigB Go.Proofs.YthilcidoacgdfaaGreatDoor.FigC Go.Proofs.YthilcidoacgdfaaGreatDoor.FigD Go.Proofs.YthilcidoacgdfaaGreatDoor.FigE Go.Proofs.YthilcidoacgdfaaGreatDoor.FigF Go.Proofs.YthilcidoacgdfaaGreatDoor.FigG
set_option linter.unusedVariables false
set_option linter.unusedSimpArgs false
theorem mul_call (d e : Int × Int) (hd : I64 d.2) (he : I64 e.2) (w : World) : Calls Tryz.prog 99 #[.agg #[.int .i64 d.1, .int .i64 d.2], .agg #[.int .i64 e.1, .int .i64 e.2]] w fun z w' => z = .returned (.agg #[.int .i64 (mulS (nrm d) (nrm e)).1, .int .i64 (mulS (nrm d) (nrm e)).2]) ∧ Below w.heap.size w w' := PF.dec_Mul.calls 41 _ _ _ _ _ _ w (dec_Mul_f (by omega) hd he)
theorem add_call (d e : Int × Int) (hd : I64 d.2) (he : I64 e.2) (w : World) : Calls Tryz.prog 98 #[.agg #[.int .i64 d.1, .int .i64 d.2], .agg #[.int .i64 e.1, .int .i64 e.2]] w fun z w' => z = .returned (.agg #[.int .i64 (addS (nrm d) (nrm e)).1, .int .i64 (addS (nrm d) (nrm e)).2]) ∧ Below w.heap.size w w' := PF.dec_Add.calls 41 _ _ _ _ _ _ w (dec_Add_f (by omega) hd he)
theorem neg_call (d : Int × Int) (hd : I64 d.2) (w : World) : Calls Tryz.prog 83 #[.agg #[.int .i64 d.1, .int .i64 d.2]] w fun z w' => z = .returned (.agg #[.int .i64 (negS (nrm d)).1, .int .i64 (negS (nrm d)).2]) ∧ Below w.heap.size w w' := PF.dec_Neg.calls _ _ _ _ w (dec_Neg_f hd)
theorem ten_call (w : World) : Calls Tryz.prog 40 #[.int .i64 10] w fun z w' => z = .returned (.agg #[.int .i64 0, .int .i64 10000000]) ∧ Below w.heap.size w w' := PF.dec_Int.calls 41 10 0 10000000 w (by rw [dec_Int_f (by omega) (by unfold I64; omega)]; decide)
theorem nm_i64 {a : Int × Int} (h : Nm a) : I64 a.2 := by unfold Nm at h; unfold I64; omega
theorem nm_great (s : Int) : Nm (great s) := by unfold great Nm; split; simp; split <;> simp
theorem nm_addN (s : Int) : Nm (addN s) := by unfold addN Nm; split; simp; split; simp; simp; omega
theorem nrm_Nm {a : Int × Int} (h : Nm a) : Nm (nrm a) := by rw [nrm_nrm h]; exact h
theorem ab_nonneg (v : Int) : 0 ≤ ab v := by unfold ab; split <;> omega
theorem nm_mul {a b : Int × Int} (ha : Nm a) (hb : Nm b) : Nm (mulS (nrm a) (nrm b)) := by
  unfold mulS
  split
  · right; simp
  · split
    · exact nm_great _
    · exact nm_mk _ _ (Int.ediv_nonneg (Int.mul_nonneg (ab_nonneg _) (ab_nonneg _)) (by omega))
theorem nm_add {a b : Int × Int} (ha : Nm a) (hb : Nm b) : Nm (addS a b) := by
  unfold addS
  repeat' split
  all_goals first | exact nm_addN _ | assumption | (right; simp)
theorem parts_lit (s : List UInt8) : litP s = if (partsS s).2.2 = true then some ((partsS s).1, (partsS s).2.1) else none := by
  unfold litP partsS
  simp only
  generalize s.takeWhile digB = a
  cases hr : s.dropWhile digB with
  | nil => cases a <;> simp
  | cons c r =>
    simp only [List.head?_cons, List.tail_cons]
    rw [if_neg (by simp)]
    by_cases hc : c = 46
    · subst hc
      simp only [if_true]
      by_cases ha : r.all digB = true
      · have h1 : r.takeWhile digB = r := by have := (takeW_all r [] ha (by simp)).1; simpa using this
        have h2 : r.dropWhile digB = [] := by have := (takeW_all r [] ha (by simp)).2; simpa using this
        rw [h1, h2]
        cases a <;> cases r <;> simp_all
      · have h2 : r.dropWhile digB ≠ [] := by
          intro e
          apply ha
          have := List.takeWhile_append_dropWhile (p := digB) (l := r)
          rw [e, List.append_nil] at this
          rw [← this]
          exact List.all_takeWhile
        have h3 : (r.dropWhile digB).isEmpty = false := by cases hq : r.dropWhile digB with | nil => exact absurd hq h2 | cons d t => rfl
        have ha' : r.all digB = false := by simpa using ha
        simp [h3, ha']
    · simp [hc]
set_option maxHeartbeats 1600000 in
set_option maxRecDepth 100000 in
theorem lit_none (s : ByteArray) (w : World) (hs : s.size ≤ 1000000000) (h : (partsS s.data.toList).2.2 = false) :
    Calls Tryz.prog 55 #[.string s] w fun e w' => e = .returned (.tuple #[.agg #[.int .i64 0, .int .i64 0], .bool false]) ∧ Below w.heap.size w w' := by
  have cp := fun W => parts_call s W hs
  rw [h] at cp
  clear h
  generalize (partsS s.data.toList).1 = a at *
  generalize (partsS s.data.toList).2.1 = b at *
  have hB := Aside0.mk ((Below.refl w.heap.size w).alloc (Nat.le_refl _) (Obj.cells #[.int .i64 0, .int .i64 0] 32))
  have hX := Aside0.mk (box_new 0 0 w)
  go_enter Tryz.func55, Tryz.ntmps55
  go_wp2_with fail
  refine (cp _).mono ?_
  rintro e w1 ⟨rfl, b1⟩
  have B1 := Aside0.mk (hB.out.trans (b1.mono (by simp)))
  have X1 := hX.out.below b1
  have HX1 := Aside0.mk X1
  have g0 := X1.c0
  have g1 := X1.c1
  have f0 := X1.fr 0
  have f1 := X1.fr 1
  clear b1 X1
  go_wp2_with fail
  refine bodyPost_ret (results_ct rfl _ _ w.heap.size 32 #[.int .i64 0, .int .i64 0] (0, 0) _ rfl (HX1.out.put) Tryz.underlying32 rfl (by kernel_rfl)) rfl ?_
  exact ⟨rfl, (B1.out.setCell (p := ⟨w.heap.size, 0, none⟩) (Nat.le_refl _) _).setCell (p := ⟨w.heap.size, 1, none⟩) (Nat.le_refl _) _⟩
/-- The bytes l lie in block b. -/
def Row8 (b : Nat) (l : List UInt8) (W : World) : Prop := b < W.heap.size ∧ ∀ j (h : j < l.length), W.cell? ⟨b, j, none⟩ = some (.int .u8 (l[j].toNat : Int))
theorem Row8.below {b : Nat} {l : List UInt8} {W W' : World} (h : Row8 b l W) (hb : Below W.heap.size W W') : Row8 b l W' :=
  ⟨Nat.lt_of_lt_of_le h.1 hb.size, fun j hj => (hb.cell (p := ⟨b, j, none⟩) h.1).trans (h.2 j hj)⟩
theorem cell_ne {W : World} {p q : Addr} (v : Value) (h : p.block ≠ q.block) : (W.setCell p v).cell? q = W.cell? q := by
  unfold World.cell?
  rw [Below.heap_setCell W p v q.block (fun e => h e.symm)]
theorem Row8.put {b : Nat} {l : List UInt8} {W : World} (h : Row8 b l W) (c i : Nat) (v : Value) (hne : c ≠ b) : Row8 b l (W.setCell ⟨c, i, none⟩ v) :=
  ⟨by simpa using h.1, fun j hj => (cell_ne v hne).trans (h.2 j hj)⟩
theorem box_other {b : Nat} {t v : Int} {W : World} (h : Box b t v W) (c i : Nat) (u : Value) (hne : c ≠ b) : Box b t v (W.setCell ⟨c, i, none⟩ u) := by
  unfold Box at h ⊢
  rw [Below.heap_setCell _ _ _ b (fun e => hne (by simpa using e.symm))]
  exact h
/-- The state of the literal's loop: the result's cell, the number so far, ten, the digits. -/
structure LS (a d t b : Nat) (l : List UInt8) (n : Int × Int) (w0 W : World) : Prop where
  res : Box a 0 0 W
  num : Box d n.1 n.2 W
  ten : Box t 0 10000000 W
  row : Row8 b l W
  bel : Below a w0 W
theorem LS.below {a d t b : Nat} {l : List UInt8} {n : Int × Int} {w0 W W' : World} (h : LS a d t b l n w0 W) (hb : Below W.heap.size W W') : LS a d t b l n w0 W' :=
  ⟨h.res.below hb, h.num.below hb, h.ten.below hb, h.row.below hb, h.bel.trans (hb.mono (Nat.le_of_lt h.res.lt))⟩
theorem LS.put {a d t b : Nat} {l : List UInt8} {n m : Int × Int} {w0 W : World} (h : LS a d t b l n w0 W) (h1 : d ≠ a) (h2 : d ≠ t) (h3 : d ≠ b) (h4 : a ≤ d) : LS a d t b l m w0 ((W.setCell ⟨d, 0, none⟩ (.int .i64 m.1)).setCell ⟨d, 1, none⟩ (.int .i64 m.2)) :=
  ⟨box_other (box_other h.res _ _ _ h1) _ _ _ h1, h.num.put, box_other (box_other h.ten _ _ _ h2) _ _ _ h2, (h.row.put _ _ _ h3).put _ _ _ h3, (h.bel.setCell (p := ⟨d, 0, none⟩) h4 _).setCell (p := ⟨d, 1, none⟩) h4 _⟩
theorem conv_in (s : ByteArray) (W : World) : (convert 9 105 (.string s)).run Tryz.prog W = .ok (.slice (some ⟨W.heap.size, 0, none⟩) s.size (grownCap W s.size 0 5)) (Lib.bytesWorld W 5 s) := Lib.run_convert_string_bytes W _ _ _ s (u := .string) (by kernel_rfl) (by kernel_rfl) (by kernel_rfl)
theorem conv_row (l : List UInt8) (W : World) : Row8 W.heap.size l (Lib.bytesWorld W 5 (ba l)) :=
  ⟨by rw [Lib.bytesWorld_size]; omega, fun j hj => by rw [Lib.bytesWorld_cell W _ _ j (by rw [ba_size]; exact hj), ba_list, getD_at _ _ hj]⟩
theorem conv_below (s : ByteArray) (W : World) : Below W.heap.size W (Lib.bytesWorld W 5 s) := by
  unfold Lib.bytesWorld
  exact Lib.below_freeze ((Below.drew (Below.refl W.heap.size W)).alloc (Nat.le_refl _) _) (p := ⟨W.heap.size, _, none⟩) (Nat.le_refl _) _
theorem rep6 : (⟨(Lib.repeatL (⟨#[48]⟩ : ByteArray).data.toList 6).toArray⟩ : ByteArray) = ba [48, 48, 48, 48, 48, 48] := by decide +kernel
theorem rep_call (w : World) : Calls Tryz.prog 96 #[.string ⟨#[48]⟩, .int .i64 6] w fun e w' => e = .returned (.string (ba [48, 48, 48, 48, 48, 48])) ∧ Below w.heap.size w w' := by
  have := Tryz.strings_Repeat ⟨#[48]⟩ 6 w (by omega) (by show 1 * 6 ≤ _; omega)
  rw [rep6] at this
  exact this
theorem triml_call (a : List UInt8) (w : World) : Calls Tryz.prog 97 #[.string (ba a), .string ⟨#[48]⟩] w fun e w' => e = .returned (.string (ba (a.dropWhile (· == 48)))) ∧ w' = w := Tryz.strings_TrimLeft_one (ba a) 48 (by decide) w
theorem six_cut (b : List UInt8) : (ba b ++ ba [48, 48, 48, 48, 48, 48]).extract 0 6 = ba (sixL b) := ext_list (by rw [extract_list, ba_app, ba_list, ba_list]; rfl)
set_option maxHeartbeats 1600000 in
set_option maxRecDepth 100000 in
theorem lit_some (s : ByteArray) (w : World) (hs : s.size ≤ 1000000000) (h : (partsS s.data.toList).2.2 = true) :
    Calls Tryz.prog 55 #[.string s] w fun e w' => e = .returned (.tuple #[.agg #[.int .i64 (litS s.data.toList).1.1, .int .i64 (litS s.data.toList).1.2], .bool true]) ∧ Below w.heap.size w w' := by
  have cp := fun W => parts_call s W hs
  rw [h] at cp
  have hl : litS s.data.toList = (mk false (valU ((partsS s.data.toList).1 ++ sixL (partsS s.data.toList).2.1)), true) := by unfold litS; rw [parts_lit, h]; rfl
  have hp : litP s.data.toList = some ((partsS s.data.toList).1, (partsS s.data.toList).2.1) := by rw [parts_lit, h]; rfl
  have hall := litP_all hp
  have ha1 : (partsS s.data.toList).1.length ≤ 1000000000 := by
    have : (partsS s.data.toList).1.length ≤ s.data.toList.length := (List.takeWhile_sublist _).length_le
    rw [← Lib.size_eq] at this
    omega
  have hb1 : (partsS s.data.toList).2.1.length ≤ 1000000000 := by
    have h1 : (s.data.toList.dropWhile digB).length ≤ s.data.toList.length := (List.dropWhile_sublist _).length_le
    have h2 : (partsS s.data.toList).2.1.length ≤ (s.data.toList.dropWhile digB).length := by
      unfold partsS
      simp only
      split
      · have := (List.takeWhile_sublist (l := (s.data.toList.dropWhile digB).tail) digB).length_le
        rw [List.length_tail] at this
        omega
      · simp
    rw [← Lib.size_eq] at h1
    omega
  rw [hl, ← fold_lit _ _ hall.1 hall.2]
  clear h hl hp hs
  generalize (partsS s.data.toList).1 = a at *
  generalize (partsS s.data.toList).2.1 = b at *
  have ha2 : (a.dropWhile (· == 48)).length ≤ a.length := (List.dropWhile_sublist _).length_le
  have hdig : (a.dropWhile (· == 48) ++ sixL b).all digB = true := by rw [List.all_append, trimL_all a hall.1, six_all b hall.2]; rfl
  have hb6 : (sixL b).length ≤ 6 := by unfold sixL; rw [List.length_take]; omega
  have ct := fun W => triml_call a W
  have hcat : ba (a.dropWhile (· == 48)) ++ ba (sixL b) = ba (a.dropWhile (· == 48) ++ sixL b) := ba_app _ _
  generalize hL : a.dropWhile (· == 48) ++ sixL b = L at *
  have hLl : L.length ≤ 1000000006 := by rw [← hL, List.length_append]; omega
  have hB := Aside0.mk ((Below.refl w.heap.size w).alloc (Nat.le_refl _) (Obj.cells #[.int .i64 0, .int .i64 0] 32))
  have hX := Aside0.mk (box_new 0 0 w)
  have s1 : (ba b).size ≤ 1000000000 := by rw [ba_size]; exact hb1
  have s2 : (ba [48, 48, 48, 48, 48, 48]).size ≤ 6 := Nat.le_refl _
  have s5 : 6 ≤ (ba [48, 48, 48, 48, 48, 48]).size := Nat.le_refl _
  have s3 : (ba (a.dropWhile (· == 48))).size ≤ 1000000000 := by rw [ba_size]; omega
  have s4 : (ba (sixL b)).size ≤ 6 := by rw [ba_size]; exact hb6
  have hcut := six_cut b
  obtain ⟨R, hR⟩ : ∃ R, L.foldl stepL (0, 0) = R := ⟨_, rfl⟩
  rw [hR]
  have HR := Aside0.mk hR
  have HD := Aside0.mk hdig
  have HC := Aside0.mk (And.intro hcat hL)
  clear hR hdig hcat hL hall ha1 hb1 ha2 hb6
  generalize a.dropWhile (· == 48) = a' at *
  go_enter Tryz.func55, Tryz.ntmps55
  go_wp2_with fail
  refine (cp _).mono ?_
  rintro e w1 ⟨rfl, b1⟩
  have B1 := Aside0.mk (hB.out.trans (b1.mono (by simp)))
  have X1 := Aside0.mk (hX.out.below b1)
  clear b1 cp hB hX
  go_wp2_with fail
  refine (rep_call _).mono ?_
  rintro e w2 ⟨rfl, b2⟩
  have B2 := Aside0.mk (chain B1.out (Nat.le_refl _) b2)
  have X2 := Aside0.mk (X1.out.below b2)
  clear b2 B1 X1
  go_wp2_with fail
  refine (ten_call _).mono ?_
  rintro e w3 ⟨rfl, b3⟩
  have Y3 := (box_new 0 0 w2).below b3
  have Z2 := (X2.out.below ((Below.refl w2.heap.size w2).alloc (Nat.le_refl _) (Obj.cells #[.int .i64 0, .int .i64 0] 32))).below b3
  have B3 := chain (B2.out.alloc B2.out.size (Obj.cells #[.int .i64 0, .int .i64 0] 32)) (Nat.le_refl _) b3
  have g1 := X2.out.lt
  have g2 := Y3.lt
  have al := (Below.refl w3.heap.size w3).alloc (Nat.le_refl _) (Obj.cells #[.int .i64 0, .int .i64 10000000] 32)
  obtain ⟨W3, hW3⟩ : ∃ W3, W3 = w3.alloc (Obj.cells #[.int .i64 0, .int .i64 10000000] 32) := ⟨_, rfl⟩
  have hsz : W3.heap.size = w3.heap.size + 1 := by rw [hW3]; simp
  have cb := conv_below (ba L) W3
  have hrow := conv_row L W3
  rw [hsz] at hrow
  have hten : Box w3.heap.size 0 10000000 W3 := by rw [hW3]; exact box_new 0 10000000 w3
  rw [← hW3] at al
  have hLS : LS w.heap.size w2.heap.size w3.heap.size (w3.heap.size + 1) L (0, 0) w (Lib.bytesWorld W3 5 (ba L)) :=
    ⟨(Z2.below al).below cb, (Y3.below al).below cb, hten.below cb, hrow, chain (chain B3 (Nat.le_refl _) al) (Nat.le_refl _) cb⟩
  have hcv := conv_in (ba L) W3
  rw [hW3] at hcv hLS
  have HS := Aside0.mk hLS
  have hcat := HC.out.1
  clear hLS hrow hten cb al Z2 Y3 B3 b3 hW3 hsz W3 HC B2 X2
  go_wp2_with fail
  refine (ct _).mono ?_
  rintro e w4 ⟨rfl, rfl⟩
  clear ct
  go_wp2_with fail
  obtain ⟨cap, hcap⟩ : ∃ cap, grownCap (w3.alloc (Obj.cells #[.int .i64 0, .int .i64 10000000] 32)) (ba L).size 0 5 = cap := ⟨_, rfl⟩
  have hsz1 : (ba L).size ≤ L.length := by rw [ba_size]; exact Nat.le_refl _
  have hsz2 : L.length ≤ (ba L).size := by rw [ba_size]; exact Nat.le_refl _
  rw [hcap]
  clear hcap hcv hcat hcut s1 s2 s3 s4 s5
  have g12 : w2.heap.size ≠ w.heap.size ∧ w2.heap.size ≠ w3.heap.size ∧ w2.heap.size ≠ w3.heap.size + 1 ∧ w.heap.size ≤ w2.heap.size := by omega
  have G := Aside0.mk g12
  clear g12
  go_loopg [32] L.length (fun kq v32 w' => ∃ (i : Nat) (n : Int × Int), v32 = .int .i64 (i : Int) ∧ Aside0 (LS w.heap.size w2.heap.size w3.heap.size (w3.heap.size + 1) L n w w') ∧ Aside0 ((L.drop i).foldl stepL n = R) ∧ Aside0 (Nm n) ∧ Aside0 (i + kq = L.length))
  case atStart => exact ⟨0, (0, 0), rfl, HS, ⟨by rw [List.drop_zero]; exact HR.out⟩, ⟨.inl ⟨rfl, by omega, by omega⟩⟩, ⟨by omega⟩⟩
  case round =>
    obtain ⟨i, n, rfl, HS1, HR1, HN, HK⟩ := hrel
    have hK := HK.out
    clear HS HR
    by_cases hi : i < L.length
    · have hR := HR1.out
      rw [List.drop_eq_getElem_cons hi, List.foldl_cons] at hR
      have hdg := List.all_eq_true.1 HD.out L[i] (List.getElem_mem hi)
      rw [digB_iff] at hdg
      have hS1 := HS1.out
      have hcell := hS1.row.2 i hi
      have n0 := hS1.num.c0
      have n1 := hS1.num.c1
      have t0 := hS1.ten.c0
      have t1 := hS1.ten.c1
      have hN := HN.out
      have hm := mul_call n (0, 10000000) (nm_i64 hN) (by unfold I64; omega) wr
      have hmn : Nm (mulS (nrm n) (nrm (0, 10000000))) := nm_mul hN (.inl ⟨rfl, by omega, by omega⟩)
      obtain ⟨k1, rfl⟩ : ∃ k1, gk = k1 + 1 := ⟨gk - 1, by omega⟩
      generalize hc : L[i] = c at *
      have ha := fun W => add_call (mulS (nrm n) (nrm (0, 10000000))) (0, (c.toNat : Int) - 48) (nm_i64 hmn) (by unfold I64; simp only; omega) W
      have hstep : stepL n c = addS (nrm (mulS (nrm n) (nrm (0, 10000000)))) (nrm (0, (c.toNat : Int) - 48)) := rfl
      rw [← hstep] at ha
      have hsn : Nm (stepL n c) := nm_add (nrm_Nm hmn) (nrm_Nm (.inl ⟨rfl, by simp only; omega, by simp only; omega⟩))
      generalize stepL n c = n2 at *
      generalize mulS (nrm n) (nrm (0, 10000000)) = m at *
      have HR2 := Aside0.mk hR
      have HN2 := Aside0.mk hsn
      obtain ⟨dg1, dg2⟩ := hdg
      clear hR hstep hsn hmn hN hc HR1 HN
      go_wp2_with fail
      refine hm.mono ?_
      rintro e w5 ⟨rfl, b5⟩
      have hS2 := hS1.below b5
      clear hS1 HS1 b5
      go_wp2_with fail
      refine (ha _).mono ?_
      rintro e w6 ⟨rfl, b6⟩
      have hS3 := hS2.below b6
      have HS4 := Aside0.mk (hS3.put (m := n2) G.out.1 G.out.2.1 G.out.2.2.1 G.out.2.2.2)
      have q0 := hS3.num.c0
      have q1 := hS3.num.c1
      have z0 := hS3.num.fr 0
      have z1 := hS3.num.fr 1
      clear hS2 hS3 b6
      go_wp2_with fail
      go_roundg k1
      case measure => omega
      case rel => exact ⟨i + 1, n2, by go_num, HS4, HR2, HN2, ⟨by omega⟩⟩
    · have hR := HR1.out
      rw [List.drop_eq_nil_of_le (by omega)] at hR
      have hn : n = R := hR
      subst hn
      have hS1 := HS1.out
      have n0 := hS1.num.c0
      have n1 := hS1.num.c1
      have r0 := hS1.res.c0
      have r1 := hS1.res.c1
      have z0 := hS1.res.fr 0
      have z1 := hS1.res.fr 1
      clear hS1 hR HR1
      go_wp2_with fail
      refine bodyPost_ret (results_ct rfl _ _ w.heap.size 32 #[.int .i64 n.1, .int .i64 n.2] (0, 0) _ rfl (HS1.out.res.put) Tryz.underlying32 rfl (by kernel_rfl)) rfl ?_
      exact ⟨rfl, (HS1.out.bel.setCell (p := ⟨w.heap.size, 0, none⟩) (Nat.le_refl _) _).setCell (p := ⟨w.heap.size, 1, none⟩) (Nat.le_refl _) _⟩
theorem lit_call (s : ByteArray) (w : World) (hs : s.size ≤ 1000000000) :
    Calls Tryz.prog 55 #[.string s] w fun e w' => e = .returned (.tuple #[.agg #[.int .i64 (litS s.data.toList).1.1, .int .i64 (litS s.data.toList).1.2], .bool (litS s.data.toList).2]) ∧ Below w.heap.size w w' := by
  cases h : (partsS s.data.toList).2.2 with
  | false =>
    have e : litS s.data.toList = ((0, 0), false) := by unfold litS; rw [parts_lit, h]; rfl
    rw [e]
    exact lit_none s w hs h
  | true =>
    have e : (litS s.data.toList).2 = true := by unfold litS; rw [parts_lit, h]; rfl
    rw [e]
    exact lit_some s w hs h
end Go.Proofs.YthilcidoacgdfaaGreatDoor.FigH
