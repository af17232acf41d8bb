/- The law of figure that tells two numbers apart: its walk. -/
import Derived.Test.YthilcidoacgdfaaDoorKoFigL
namespace Go.Proofs.YthilcidoacgdfaaDoor.DecA
end Go.Proofs.YthilcidoacgdfaaDoor.DecA
namespace Go.Proofs.YthilcidoacgdfaaDoor.DecE
end Go.Proofs.YthilcidoacgdfaaDoor.DecE
namespace Go.Proofs.YthilcidoacgdfaaDoor.DecF
end Go.Proofs.YthilcidoacgdfaaDoor.DecF
namespace Go.Proofs.YthilcidoacgdfaaDoor.FigA
end Go.Proofs.YthilcidoacgdfaaDoor.FigA
namespace Go.Proofs.YthilcidoacgdfaaDoor.FigB
end Go.Proofs.YthilcidoacgdfaaDoor.FigB
namespace Go.Proofs.YthilcidoacgdfaaDoor.FigD
end Go.Proofs.YthilcidoacgdfaaDoor.FigD
namespace Go.Proofs.YthilcidoacgdfaaDoor.FigE
end Go.Proofs.YthilcidoacgdfaaDoor.FigE
namespace Go.Proofs.YthilcidoacgdfaaDoor.FigF
end Go.Proofs.YthilcidoacgdfaaDoor.FigF
namespace Go.Proofs.YthilcidoacgdfaaDoor.FigG
end Go.Proofs.YthilcidoacgdfaaDoor.FigG
namespace Go.Proofs.YthilcidoacgdfaaDoor.FigH
end Go.Proofs.YthilcidoacgdfaaDoor.FigH
namespace Go.Proofs.YthilcidoacgdfaaDoor.FigI
end Go.Proofs.YthilcidoacgdfaaDoor.FigI
namespace Go.Proofs.YthilcidoacgdfaaDoor.FigJ
end Go.Proofs.YthilcidoacgdfaaDoor.FigJ
namespace Go.Proofs.YthilcidoacgdfaaDoor.FigK
end Go.Proofs.YthilcidoacgdfaaDoor.FigK
namespace Go.Proofs.YthilcidoacgdfaaDoor.FigL
end Go.Proofs.YthilcidoacgdfaaDoor.FigL
namespace Go.Proofs.YthilcidoacgdfaaDoor.SpanA
end Go.Proofs.YthilcidoacgdfaaDoor.SpanA
namespace Go.Proofs.YthilcidoacgdfaaDoorW.PrintLast
end Go.Proofs.YthilcidoacgdfaaDoorW.PrintLast
namespace Go.Proofs.YthilcidoacgdfaaDoorW.PrintMore
end Go.Proofs.YthilcidoacgdfaaDoorW.PrintMore
namespace Go.Proofs.YthilcidoacgdfaaDoorW.PrintWords
end Go.Proofs.YthilcidoacgdfaaDoorW.PrintWords
namespace Go.Proofs.YthilcidoacgdfaaDoor.FigN
open Go.RowKit Go.Shelf Go.Proofs.YthilcidoacgdfaaDoorW.PrintWords Go.Proofs.YthilcidoacgdfaaDoorW.PrintLast Go.Proofs.YthilcidoacgdfaaDoorW.PrintMore Go.Proofs.YthilcidoacgdfaaDoor.SpanA Go.Proofs.YthilcidoacgdfaaDoor.DecA Go.Proofs.YthilcidoacgdfaaDoor.DecE Go.Proofs.YthilcidoacgdfaaDoor.DecF Go.Proofs.YthilcidoacgdfaaDoor.FigA Go.Proofs.YthilcidoacgdfaaDoor.FigB Go.Proofs.YthilcidoacgdfaaDoor.FigD Go.Proofs.YthilcidoacgdfaaDoor.FigE Go.Proofs.YthilcidoacgdfaaDoor.FigF Go.Proofs.YthilcidoacgdfaaDoor.FigG Go.Proofs.YthilcidoacgdfaaDoor.FigH Go.Proofs.YthilcidoacgdfaaDoor.FigI Go.Proofs.YthilcidoacgdfaaDoor.FigJ Go.Proofs.YthilcidoacgdfaaDoor.FigK Go.Proofs.YthilcidoacgdfaaDoor.FigL
set_option linter.unusedVariables false
set_option linter.unusedSimpArgs false
set_option linter.unnecessarySimpa false
/-- The boxes of two numbers. -/
def Two (a : Nat) (p q p' q' : Int) (w0 W : World) : Prop := Box a p q W ∧ Box (a + 1) p' q' W ∧ Below a w0 W
theorem Two.below {a : Nat} {p q p' q' : Int} {w0 W W' : World} (h : Two a p q p' q' w0 W) (hb : Below W.heap.size W W') : Two a p q p' q' w0 W' := ⟨h.1.below hb, h.2.1.below hb, h.2.2.trans (hb.mono (Nat.le_of_lt h.1.lt))⟩
theorem Two.put0 {a : Nat} {p q p' q' : Int} {w0 W : World} (h : Two a p q p' q' w0 W) (x y : Int) : Two a x y p' q' w0 ((W.setCell ⟨a, 0, none⟩ (.int .i64 x)).setCell ⟨a, 1, none⟩ (.int .i64 y)) :=
  ⟨h.1.put, box_other (box_other h.2.1 _ _ _ (by omega)) _ _ _ (by omega), (h.2.2.setCell (p := ⟨a, 0, none⟩) (Nat.le_refl _) _).setCell (p := ⟨a, 1, none⟩) (Nat.le_refl _) _⟩
theorem Two.put1 {a : Nat} {p q p' q' : Int} {w0 W : World} (h : Two a p q p' q' w0 W) (x y : Int) : Two a p q x y w0 ((W.setCell ⟨a + 1, 0, none⟩ (.int .i64 x)).setCell ⟨a + 1, 1, none⟩ (.int .i64 y)) :=
  ⟨box_other (box_other h.1 _ _ _ (by omega)) _ _ _ (by omega), h.2.1.put, (h.2.2.setCell (p := ⟨a + 1, 0, none⟩) (by simp) _).setCell (p := ⟨a + 1, 1, none⟩) (by simp) _⟩
theorem two_new (p q p' q' : Int) (w : World) : Two w.heap.size p q p' q' w ((w.alloc (Obj.cells #[.int .i64 p, .int .i64 q] 23)).alloc (Obj.cells #[.int .i64 p', .int .i64 q'] 23)) := by
  refine ⟨blk_alloc (blk_new w _) _, ?_, ((Below.refl _ _).alloc (Nat.le_refl _) _).alloc (by simp) _⟩
  have := blk_new (w.alloc (Obj.cells #[.int .i64 p, .int .i64 q] 23)) (Obj.cells #[.int .i64 p', .int .i64 q'] 23)
  have e : (w.alloc (Obj.cells #[.int .i64 p, .int .i64 q] 23)).heap.size = w.heap.size + 1 := by simp
  rw [e] at this
  exact this
theorem list_ne {x y : List UInt8} (h : x ≠ y) : ((ba x).toList == (ba y).toList) = false := by rw [nil_of, nil_of]; simpa using h
set_option maxHeartbeats 4000000 in
set_option maxRecDepth 100000 in
theorem one_rre (t v t' v' : Int) (w : World) (hT : Tabs w) (hv : I64 v) (hv' : I64 v') (ha : rightB (t, v) = true) (hb : rightB (t', v') = true) (he : ((t, v) : Int × Int) = (t', v')) :
    Calls Tryd.prog 7 #[.agg #[.int .i64 t, .int .i64 v], .agg #[.int .i64 t', .int .i64 v']] w fun e w' => e = .returned (.bool true) ∧ Below w.heap.size w w' := by
  have nma : Nm (t, v) := by have := nrm_nm (t := t) hv; rwa [nrm_of ha] at this
  have nmb : Nm (t', v') := by have := nrm_nm (t := t') hv'; rwa [nrm_of hb] at this
  have cra := fun W => right_call t v W
  have crb := fun W => right_call t' v' W
  rw [ha] at cra
  rw [hb] at crb
  have c1 := fun W => show_call t v (nm_i64 nma) W
  have c2 := fun W => show_call t' v' (nm_i64 nmb) W
  have cw : ∀ w', Below w.heap.size w w' → _ := fun w' hb => works_calls w' (tabs_below hT hb)
  have hx : ((ba (showS (t, v))).toList == (ba (showS (t', v'))).toList) = true := by rw [he]; simp
  have q1 : (t == t') = true := by simpa using congrArg Prod.fst he
  have q2 : (v == v') = true := by simpa using congrArg Prod.snd he
  generalize showS (t, v) = x at *
  generalize showS (t', v') = y at *
  have T0 := Aside0.mk (two_new t v t' v' w)
  have HX := Aside0.mk hx
  have HQ := Aside0.mk (And.intro q1 q2)
  clear q1 q2
  clear hT ha hb he nma nmb hx hv hv'
  go_enter Tryd.func7, Tryd.ntmps7
  go_wp2_with fail
  refine (cra _).mono ?_
  rintro e w1 ⟨rfl, b1⟩
  have T1 := T0.out.below b1
  have x0 := T1.1.c0
  have x1 := T1.1.c1
  have y0 := T1.2.1.c0
  have y1 := T1.2.1.c1
  have xf0 := T1.1.fr 0
  have xf1 := T1.1.fr 1
  have HT1 := Aside0.mk T1
  clear b1 T1 T0 cra
  go_wp2_with fail
  refine (crb _).mono ?_
  rintro e w2 ⟨rfl, b2⟩
  have T2 := HT1.out.below b2
  have z0 := T2.1.c0
  have z1 := T2.1.c1
  have u0 := T2.2.1.c0
  have u1 := T2.2.1.c1
  have zf0 := T2.2.1.fr 0
  have zf1 := T2.2.1.fr 1
  have T3 := T2
  have S0 := Aside0.mk (And.intro T3.1.c0 (And.intro T3.1.c1 (And.intro T3.2.1.c0 (And.intro T3.2.1.c1 T3))))
  have KS : Aside0 (∀ W W' : World, (W.cell? ⟨w.heap.size, 0, none⟩ = some (.int .i64 t) ∧ W.cell? ⟨w.heap.size, 1, none⟩ = some (.int .i64 v) ∧ W.cell? ⟨w.heap.size + 1, 0, none⟩ = some (.int .i64 t') ∧ W.cell? ⟨w.heap.size + 1, 1, none⟩ = some (.int .i64 v') ∧ Two w.heap.size t v t' v' w W) → Below W.heap.size W W' → (W'.cell? ⟨w.heap.size, 0, none⟩ = some (.int .i64 t) ∧ W'.cell? ⟨w.heap.size, 1, none⟩ = some (.int .i64 v) ∧ W'.cell? ⟨w.heap.size + 1, 0, none⟩ = some (.int .i64 t') ∧ W'.cell? ⟨w.heap.size + 1, 1, none⟩ = some (.int .i64 v') ∧ Two w.heap.size t v t' v' w W')) := ⟨fun W W' h hb => by
    have hh := h.2.2.2.2.below hb
    exact ⟨hh.1.c0, hh.1.c1, hh.2.1.c0, hh.2.1.c1, hh⟩⟩
  have CW : Aside0 (∀ W : World, (W.cell? ⟨w.heap.size, 0, none⟩ = some (.int .i64 t) ∧ W.cell? ⟨w.heap.size, 1, none⟩ = some (.int .i64 v) ∧ W.cell? ⟨w.heap.size + 1, 0, none⟩ = some (.int .i64 t') ∧ W.cell? ⟨w.heap.size + 1, 1, none⟩ = some (.int .i64 v') ∧ Two w.heap.size t v t' v' w W) → Calls Tryd.prog 13 #[] W fun e w' => e = .returned (.bool true) ∧ Below W.heap.size W w') := ⟨fun W h => cw W h.2.2.2.2.2.2⟩
  clear b2 T2 T3 HT1 crb cw x0 x1 y0 y1 xf0 xf1
  have hx := HX.out
  have q1 := HQ.out.1
  have q2 := HQ.out.2
  go_wp2_with fail
  go_region_held3 (fun W => W.cell? ⟨w.heap.size, 0, none⟩ = some (.int .i64 t) ∧ W.cell? ⟨w.heap.size, 1, none⟩ = some (.int .i64 v) ∧ W.cell? ⟨w.heap.size + 1, 0, none⟩ = some (.int .i64 t') ∧ W.cell? ⟨w.heap.size + 1, 1, none⟩ = some (.int .i64 v') ∧ Two w.heap.size t v t' v' w W) (first | exact ⟨S0.out.1, S0.out.2.1, S0.out.2.2.1, S0.out.2.2.2.1, S0.out.2.2.2.2.1, S0.out.2.2.2.2.2.1, Below.drew S0.out.2.2.2.2.2.2⟩ | exact KS.out _ _ (by assumption) (by assumption) | exact KS.out _ _ ⟨by assumption, by assumption, by assumption, by assumption, by assumption⟩ (by assumption))
    (first | (go_at_call 11; first | ((with_reducible refine (c1 _).mono ?_); rintro e w' ⟨rfl, hb⟩) | ((with_reducible refine (c2 _).mono ?_); rintro e w' ⟨rfl, hb⟩)) | (go_at_call 13; refine (CW.out _ (by assumption)).mono ?_; rintro e w' ⟨rfl, hb⟩))
  go_wp2_with fail
  go_ret
  refine ⟨by first | rfl | (simp [hx]; done), ?_⟩
  have hS : ∀ W : World, (W.cell? ⟨w.heap.size, 0, none⟩ = some (.int .i64 t) ∧ W.cell? ⟨w.heap.size, 1, none⟩ = some (.int .i64 v) ∧ W.cell? ⟨w.heap.size + 1, 0, none⟩ = some (.int .i64 t') ∧ W.cell? ⟨w.heap.size + 1, 1, none⟩ = some (.int .i64 v') ∧ Two w.heap.size t v t' v' w W) → Below w.heap.size w W := fun W h => h.2.2.2.2.2.2
  first | assumption | exact hS _ (by assumption) | exact hS _ (KS.out _ _ (by assumption) (by assumption))
set_option maxHeartbeats 4000000 in
set_option maxRecDepth 100000 in
theorem one_rrf (t v t' v' : Int) (w : World) (hT : Tabs w) (hv : I64 v) (hv' : I64 v') (ha : rightB (t, v) = true) (hb : rightB (t', v') = true) (he : ¬ (t : Int) = t') :
    Calls Tryd.prog 7 #[.agg #[.int .i64 t, .int .i64 v], .agg #[.int .i64 t', .int .i64 v']] w fun e w' => e = .returned (.bool true) ∧ Below w.heap.size w w' := by
  have nma : Nm (t, v) := by have := nrm_nm (t := t) hv; rwa [nrm_of ha] at this
  have nmb : Nm (t', v') := by have := nrm_nm (t := t') hv'; rwa [nrm_of hb] at this
  have cra := fun W => right_call t v W
  have crb := fun W => right_call t' v' W
  rw [ha] at cra
  rw [hb] at crb
  have c1 := fun W => show_call t v (nm_i64 nma) W
  have c2 := fun W => show_call t' v' (nm_i64 nmb) W
  have cw : ∀ w', Below w.heap.size w w' → _ := fun w' hb => works_calls w' (tabs_below hT hb)
  have hx := list_ne (fun h => he (congrArg Prod.fst ((show_one nma nmb).1 h)))
  have q1 : ((t : Int) == t') = false := by rw [beq_eq_false_iff_ne]; exact he
  have q2 : True := trivial
  generalize showS (t, v) = x at *
  generalize showS (t', v') = y at *
  have T0 := Aside0.mk (two_new t v t' v' w)
  have HX := Aside0.mk hx
  have HQ := Aside0.mk (And.intro q1 q2)
  clear q1 q2
  clear hT ha hb he nma nmb hx hv hv'
  go_enter Tryd.func7, Tryd.ntmps7
  go_wp2_with fail
  refine (cra _).mono ?_
  rintro e w1 ⟨rfl, b1⟩
  have T1 := T0.out.below b1
  have x0 := T1.1.c0
  have x1 := T1.1.c1
  have y0 := T1.2.1.c0
  have y1 := T1.2.1.c1
  have xf0 := T1.1.fr 0
  have xf1 := T1.1.fr 1
  have HT1 := Aside0.mk T1
  clear b1 T1 T0 cra
  go_wp2_with fail
  refine (crb _).mono ?_
  rintro e w2 ⟨rfl, b2⟩
  have T2 := HT1.out.below b2
  have z0 := T2.1.c0
  have z1 := T2.1.c1
  have u0 := T2.2.1.c0
  have u1 := T2.2.1.c1
  have zf0 := T2.2.1.fr 0
  have zf1 := T2.2.1.fr 1
  have T3 := T2
  have S0 := Aside0.mk (And.intro T3.1.c0 (And.intro T3.1.c1 (And.intro T3.2.1.c0 (And.intro T3.2.1.c1 T3))))
  have KS : Aside0 (∀ W W' : World, (W.cell? ⟨w.heap.size, 0, none⟩ = some (.int .i64 t) ∧ W.cell? ⟨w.heap.size, 1, none⟩ = some (.int .i64 v) ∧ W.cell? ⟨w.heap.size + 1, 0, none⟩ = some (.int .i64 t') ∧ W.cell? ⟨w.heap.size + 1, 1, none⟩ = some (.int .i64 v') ∧ Two w.heap.size t v t' v' w W) → Below W.heap.size W W' → (W'.cell? ⟨w.heap.size, 0, none⟩ = some (.int .i64 t) ∧ W'.cell? ⟨w.heap.size, 1, none⟩ = some (.int .i64 v) ∧ W'.cell? ⟨w.heap.size + 1, 0, none⟩ = some (.int .i64 t') ∧ W'.cell? ⟨w.heap.size + 1, 1, none⟩ = some (.int .i64 v') ∧ Two w.heap.size t v t' v' w W')) := ⟨fun W W' h hb => by
    have hh := h.2.2.2.2.below hb
    exact ⟨hh.1.c0, hh.1.c1, hh.2.1.c0, hh.2.1.c1, hh⟩⟩
  have CW : Aside0 (∀ W : World, (W.cell? ⟨w.heap.size, 0, none⟩ = some (.int .i64 t) ∧ W.cell? ⟨w.heap.size, 1, none⟩ = some (.int .i64 v) ∧ W.cell? ⟨w.heap.size + 1, 0, none⟩ = some (.int .i64 t') ∧ W.cell? ⟨w.heap.size + 1, 1, none⟩ = some (.int .i64 v') ∧ Two w.heap.size t v t' v' w W) → Calls Tryd.prog 13 #[] W fun e w' => e = .returned (.bool true) ∧ Below W.heap.size W w') := ⟨fun W h => cw W h.2.2.2.2.2.2⟩
  clear b2 T2 T3 HT1 crb cw x0 x1 y0 y1 xf0 xf1
  have hx := HX.out
  have q1 := HQ.out.1
  go_wp2_with fail
  go_region_held3 (fun W => W.cell? ⟨w.heap.size, 0, none⟩ = some (.int .i64 t) ∧ W.cell? ⟨w.heap.size, 1, none⟩ = some (.int .i64 v) ∧ W.cell? ⟨w.heap.size + 1, 0, none⟩ = some (.int .i64 t') ∧ W.cell? ⟨w.heap.size + 1, 1, none⟩ = some (.int .i64 v') ∧ Two w.heap.size t v t' v' w W) (first | exact ⟨S0.out.1, S0.out.2.1, S0.out.2.2.1, S0.out.2.2.2.1, S0.out.2.2.2.2.1, S0.out.2.2.2.2.2.1, Below.drew S0.out.2.2.2.2.2.2⟩ | exact KS.out _ _ (by assumption) (by assumption) | exact KS.out _ _ ⟨by assumption, by assumption, by assumption, by assumption, by assumption⟩ (by assumption))
    (first | (go_at_call 11; first | ((with_reducible refine (c1 _).mono ?_); rintro e w' ⟨rfl, hb⟩) | ((with_reducible refine (c2 _).mono ?_); rintro e w' ⟨rfl, hb⟩)) | (go_at_call 13; refine (CW.out _ (by assumption)).mono ?_; rintro e w' ⟨rfl, hb⟩))
  go_wp2_with fail
  go_ret
  refine ⟨by first | rfl | (simp [hx]; done), ?_⟩
  have hS : ∀ W : World, (W.cell? ⟨w.heap.size, 0, none⟩ = some (.int .i64 t) ∧ W.cell? ⟨w.heap.size, 1, none⟩ = some (.int .i64 v) ∧ W.cell? ⟨w.heap.size + 1, 0, none⟩ = some (.int .i64 t') ∧ W.cell? ⟨w.heap.size + 1, 1, none⟩ = some (.int .i64 v') ∧ Two w.heap.size t v t' v' w W) → Below w.heap.size w W := fun W h => h.2.2.2.2.2.2
  first | assumption | exact hS _ (by assumption) | exact hS _ (KS.out _ _ (by assumption) (by assumption))
set_option maxHeartbeats 4000000 in
set_option maxRecDepth 100000 in
theorem one_rrg (t v t' v' : Int) (w : World) (hT : Tabs w) (hv : I64 v) (hv' : I64 v') (ha : rightB (t, v) = true) (hb : rightB (t', v') = true) (he0 : (t : Int) = t') (he : ¬ (v : Int) = v') :
    Calls Tryd.prog 7 #[.agg #[.int .i64 t, .int .i64 v], .agg #[.int .i64 t', .int .i64 v']] w fun e w' => e = .returned (.bool true) ∧ Below w.heap.size w w' := by
  have nma : Nm (t, v) := by have := nrm_nm (t := t) hv; rwa [nrm_of ha] at this
  have nmb : Nm (t', v') := by have := nrm_nm (t := t') hv'; rwa [nrm_of hb] at this
  have cra := fun W => right_call t v W
  have crb := fun W => right_call t' v' W
  rw [ha] at cra
  rw [hb] at crb
  have c1 := fun W => show_call t v (nm_i64 nma) W
  have c2 := fun W => show_call t' v' (nm_i64 nmb) W
  have cw : ∀ w', Below w.heap.size w w' → _ := fun w' hb => works_calls w' (tabs_below hT hb)
  have hx := list_ne (fun h => he (congrArg Prod.snd ((show_one nma nmb).1 h)))
  have q1 : ((t : Int) == t') = true := by rw [beq_iff_eq]; exact he0
  have q2 : ((v : Int) == v') = false := by rw [beq_eq_false_iff_ne]; exact he
  clear he0
  generalize showS (t, v) = x at *
  generalize showS (t', v') = y at *
  have T0 := Aside0.mk (two_new t v t' v' w)
  have HX := Aside0.mk hx
  have HQ := Aside0.mk (And.intro q1 q2)
  clear q1 q2
  clear hT ha hb he nma nmb hx hv hv'
  go_enter Tryd.func7, Tryd.ntmps7
  go_wp2_with fail
  refine (cra _).mono ?_
  rintro e w1 ⟨rfl, b1⟩
  have T1 := T0.out.below b1
  have x0 := T1.1.c0
  have x1 := T1.1.c1
  have y0 := T1.2.1.c0
  have y1 := T1.2.1.c1
  have xf0 := T1.1.fr 0
  have xf1 := T1.1.fr 1
  have HT1 := Aside0.mk T1
  clear b1 T1 T0 cra
  go_wp2_with fail
  refine (crb _).mono ?_
  rintro e w2 ⟨rfl, b2⟩
  have T2 := HT1.out.below b2
  have z0 := T2.1.c0
  have z1 := T2.1.c1
  have u0 := T2.2.1.c0
  have u1 := T2.2.1.c1
  have zf0 := T2.2.1.fr 0
  have zf1 := T2.2.1.fr 1
  have T3 := T2
  have S0 := Aside0.mk (And.intro T3.1.c0 (And.intro T3.1.c1 (And.intro T3.2.1.c0 (And.intro T3.2.1.c1 T3))))
  have KS : Aside0 (∀ W W' : World, (W.cell? ⟨w.heap.size, 0, none⟩ = some (.int .i64 t) ∧ W.cell? ⟨w.heap.size, 1, none⟩ = some (.int .i64 v) ∧ W.cell? ⟨w.heap.size + 1, 0, none⟩ = some (.int .i64 t') ∧ W.cell? ⟨w.heap.size + 1, 1, none⟩ = some (.int .i64 v') ∧ Two w.heap.size t v t' v' w W) → Below W.heap.size W W' → (W'.cell? ⟨w.heap.size, 0, none⟩ = some (.int .i64 t) ∧ W'.cell? ⟨w.heap.size, 1, none⟩ = some (.int .i64 v) ∧ W'.cell? ⟨w.heap.size + 1, 0, none⟩ = some (.int .i64 t') ∧ W'.cell? ⟨w.heap.size + 1, 1, none⟩ = some (.int .i64 v') ∧ Two w.heap.size t v t' v' w W')) := ⟨fun W W' h hb => by
    have hh := h.2.2.2.2.below hb
    exact ⟨hh.1.c0, hh.1.c1, hh.2.1.c0, hh.2.1.c1, hh⟩⟩
  have CW : Aside0 (∀ W : World, (W.cell? ⟨w.heap.size, 0, none⟩ = some (.int .i64 t) ∧ W.cell? ⟨w.heap.size, 1, none⟩ = some (.int .i64 v) ∧ W.cell? ⟨w.heap.size + 1, 0, none⟩ = some (.int .i64 t') ∧ W.cell? ⟨w.heap.size + 1, 1, none⟩ = some (.int .i64 v') ∧ Two w.heap.size t v t' v' w W) → Calls Tryd.prog 13 #[] W fun e w' => e = .returned (.bool true) ∧ Below W.heap.size W w') := ⟨fun W h => cw W h.2.2.2.2.2.2⟩
  clear b2 T2 T3 HT1 crb cw x0 x1 y0 y1 xf0 xf1
  have hx := HX.out
  have q1 := HQ.out.1
  have q2 := HQ.out.2
  go_wp2_with fail
  go_region_held3 (fun W => W.cell? ⟨w.heap.size, 0, none⟩ = some (.int .i64 t) ∧ W.cell? ⟨w.heap.size, 1, none⟩ = some (.int .i64 v) ∧ W.cell? ⟨w.heap.size + 1, 0, none⟩ = some (.int .i64 t') ∧ W.cell? ⟨w.heap.size + 1, 1, none⟩ = some (.int .i64 v') ∧ Two w.heap.size t v t' v' w W) (first | exact ⟨S0.out.1, S0.out.2.1, S0.out.2.2.1, S0.out.2.2.2.1, S0.out.2.2.2.2.1, S0.out.2.2.2.2.2.1, Below.drew S0.out.2.2.2.2.2.2⟩ | exact KS.out _ _ (by assumption) (by assumption) | exact KS.out _ _ ⟨by assumption, by assumption, by assumption, by assumption, by assumption⟩ (by assumption))
    (first | (go_at_call 11; first | ((with_reducible refine (c1 _).mono ?_); rintro e w' ⟨rfl, hb⟩) | ((with_reducible refine (c2 _).mono ?_); rintro e w' ⟨rfl, hb⟩)) | (go_at_call 13; refine (CW.out _ (by assumption)).mono ?_; rintro e w' ⟨rfl, hb⟩))
  go_wp2_with fail
  go_ret
  refine ⟨by first | rfl | (simp [hx]; done), ?_⟩
  have hS : ∀ W : World, (W.cell? ⟨w.heap.size, 0, none⟩ = some (.int .i64 t) ∧ W.cell? ⟨w.heap.size, 1, none⟩ = some (.int .i64 v) ∧ W.cell? ⟨w.heap.size + 1, 0, none⟩ = some (.int .i64 t') ∧ W.cell? ⟨w.heap.size + 1, 1, none⟩ = some (.int .i64 v') ∧ Two w.heap.size t v t' v' w W) → Below w.heap.size w W := fun W h => h.2.2.2.2.2.2
  first | assumption | exact hS _ (by assumption) | exact hS _ (KS.out _ _ (by assumption) (by assumption))
set_option maxHeartbeats 4000000 in
set_option maxRecDepth 100000 in
theorem one_rne (t v t' v' : Int) (w : World) (hT : Tabs w) (hv : I64 v) (hv' : I64 v') (ha : rightB (t, v) = true) (hb : rightB (t', v') = false) (he : ((t, v) : Int × Int) = (1, 0)) :
    Calls Tryd.prog 7 #[.agg #[.int .i64 t, .int .i64 v], .agg #[.int .i64 t', .int .i64 v']] w fun e w' => e = .returned (.bool true) ∧ Below w.heap.size w w' := by
  have nma : Nm (t, v) := by have := nrm_nm (t := t) hv; rwa [nrm_of ha] at this
  have nmb : Nm (1, 0) := by have := nrm_nm (t := t') hv'; exact .inr ⟨.inl rfl, rfl⟩
  have cra := fun W => right_call t v W
  have crb := fun W => right_call t' v' W
  rw [ha] at cra
  rw [hb] at crb
  have c1 := fun W => show_call t v (nm_i64 nma) W
  have c2 := fun W => show_call 1 0 (nm_i64 nmb) W
  have cw : ∀ w', Below w.heap.size w w' → _ := fun w' hb => works_calls w' (tabs_below hT hb)
  have hx : ((ba (showS (t, v))).toList == (ba (showS (1, 0))).toList) = true := by rw [he]; simp
  have q1 : (t == 1) = true := by simpa using congrArg Prod.fst he
  have q2 : (v == 0) = true := by simpa using congrArg Prod.snd he
  generalize showS (t, v) = x at *
  generalize showS (1, 0) = y at *
  have T0 := Aside0.mk (two_new t v t' v' w)
  have HX := Aside0.mk hx
  have HQ := Aside0.mk (And.intro q1 q2)
  clear q1 q2
  clear hT ha hb he nma nmb hx hv hv'
  go_enter Tryd.func7, Tryd.ntmps7
  go_wp2_with fail
  refine (cra _).mono ?_
  rintro e w1 ⟨rfl, b1⟩
  have T1 := T0.out.below b1
  have x0 := T1.1.c0
  have x1 := T1.1.c1
  have y0 := T1.2.1.c0
  have y1 := T1.2.1.c1
  have xf0 := T1.1.fr 0
  have xf1 := T1.1.fr 1
  have HT1 := Aside0.mk T1
  clear b1 T1 T0 cra
  go_wp2_with fail
  refine (crb _).mono ?_
  rintro e w2 ⟨rfl, b2⟩
  have T2 := HT1.out.below b2
  have z0 := T2.1.c0
  have z1 := T2.1.c1
  have u0 := T2.2.1.c0
  have u1 := T2.2.1.c1
  have zf0 := T2.2.1.fr 0
  have zf1 := T2.2.1.fr 1
  have T3 := T2.put1 1 0
  have S0 := Aside0.mk (And.intro T3.1.c0 (And.intro T3.1.c1 (And.intro T3.2.1.c0 (And.intro T3.2.1.c1 T3))))
  have KS : Aside0 (∀ W W' : World, (W.cell? ⟨w.heap.size, 0, none⟩ = some (.int .i64 t) ∧ W.cell? ⟨w.heap.size, 1, none⟩ = some (.int .i64 v) ∧ W.cell? ⟨w.heap.size + 1, 0, none⟩ = some (.int .i64 1) ∧ W.cell? ⟨w.heap.size + 1, 1, none⟩ = some (.int .i64 0) ∧ Two w.heap.size t v 1 0 w W) → Below W.heap.size W W' → (W'.cell? ⟨w.heap.size, 0, none⟩ = some (.int .i64 t) ∧ W'.cell? ⟨w.heap.size, 1, none⟩ = some (.int .i64 v) ∧ W'.cell? ⟨w.heap.size + 1, 0, none⟩ = some (.int .i64 1) ∧ W'.cell? ⟨w.heap.size + 1, 1, none⟩ = some (.int .i64 0) ∧ Two w.heap.size t v 1 0 w W')) := ⟨fun W W' h hb => by
    have hh := h.2.2.2.2.below hb
    exact ⟨hh.1.c0, hh.1.c1, hh.2.1.c0, hh.2.1.c1, hh⟩⟩
  have CW : Aside0 (∀ W : World, (W.cell? ⟨w.heap.size, 0, none⟩ = some (.int .i64 t) ∧ W.cell? ⟨w.heap.size, 1, none⟩ = some (.int .i64 v) ∧ W.cell? ⟨w.heap.size + 1, 0, none⟩ = some (.int .i64 1) ∧ W.cell? ⟨w.heap.size + 1, 1, none⟩ = some (.int .i64 0) ∧ Two w.heap.size t v 1 0 w W) → Calls Tryd.prog 13 #[] W fun e w' => e = .returned (.bool true) ∧ Below W.heap.size W w') := ⟨fun W h => cw W h.2.2.2.2.2.2⟩
  clear b2 T2 T3 HT1 crb cw x0 x1 y0 y1 xf0 xf1
  have hx := HX.out
  have q1 := HQ.out.1
  have q2 := HQ.out.2
  go_wp2_with fail
  go_region_held3 (fun W => W.cell? ⟨w.heap.size, 0, none⟩ = some (.int .i64 t) ∧ W.cell? ⟨w.heap.size, 1, none⟩ = some (.int .i64 v) ∧ W.cell? ⟨w.heap.size + 1, 0, none⟩ = some (.int .i64 1) ∧ W.cell? ⟨w.heap.size + 1, 1, none⟩ = some (.int .i64 0) ∧ Two w.heap.size t v 1 0 w W) (first | exact ⟨S0.out.1, S0.out.2.1, S0.out.2.2.1, S0.out.2.2.2.1, S0.out.2.2.2.2.1, S0.out.2.2.2.2.2.1, Below.drew S0.out.2.2.2.2.2.2⟩ | exact KS.out _ _ (by assumption) (by assumption) | exact KS.out _ _ ⟨by assumption, by assumption, by assumption, by assumption, by assumption⟩ (by assumption))
    (first | (go_at_call 11; first | ((with_reducible refine (c1 _).mono ?_); rintro e w' ⟨rfl, hb⟩) | ((with_reducible refine (c2 _).mono ?_); rintro e w' ⟨rfl, hb⟩)) | (go_at_call 13; refine (CW.out _ (by assumption)).mono ?_; rintro e w' ⟨rfl, hb⟩))
  go_wp2_with fail
  go_ret
  refine ⟨by first | rfl | (simp [hx]; done), ?_⟩
  have hS : ∀ W : World, (W.cell? ⟨w.heap.size, 0, none⟩ = some (.int .i64 t) ∧ W.cell? ⟨w.heap.size, 1, none⟩ = some (.int .i64 v) ∧ W.cell? ⟨w.heap.size + 1, 0, none⟩ = some (.int .i64 1) ∧ W.cell? ⟨w.heap.size + 1, 1, none⟩ = some (.int .i64 0) ∧ Two w.heap.size t v 1 0 w W) → Below w.heap.size w W := fun W h => h.2.2.2.2.2.2
  first | assumption | exact hS _ (by assumption) | exact hS _ (KS.out _ _ (by assumption) (by assumption))
set_option maxHeartbeats 4000000 in
set_option maxRecDepth 100000 in
theorem one_rnf (t v t' v' : Int) (w : World) (hT : Tabs w) (hv : I64 v) (hv' : I64 v') (ha : rightB (t, v) = true) (hb : rightB (t', v') = false) (he : ¬ (t : Int) = 1) :
    Calls Tryd.prog 7 #[.agg #[.int .i64 t, .int .i64 v], .agg #[.int .i64 t', .int .i64 v']] w fun e w' => e = .returned (.bool true) ∧ Below w.heap.size w w' := by
  have nma : Nm (t, v) := by have := nrm_nm (t := t) hv; rwa [nrm_of ha] at this
  have nmb : Nm (1, 0) := by have := nrm_nm (t := t') hv'; exact .inr ⟨.inl rfl, rfl⟩
  have cra := fun W => right_call t v W
  have crb := fun W => right_call t' v' W
  rw [ha] at cra
  rw [hb] at crb
  have c1 := fun W => show_call t v (nm_i64 nma) W
  have c2 := fun W => show_call 1 0 (nm_i64 nmb) W
  have cw : ∀ w', Below w.heap.size w w' → _ := fun w' hb => works_calls w' (tabs_below hT hb)
  have hx := list_ne (fun h => he (congrArg Prod.fst ((show_one nma nmb).1 h)))
  have q1 : ((t : Int) == 1) = false := by rw [beq_eq_false_iff_ne]; exact he
  have q2 : True := trivial
  generalize showS (t, v) = x at *
  generalize showS (1, 0) = y at *
  have T0 := Aside0.mk (two_new t v t' v' w)
  have HX := Aside0.mk hx
  have HQ := Aside0.mk (And.intro q1 q2)
  clear q1 q2
  clear hT ha hb he nma nmb hx hv hv'
  go_enter Tryd.func7, Tryd.ntmps7
  go_wp2_with fail
  refine (cra _).mono ?_
  rintro e w1 ⟨rfl, b1⟩
  have T1 := T0.out.below b1
  have x0 := T1.1.c0
  have x1 := T1.1.c1
  have y0 := T1.2.1.c0
  have y1 := T1.2.1.c1
  have xf0 := T1.1.fr 0
  have xf1 := T1.1.fr 1
  have HT1 := Aside0.mk T1
  clear b1 T1 T0 cra
  go_wp2_with fail
  refine (crb _).mono ?_
  rintro e w2 ⟨rfl, b2⟩
  have T2 := HT1.out.below b2
  have z0 := T2.1.c0
  have z1 := T2.1.c1
  have u0 := T2.2.1.c0
  have u1 := T2.2.1.c1
  have zf0 := T2.2.1.fr 0
  have zf1 := T2.2.1.fr 1
  have T3 := T2.put1 1 0
  have S0 := Aside0.mk (And.intro T3.1.c0 (And.intro T3.1.c1 (And.intro T3.2.1.c0 (And.intro T3.2.1.c1 T3))))
  have KS : Aside0 (∀ W W' : World, (W.cell? ⟨w.heap.size, 0, none⟩ = some (.int .i64 t) ∧ W.cell? ⟨w.heap.size, 1, none⟩ = some (.int .i64 v) ∧ W.cell? ⟨w.heap.size + 1, 0, none⟩ = some (.int .i64 1) ∧ W.cell? ⟨w.heap.size + 1, 1, none⟩ = some (.int .i64 0) ∧ Two w.heap.size t v 1 0 w W) → Below W.heap.size W W' → (W'.cell? ⟨w.heap.size, 0, none⟩ = some (.int .i64 t) ∧ W'.cell? ⟨w.heap.size, 1, none⟩ = some (.int .i64 v) ∧ W'.cell? ⟨w.heap.size + 1, 0, none⟩ = some (.int .i64 1) ∧ W'.cell? ⟨w.heap.size + 1, 1, none⟩ = some (.int .i64 0) ∧ Two w.heap.size t v 1 0 w W')) := ⟨fun W W' h hb => by
    have hh := h.2.2.2.2.below hb
    exact ⟨hh.1.c0, hh.1.c1, hh.2.1.c0, hh.2.1.c1, hh⟩⟩
  have CW : Aside0 (∀ W : World, (W.cell? ⟨w.heap.size, 0, none⟩ = some (.int .i64 t) ∧ W.cell? ⟨w.heap.size, 1, none⟩ = some (.int .i64 v) ∧ W.cell? ⟨w.heap.size + 1, 0, none⟩ = some (.int .i64 1) ∧ W.cell? ⟨w.heap.size + 1, 1, none⟩ = some (.int .i64 0) ∧ Two w.heap.size t v 1 0 w W) → Calls Tryd.prog 13 #[] W fun e w' => e = .returned (.bool true) ∧ Below W.heap.size W w') := ⟨fun W h => cw W h.2.2.2.2.2.2⟩
  clear b2 T2 T3 HT1 crb cw x0 x1 y0 y1 xf0 xf1
  have hx := HX.out
  have q1 := HQ.out.1
  go_wp2_with fail
  go_region_held3 (fun W => W.cell? ⟨w.heap.size, 0, none⟩ = some (.int .i64 t) ∧ W.cell? ⟨w.heap.size, 1, none⟩ = some (.int .i64 v) ∧ W.cell? ⟨w.heap.size + 1, 0, none⟩ = some (.int .i64 1) ∧ W.cell? ⟨w.heap.size + 1, 1, none⟩ = some (.int .i64 0) ∧ Two w.heap.size t v 1 0 w W) (first | exact ⟨S0.out.1, S0.out.2.1, S0.out.2.2.1, S0.out.2.2.2.1, S0.out.2.2.2.2.1, S0.out.2.2.2.2.2.1, Below.drew S0.out.2.2.2.2.2.2⟩ | exact KS.out _ _ (by assumption) (by assumption) | exact KS.out _ _ ⟨by assumption, by assumption, by assumption, by assumption, by assumption⟩ (by assumption))
    (first | (go_at_call 11; first | ((with_reducible refine (c1 _).mono ?_); rintro e w' ⟨rfl, hb⟩) | ((with_reducible refine (c2 _).mono ?_); rintro e w' ⟨rfl, hb⟩)) | (go_at_call 13; refine (CW.out _ (by assumption)).mono ?_; rintro e w' ⟨rfl, hb⟩))
  go_wp2_with fail
  go_ret
  refine ⟨by first | rfl | (simp [hx]; done), ?_⟩
  have hS : ∀ W : World, (W.cell? ⟨w.heap.size, 0, none⟩ = some (.int .i64 t) ∧ W.cell? ⟨w.heap.size, 1, none⟩ = some (.int .i64 v) ∧ W.cell? ⟨w.heap.size + 1, 0, none⟩ = some (.int .i64 1) ∧ W.cell? ⟨w.heap.size + 1, 1, none⟩ = some (.int .i64 0) ∧ Two w.heap.size t v 1 0 w W) → Below w.heap.size w W := fun W h => h.2.2.2.2.2.2
  first | assumption | exact hS _ (by assumption) | exact hS _ (KS.out _ _ (by assumption) (by assumption))
set_option maxHeartbeats 4000000 in
set_option maxRecDepth 100000 in
theorem one_rng (t v t' v' : Int) (w : World) (hT : Tabs w) (hv : I64 v) (hv' : I64 v') (ha : rightB (t, v) = true) (hb : rightB (t', v') = false) (he0 : (t : Int) = 1) (he : ¬ (v : Int) = 0) :
    Calls Tryd.prog 7 #[.agg #[.int .i64 t, .int .i64 v], .agg #[.int .i64 t', .int .i64 v']] w fun e w' => e = .returned (.bool true) ∧ Below w.heap.size w w' := by
  have nma : Nm (t, v) := by have := nrm_nm (t := t) hv; rwa [nrm_of ha] at this
  have nmb : Nm (1, 0) := by have := nrm_nm (t := t') hv'; exact .inr ⟨.inl rfl, rfl⟩
  have cra := fun W => right_call t v W
  have crb := fun W => right_call t' v' W
  rw [ha] at cra
  rw [hb] at crb
  have c1 := fun W => show_call t v (nm_i64 nma) W
  have c2 := fun W => show_call 1 0 (nm_i64 nmb) W
  have cw : ∀ w', Below w.heap.size w w' → _ := fun w' hb => works_calls w' (tabs_below hT hb)
  have hx := list_ne (fun h => he (congrArg Prod.snd ((show_one nma nmb).1 h)))
  have q1 : ((t : Int) == 1) = true := by rw [beq_iff_eq]; exact he0
  have q2 : ((v : Int) == 0) = false := by rw [beq_eq_false_iff_ne]; exact he
  clear he0
  generalize showS (t, v) = x at *
  generalize showS (1, 0) = y at *
  have T0 := Aside0.mk (two_new t v t' v' w)
  have HX := Aside0.mk hx
  have HQ := Aside0.mk (And.intro q1 q2)
  clear q1 q2
  clear hT ha hb he nma nmb hx hv hv'
  go_enter Tryd.func7, Tryd.ntmps7
  go_wp2_with fail
  refine (cra _).mono ?_
  rintro e w1 ⟨rfl, b1⟩
  have T1 := T0.out.below b1
  have x0 := T1.1.c0
  have x1 := T1.1.c1
  have y0 := T1.2.1.c0
  have y1 := T1.2.1.c1
  have xf0 := T1.1.fr 0
  have xf1 := T1.1.fr 1
  have HT1 := Aside0.mk T1
  clear b1 T1 T0 cra
  go_wp2_with fail
  refine (crb _).mono ?_
  rintro e w2 ⟨rfl, b2⟩
  have T2 := HT1.out.below b2
  have z0 := T2.1.c0
  have z1 := T2.1.c1
  have u0 := T2.2.1.c0
  have u1 := T2.2.1.c1
  have zf0 := T2.2.1.fr 0
  have zf1 := T2.2.1.fr 1
  have T3 := T2.put1 1 0
  have S0 := Aside0.mk (And.intro T3.1.c0 (And.intro T3.1.c1 (And.intro T3.2.1.c0 (And.intro T3.2.1.c1 T3))))
  have KS : Aside0 (∀ W W' : World, (W.cell? ⟨w.heap.size, 0, none⟩ = some (.int .i64 t) ∧ W.cell? ⟨w.heap.size, 1, none⟩ = some (.int .i64 v) ∧ W.cell? ⟨w.heap.size + 1, 0, none⟩ = some (.int .i64 1) ∧ W.cell? ⟨w.heap.size + 1, 1, none⟩ = some (.int .i64 0) ∧ Two w.heap.size t v 1 0 w W) → Below W.heap.size W W' → (W'.cell? ⟨w.heap.size, 0, none⟩ = some (.int .i64 t) ∧ W'.cell? ⟨w.heap.size, 1, none⟩ = some (.int .i64 v) ∧ W'.cell? ⟨w.heap.size + 1, 0, none⟩ = some (.int .i64 1) ∧ W'.cell? ⟨w.heap.size + 1, 1, none⟩ = some (.int .i64 0) ∧ Two w.heap.size t v 1 0 w W')) := ⟨fun W W' h hb => by
    have hh := h.2.2.2.2.below hb
    exact ⟨hh.1.c0, hh.1.c1, hh.2.1.c0, hh.2.1.c1, hh⟩⟩
  have CW : Aside0 (∀ W : World, (W.cell? ⟨w.heap.size, 0, none⟩ = some (.int .i64 t) ∧ W.cell? ⟨w.heap.size, 1, none⟩ = some (.int .i64 v) ∧ W.cell? ⟨w.heap.size + 1, 0, none⟩ = some (.int .i64 1) ∧ W.cell? ⟨w.heap.size + 1, 1, none⟩ = some (.int .i64 0) ∧ Two w.heap.size t v 1 0 w W) → Calls Tryd.prog 13 #[] W fun e w' => e = .returned (.bool true) ∧ Below W.heap.size W w') := ⟨fun W h => cw W h.2.2.2.2.2.2⟩
  clear b2 T2 T3 HT1 crb cw x0 x1 y0 y1 xf0 xf1
  have hx := HX.out
  have q1 := HQ.out.1
  have q2 := HQ.out.2
  go_wp2_with fail
  go_region_held3 (fun W => W.cell? ⟨w.heap.size, 0, none⟩ = some (.int .i64 t) ∧ W.cell? ⟨w.heap.size, 1, none⟩ = some (.int .i64 v) ∧ W.cell? ⟨w.heap.size + 1, 0, none⟩ = some (.int .i64 1) ∧ W.cell? ⟨w.heap.size + 1, 1, none⟩ = some (.int .i64 0) ∧ Two w.heap.size t v 1 0 w W) (first | exact ⟨S0.out.1, S0.out.2.1, S0.out.2.2.1, S0.out.2.2.2.1, S0.out.2.2.2.2.1, S0.out.2.2.2.2.2.1, Below.drew S0.out.2.2.2.2.2.2⟩ | exact KS.out _ _ (by assumption) (by assumption) | exact KS.out _ _ ⟨by assumption, by assumption, by assumption, by assumption, by assumption⟩ (by assumption))
    (first | (go_at_call 11; first | ((with_reducible refine (c1 _).mono ?_); rintro e w' ⟨rfl, hb⟩) | ((with_reducible refine (c2 _).mono ?_); rintro e w' ⟨rfl, hb⟩)) | (go_at_call 13; refine (CW.out _ (by assumption)).mono ?_; rintro e w' ⟨rfl, hb⟩))
  go_wp2_with fail
  go_ret
  refine ⟨by first | rfl | (simp [hx]; done), ?_⟩
  have hS : ∀ W : World, (W.cell? ⟨w.heap.size, 0, none⟩ = some (.int .i64 t) ∧ W.cell? ⟨w.heap.size, 1, none⟩ = some (.int .i64 v) ∧ W.cell? ⟨w.heap.size + 1, 0, none⟩ = some (.int .i64 1) ∧ W.cell? ⟨w.heap.size + 1, 1, none⟩ = some (.int .i64 0) ∧ Two w.heap.size t v 1 0 w W) → Below w.heap.size w W := fun W h => h.2.2.2.2.2.2
  first | assumption | exact hS _ (by assumption) | exact hS _ (KS.out _ _ (by assumption) (by assumption))
set_option maxHeartbeats 4000000 in
set_option maxRecDepth 100000 in
theorem one_nre (t v t' v' : Int) (w : World) (hT : Tabs w) (hv : I64 v) (hv' : I64 v') (ha : rightB (t, v) = false) (hb : rightB (t', v') = true) (he : ((1, 0) : Int × Int) = (t', v')) :
    Calls Tryd.prog 7 #[.agg #[.int .i64 t, .int .i64 v], .agg #[.int .i64 t', .int .i64 v']] w fun e w' => e = .returned (.bool true) ∧ Below w.heap.size w w' := by
  have nma : Nm (1, 0) := by have := nrm_nm (t := t) hv; exact .inr ⟨.inl rfl, rfl⟩
  have nmb : Nm (t', v') := by have := nrm_nm (t := t') hv'; rwa [nrm_of hb] at this
  have cra := fun W => right_call t v W
  have crb := fun W => right_call t' v' W
  rw [ha] at cra
  rw [hb] at crb
  have c1 := fun W => show_call 1 0 (nm_i64 nma) W
  have c2 := fun W => show_call t' v' (nm_i64 nmb) W
  have cw : ∀ w', Below w.heap.size w w' → _ := fun w' hb => works_calls w' (tabs_below hT hb)
  have hx : ((ba (showS (1, 0))).toList == (ba (showS (t', v'))).toList) = true := by rw [he]; simp
  have q1 : (1 == t') = true := by simpa using congrArg Prod.fst he
  have q2 : (0 == v') = true := by simpa using congrArg Prod.snd he
  generalize showS (1, 0) = x at *
  generalize showS (t', v') = y at *
  have T0 := Aside0.mk (two_new t v t' v' w)
  have HX := Aside0.mk hx
  have HQ := Aside0.mk (And.intro q1 q2)
  clear q1 q2
  clear hT ha hb he nma nmb hx hv hv'
  go_enter Tryd.func7, Tryd.ntmps7
  go_wp2_with fail
  refine (cra _).mono ?_
  rintro e w1 ⟨rfl, b1⟩
  have T1 := T0.out.below b1
  have x0 := T1.1.c0
  have x1 := T1.1.c1
  have y0 := T1.2.1.c0
  have y1 := T1.2.1.c1
  have xf0 := T1.1.fr 0
  have xf1 := T1.1.fr 1
  have HT1 := Aside0.mk (T1.put0 1 0)
  clear b1 T1 T0 cra
  go_wp2_with fail
  refine (crb _).mono ?_
  rintro e w2 ⟨rfl, b2⟩
  have T2 := HT1.out.below b2
  have z0 := T2.1.c0
  have z1 := T2.1.c1
  have u0 := T2.2.1.c0
  have u1 := T2.2.1.c1
  have zf0 := T2.2.1.fr 0
  have zf1 := T2.2.1.fr 1
  have T3 := T2
  have S0 := Aside0.mk (And.intro T3.1.c0 (And.intro T3.1.c1 (And.intro T3.2.1.c0 (And.intro T3.2.1.c1 T3))))
  have KS : Aside0 (∀ W W' : World, (W.cell? ⟨w.heap.size, 0, none⟩ = some (.int .i64 1) ∧ W.cell? ⟨w.heap.size, 1, none⟩ = some (.int .i64 0) ∧ W.cell? ⟨w.heap.size + 1, 0, none⟩ = some (.int .i64 t') ∧ W.cell? ⟨w.heap.size + 1, 1, none⟩ = some (.int .i64 v') ∧ Two w.heap.size 1 0 t' v' w W) → Below W.heap.size W W' → (W'.cell? ⟨w.heap.size, 0, none⟩ = some (.int .i64 1) ∧ W'.cell? ⟨w.heap.size, 1, none⟩ = some (.int .i64 0) ∧ W'.cell? ⟨w.heap.size + 1, 0, none⟩ = some (.int .i64 t') ∧ W'.cell? ⟨w.heap.size + 1, 1, none⟩ = some (.int .i64 v') ∧ Two w.heap.size 1 0 t' v' w W')) := ⟨fun W W' h hb => by
    have hh := h.2.2.2.2.below hb
    exact ⟨hh.1.c0, hh.1.c1, hh.2.1.c0, hh.2.1.c1, hh⟩⟩
  have CW : Aside0 (∀ W : World, (W.cell? ⟨w.heap.size, 0, none⟩ = some (.int .i64 1) ∧ W.cell? ⟨w.heap.size, 1, none⟩ = some (.int .i64 0) ∧ W.cell? ⟨w.heap.size + 1, 0, none⟩ = some (.int .i64 t') ∧ W.cell? ⟨w.heap.size + 1, 1, none⟩ = some (.int .i64 v') ∧ Two w.heap.size 1 0 t' v' w W) → Calls Tryd.prog 13 #[] W fun e w' => e = .returned (.bool true) ∧ Below W.heap.size W w') := ⟨fun W h => cw W h.2.2.2.2.2.2⟩
  clear b2 T2 T3 HT1 crb cw x0 x1 y0 y1 xf0 xf1
  have hx := HX.out
  have q1 := HQ.out.1
  have q2 := HQ.out.2
  go_wp2_with fail
  go_region_held3 (fun W => W.cell? ⟨w.heap.size, 0, none⟩ = some (.int .i64 1) ∧ W.cell? ⟨w.heap.size, 1, none⟩ = some (.int .i64 0) ∧ W.cell? ⟨w.heap.size + 1, 0, none⟩ = some (.int .i64 t') ∧ W.cell? ⟨w.heap.size + 1, 1, none⟩ = some (.int .i64 v') ∧ Two w.heap.size 1 0 t' v' w W) (first | exact ⟨S0.out.1, S0.out.2.1, S0.out.2.2.1, S0.out.2.2.2.1, S0.out.2.2.2.2.1, S0.out.2.2.2.2.2.1, Below.drew S0.out.2.2.2.2.2.2⟩ | exact KS.out _ _ (by assumption) (by assumption) | exact KS.out _ _ ⟨by assumption, by assumption, by assumption, by assumption, by assumption⟩ (by assumption))
    (first | (go_at_call 11; first | ((with_reducible refine (c1 _).mono ?_); rintro e w' ⟨rfl, hb⟩) | ((with_reducible refine (c2 _).mono ?_); rintro e w' ⟨rfl, hb⟩)) | (go_at_call 13; refine (CW.out _ (by assumption)).mono ?_; rintro e w' ⟨rfl, hb⟩))
  go_wp2_with fail
  go_ret
  refine ⟨by first | rfl | (simp [hx]; done), ?_⟩
  have hS : ∀ W : World, (W.cell? ⟨w.heap.size, 0, none⟩ = some (.int .i64 1) ∧ W.cell? ⟨w.heap.size, 1, none⟩ = some (.int .i64 0) ∧ W.cell? ⟨w.heap.size + 1, 0, none⟩ = some (.int .i64 t') ∧ W.cell? ⟨w.heap.size + 1, 1, none⟩ = some (.int .i64 v') ∧ Two w.heap.size 1 0 t' v' w W) → Below w.heap.size w W := fun W h => h.2.2.2.2.2.2
  first | assumption | exact hS _ (by assumption) | exact hS _ (KS.out _ _ (by assumption) (by assumption))
set_option maxHeartbeats 4000000 in
set_option maxRecDepth 100000 in
theorem one_nrf (t v t' v' : Int) (w : World) (hT : Tabs w) (hv : I64 v) (hv' : I64 v') (ha : rightB (t, v) = false) (hb : rightB (t', v') = true) (he : ¬ (1 : Int) = t') :
    Calls Tryd.prog 7 #[.agg #[.int .i64 t, .int .i64 v], .agg #[.int .i64 t', .int .i64 v']] w fun e w' => e = .returned (.bool true) ∧ Below w.heap.size w w' := by
  have nma : Nm (1, 0) := by have := nrm_nm (t := t) hv; exact .inr ⟨.inl rfl, rfl⟩
  have nmb : Nm (t', v') := by have := nrm_nm (t := t') hv'; rwa [nrm_of hb] at this
  have cra := fun W => right_call t v W
  have crb := fun W => right_call t' v' W
  rw [ha] at cra
  rw [hb] at crb
  have c1 := fun W => show_call 1 0 (nm_i64 nma) W
  have c2 := fun W => show_call t' v' (nm_i64 nmb) W
  have cw : ∀ w', Below w.heap.size w w' → _ := fun w' hb => works_calls w' (tabs_below hT hb)
  have hx := list_ne (fun h => he (congrArg Prod.fst ((show_one nma nmb).1 h)))
  have q1 : ((1 : Int) == t') = false := by rw [beq_eq_false_iff_ne]; exact he
  have q2 : True := trivial
  generalize showS (1, 0) = x at *
  generalize showS (t', v') = y at *
  have T0 := Aside0.mk (two_new t v t' v' w)
  have HX := Aside0.mk hx
  have HQ := Aside0.mk (And.intro q1 q2)
  clear q1 q2
  clear hT ha hb he nma nmb hx hv hv'
  go_enter Tryd.func7, Tryd.ntmps7
  go_wp2_with fail
  refine (cra _).mono ?_
  rintro e w1 ⟨rfl, b1⟩
  have T1 := T0.out.below b1
  have x0 := T1.1.c0
  have x1 := T1.1.c1
  have y0 := T1.2.1.c0
  have y1 := T1.2.1.c1
  have xf0 := T1.1.fr 0
  have xf1 := T1.1.fr 1
  have HT1 := Aside0.mk (T1.put0 1 0)
  clear b1 T1 T0 cra
  go_wp2_with fail
  refine (crb _).mono ?_
  rintro e w2 ⟨rfl, b2⟩
  have T2 := HT1.out.below b2
  have z0 := T2.1.c0
  have z1 := T2.1.c1
  have u0 := T2.2.1.c0
  have u1 := T2.2.1.c1
  have zf0 := T2.2.1.fr 0
  have zf1 := T2.2.1.fr 1
  have T3 := T2
  have S0 := Aside0.mk (And.intro T3.1.c0 (And.intro T3.1.c1 (And.intro T3.2.1.c0 (And.intro T3.2.1.c1 T3))))
  have KS : Aside0 (∀ W W' : World, (W.cell? ⟨w.heap.size, 0, none⟩ = some (.int .i64 1) ∧ W.cell? ⟨w.heap.size, 1, none⟩ = some (.int .i64 0) ∧ W.cell? ⟨w.heap.size + 1, 0, none⟩ = some (.int .i64 t') ∧ W.cell? ⟨w.heap.size + 1, 1, none⟩ = some (.int .i64 v') ∧ Two w.heap.size 1 0 t' v' w W) → Below W.heap.size W W' → (W'.cell? ⟨w.heap.size, 0, none⟩ = some (.int .i64 1) ∧ W'.cell? ⟨w.heap.size, 1, none⟩ = some (.int .i64 0) ∧ W'.cell? ⟨w.heap.size + 1, 0, none⟩ = some (.int .i64 t') ∧ W'.cell? ⟨w.heap.size + 1, 1, none⟩ = some (.int .i64 v') ∧ Two w.heap.size 1 0 t' v' w W')) := ⟨fun W W' h hb => by
    have hh := h.2.2.2.2.below hb
    exact ⟨hh.1.c0, hh.1.c1, hh.2.1.c0, hh.2.1.c1, hh⟩⟩
  have CW : Aside0 (∀ W : World, (W.cell? ⟨w.heap.size, 0, none⟩ = some (.int .i64 1) ∧ W.cell? ⟨w.heap.size, 1, none⟩ = some (.int .i64 0) ∧ W.cell? ⟨w.heap.size + 1, 0, none⟩ = some (.int .i64 t') ∧ W.cell? ⟨w.heap.size + 1, 1, none⟩ = some (.int .i64 v') ∧ Two w.heap.size 1 0 t' v' w W) → Calls Tryd.prog 13 #[] W fun e w' => e = .returned (.bool true) ∧ Below W.heap.size W w') := ⟨fun W h => cw W h.2.2.2.2.2.2⟩
  clear b2 T2 T3 HT1 crb cw x0 x1 y0 y1 xf0 xf1
  have hx := HX.out
  have q1 := HQ.out.1
  go_wp2_with fail
  go_region_held3 (fun W => W.cell? ⟨w.heap.size, 0, none⟩ = some (.int .i64 1) ∧ W.cell? ⟨w.heap.size, 1, none⟩ = some (.int .i64 0) ∧ W.cell? ⟨w.heap.size + 1, 0, none⟩ = some (.int .i64 t') ∧ W.cell? ⟨w.heap.size + 1, 1, none⟩ = some (.int .i64 v') ∧ Two w.heap.size 1 0 t' v' w W) (first | exact ⟨S0.out.1, S0.out.2.1, S0.out.2.2.1, S0.out.2.2.2.1, S0.out.2.2.2.2.1, S0.out.2.2.2.2.2.1, Below.drew S0.out.2.2.2.2.2.2⟩ | exact KS.out _ _ (by assumption) (by assumption) | exact KS.out _ _ ⟨by assumption, by assumption, by assumption, by assumption, by assumption⟩ (by assumption))
    (first | (go_at_call 11; first | ((with_reducible refine (c1 _).mono ?_); rintro e w' ⟨rfl, hb⟩) | ((with_reducible refine (c2 _).mono ?_); rintro e w' ⟨rfl, hb⟩)) | (go_at_call 13; refine (CW.out _ (by assumption)).mono ?_; rintro e w' ⟨rfl, hb⟩))
  go_wp2_with fail
  go_ret
  refine ⟨by first | rfl | (simp [hx]; done), ?_⟩
  have hS : ∀ W : World, (W.cell? ⟨w.heap.size, 0, none⟩ = some (.int .i64 1) ∧ W.cell? ⟨w.heap.size, 1, none⟩ = some (.int .i64 0) ∧ W.cell? ⟨w.heap.size + 1, 0, none⟩ = some (.int .i64 t') ∧ W.cell? ⟨w.heap.size + 1, 1, none⟩ = some (.int .i64 v') ∧ Two w.heap.size 1 0 t' v' w W) → Below w.heap.size w W := fun W h => h.2.2.2.2.2.2
  first | assumption | exact hS _ (by assumption) | exact hS _ (KS.out _ _ (by assumption) (by assumption))
set_option maxHeartbeats 4000000 in
set_option maxRecDepth 100000 in
theorem one_nrg (t v t' v' : Int) (w : World) (hT : Tabs w) (hv : I64 v) (hv' : I64 v') (ha : rightB (t, v) = false) (hb : rightB (t', v') = true) (he0 : (1 : Int) = t') (he : ¬ (0 : Int) = v') :
    Calls Tryd.prog 7 #[.agg #[.int .i64 t, .int .i64 v], .agg #[.int .i64 t', .int .i64 v']] w fun e w' => e = .returned (.bool true) ∧ Below w.heap.size w w' := by
  have nma : Nm (1, 0) := by have := nrm_nm (t := t) hv; exact .inr ⟨.inl rfl, rfl⟩
  have nmb : Nm (t', v') := by have := nrm_nm (t := t') hv'; rwa [nrm_of hb] at this
  have cra := fun W => right_call t v W
  have crb := fun W => right_call t' v' W
  rw [ha] at cra
  rw [hb] at crb
  have c1 := fun W => show_call 1 0 (nm_i64 nma) W
  have c2 := fun W => show_call t' v' (nm_i64 nmb) W
  have cw : ∀ w', Below w.heap.size w w' → _ := fun w' hb => works_calls w' (tabs_below hT hb)
  have hx := list_ne (fun h => he (congrArg Prod.snd ((show_one nma nmb).1 h)))
  have q1 : ((1 : Int) == t') = true := by rw [beq_iff_eq]; exact he0
  have q2 : ((0 : Int) == v') = false := by rw [beq_eq_false_iff_ne]; exact he
  clear he0
  generalize showS (1, 0) = x at *
  generalize showS (t', v') = y at *
  have T0 := Aside0.mk (two_new t v t' v' w)
  have HX := Aside0.mk hx
  have HQ := Aside0.mk (And.intro q1 q2)
  clear q1 q2
  clear hT ha hb he nma nmb hx hv hv'
  go_enter Tryd.func7, Tryd.ntmps7
  go_wp2_with fail
  refine (cra _).mono ?_
  rintro e w1 ⟨rfl, b1⟩
  have T1 := T0.out.below b1
  have x0 := T1.1.c0
  have x1 := T1.1.c1
  have y0 := T1.2.1.c0
  have y1 := T1.2.1.c1
  have xf0 := T1.1.fr 0
  have xf1 := T1.1.fr 1
  have HT1 := Aside0.mk (T1.put0 1 0)
  clear b1 T1 T0 cra
  go_wp2_with fail
  refine (crb _).mono ?_
  rintro e w2 ⟨rfl, b2⟩
  have T2 := HT1.out.below b2
  have z0 := T2.1.c0
  have z1 := T2.1.c1
  have u0 := T2.2.1.c0
  have u1 := T2.2.1.c1
  have zf0 := T2.2.1.fr 0
  have zf1 := T2.2.1.fr 1
  have T3 := T2
  have S0 := Aside0.mk (And.intro T3.1.c0 (And.intro T3.1.c1 (And.intro T3.2.1.c0 (And.intro T3.2.1.c1 T3))))
  have KS : Aside0 (∀ W W' : World, (W.cell? ⟨w.heap.size, 0, none⟩ = some (.int .i64 1) ∧ W.cell? ⟨w.heap.size, 1, none⟩ = some (.int .i64 0) ∧ W.cell? ⟨w.heap.size + 1, 0, none⟩ = some (.int .i64 t') ∧ W.cell? ⟨w.heap.size + 1, 1, none⟩ = some (.int .i64 v') ∧ Two w.heap.size 1 0 t' v' w W) → Below W.heap.size W W' → (W'.cell? ⟨w.heap.size, 0, none⟩ = some (.int .i64 1) ∧ W'.cell? ⟨w.heap.size, 1, none⟩ = some (.int .i64 0) ∧ W'.cell? ⟨w.heap.size + 1, 0, none⟩ = some (.int .i64 t') ∧ W'.cell? ⟨w.heap.size + 1, 1, none⟩ = some (.int .i64 v') ∧ Two w.heap.size 1 0 t' v' w W')) := ⟨fun W W' h hb => by
    have hh := h.2.2.2.2.below hb
    exact ⟨hh.1.c0, hh.1.c1, hh.2.1.c0, hh.2.1.c1, hh⟩⟩
  have CW : Aside0 (∀ W : World, (W.cell? ⟨w.heap.size, 0, none⟩ = some (.int .i64 1) ∧ W.cell? ⟨w.heap.size, 1, none⟩ = some (.int .i64 0) ∧ W.cell? ⟨w.heap.size + 1, 0, none⟩ = some (.int .i64 t') ∧ W.cell? ⟨w.heap.size + 1, 1, none⟩ = some (.int .i64 v') ∧ Two w.heap.size 1 0 t' v' w W) → Calls Tryd.prog 13 #[] W fun e w' => e = .returned (.bool true) ∧ Below W.heap.size W w') := ⟨fun W h => cw W h.2.2.2.2.2.2⟩
  clear b2 T2 T3 HT1 crb cw x0 x1 y0 y1 xf0 xf1
  have hx := HX.out
  have q1 := HQ.out.1
  have q2 := HQ.out.2
  go_wp2_with fail
  go_region_held3 (fun W => W.cell? ⟨w.heap.size, 0, none⟩ = some (.int .i64 1) ∧ W.cell? ⟨w.heap.size, 1, none⟩ = some (.int .i64 0) ∧ W.cell? ⟨w.heap.size + 1, 0, none⟩ = some (.int .i64 t') ∧ W.cell? ⟨w.heap.size + 1, 1, none⟩ = some (.int .i64 v') ∧ Two w.heap.size 1 0 t' v' w W) (first | exact ⟨S0.out.1, S0.out.2.1, S0.out.2.2.1, S0.out.2.2.2.1, S0.out.2.2.2.2.1, S0.out.2.2.2.2.2.1, Below.drew S0.out.2.2.2.2.2.2⟩ | exact KS.out _ _ (by assumption) (by assumption) | exact KS.out _ _ ⟨by assumption, by assumption, by assumption, by assumption, by assumption⟩ (by assumption))
    (first | (go_at_call 11; first | ((with_reducible refine (c1 _).mono ?_); rintro e w' ⟨rfl, hb⟩) | ((with_reducible refine (c2 _).mono ?_); rintro e w' ⟨rfl, hb⟩)) | (go_at_call 13; refine (CW.out _ (by assumption)).mono ?_; rintro e w' ⟨rfl, hb⟩))
  go_wp2_with fail
  go_ret
  refine ⟨by first | rfl | (simp [hx]; done), ?_⟩
  have hS : ∀ W : World, (W.cell? ⟨w.heap.size, 0, none⟩ = some (.int .i64 1) ∧ W.cell? ⟨w.heap.size, 1, none⟩ = some (.int .i64 0) ∧ W.cell? ⟨w.heap.size + 1, 0, none⟩ = some (.int .i64 t') ∧ W.cell? ⟨w.heap.size + 1, 1, none⟩ = some (.int .i64 v') ∧ Two w.heap.size 1 0 t' v' w W) → Below w.heap.size w W := fun W h => h.2.2.2.2.2.2
  first | assumption | exact hS _ (by assumption) | exact hS _ (KS.out _ _ (by assumption) (by assumption))
set_option maxHeartbeats 4000000 in
set_option maxRecDepth 100000 in
theorem one_nne (t v t' v' : Int) (w : World) (hT : Tabs w) (hv : I64 v) (hv' : I64 v') (ha : rightB (t, v) = false) (hb : rightB (t', v') = false) (he : ((1, 0) : Int × Int) = (1, 0)) :
    Calls Tryd.prog 7 #[.agg #[.int .i64 t, .int .i64 v], .agg #[.int .i64 t', .int .i64 v']] w fun e w' => e = .returned (.bool true) ∧ Below w.heap.size w w' := by
  have nma : Nm (1, 0) := by have := nrm_nm (t := t) hv; exact .inr ⟨.inl rfl, rfl⟩
  have nmb : Nm (1, 0) := by have := nrm_nm (t := t') hv'; exact .inr ⟨.inl rfl, rfl⟩
  have cra := fun W => right_call t v W
  have crb := fun W => right_call t' v' W
  rw [ha] at cra
  rw [hb] at crb
  have c1 := fun W => show_call 1 0 (nm_i64 nma) W
  have c2 := fun W => show_call 1 0 (nm_i64 nmb) W
  have cw : ∀ w', Below w.heap.size w w' → _ := fun w' hb => works_calls w' (tabs_below hT hb)
  have hx : ((ba (showS (1, 0))).toList == (ba (showS (1, 0))).toList) = true := by rw [he]; simp
  have q1 : (1 == 1) = true := by simpa using congrArg Prod.fst he
  have q2 : (0 == 0) = true := by simpa using congrArg Prod.snd he
  generalize showS (1, 0) = x at *
  generalize showS (1, 0) = y at *
  have T0 := Aside0.mk (two_new t v t' v' w)
  have HX := Aside0.mk hx
  have HQ := Aside0.mk (And.intro q1 q2)
  clear q1 q2
  clear hT ha hb he nma nmb hx hv hv'
  go_enter Tryd.func7, Tryd.ntmps7
  go_wp2_with fail
  refine (cra _).mono ?_
  rintro e w1 ⟨rfl, b1⟩
  have T1 := T0.out.below b1
  have x0 := T1.1.c0
  have x1 := T1.1.c1
  have y0 := T1.2.1.c0
  have y1 := T1.2.1.c1
  have xf0 := T1.1.fr 0
  have xf1 := T1.1.fr 1
  have HT1 := Aside0.mk (T1.put0 1 0)
  clear b1 T1 T0 cra
  go_wp2_with fail
  refine (crb _).mono ?_
  rintro e w2 ⟨rfl, b2⟩
  have T2 := HT1.out.below b2
  have z0 := T2.1.c0
  have z1 := T2.1.c1
  have u0 := T2.2.1.c0
  have u1 := T2.2.1.c1
  have zf0 := T2.2.1.fr 0
  have zf1 := T2.2.1.fr 1
  have T3 := T2.put1 1 0
  have S0 := Aside0.mk (And.intro T3.1.c0 (And.intro T3.1.c1 (And.intro T3.2.1.c0 (And.intro T3.2.1.c1 T3))))
  have KS : Aside0 (∀ W W' : World, (W.cell? ⟨w.heap.size, 0, none⟩ = some (.int .i64 1) ∧ W.cell? ⟨w.heap.size, 1, none⟩ = some (.int .i64 0) ∧ W.cell? ⟨w.heap.size + 1, 0, none⟩ = some (.int .i64 1) ∧ W.cell? ⟨w.heap.size + 1, 1, none⟩ = some (.int .i64 0) ∧ Two w.heap.size 1 0 1 0 w W) → Below W.heap.size W W' → (W'.cell? ⟨w.heap.size, 0, none⟩ = some (.int .i64 1) ∧ W'.cell? ⟨w.heap.size, 1, none⟩ = some (.int .i64 0) ∧ W'.cell? ⟨w.heap.size + 1, 0, none⟩ = some (.int .i64 1) ∧ W'.cell? ⟨w.heap.size + 1, 1, none⟩ = some (.int .i64 0) ∧ Two w.heap.size 1 0 1 0 w W')) := ⟨fun W W' h hb => by
    have hh := h.2.2.2.2.below hb
    exact ⟨hh.1.c0, hh.1.c1, hh.2.1.c0, hh.2.1.c1, hh⟩⟩
  have CW : Aside0 (∀ W : World, (W.cell? ⟨w.heap.size, 0, none⟩ = some (.int .i64 1) ∧ W.cell? ⟨w.heap.size, 1, none⟩ = some (.int .i64 0) ∧ W.cell? ⟨w.heap.size + 1, 0, none⟩ = some (.int .i64 1) ∧ W.cell? ⟨w.heap.size + 1, 1, none⟩ = some (.int .i64 0) ∧ Two w.heap.size 1 0 1 0 w W) → Calls Tryd.prog 13 #[] W fun e w' => e = .returned (.bool true) ∧ Below W.heap.size W w') := ⟨fun W h => cw W h.2.2.2.2.2.2⟩
  clear b2 T2 T3 HT1 crb cw x0 x1 y0 y1 xf0 xf1
  have hx := HX.out
  have q1 := HQ.out.1
  have q2 := HQ.out.2
  go_wp2_with fail
  go_region_held3 (fun W => W.cell? ⟨w.heap.size, 0, none⟩ = some (.int .i64 1) ∧ W.cell? ⟨w.heap.size, 1, none⟩ = some (.int .i64 0) ∧ W.cell? ⟨w.heap.size + 1, 0, none⟩ = some (.int .i64 1) ∧ W.cell? ⟨w.heap.size + 1, 1, none⟩ = some (.int .i64 0) ∧ Two w.heap.size 1 0 1 0 w W) (first | exact ⟨S0.out.1, S0.out.2.1, S0.out.2.2.1, S0.out.2.2.2.1, S0.out.2.2.2.2.1, S0.out.2.2.2.2.2.1, Below.drew S0.out.2.2.2.2.2.2⟩ | exact KS.out _ _ (by assumption) (by assumption) | exact KS.out _ _ ⟨by assumption, by assumption, by assumption, by assumption, by assumption⟩ (by assumption))
    (first | (go_at_call 11; first | ((with_reducible refine (c1 _).mono ?_); rintro e w' ⟨rfl, hb⟩) | ((with_reducible refine (c2 _).mono ?_); rintro e w' ⟨rfl, hb⟩)) | (go_at_call 13; refine (CW.out _ (by assumption)).mono ?_; rintro e w' ⟨rfl, hb⟩))
  go_wp2_with fail
  go_ret
  refine ⟨by first | rfl | (simp [hx]; done), ?_⟩
  have hS : ∀ W : World, (W.cell? ⟨w.heap.size, 0, none⟩ = some (.int .i64 1) ∧ W.cell? ⟨w.heap.size, 1, none⟩ = some (.int .i64 0) ∧ W.cell? ⟨w.heap.size + 1, 0, none⟩ = some (.int .i64 1) ∧ W.cell? ⟨w.heap.size + 1, 1, none⟩ = some (.int .i64 0) ∧ Two w.heap.size 1 0 1 0 w W) → Below w.heap.size w W := fun W h => h.2.2.2.2.2.2
  first | assumption | exact hS _ (by assumption) | exact hS _ (KS.out _ _ (by assumption) (by assumption))
theorem one_calls (t v t' v' : Int) (w : World) (hT : Tabs w) (hv : I64 v) (hv' : I64 v') :
    Calls Tryd.prog 7 #[.agg #[.int .i64 t, .int .i64 v], .agg #[.int .i64 t', .int .i64 v']] w fun e w' => e = .returned (.bool true) ∧ Below w.heap.size w w' := by
  cases ha : rightB (t, v) with
  | true =>
    cases hb : rightB (t', v') with
    | true =>
      by_cases h1 : t = t'
      · by_cases h2 : v = v'
        · exact one_rre t v t' v' w hT hv hv' ha hb (by rw [h1, h2])
        · exact one_rrg t v t' v' w hT hv hv' ha hb h1 h2
      · exact one_rrf t v t' v' w hT hv hv' ha hb h1
    | false =>
      by_cases h1 : t = 1
      · by_cases h2 : v = 0
        · exact one_rne t v t' v' w hT hv hv' ha hb (by rw [h1, h2])
        · exact one_rng t v t' v' w hT hv hv' ha hb h1 h2
      · exact one_rnf t v t' v' w hT hv hv' ha hb h1
  | false =>
    cases hb : rightB (t', v') with
    | true =>
      by_cases h1 : 1 = t'
      · by_cases h2 : 0 = v'
        · exact one_nre t v t' v' w hT hv hv' ha hb (by rw [h1, h2])
        · exact one_nrg t v t' v' w hT hv hv' ha hb h1 h2
      · exact one_nrf t v t' v' w hT hv hv' ha hb h1
    | false => exact one_nne t v t' v' w hT hv hv' ha hb rfl
theorem oneW (t v t' v' : Int) (w : World) (hT : Tabs w) (_ : (Lit.int .i64 t).wf = true) (h : (Lit.int .i64 v).wf = true) (_ : (Lit.int .i64 t').wf = true) (h' : (Lit.int .i64 v').wf = true) : Calls Tryd.prog 7 #[.agg #[.int .i64 t, .int .i64 v], .agg #[.int .i64 t', .int .i64 v']] w fun e w' => e = .returned (.bool true) ∧ Below w.heap.size w w' := one_calls t v t' v' w hT (i64_of h) (i64_of h')
end Go.Proofs.YthilcidoacgdfaaDoor.FigN
