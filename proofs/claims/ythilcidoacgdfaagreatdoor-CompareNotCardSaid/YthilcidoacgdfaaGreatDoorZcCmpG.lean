/- compare.Do whole; the law's small and works. -/
import Derived.Test.YthilcidoacgdfaaGreatDoorZcCmpC
import Derived.Test.YthilcidoacgdfaaGreatDoorZcCmpD
import Derived.Test.YthilcidoacgdfaaGreatDoorZcCmpE
import Derived.Test.YthilcidoacgdfaaGreatDoorZcCmpF
namespace Go.Proofs.YthilcidoacgdfaaGreatDoor.CharB
end Go.Proofs.YthilcidoacgdfaaGreatDoor.CharB
namespace Go.Proofs.YthilcidoacgdfaaGreatDoor.CharF
end Go.Proofs.YthilcidoacgdfaaGreatDoor.CharF
namespace Go.Proofs.YthilcidoacgdfaaGreatDoor.CmpA
end Go.Proofs.YthilcidoacgdfaaGreatDoor.CmpA
namespace Go.Proofs.YthilcidoacgdfaaGreatDoor.CmpB
end Go.Proofs.YthilcidoacgdfaaGreatDoor.CmpB
namespace Go.Proofs.YthilcidoacgdfaaGreatDoor.CmpC
end Go.Proofs.YthilcidoacgdfaaGreatDoor.CmpC
namespace Go.Proofs.YthilcidoacgdfaaGreatDoor.CmpD
end Go.Proofs.YthilcidoacgdfaaGreatDoor.CmpD
namespace Go.Proofs.YthilcidoacgdfaaGreatDoor.CmpE
end Go.Proofs.YthilcidoacgdfaaGreatDoor.CmpE
namespace Go.Proofs.YthilcidoacgdfaaGreatDoor.CmpF
end Go.Proofs.YthilcidoacgdfaaGreatDoor.CmpF
namespace Go.Proofs.YthilcidoacgdfaaGreatDoor.DecA
end Go.Proofs.YthilcidoacgdfaaGreatDoor.DecA
namespace Go.Proofs.YthilcidoacgdfaaGreatDoor.DecE
end Go.Proofs.YthilcidoacgdfaaGreatDoor.DecE
namespace Go.Proofs.YthilcidoacgdfaaGreatDoor.DecG
end Go.Proofs.YthilcidoacgdfaaGreatDoor.DecG
namespace Go.Proofs.YthilcidoacgdfaaGreatDoor.FigA
end Go.Proofs.YthilcidoacgdfaaGreatDoor.FigA
namespace Go.Proofs.YthilcidoacgdfaaGreatDoor.FigD
end Go.Proofs.YthilcidoacgdfaaGreatDoor.FigD
namespace Go.Proofs.YthilcidoacgdfaaGreatDoor.FigG
end Go.Proofs.YthilcidoacgdfaaGreatDoor.FigG
namespace Go.Proofs.YthilcidoacgdfaaGreatDoor.FigH
end Go.Proofs.YthilcidoacgdfaaGreatDoor.FigH
namespace Go.Proofs.YthilcidoacgdfaaGreatDoor.FigI
end Go.Proofs.YthilcidoacgdfaaGreatDoor.FigI
namespace Go.Proofs.YthilcidoacgdfaaGreatDoor.SpanA
end Go.Proofs.YthilcidoacgdfaaGreatDoor.SpanA
namespace Go.Proofs.YthilcidoacgdfaaGreatDoor.ValA
end Go.Proofs.YthilcidoacgdfaaGreatDoor.ValA
namespace Go.Proofs.YthilcidoacgdfaaGreatDoor.ValB
end Go.Proofs.YthilcidoacgdfaaGreatDoor.ValB
namespace Go.Proofs.YthilcidoacgdfaaGreatDoor.ValC
end Go.Proofs.YthilcidoacgdfaaGreatDoor.ValC
namespace Go.Proofs.YthilcidoacgdfaaGreatDoor.ValD
end Go.Proofs.YthilcidoacgdfaaGreatDoor.ValD
namespace Go.Proofs.YthilcidoacgdfaaGreatDoorW.PrintLast
end Go.Proofs.YthilcidoacgdfaaGreatDoorW.PrintLast
namespace Go.Proofs.YthilcidoacgdfaaGreatDoorW.PrintMore
end Go.Proofs.YthilcidoacgdfaaGreatDoorW.PrintMore
namespace Go.Proofs.YthilcidoacgdfaaGreatDoorW.PrintWords
end Go.Proofs.YthilcidoacgdfaaGreatDoorW.PrintWords
namespace Go.Proofs.YthilcidoacgdfaaGreatDoor.CmpG
open Go.RowKit Go.Shelf Go.Proofs.YthilcidoacgdfaaGreatDoor.DecG Go.Proofs.YthilcidoacgdfaaGreatDoorW.PrintWords Go.Proofs.YthilcidoacgdfaaGreatDoorW.PrintLast Go.Proofs.YthilcidoacgdfaaGreatDoorW.PrintMore Go.Proofs.YthilcidoacgdfaaGreatDoor.CharB Go.Proofs.YthilcidoacgdfaaGreatDoor.CharF Go.Proofs.YthilcidoacgdfaaGreatDoor.SpanA Go.Proofs.YthilcidoacgdfaaGreatDoor.DecA Go.Proofs.YthilcidoacgdfaaGreatDoor.DecE Go.Proofs.YthilcidoacgdfaaGreatDoor.FigA Go.Proofs.YthilcidoacgdfaaGreatDoor.FigD Go.Proofs.YthilcidoacgdfaaGreatDoor.FigG Go.Proofs.YthilcidoacgdfaaGreatDoor.FigH Go.Proofs.YthilcidoacgdfaaGreatDoor.FigI Go.Proofs.YthilcidoacgdfaaGreatDoor.ValA Go.Proofs.YthilcidoacgdfaaGreatDoor.ValB Go.Proofs.YthilcidoacgdfaaGreatDoor.ValC Go.Proofs.YthilcidoacgdfaaGreatDoor.ValD Go.Proofs.YthilcidoacgdfaaGreatDoor.CmpA Go.Proofs.YthilcidoacgdfaaGreatDoor.CmpB Go.Proofs.YthilcidoacgdfaaGreatDoor.CmpC Go.Proofs.YthilcidoacgdfaaGreatDoor.CmpD Go.Proofs.YthilcidoacgdfaaGreatDoor.CmpE Go.Proofs.YthilcidoacgdfaaGreatDoor.CmpF
set_option linter.unusedVariables false
set_option linter.unusedSimpArgs false
theorem do_call (op : Int) (A1 : Option Addr) (n1 k1 : Nat) (b1 : Bool) (t1 v1 : Int) (s1 : ByteArray) (A2 : Option Addr) (n2 k2 : Nat) (b2 : Bool) (t2 v2 : Int) (s2 : ByteArray) (T1 T2 : Int) (w : World) (hT : Tabs w) (h1 : 2 ≤ T1 ∧ T1 ≤ 4) (h2 : 2 ≤ T2 ∧ T2 ≤ 4) (hv1 : I64 v1) (hv2 : I64 v2) (hs1 : s1.size ≤ 1000000000) (hs2 : s2.size ≤ 1000000000) (ho : op = 3 ∨ op = 4 ∨ op = 5 ∨ op = 7) : Calls Tryz.prog 21 #[.pointer none, .int .i64 op, .agg #[.int .i64 T1, .slice A1 n1 k1, .bool b1, .int .i64 t1, .int .i64 v1, .string s1], .agg #[.int .i64 T2, .slice A2 n2 k2, .bool b2, .int .i64 t2, .int .i64 v2, .string s2]] w fun e w' => e = .returned (.bool (doB op T1 b1 t1 v1 s1 T2 b2 t2 v2 s2)) ∧ Below w.heap.size w w' := by
  unfold doB
  have bt : ∀ {x y : Int}, x = y → (x == y) = true := fun h => by simpa using h
  have bf : ∀ {x y : Int}, x ≠ y → (x == y) = false := fun h => by simpa using h
  by_cases hs : op = 3 ∨ op = 4
  · by_cases p1 : T1 = 2
    · rw [if_pos ⟨hs, .inl p1⟩]
      exact do_t1 op A1 n1 k1 b1 t1 v1 s1 A2 n2 k2 b2 t2 v2 s2 T1 T2 w hT h1 h2 hv1 hv2 hs1 hs2 hs (bt p1)
    · by_cases p2 : T2 = 2
      · rw [if_pos ⟨hs, .inr p2⟩]
        exact do_t2 op A1 n1 k1 b1 t1 v1 s1 A2 n2 k2 b2 t2 v2 s2 T1 T2 w hT h1 h2 hv1 hv2 hs1 hs2 hs (bf p1) (bt p2)
      · rw [if_neg (fun h => h.2.elim p1 p2)]
        by_cases q1 : T1 = 4
        · by_cases q2 : T2 = 4
          · rw [if_pos ⟨hs, q1, q2⟩]
            exact do_x op A1 n1 k1 b1 t1 v1 s1 A2 n2 k2 b2 t2 v2 s2 T1 T2 w hT h1 h2 hv1 hv2 hs1 hs2 hs (bf p1) (bf p2) (bt q1) (bt q2)
          · rw [if_neg (fun h => q2 h.2.2)]
            exact do_n2 op A1 n1 k1 b1 t1 v1 s1 A2 n2 k2 b2 t2 v2 s2 T1 T2 w hT h1 h2 hv1 hv2 hs1 hs2 hs (bf p1) (bf p2) (bt q1) (bf q2)
        · rw [if_neg (fun h => q1 h.2.1)]
          exact do_n1 op A1 n1 k1 b1 t1 v1 s1 A2 n2 k2 b2 t2 v2 s2 T1 T2 w hT h1 h2 hv1 hv2 hs1 hs2 hs (bf p1) (bf p2) (bf q1)
  · rw [if_neg (fun h => hs h.1), if_neg (fun h => hs h.1)]
    exact do_n5 op A1 n1 k1 b1 t1 v1 s1 A2 n2 k2 b2 t2 v2 s2 T1 T2 w hT h1 h2 hv1 hv2 hs1 hs2 (by omega)
/-! ### The plain laws -/
theorem doB_t (op T1 : Int) (b1 : Bool) (t1 v1 : Int) (s1 : ByteArray) (T2 : Int) (b2 : Bool) (t2 v2 : Int) (s2 : ByteArray) (h : op = 3 ∨ op = 4) (p : T1 = 2 ∨ T2 = 2) : doB op T1 b1 t1 v1 s1 T2 b2 t2 v2 s2 = ((toB T1 b1 t1 v1 s1 == toB T2 b2 t2 v2 s2) == (op == 3)) := by
  unfold doB; rw [if_pos ⟨h, p⟩]
theorem doB_x (op T1 : Int) (b1 : Bool) (t1 v1 : Int) (s1 : ByteArray) (T2 : Int) (b2 : Bool) (t2 v2 : Int) (s2 : ByteArray) (h : op = 3 ∨ op = 4) (p : ¬ (T1 = 2 ∨ T2 = 2)) (q : T1 = 4 ∧ T2 = 4) : doB op T1 b1 t1 v1 s1 T2 b2 t2 v2 s2 = ((s1.toList == s2.toList) == (op == 3)) := by
  unfold doB; rw [if_neg (fun x => p x.2), if_pos ⟨h, q⟩]
theorem doB_n (op T1 : Int) (b1 : Bool) (t1 v1 : Int) (s1 : ByteArray) (T2 : Int) (b2 : Bool) (t2 v2 : Int) (s2 : ByteArray) (p : ¬ ((op = 3 ∨ op = 4) ∧ (T1 = 2 ∨ T2 = 2))) (q : ¬ ((op = 3 ∨ op = 4) ∧ T1 = 4 ∧ T2 = 4)) : doB op T1 b1 t1 v1 s1 T2 b2 t2 v2 s2 = cmpN op (nrm (toN T1 b1 t1 v1 s1)) (nrm (toN T2 b2 t2 v2 s2)) := by
  unfold doB; rw [if_neg p, if_neg q]
theorem not_law (T1 : Int) (b1 : Bool) (t1 v1 : Int) (s1 : ByteArray) (T2 : Int) (b2 : Bool) (t2 v2 : Int) (s2 : ByteArray) : (doB 3 T1 b1 t1 v1 s1 T2 b2 t2 v2 s2 != doB 4 T1 b1 t1 v1 s1 T2 b2 t2 v2 s2) = true := by
  by_cases h1 : T1 = 2 ∨ T2 = 2
  · rw [doB_t 3 _ _ _ _ _ _ _ _ _ _ (.inl rfl) h1, doB_t 4 _ _ _ _ _ _ _ _ _ _ (.inr rfl) h1]
    generalize (toB T1 b1 t1 v1 s1 == toB T2 b2 t2 v2 s2) = x
    cases x <;> rfl
  · by_cases h2 : T1 = 4 ∧ T2 = 4
    · rw [doB_x 3 _ _ _ _ _ _ _ _ _ _ (.inl rfl) h1 h2, doB_x 4 _ _ _ _ _ _ _ _ _ _ (.inr rfl) h1 h2]
      generalize (s1.toList == s2.toList) = x
      cases x <;> rfl
    · rw [doB_n 3 _ _ _ _ _ _ _ _ _ _ (fun h => h1 h.2) (fun h => h2 h.2), doB_n 4 _ _ _ _ _ _ _ _ _ _ (fun h => h1 h.2) (fun h => h2 h.2)]
      unfold cmpN
      generalize cmpS (nrm (toN T1 b1 t1 v1 s1)) (nrm (toN T2 b2 t2 v2 s2)) = c
      obtain ⟨c1, c2⟩ := c
      cases c2
      · rfl
      · by_cases h : c1 = 0
        · subst h; rfl
        · have e1 : (c1 == 0) = false := by simpa using h
          have e2 : (c1 != 0) = true := by simpa using h
          simp only [if_true, e1, e2]
          rfl
theorem cmpS_self (a : Int × Int) : cmpS a a = if a.1 = 1 then (0, false) else (0, true) := by
  unfold cmpS
  by_cases h : a.1 = 1
  · rw [if_pos (.inl h), if_pos h]
  · rw [if_neg (by omega), if_neg h, if_pos (by simp)]
theorem self_lt (op : Int) (ho : op = 5 ∨ op = 7) (T : Int) (b : Bool) (t v : Int) (s : ByteArray) : doB op T b t v s T b t v s = false := by
  rw [doB_n _ _ _ _ _ _ _ _ _ _ _ (by omega) (by omega)]
  unfold cmpN
  rw [cmpS_self]
  by_cases h : (nrm (toN T b t v s)).1 = 1
  · rw [if_pos h]
    rcases ho with rfl | rfl <;> rfl
  · rw [if_neg h]
    rcases ho with rfl | rfl <;> rfl
theorem self_eq (T : Int) (hT : 2 ≤ T ∧ T ≤ 4) (b : Bool) (t v : Int) (s : ByteArray) : doB 3 T b t v s T b t v s = (T != 3 || (rightB (t, v) && t != 1)) := by
  have : T = 2 ∨ T = 3 ∨ T = 4 := by omega
  rcases this with rfl | rfl | rfl
  · rw [doB_t 3 _ _ _ _ _ _ _ _ _ _ (.inl rfl) (.inl rfl)]
    cases toB 2 b t v s <;> rfl
  · rw [doB_n 3 _ _ _ _ _ _ _ _ _ _ (by omega) (by omega)]
    unfold cmpN
    rw [cmpS_self]
    have e : toN 3 b t v s = nrm (t, v) := rfl
    rw [e]
    cases hr : rightB (t, v) with
    | true =>
      rw [nrm_of hr, nrm_of hr]
      by_cases h : t = 1
      · subst h; rfl
      · have e2 : (t != 1) = true := by simpa using h
        rw [if_neg h, e2]
        rfl
    | false =>
      have : nrm (t, v) = (1, 0) := by unfold nrm; rw [hr]; rfl
      rw [this]
      rfl
  · rw [doB_x 3 _ _ _ _ _ _ _ _ _ _ (.inl rfl) (by omega) ⟨rfl, rfl⟩]
    simp
end Go.Proofs.YthilcidoacgdfaaGreatDoor.CmpG
