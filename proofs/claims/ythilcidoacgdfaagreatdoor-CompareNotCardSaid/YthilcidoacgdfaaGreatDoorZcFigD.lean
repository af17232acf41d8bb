/- figure's closures: what they compute. -/
import Derived.Test.YthilcidoacgdfaaGreatDoorZcFigC
import Derived.Test.YthilcidoacgdfaaGreatDoorZcMine
import Derived.Test.YthilcidoacgdfaaGreatDoorZcShelf
import Derived.Lib.Builder
import Derived.Shelf.RegionOpen
namespace Go.Proofs.YthilcidoacgdfaaGreatDoor.CharB
end Go.Proofs.YthilcidoacgdfaaGreatDoor.CharB
namespace Go.Proofs.YthilcidoacgdfaaGreatDoor.CharD
end Go.Proofs.YthilcidoacgdfaaGreatDoor.CharD
namespace Go.Proofs.YthilcidoacgdfaaGreatDoor.FigA
end Go.Proofs.YthilcidoacgdfaaGreatDoor.FigA
namespace Go.Proofs.YthilcidoacgdfaaGreatDoor.FigC
end Go.Proofs.YthilcidoacgdfaaGreatDoor.FigC
namespace Go.Proofs.YthilcidoacgdfaaGreatDoor.SpanA
end Go.Proofs.YthilcidoacgdfaaGreatDoor.SpanA
namespace Go.Proofs.YthilcidoacgdfaaGreatDoorW.PrintLast
end Go.Proofs.YthilcidoacgdfaaGreatDoorW.PrintLast
namespace Go.Proofs.YthilcidoacgdfaaGreatDoorW.PrintMore
end Go.Proofs.YthilcidoacgdfaaGreatDoorW.PrintMore
namespace Go.Proofs.YthilcidoacgdfaaGreatDoorW.PrintWords
end Go.Proofs.YthilcidoacgdfaaGreatDoorW.PrintWords
namespace Go.Proofs.YthilcidoacgdfaaGreatDoor.FigD
open Go.RowKit Go.Shelf Go.Proofs.YthilcidoacgdfaaGreatDoorW.PrintWords Go.Proofs.YthilcidoacgdfaaGreatDoorW.PrintLast Go.Proofs.YthilcidoacgdfaaGreatDoorW.PrintMore Go.Proofs.YthilcidoacgdfaaGreatDoor.CharB Go.Proofs.YthilcidoacgdfaaGreatDoor.CharD Go.Proofs.YthilcidoacgdfaaGreatDoor.SpanA Go.Proofs.YthilcidoacgdfaaGreatDoor.FigA Go.Proofs.YthilcidoacgdfaaGreatDoor.FigC
set_option linter.unusedVariables false
set_option linter.unusedSimpArgs false
theorem cell_h {W : World} {b : Nat} {cs : Array Value} {t : TypeId} (h : W.heap[b]? = some (Obj.cells cs t (0, 0))) (j : Nat) : W.cell? ⟨b, j, none⟩ = cs[j]? := Lib.cell_of_heap h j
/-- Block b is one cell that holds v. -/
def Cell (b : Nat) (v : Value) (t : TypeId) (W : World) : Prop := W.heap[b]? = some (Obj.cells #[v] t (0, 0))
theorem Cell.at {b : Nat} {v : Value} {t : TypeId} {W : World} (h : Cell b v t W) : W.cell? ⟨b, 0, none⟩ = some v := by rw [cell_h h]; rfl
theorem Cell.free {b : Nat} {v : Value} {t : TypeId} {W : World} (h : Cell b v t W) : W.frozen? ⟨b, 0, none⟩ = false := Lib.frozen_of_heap h 0
theorem Cell.set {b : Nat} {v u : Value} {t : TypeId} {W : World} (h : Cell b v t W) : Cell b u t (W.setCell ⟨b, 0, none⟩ u) := by
  unfold Cell at h ⊢
  obtain ⟨hlt, hk⟩ := Array.getElem?_eq_some_iff.1 h
  show (W.heap.modify b _)[b]? = _
  rw [Array.getElem?_eq_getElem (by rw [Array.size_modify]; exact hlt), Array.getElem_modify_self, hk]
  rfl
theorem Cell.other {b c : Nat} {v u : Value} {t : TypeId} {W : World} (h : Cell b v t W) (hne : c ≠ b) : Cell b v t (W.setCell ⟨c, 0, none⟩ u) := by
  unfold Cell at h ⊢
  rw [Below.heap_setCell _ _ _ b (fun e => hne (by simpa using e.symm))]
  exact h
theorem take_stop (p : UInt8 → Bool) (l : List UInt8) (k : Nat) (hk : k ≤ l.length) (h : (l.take k).all p = true) (hs : (h' : k < l.length) → p l[k] = false) : l.takeWhile p = l.take k ∧ l.dropWhile p = l.drop k := by
  have h2 : (l.drop k).head?.map p ≠ some true := by
    by_cases h' : k < l.length
    · rw [List.drop_eq_getElem_cons h', List.head?_cons, Option.map_some, hs h']; simp
    · rw [List.drop_eq_nil_of_le (by omega)]; simp
  have := takeW_all (l.take k) (l.drop k) h h2
  rw [List.take_append_drop] at this
  exact this
theorem all_take (p : UInt8 → Bool) (l : List UInt8) (k : Nat) (hk : k < l.length) (h : (l.take k).all p = true) (hp : p l[k] = true) : (l.take (k + 1)).all p = true := by
  rw [List.take_succ_eq_append_getElem hk, List.all_append, h]
  simp [hp]
theorem digit_call (c : UInt8) (w : World) : Calls Tryz.prog 132 #[.int .u8 (c.toNat : Int)] w fun e w' => e = .returned (.bool (digB c)) ∧ w = w' := by
  by_cases h1 : 48 ≤ c.toNat
  · have d1 : decide ((48 : Int) ≤ (c.toNat : Int)) = true := by simp; omega
    by_cases h2 : c.toNat ≤ 57
    · have d2 : decide ((c.toNat : Int) ≤ (57 : Int)) = true := by simp; omega
      rw [(digB_iff c).2 ⟨h1, h2⟩]
      clear h1 h2
      go_enter Tryz.func132, Tryz.ntmps132
      go_wp2
      go_ret
      exact ⟨rfl, rfl⟩
    · have d2 : decide ((c.toNat : Int) ≤ (57 : Int)) = false := by simp; omega
      rw [show digB c = false by cases h : digB c with | false => rfl | true => exact absurd ((digB_iff c).1 h).2 h2]
      clear h1 h2
      go_enter Tryz.func132, Tryz.ntmps132
      go_wp2
      go_ret
      exact ⟨rfl, rfl⟩
  · have d1 : decide ((48 : Int) ≤ (c.toNat : Int)) = false := by simp; omega
    rw [show digB c = false by cases h : digB c with | false => rfl | true => exact absurd ((digB_iff c).1 h).1 h1]
    clear h1
    go_enter Tryz.func132, Tryz.ntmps132
    go_wp2
    go_ret
    exact ⟨rfl, rfl⟩
theorem all_call (c : UInt8) (w : World) : Calls Tryz.prog 133 #[.int .u8 (c.toNat : Int)] w fun e w' => e = .returned (.bool true) ∧ w = w' := by
  go_enter Tryz.func133, Tryz.ntmps133
  go_wp2
  go_ret
  exact ⟨rfl, rfl⟩
def dotB (c : UInt8) : Bool := c == 46
theorem dotB_int (c : UInt8) : ((c.toNat : Int) == 46) = dotB c := by
  unfold dotB
  have : ∀ n : Fin 256, (((UInt8.ofNat n.1).toNat : Int) == 46) = (UInt8.ofNat n.1 == 46) := by decide +kernel
  have := this ⟨c.toNat, c.toNat_lt⟩
  simpa using this
theorem point_call (f : Bool) (c : UInt8) (b : Nat) (w : World) (h : Cell b (.bool f) 4 w) : Calls Tryz.prog 131 #[.int .u8 (c.toNat : Int), .pointer (some ⟨b, 0, none⟩)] w fun e w' => e = .returned (.bool (f && dotB c)) ∧ w' = w.setCell ⟨b, 0, none⟩ (.bool false) := by
  have c0 := h.at
  have f0 := h.free
  have hd := dotB_int c
  clear h
  cases f with
  | false =>
    clear hd
    go_enter Tryz.func131, Tryz.ntmps131
    go_wp2
    go_ret
    exact ⟨rfl, rfl⟩
  | true =>
    cases hx : dotB c with
    | false =>
      rw [hx] at hd
      clear hx
      go_enter Tryz.func131, Tryz.ntmps131
      go_wp2
      go_ret
      exact ⟨rfl, rfl⟩
    | true =>
      rw [hx] at hd
      clear hx
      go_enter Tryz.func131, Tryz.ntmps131
      go_wp2
      go_ret
      exact ⟨rfl, rfl⟩
set_option maxHeartbeats 1600000 in
set_option maxRecDepth 100000 in
theorem take_digit (s : ByteArray) (b : Nat) (w : World) (hs : s.size ≤ 1000000000) (h : Cell b (.string s) 9 w) :
    Calls Tryz.prog 165 #[.func (.func 132) #[] #[], .pointer (some ⟨b, 0, none⟩)] w fun e w' => e = .returned (.string (ba (s.data.toList.takeWhile digB))) ∧ w' = w.setCell ⟨b, 0, none⟩ (.string (ba (s.data.toList.dropWhile digB))) := by
  have c0 := h.at
  have f0 := h.free
  clear h
  obtain ⟨R1, hR1⟩ : ∃ R, ba (s.data.toList.takeWhile digB) = R := ⟨_, rfl⟩
  obtain ⟨R2, hR2⟩ : ∃ R, ba (s.data.toList.dropWhile digB) = R := ⟨_, rfl⟩
  rw [hR1, hR2]
  have H1 := Aside0.mk hR1
  have H2 := Aside0.mk hR2
  clear hR1 hR2
  have hlen : s.data.toList.length ≤ s.size ∧ s.size ≤ s.data.toList.length := by rw [← Lib.size_eq]; exact ⟨Nat.le_refl _, Nat.le_refl _⟩
  go_enter Tryz.func165, Tryz.ntmps165
  go_wp2
  go_loop [4] (fun i => ∃ k : Nat, i = .int .i64 (k : Int) ∧ Aside0 (k ≤ s.size) ∧ Aside0 ((s.data.toList.take k).all digB = true)) (fun i => s.size - (intOf i).toNat)
  case atStart => exact ⟨0, rfl, ⟨Nat.zero_le _⟩, ⟨rfl⟩⟩
  case round =>
    obtain ⟨k, rfl, HK, HA⟩ := hrel
    have hk := HK.out
    by_cases hlt : k < s.size
    · have hlt' : k < s.data.toList.length := by omega
      have hc := digit_call (s[k]'hlt) w
      cases hd : digB (s[k]'hlt) with
      | true =>
        have hd2 := Aside0.mk hd
        rw [hd] at hc
        clear hd
        go_wp2_with fail
        refine hc.mono ?_
        rintro e w' ⟨rfl, rfl⟩
        go_wp2_with fail
        go_round
        case rel => exact ⟨k + 1, by go_num, ⟨by omega⟩, ⟨all_take _ _ k hlt' HA.out hd2.out⟩⟩
        case measure => simp [intOf]; omega
      | false =>
        
        have hst := take_stop digB s.data.toList k (by omega) HA.out (fun _ => hd)
        rw [hd] at hc
        have e1 : R1 = s.extract 0 k := by rw [← H1.out, hst.1]; exact ext_list (by rw [extract_list, ba_list]; simp)
        have e2 : R2 = s.extract k s.size := by rw [← H2.out, hst.2]; exact ext_list (by rw [extract_list, ba_list, List.take_of_length_le (by rw [List.length_drop]; omega)])
        subst e1 e2
        clear hd hst H1 H2
        go_wp2_with fail
        refine hc.mono ?_
        rintro e w' ⟨rfl, rfl⟩
        go_wp2_with fail
        go_ret
        exact ⟨rfl, rfl⟩
    · have hst := take_stop digB s.data.toList k (by omega) HA.out (fun h => absurd h (by omega))
      obtain rfl : k = s.size := by omega
      have e1 : R1 = s.extract 0 s.size := by rw [← H1.out, hst.1]; exact ext_list (by rw [extract_list, ba_list]; simp)
      have e2 : R2 = s.extract s.size s.size := by rw [← H2.out, hst.2]; exact ext_list (by rw [extract_list, ba_list, List.take_of_length_le (by rw [List.length_drop]; omega)])
      subst e1 e2
      clear hst H1 H2
      go_wp2_with fail
      go_ret
      exact ⟨rfl, rfl⟩
set_option maxHeartbeats 1600000 in
set_option maxRecDepth 100000 in
theorem take_all (s : ByteArray) (b : Nat) (w : World) (hs : s.size ≤ 1000000000) (h : Cell b (.string s) 9 w) :
    Calls Tryz.prog 165 #[.func (.func 133) #[] #[], .pointer (some ⟨b, 0, none⟩)] w fun e w' => e = .returned (.string (ba (s.data.toList.takeWhile (fun _ => true)))) ∧ w' = w.setCell ⟨b, 0, none⟩ (.string (ba (s.data.toList.dropWhile (fun _ => true)))) := by
  have c0 := h.at
  have f0 := h.free
  clear h
  obtain ⟨R1, hR1⟩ : ∃ R, ba (s.data.toList.takeWhile (fun _ => true)) = R := ⟨_, rfl⟩
  obtain ⟨R2, hR2⟩ : ∃ R, ba (s.data.toList.dropWhile (fun _ => true)) = R := ⟨_, rfl⟩
  rw [hR1, hR2]
  have H1 := Aside0.mk hR1
  have H2 := Aside0.mk hR2
  clear hR1 hR2
  have hlen : s.data.toList.length ≤ s.size ∧ s.size ≤ s.data.toList.length := by rw [← Lib.size_eq]; exact ⟨Nat.le_refl _, Nat.le_refl _⟩
  go_enter Tryz.func165, Tryz.ntmps165
  go_wp2
  go_loop [4] (fun i => ∃ k : Nat, i = .int .i64 (k : Int) ∧ Aside0 (k ≤ s.size) ∧ Aside0 ((s.data.toList.take k).all (fun _ => true) = true)) (fun i => s.size - (intOf i).toNat)
  case atStart => exact ⟨0, rfl, ⟨Nat.zero_le _⟩, ⟨rfl⟩⟩
  case round =>
    obtain ⟨k, rfl, HK, HA⟩ := hrel
    have hk := HK.out
    by_cases hlt : k < s.size
    · have hlt' : k < s.data.toList.length := by omega
      have hc := all_call (s[k]'hlt) w
      cases hd : (fun _ => true) (s[k]'hlt) with
      | true =>
        have hd2 := Aside0.mk hd
        skip
        clear hd
        go_wp2_with fail
        refine hc.mono ?_
        rintro e w' ⟨rfl, rfl⟩
        go_wp2_with fail
        go_round
        case rel => exact ⟨k + 1, by go_num, ⟨by omega⟩, ⟨all_take _ _ k hlt' HA.out rfl⟩⟩
        case measure => simp [intOf]; omega
      | false => cases hd
    · have hst := take_stop (fun _ => true) s.data.toList k (by omega) HA.out (fun h => absurd h (by omega))
      obtain rfl : k = s.size := by omega
      have e1 : R1 = s.extract 0 s.size := by rw [← H1.out, hst.1]; exact ext_list (by rw [extract_list, ba_list]; simp)
      have e2 : R2 = s.extract s.size s.size := by rw [← H2.out, hst.2]; exact ext_list (by rw [extract_list, ba_list, List.take_of_length_le (by rw [List.length_drop]; omega)])
      subst e1 e2
      clear hst H1 H2
      go_wp2_with fail
      go_ret
      exact ⟨rfl, rfl⟩
/-- A point in front, and what stands behind it. -/
def dotL (s : List UInt8) : List UInt8 := if s.head? = some 46 then [46] else []
def dotR (s : List UInt8) : List UInt8 := if s.head? = some 46 then s.tail else s
theorem dotB_iff (c : UInt8) : dotB c = true ↔ c = 46 := by unfold dotB; simp
set_option maxHeartbeats 1600000 in
set_option maxRecDepth 100000 in
theorem take_point (s : ByteArray) (b c B : Nat) (w : World) (hs : s.size ≤ 1000000000) (h : Cell b (.string s) 9 w) (hc : Cell c (.bool true) 4 w) (hne : c ≠ b) (hb : B ≤ b) (hcB : B ≤ c) :
    Calls Tryz.prog 165 #[.func (.func 131) #[] #[.pointer (some ⟨c, 0, none⟩)], .pointer (some ⟨b, 0, none⟩)] w fun e w' => e = .returned (.string (ba (dotL s.data.toList))) ∧ Cell b (.string (ba (dotR s.data.toList))) 9 w' ∧ Below B w w' := by
  obtain ⟨R1, hR1⟩ : ∃ R, ba (dotL s.data.toList) = R := ⟨_, rfl⟩
  obtain ⟨R2, hR2⟩ : ∃ R, ba (dotR s.data.toList) = R := ⟨_, rfl⟩
  rw [hR1, hR2]
  have hB0 := Aside0.mk (Below.refl B w)
  have HC := Aside0.mk h
  by_cases hz : 0 < s.size
  · have hz' : 0 < s.data.toList.length := by rw [← Lib.size_eq]; exact hz
    have hsp : s.data.toList = s[0]'hz :: s.data.toList.drop 1 := by
      have := List.drop_eq_getElem_cons hz'
      rw [List.drop_zero] at this
      exact this
    have hp0 := point_call true (s[0]'hz) c w hc
    cases hd : dotB (s[0]'hz) with
    | false =>
      rw [hd] at hp0
      have hne46 : ¬ s.data.toList.head? = some 46 := by rw [hsp]; simp; intro q; rw [(dotB_iff _).2 q] at hd; cases hd
      have e1 : R1 = ByteArray.empty := by rw [← hR1]; unfold dotL; rw [if_neg hne46]; rfl
      have e2 : s = R2 := by rw [← hR2]; unfold dotR; rw [if_neg hne46]; rfl
      subst e1 e2
      have HB1 := Aside0.mk (((Below.refl B w).setCell (p := ⟨c, 0, none⟩) hcB (.bool false)).setCell (p := ⟨b, 0, none⟩) hb (.string s))
      have HC1 := Aside0.mk ((h.other (c := c) (u := .bool false) hne).set (u := .string s))
      have c0 := h.at
      have hb1 := h.other (c := c) (u := .bool false) hne
      have c1 := hb1.at
      have f1 := hb1.free
      clear hR1 hR2 hsp hd hne46 h hc hb1
      go_enter Tryz.func165, Tryz.ntmps165
      go_wp2
      go_loop [4] (fun i => i = .int .i64 0) (fun _ => 0)
      case atStart => rfl
      case round =>
        obtain rfl := hrel
        go_wp2_with fail
        refine hp0.mono ?_
        rintro e w' ⟨rfl, rfl⟩
        go_wp2_with fail
        go_ret
        exact ⟨rfl, HC1.out, HB1.out⟩
    | true =>
      rw [hd] at hp0
      have h46 : s.data.toList.head? = some 46 := by rw [hsp]; simp; exact (dotB_iff _).1 hd
      have e1 : R1 = s.extract 0 1 := by rw [← hR1]; unfold dotL; rw [if_pos h46]; exact ext_list (by rw [extract_list, ba_list, hsp]; simp [(dotB_iff _).1 hd])
      have e2 : R2 = (if 1 < s.size then s.extract 1 s.size else ByteArray.empty) := by
        rw [← hR2]; unfold dotR; rw [if_pos h46]
        split
        · exact ext_list (by rw [extract_list, ba_list, List.take_of_length_le (by rw [List.length_drop, ← Lib.size_eq]; omega), List.drop_one])
        · rw [List.eq_nil_of_length_eq_zero (l := s.data.toList.tail) (by rw [List.length_tail, ← Lib.size_eq]; omega)]; rfl
      subst e1
      have hB1 := (Below.refl B w).setCell (p := ⟨c, 0, none⟩) hcB (.bool false)
      have hb1 := h.other (c := c) (u := .bool false) hne
      have hb2 := hb1.other (c := c) (u := .bool false) hne
      have c0 := h.at
      have c1 := hb1.at
      have f1 := hb1.free
      have c2 := hb2.at
      have f2 := hb2.free
      have hp1 := fun d => point_call false d c (w.setCell ⟨c, 0, none⟩ (.bool false)) hc.set
      have HB1 := Aside0.mk (hB1.setCell (p := ⟨b, 0, none⟩) hb (.string R2))
      have HB2 := Aside0.mk ((hB1.setCell (p := ⟨c, 0, none⟩) hcB (.bool false)).setCell (p := ⟨b, 0, none⟩) hb (.string R2))
      have HC1 := Aside0.mk (hb1.set (u := .string R2))
      have HC2 := Aside0.mk (hb2.set (u := .string R2))
      clear hR1 hR2 hsp hd h46 h hc hb1 hb2 hB1
      have HE := Aside0.mk e2
      clear e2
      go_enter Tryz.func165, Tryz.ntmps165
      go_wp2
      go_loopg [4] 1 (fun kq v4 w' => (kq = 1 ∧ v4 = .int .i64 0 ∧ w' = w) ∨ (kq = 0 ∧ v4 = .int .i64 1 ∧ w' = w.setCell ⟨c, 0, none⟩ (.bool false)))
      case atStart => exact .inl ⟨rfl, rfl, rfl⟩
      case round =>
        rcases hrel with ⟨rfl, rfl, rfl⟩ | ⟨rfl, rfl, rfl⟩
        · go_wp2_with fail
          refine hp0.mono ?_
          rintro e w' ⟨rfl, rfl⟩
          go_wp2_with fail
          go_roundg 0
          case measure => omega
          case rel => exact .inr ⟨rfl, rfl, rfl⟩
        · by_cases h1 : 1 < s.size
          · have e2 := HE.out
            rw [if_pos h1] at e2
            subst e2
            have hp2 := hp1 (s[1]'h1)
            clear hp1 hp0
            go_wp2_with fail
            refine hp2.mono ?_
            rintro e w' ⟨rfl, rfl⟩
            go_wp2_with fail
            go_ret
            exact ⟨rfl, HC2.out, HB2.out⟩
          · have e2 := HE.out
            rw [if_neg h1] at e2
            subst e2
            have h2 : s.size = 1 := by omega
            clear HE
            clear hp1 hp0
            go_wp2_with fail
            go_ret
            exact ⟨rfl, HC1.out, HB1.out⟩
  · have hnil : s.data.toList = [] := List.length_eq_zero_iff.1 (by rw [← Lib.size_eq]; omega)
    have e1 : R1 = ByteArray.empty := by rw [← hR1, hnil]; rfl
    have e2 : s = R2 := by rw [← hR2, hnil]; exact ext_list (by rw [hnil]; rfl)
    subst e1 e2
    have HB1 := Aside0.mk ((Below.refl B w).setCell (p := ⟨b, 0, none⟩) hb (.string s))
    have HC1 := Aside0.mk (h.set (u := .string s))
    have c0 := h.at
    have f0 := h.free
    clear hR1 hR2 hnil h hc
    go_enter Tryz.func165, Tryz.ntmps165
    go_wp2
    go_loop [4] (fun i => i = .int .i64 0) (fun _ => 0)
    case atStart => rfl
    case round =>
      obtain rfl := hrel
      go_wp2_with fail
      go_ret
      exact ⟨rfl, HC1.out, HB1.out⟩
/-- What stands ahead of a literal's point, and behind it, and whether it is a literal. -/
def partsS (s : List UInt8) : List UInt8 × List UInt8 × Bool :=
  let r := s.dropWhile digB
  let a := s.takeWhile digB
  let b := if r.head? = some 46 then r.tail.takeWhile digB else []
  let z := if r.head? = some 46 then r.tail.dropWhile digB else r
  (a, b, z.isEmpty && (!a.isEmpty || !b.isEmpty))
theorem taker_call (s : ByteArray) (w : World) : Calls Tryz.prog 130 #[.string s] w fun e w' => e = .returned (.func (.func 165) #[] #[.pointer (some ⟨w.heap.size, 0, none⟩)]) ∧ w' = w.alloc (Obj.cells #[.string s] 9) := by
  go_enter Tryz.func130, Tryz.ntmps130
  go_wp2
  go_ret
  exact ⟨rfl, rfl⟩
end Go.Proofs.YthilcidoacgdfaaGreatDoor.FigD
