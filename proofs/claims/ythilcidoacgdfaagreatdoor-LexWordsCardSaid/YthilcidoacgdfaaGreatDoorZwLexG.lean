import Derived.Test.YthilcidoacgdfaaGreatDoorZwLexF
import Derived.Lib.RuneCountTail
import Derived.Deep.QuietTactic
import Derived.BigQuiet
set_option maxHeartbeats 4000000
set_option maxRecDepth 100000
namespace Go.Proofs.YthilcidoacgdfaaGreatDoor.CharA
end Go.Proofs.YthilcidoacgdfaaGreatDoor.CharA
namespace Go.Proofs.YthilcidoacgdfaaGreatDoor.CharB
end Go.Proofs.YthilcidoacgdfaaGreatDoor.CharB
namespace Go.Proofs.YthilcidoacgdfaaGreatDoor.CharD
end Go.Proofs.YthilcidoacgdfaaGreatDoor.CharD
namespace Go.Proofs.YthilcidoacgdfaaGreatDoor.CharF
end Go.Proofs.YthilcidoacgdfaaGreatDoor.CharF
namespace Go.Proofs.YthilcidoacgdfaaGreatDoor.FigA
end Go.Proofs.YthilcidoacgdfaaGreatDoor.FigA
namespace Go.Proofs.YthilcidoacgdfaaGreatDoor.FigC
end Go.Proofs.YthilcidoacgdfaaGreatDoor.FigC
namespace Go.Proofs.YthilcidoacgdfaaGreatDoor.FigD
end Go.Proofs.YthilcidoacgdfaaGreatDoor.FigD
namespace Go.Proofs.YthilcidoacgdfaaGreatDoor.FigG
end Go.Proofs.YthilcidoacgdfaaGreatDoor.FigG
namespace Go.Proofs.YthilcidoacgdfaaGreatDoor.FigI
end Go.Proofs.YthilcidoacgdfaaGreatDoor.FigI
namespace Go.Proofs.YthilcidoacgdfaaGreatDoor.LexA
end Go.Proofs.YthilcidoacgdfaaGreatDoor.LexA
namespace Go.Proofs.YthilcidoacgdfaaGreatDoor.LexF
end Go.Proofs.YthilcidoacgdfaaGreatDoor.LexF
namespace Go.Proofs.YthilcidoacgdfaaGreatDoor.SpanA
end Go.Proofs.YthilcidoacgdfaaGreatDoor.SpanA
namespace Go.Proofs.YthilcidoacgdfaaGreatDoorW.PrintLast
end Go.Proofs.YthilcidoacgdfaaGreatDoorW.PrintLast
namespace Go.Proofs.YthilcidoacgdfaaGreatDoorW.PrintMore
end Go.Proofs.YthilcidoacgdfaaGreatDoorW.PrintMore
namespace Go.Proofs.YthilcidoacgdfaaGreatDoorW.PrintWords
end Go.Proofs.YthilcidoacgdfaaGreatDoorW.PrintWords
namespace Go.Proofs.YthilcidoacgdfaaGreatDoor.LexG
open Go.RowKit Go.Shelf YthilcidoacgdfaaGreatDoorW.PrintWords YthilcidoacgdfaaGreatDoorW.PrintLast YthilcidoacgdfaaGreatDoorW.PrintMore CharA CharB CharD CharF SpanA FigA FigC FigD FigG FigI LexA LexF
set_option linter.unusedVariables false
set_option linter.unusedSimpArgs false
theorem ldigit_call (c : UInt8) (w : World) : Calls Tryz.prog 94 #[.int .u8 (c.toNat : Int)] w fun e w' => e = .returned (.bool (digB c)) ∧ w = w' := by
 by_cases h1 : 48 ≤ c.toNat
 ·have d1 : decide ((48 : Int) ≤ (c.toNat : Int)) = true := by simp; omega
  by_cases h2 : c.toNat ≤ 57
  ·have d2 : decide ((c.toNat : Int) ≤ (57 : Int)) = true := by simp; omega
   rw [(qi1 c).2 ⟨h1, h2⟩]
   clear h1 h2
   go_enter Tryz.func94, Tryz.ntmps94
   go_wp2
   go_ret
   exact ⟨rfl, rfl⟩
  ·have d2 : decide ((c.toNat : Int) ≤ (57 : Int)) = false := by simp; omega
   rw [show digB c = false by cases h : digB c with | false => rfl | true => exact absurd ((qi1 c).1 h).2 h2]
   clear h1 h2
   go_enter Tryz.func94, Tryz.ntmps94
   go_wp2
   go_ret
   exact ⟨rfl, rfl⟩
 ·have d1 : decide ((48 : Int) ≤ (c.toNat : Int)) = false := by simp; omega
  rw [show digB c = false by cases h : digB c with | false => rfl | true => exact absurd ((qi1 c).1 h).1 h1]
  clear h1
  go_enter Tryz.func94, Tryz.ntmps94
  go_wp2
  go_ret
  exact ⟨rfl, rfl⟩
def dgN (s : ByteArray) : Nat := (s.data.toList.takeWhile digB).length
theorem dgN_le (s : ByteArray) : dgN s ≤ s.size := by unfold dgN; rw [Lib.size_eq]; exact (List.takeWhile_sublist _).length_le
theorem qm1 (s : ByteArray) (w : World) (hs : s.size ≤ 1000000000) :
  Calls Tryz.prog 54 #[.string s] w fun e w' => e = .returned (.int .i64 (dgN s : Int)) ∧ w = w' := by
 obtain ⟨R, hR⟩ : ∃ R, dgN s = R := ⟨_, rfl⟩
 rw [hR]
 have H1 := Aside0.mk hR
 clear hR
 have hlen : s.data.toList.length ≤ s.size ∧ s.size ≤ s.data.toList.length := by rw [← Lib.size_eq]; exact ⟨Nat.le_refl _, Nat.le_refl _⟩
 go_enter Tryz.func54, Tryz.ntmps54
 go_wp2
 go_loop [3] (fun i => ∃ k : Nat, i = .int .i64 (k : Int) ∧ Aside0 (k ≤ s.size) ∧ Aside0 ((s.data.toList.take k).all digB = true)) (fun i => s.size - (intOf i).toNat)
 case atStart => exact ⟨0, rfl, ⟨Nat.zero_le _⟩, ⟨rfl⟩⟩
 case round =>
  obtain ⟨k, rfl, HK, HA⟩ := hrel
  have hk := HK.out
  by_cases hlt : k < s.size
  ·have hlt' : k < s.data.toList.length := by omega
   have hc := ldigit_call (s[k]'hlt) w
   cases hd : digB (s[k]'hlt) with
   | true =>
    have hd2 := Aside0.mk hd
    rw [hd] at hc
    clear hd
    go_wp2_with fail
    refine hc.mono ?_
    rintro e w' ⟨rfl, rfl⟩
    go_wp2_with fail
    go_round
    case rel => exact ⟨k + 1, by go_num, ⟨by omega⟩, ⟨all_take _ _ k hlt' HA.out hd2.out⟩⟩
    case measure => simp [intOf]; omega
   | false =>
    have hst := take_stop digB s.data.toList k (by omega) HA.out (fun _ => hd)
    rw [hd] at hc
    obtain rfl : R = k := by rw [← H1.out]; unfold dgN; rw [hst.1, List.length_take]; omega
    clear hd hst H1
    go_wp2_with fail
    refine hc.mono ?_
    rintro e w' ⟨rfl, rfl⟩
    go_wp2_with fail
    go_ret
    exact ⟨rfl, rfl⟩
  ·have hst := take_stop digB s.data.toList k (by omega) HA.out (fun h => absurd h (by omega))
   obtain rfl : R = k := by rw [← H1.out]; unfold dgN; rw [hst.1, List.length_take]; omega
   clear hst H1
   go_wp2_with fail
   go_ret
   exact ⟨rfl, rfl⟩
theorem ext_len (s : ByteArray) (k : Nat) (hk : k ≤ s.size) : (s.extract k s.size).size = s.size - k := by simp
theorem decL_drop (s : ByteArray) (k : Nat) (hk : k < s.size) : Lib.decodeGo (s.extract k s.size) = Lib.decodeL (s.data.toList.drop k) := by
 have hsz := ext_len s k (Nat.le_of_lt hk)
 have h := Lib.tail_decode s k 0
 rw [Nat.add_zero] at h
 unfold Lib.decodeGo
 rw [if_neg (by omega), h]
 exact (Lib.decodeL_drop s k).symm
theorem ext_all (s : ByteArray) : s.extract 0 s.size = s := qg1 (by rw [qa1, List.drop_zero, List.take_of_length_le (by rw [← Lib.size_eq]; omega)])
theorem ext_none (s : ByteArray) : s.extract s.size s.size = ByteArray.empty := qg1 (by rw [qa1, Nat.sub_self, List.take_zero]; rfl)
theorem decodeGo_ascii (s : ByteArray) (h0 : 0 < s.size) (h : (s[0]'h0).toNat < 128) : Lib.decodeGo s = ((s[0]'h0).toNat, 1) := by
 unfold Lib.decodeGo
 rw [if_neg (by omega), ← Lib.decodeL_drop, List.drop_zero]
 have h0' : 0 < s.data.toList.length := by rw [← Lib.size_eq]; exact h0
 have e : s.data.toList = (s[0]'h0) :: s.data.toList.drop 1 := by
  have := List.drop_eq_getElem_cons h0'
  rw [List.drop_zero] at this
  exact this
 rw [e]
 exact Lib.decodeL_ascii _ _ h
theorem decode_call (s : ByteArray) (w : World) (hT : Tabs w) :
  Calls Tryz.prog 101 #[.string s] w fun e w' => e = .returned (.tuple #[.int .i32 (Lib.decodeGo s).1, .int .i64 (Lib.decodeGo s).2]) ∧ Below w.heap.size w w' := by
 have hs := Tryz.utf8_decodeRuneInStringSlow s w hT
 by_cases h0 : 0 < s.size
 ·by_cases h1 : (s[0]'h0).toNat < 128
  ·rw [decodeGo_ascii s h0 h1]
   clear hs hT
   have d0 : s.toList.isEmpty = false := by rw [ByteArray.toList_eq]; cases e : s.data.toList with | nil => rw [Lib.size_eq, e] at h0; simp at h0 | cons _ _ => rfl
   have d1 : decide (((s[0]'h0).toNat : Int) < 128) = true := by simp; omega
   go_enter Tryz.func101, Tryz.ntmps101
   go_wp2_with fail
   go_ret2
   exact ⟨rfl, Below.refl _ _⟩
  ·have d0 : s.toList.isEmpty = false := by rw [ByteArray.toList_eq]; cases e : s.data.toList with | nil => rw [Lib.size_eq, e] at h0; simp at h0 | cons _ _ => rfl
   have d1 : decide (((s[0]'h0).toNat : Int) < 128) = false := by simp; omega
   generalize Lib.decodeGo s = q at *
   clear hT
   go_enter Tryz.func101, Tryz.ntmps101
   go_wp2_with fail
   refine hs.mono ?_
   rintro e w1 ⟨rfl, b1⟩
   go_wp2_with fail
   go_ret2
   exact ⟨rfl, b1⟩
 ·have d0 : s.toList = [] := by rw [ByteArray.toList_eq]; exact List.length_eq_zero_iff.1 (by rw [← Lib.size_eq]; omega)
  generalize Lib.decodeGo s = q at *
  clear hT
  go_enter Tryz.func101, Tryz.ntmps101
  go_wp2_with fail
  refine hs.mono ?_
  rintro e w1 ⟨rfl, b1⟩
  go_wp2_with fail
  go_ret2
  exact ⟨rfl, b1⟩
theorem run_stop (f : Nat) (l : List UInt8) (h : l = [] ∨ partB ((Lib.decodeL l).1 : Int) = false) : runL f l = [] := by
 cases f with
 | zero => rfl
 | succ f =>
  simp only [runL]
  rcases h with h | h
  ·rw [if_pos h]
  ·rw [if_neg (show ¬ partB ((Lib.decodeL l).1 : Int) = true by rw [h]; simp)]
   split <;> rfl
theorem run_next (f : Nat) (l : List UInt8) (h0 : l ≠ []) (h : partB ((Lib.decodeL l).1 : Int) = true) : runL (f + 1) l = l.take (Lib.decodeL l).2 ++ runL f (l.drop (Lib.decodeL l).2) := by
 simp only [runL]
 rw [if_neg h0, if_pos h]
theorem ext_take (s : ByteArray) (k : Nat) (hk : k ≤ s.size) : s.extract 0 k = ba (s.data.toList.take k) := qg1 (by rw [qa1, qu]; simp)
theorem ext_drop (s : ByteArray) (k : Nat) (hk : k ≤ s.size) : s.extract k s.size = ba (s.data.toList.drop k) := qg1 (by rw [qa1, qu, List.take_of_length_le (by rw [List.length_drop, ← Lib.size_eq]; omega)])
theorem run_call (s : ByteArray) (w : World) (hs : s.size ≤ 1000000000) (hT : Tabs w) :
  Calls Tryz.prog 58 #[.string s] w fun e w' => e = .returned (.tuple #[.string (ba (runS s.data.toList)), .string (ba (s.data.toList.drop (runS s.data.toList).length))]) ∧ Below w.heap.size w w' := by
 obtain ⟨R, hR⟩ : ∃ R, runS s.data.toList = R := ⟨_, rfl⟩
 rw [hR]
 have hlen : s.data.toList.length ≤ s.size ∧ s.size ≤ s.data.toList.length := by rw [← Lib.size_eq]; exact ⟨Nat.le_refl _, Nat.le_refl _⟩
 have H0 : Aside0 (s.data.toList.take 0 ++ runL s.size (s.data.toList.drop 0) = R) := ⟨by rw [List.take_zero, List.drop_zero, ← hR]; unfold runS; rw [← Lib.size_eq]; rfl⟩
 have HT := Aside0.mk hT
 clear hR hT
 go_enter Tryz.func58, Tryz.ntmps58
 go_wp2_with fail
 go_loopg [4] s.size (fun kq v4 w' => ∃ n : Nat, v4 = .int .i64 (n : Int) ∧ Aside0 (s.data.toList.take n ++ runL kq (s.data.toList.drop n) = R) ∧ Aside0 (n ≤ s.size) ∧ Aside0 (s.size ≤ n + kq) ∧ Aside0 (Below w.heap.size w w'))
 case atStart => exact ⟨0, rfl, H0, ⟨Nat.zero_le _⟩, ⟨by omega⟩, ⟨Below.refl _ _⟩⟩
 case round =>
  obtain ⟨n, rfl, HR, HN, HK, HB⟩ := hrel
  have hn := HN.out
  clear H0
  by_cases hlt : n < s.size
  ·obtain ⟨k1, rfl⟩ : ∃ k1, gk = k1 + 1 := ⟨gk - 1, by have := HK.out; omega⟩
   have hd := decL_drop s n hlt
   have hne : s.data.toList.drop n ≠ [] := fun e => by have := congrArg List.length e; rw [List.length_drop] at this; simp at this; omega
   have hwid := Lib.decodeL_width (s.data.toList.drop n)
   have hpos : 1 ≤ (Lib.decodeL (s.data.toList.drop n)).2 ∧ n + (Lib.decodeL (s.data.toList.drop n)).2 ≤ s.size := by
    have h1 := qu1 s n hlt
    have h2 := width_le s n hlt
    rw [← Lib.decodeL_drop] at h1 h2
    exact ⟨h1, h2⟩
   have hdc := decode_call (s.extract n s.size) wr (tabs_below HT.out HB.out)
   rw [hd] at hdc
   have hR := HR.out
   cases hp : partB ((Lib.decodeL (s.data.toList.drop n)).1 : Int) with
   | true =>
    rw [run_next k1 _ hne hp, List.drop_drop, ← List.append_assoc] at hR
    have et : s.data.toList.take n ++ (s.data.toList.drop n).take (Lib.decodeL (s.data.toList.drop n)).2 = s.data.toList.take (n + (Lib.decodeL (s.data.toList.drop n)).2) := by rw [List.take_add]
    rw [et] at hR
    have hpc := fun W => part_calls ((Lib.decodeL (s.data.toList.drop n)).1 : Int) W
    rw [hp] at hpc
    generalize Lib.decodeL (s.data.toList.drop n) = q at *
    obtain ⟨q1, q2⟩ := q
    simp only at hR hpos hdc hpc
    have HR2 := Aside0.mk hR
    obtain ⟨p1, p2⟩ := hpos
    have HP2 := Aside0.mk p2
    have HP1 := Aside0.mk p1
    clear hR et hp hwid hd hne HR
    go_wp2_with fail
    refine hdc.mono ?_
    rintro e w1 ⟨rfl, b1⟩
    have B1 := Aside0.mk (chain HB.out (Nat.le_refl _) b1)
    clear b1 hdc HB
    go_wp2_with fail
    refine (hpc _).mono ?_
    rintro e w2 ⟨rfl, b2⟩
    have B2 := Aside0.mk (chain B1.out (Nat.le_refl _) b2)
    clear b2 hpc B1
    go_wp2_with fail
    go_roundg k1
    case measure => omega
    case rel => exact ⟨n + q2, by first | rfl | go_num, HR2, ⟨HP2.out⟩, ⟨by have := HK.out; have := HP1.out; omega⟩, B2⟩
   | false =>
    rw [run_stop (k1 + 1) _ (.inr hp), List.append_nil] at hR
    have e0 : R.length = n := by rw [← hR, List.length_take]; omega
    have e1 := ext_take s n hn
    have e2 := ext_drop s n hn
    rw [hR] at e1
    have E1 := Aside0.mk e1
    have E2 := Aside0.mk e2
    have E0 := Aside0.mk e0
    have hpc := fun W => part_calls ((Lib.decodeL (s.data.toList.drop n)).1 : Int) W
    rw [hp] at hpc
    generalize Lib.decodeL (s.data.toList.drop n) = q at *
    obtain ⟨q1, q2⟩ := q
    simp only at hpos hdc hpc
    clear hR hp hwid hd hne HR hpos e1 e2 e0
    go_wp2_with fail
    refine hdc.mono ?_
    rintro e w1 ⟨rfl, b1⟩
    have B1 := Aside0.mk (chain HB.out (Nat.le_refl _) b1)
    clear b1 hdc HB
    go_wp2_with fail
    refine (hpc _).mono ?_
    rintro e w2 ⟨rfl, b2⟩
    have B2 := Aside0.mk (chain B1.out (Nat.le_refl _) b2)
    clear b2 hpc B1
    go_wp2_with fail
    repeat (go_quiet (fail); try go_wp2_with fail)
    go_ret2
    exact ⟨by rw [E1.out, E2.out, E0.out]; rfl, CharB.below_drewN B2.out _⟩
  ·obtain rfl : n = s.size := by omega
   have hR := HR.out
   rw [run_stop gk _ (.inl (List.drop_eq_nil_of_le (by omega))), List.append_nil] at hR
   have e0 : R.length = s.size := by rw [← hR, List.length_take]; omega
   have e1 := ext_take s s.size (Nat.le_refl _)
   have e2 := ext_drop s s.size (Nat.le_refl _)
   rw [hR] at e1
   have e3 : s = ba R := by rw [← e1, ext_all]
   have e4 : ByteArray.empty = ba (s.data.toList.drop R.length) := by rw [e0, ← e2, ext_none]
   have E3 := Aside0.mk e3
   have E4 := Aside0.mk e4
   clear hR HR e1 e2 e0 e3 e4 HK HN
   go_wp2_with fail
   repeat (go_quiet (fail); try go_wp2_with fail)
   go_ret2
   refine ⟨?_, CharB.below_drewN HB.out _⟩
   rw [← E4.out, ← E3.out]
   rfl
theorem left_call (s : ByteArray) (w : World) : Calls Tryz.prog 24 #[.string s, .func (.func 25) #[] #[]] w fun e w' => e = .returned (.string (ba (s.data.toList.dropWhile spB))) ∧ Below w.heap.size w w' := by
 have := Tryz.strings_TrimLeftFunc_runes 25 #[] (enters_of Tryz.func25 (by kernel_rfl) rfl) sp s w (space_gives w)
 rw [trimLeft_sp] at this
 exact this
theorem has_call (s : ByteArray) (p : ByteArray) (w : World) : Calls Tryz.prog 104 #[.string s, .string p] w fun e w' => e = .returned (.bool (p.data.toList.isPrefixOf s.data.toList)) ∧ w = w' :=
 (Tryz.strings_HasPrefix s p w).mono fun e w' ⟨h1, h2⟩ => ⟨h1, h2.symm⟩
theorem pre_cut (p s : List UInt8) (h : p.isPrefixOf s = true) : Lib.trimPrefix s p = s.drop p.length := by unfold Lib.trimPrefix Lib.hasPrefix; rw [if_pos h]
theorem pre_yes (s p r : ByteArray) (hp : p.data.toList.isPrefixOf s.data.toList = true) (hr : ba (s.data.toList.drop p.data.toList.length) = r) (w : World) : Calls Tryz.prog 56 #[.string s, .string p] w fun e w' => e = .returned (.tuple #[.string r, .bool true]) ∧ w = w' := by
 have := Tryz.strings_CutPrefix s p w
 rw [pre_cut _ _ hp, show Lib.hasPrefix s.data.toList p.data.toList = true from hp] at this
 refine this.mono fun e w' ⟨h1, h2⟩ => ⟨?_, h2.symm⟩
 rw [h1, ← hr]
 rfl
theorem pre_no (s p : ByteArray) (hp : p.data.toList.isPrefixOf s.data.toList = false) (w : World) : Calls Tryz.prog 56 #[.string s, .string p] w fun e w' => e = .returned (.tuple #[.string s, .bool false]) ∧ w = w' := by
 have := Tryz.strings_CutPrefix s p w
 have e : Lib.trimPrefix s.data.toList p.data.toList = s.data.toList := by unfold Lib.trimPrefix Lib.hasPrefix; rw [if_neg (by rw [hp]; simp)]
 rw [e, show Lib.hasPrefix s.data.toList p.data.toList = false from hp] at this
 exact this.mono fun e w' ⟨h1, h2⟩ => ⟨h1, h2.symm⟩
theorem types_eq (x : List UInt8) : typesL.contains x = (x == [99, 111, 109, 109, 101, 110, 116] || x == [116, 101, 120, 116] || x == [112, 114, 111, 99, 101, 115, 115, 105, 110, 103, 45, 105, 110, 115, 116, 114, 117, 99, 116, 105, 111, 110] || x == [110, 111, 100, 101]) := by
 unfold typesL
 simp only [List.contains_cons, List.contains_nil, Bool.or_false, Bool.or_assoc]
theorem kind_call (t r : ByteArray) (w : World) : Calls Tryz.prog 60 #[.string t, .string r] w fun e w' => e = .returned (.int .i64 (kindW t.data.toList r.data.toList)) ∧ Below w.heap.size w w' := by
 have hl := left_call r w
 have h1 := fun W => has_call (ba (r.data.toList.dropWhile spB)) ⟨#[40]⟩ W
 have h2 := fun W => has_call (ba (r.data.toList.dropWhile spB)) ⟨#[58, 58]⟩ W
 unfold kindW
 rw [types_eq, ← ByteArray.toList_eq t]
 rw [qu, show (⟨#[40]⟩ : ByteArray).data.toList = [40] from rfl] at h1
 rw [qu, show (⟨#[58, 58]⟩ : ByteArray).data.toList = [58, 58] from rfl] at h2
 generalize ([40] : List UInt8).isPrefixOf (r.data.toList.dropWhile spB) = c1 at *
 generalize ([58, 58] : List UInt8).isPrefixOf (r.data.toList.dropWhile spB) = c2 at *
 generalize ba (r.data.toList.dropWhile spB) = r2 at *
 cases c1 with
 | true =>
  rw [if_pos rfl]
  obtain ⟨q, hq⟩ : ∃ q, (t.toList == [99, 111, 109, 109, 101, 110, 116] || t.toList == [116, 101, 120, 116] || t.toList == [112, 114, 111, 99, 101, 115, 115, 105, 110, 103, 45, 105, 110, 115, 116, 114, 117, 99, 116, 105, 111, 110] || t.toList == [110, 111, 100, 101]) = q := ⟨_, rfl⟩
  rw [hq]
  have HQ := Aside0.mk hq
  clear hq h2
  cases q
  all_goals
   first | rw [if_pos rfl] | rw [if_neg Bool.false_ne_true]
   go_enter Tryz.func60, Tryz.ntmps60
   go_wp2_with fail
   refine hl.mono ?_
   rintro e w1 ⟨rfl, b1⟩
   go_wp2_with fail
   refine (h1 _).mono ?_
   rintro e w2 ⟨rfl, rfl⟩
   go_wp2_with fail
   all_goals
    go_ret
    refine ⟨?_, b1⟩
    first | rfl | (exfalso; have := HQ.out; simp [*] at this; done) | (exfalso; have := HQ.out; simp_all; done)
 | false =>
  rw [if_neg (by simp)]
  cases c2 with
  | true =>
   rw [if_pos rfl]
   go_enter Tryz.func60, Tryz.ntmps60
   go_wp2_with fail
   refine hl.mono ?_
   rintro e w1 ⟨rfl, b1⟩
   go_wp2_with fail
   refine (h1 _).mono ?_
   rintro e w2 ⟨rfl, rfl⟩
   go_wp2_with fail
   refine (h2 _).mono ?_
   rintro e w2 ⟨rfl, rfl⟩
   go_wp2_with fail
   go_ret
   exact ⟨rfl, b1⟩
  | false =>
   rw [if_neg (by simp)]
   go_enter Tryz.func60, Tryz.ntmps60
   go_wp2_with fail
   refine hl.mono ?_
   rintro e w1 ⟨rfl, b1⟩
   go_wp2_with fail
   refine (h1 _).mono ?_
   rintro e w2 ⟨rfl, rfl⟩
   go_wp2_with fail
   refine (h2 _).mono ?_
   rintro e w2 ⟨rfl, rfl⟩
   go_wp2_with fail
   go_ret
   exact ⟨rfl, b1⟩
end Go.Proofs.YthilcidoacgdfaaGreatDoor.LexG
