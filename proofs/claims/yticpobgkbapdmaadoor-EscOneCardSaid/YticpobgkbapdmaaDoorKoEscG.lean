/- The reader's run: what it computes. -/
import Derived.Test.YticpobgkbapdmaaDoorKoEscF
namespace Go.Proofs.YticpobgkbapdmaaDoor.CharA
end Go.Proofs.YticpobgkbapdmaaDoor.CharA
namespace Go.Proofs.YticpobgkbapdmaaDoor.CharB
end Go.Proofs.YticpobgkbapdmaaDoor.CharB
namespace Go.Proofs.YticpobgkbapdmaaDoor.CharC
end Go.Proofs.YticpobgkbapdmaaDoor.CharC
namespace Go.Proofs.YticpobgkbapdmaaDoor.CharD
end Go.Proofs.YticpobgkbapdmaaDoor.CharD
namespace Go.Proofs.YticpobgkbapdmaaDoor.CharE
end Go.Proofs.YticpobgkbapdmaaDoor.CharE
namespace Go.Proofs.YticpobgkbapdmaaDoor.CharH
end Go.Proofs.YticpobgkbapdmaaDoor.CharH
namespace Go.Proofs.YticpobgkbapdmaaDoor.EscA
end Go.Proofs.YticpobgkbapdmaaDoor.EscA
namespace Go.Proofs.YticpobgkbapdmaaDoor.EscB
end Go.Proofs.YticpobgkbapdmaaDoor.EscB
namespace Go.Proofs.YticpobgkbapdmaaDoor.EscC
end Go.Proofs.YticpobgkbapdmaaDoor.EscC
namespace Go.Proofs.YticpobgkbapdmaaDoor.EscD
end Go.Proofs.YticpobgkbapdmaaDoor.EscD
namespace Go.Proofs.YticpobgkbapdmaaDoor.EscE
end Go.Proofs.YticpobgkbapdmaaDoor.EscE
namespace Go.Proofs.YticpobgkbapdmaaDoor.EscF
end Go.Proofs.YticpobgkbapdmaaDoor.EscF
namespace Go.Proofs.YticpobgkbapdmaaDoor.PR1
end Go.Proofs.YticpobgkbapdmaaDoor.PR1
namespace Go.Proofs.YticpobgkbapdmaaDoor.SpanA
end Go.Proofs.YticpobgkbapdmaaDoor.SpanA
namespace Go.Proofs.YticpobgkbapdmaaDoor.SpanB
end Go.Proofs.YticpobgkbapdmaaDoor.SpanB
namespace Go.Proofs.YticpobgkbapdmaaDoor.SpanC
end Go.Proofs.YticpobgkbapdmaaDoor.SpanC
namespace Go.Proofs.YticpobgkbapdmaaDoor.SpanD
end Go.Proofs.YticpobgkbapdmaaDoor.SpanD
namespace Go.Proofs.YticpobgkbapdmaaDoor.SpanF
end Go.Proofs.YticpobgkbapdmaaDoor.SpanF
namespace Go.Proofs.YticpobgkbapdmaaDoorW.PrintLast
end Go.Proofs.YticpobgkbapdmaaDoorW.PrintLast
namespace Go.Proofs.YticpobgkbapdmaaDoorW.PrintMore
end Go.Proofs.YticpobgkbapdmaaDoorW.PrintMore
namespace Go.Proofs.YticpobgkbapdmaaDoorW.PrintWords
end Go.Proofs.YticpobgkbapdmaaDoorW.PrintWords
namespace Go.Proofs.YticpobgkbapdmaaDoor.EscG
open Go.RowKit Go.Shelf Go.Proofs.YticpobgkbapdmaaDoorW.PrintWords Go.Proofs.YticpobgkbapdmaaDoorW.PrintLast Go.Proofs.YticpobgkbapdmaaDoorW.PrintMore Go.Proofs.YticpobgkbapdmaaDoor.CharA Go.Proofs.YticpobgkbapdmaaDoor.CharB Go.Proofs.YticpobgkbapdmaaDoor.CharC Go.Proofs.YticpobgkbapdmaaDoor.CharD Go.Proofs.YticpobgkbapdmaaDoor.CharE Go.Proofs.YticpobgkbapdmaaDoor.CharH Go.Proofs.YticpobgkbapdmaaDoor.SpanA Go.Proofs.YticpobgkbapdmaaDoor.SpanB Go.Proofs.YticpobgkbapdmaaDoor.SpanC Go.Proofs.YticpobgkbapdmaaDoor.SpanD Go.Proofs.YticpobgkbapdmaaDoor.SpanF Go.Proofs.YticpobgkbapdmaaDoor.EscA Go.Proofs.YticpobgkbapdmaaDoor.EscB Go.Proofs.YticpobgkbapdmaaDoor.EscC Go.Proofs.YticpobgkbapdmaaDoor.EscD Go.Proofs.YticpobgkbapdmaaDoor.EscE Go.Proofs.YticpobgkbapdmaaDoor.EscF Go.Proofs.YticpobgkbapdmaaDoor.PR1
set_option linter.unusedVariables false
set_option linter.unusedSimpArgs false
def plU (attr : Bool) (c : UInt8) : UInt8 := if attr = true ∧ (c = 9 ∨ c = 10) then 32 else c
/-- What the reader makes of a text, with what it has written so far: the text and the error. -/
def runL (attr : Bool) : Nat → List UInt8 → List UInt8 → List UInt8 × Int
  | 0, _, out => (out, 0)
  | _ + 1, [], out => (out, 0)
  | n + 1, c :: t, out =>
    if c = 60 then ([], 13) else if c = 38 then (match refR t with | some (x, rest) => runL attr n rest (out ++ x) | none => ([], 12))
    else if c = 13 then runL attr n (if ([10] : List UInt8).isPrefixOf t then t.drop 1 else t) (out ++ [plU attr 10]) else runL attr n t (out ++ [plU attr c])
theorem run_nil (attr : Bool) (n : Nat) (out : List UInt8) : runL attr n [] out = (out, 0) := by cases n <;> rfl
theorem bc_app (a b : List UInt8) : Lib.byteCells (a ++ b) = Lib.byteCells a ++ Lib.byteCells b := by simp [Lib.byteCells]
theorem bc_one (a : UInt8) : Lib.byteCells [a] = [.int .u8 (a.toNat : Int)] := by simp [Lib.byteCells]
theorem cut_len2 (s q : List UInt8) : (Lib.cut s q).2.1.length ≤ s.length := by
  unfold Lib.cut
  split
  · simp only [List.length_drop]; omega
  · simp
theorem chr_len (l x : List UInt8) (h : chr l = some x) : x.length ≤ 4 := by
  have he := enc_size (refN l)
  rw [Lib.size_eq] at he
  unfold chr at h
  repeat' split at h
  all_goals first | (cases h; simp; done) | (cases h; omega) | cases h
theorem trim1 (s : ByteArray) (w : World) : Calls Tryd.prog 78 #[.string s, .string ⟨#[10]⟩] w fun e w' => e = .returned (.string (ba (if ([10] : List UInt8).isPrefixOf s.data.toList then s.data.toList.tail else s.data.toList))) ∧ w' = w := by
  have := Tryd.strings_TrimPrefix s ⟨#[10]⟩ w
  rw [show (⟨#[10]⟩ : ByteArray).data.toList = [10] from rfl] at this
  unfold Lib.trimPrefix Lib.hasPrefix at this
  rw [show ([10] : List UInt8).length = 1 from rfl, List.drop_one] at this
  exact this
theorem rb_put {b : Nat} {r r2 : ByteArray} {p f : Value} {bs : List Value} {W : World} (h : RB b r p f bs W) : RB b r2 p f bs (W.setCell ⟨b, 0, none⟩ (.string r2)) := by
  obtain ⟨v, h1, h2, h3⟩ := h
  exact ⟨v, rb_set h1 0 _ (by simp), h2.kept (grownBy_putCell W b 0 _) (.inr (rb_ne h1 h2)), h3⟩
set_option maxHeartbeats 1600000 in
set_option maxRecDepth 100000 in
theorem run_in (b N : Nat) (r : ByteArray) (out : List UInt8) (p : Value) (w : World) (h : RB b r p (wayF false b) (Lib.byteCells out) w) (hp : okP b p) (hm : MaxL w) (h2 : 2 < b) (hN : r.size ≤ N) (hs : out.length + 4 * r.size ≤ 4294967280) :
    Calls Tryd.prog 66 #[.pointer (some ⟨b, 0, none⟩)] w fun e w' => e = .returned (.tuple #[.string (ba (runL false N r.data.toList out).1), .int .i64 (runL false N r.data.toList out).2]) ∧ Below b w w' := by
  obtain ⟨R, hR⟩ : ∃ R, runL false N r.data.toList out = R := ⟨_, rfl⟩
  rw [hR]
  have H := Aside0.mk hR
  clear hR
  have HH := Aside0.mk h
  clear h
  go_enter Tryd.func66, Tryd.ntmps66
  go_wp2
  go_step3
  go_wp2
  go_step3
  go_wp2
  go_loopg [4] N (fun kq v4 w' => ∃ r out p, v4 = .int .i64 0 ∧ Aside0 (okP b p) ∧ Aside0 (RB b r p (wayF false b) (Lib.byteCells out) w') ∧ Aside0 (runL false kq r.data.toList out = R) ∧ Aside0 (kq ≤ N) ∧ Aside0 (r.size ≤ kq) ∧ Aside0 (out.length + 4 * r.size ≤ 4294967280) ∧ Aside0 (Below b w w'))
  case atStart => exact ⟨r, out, p, rfl, ⟨hp⟩, HH, H, ⟨Nat.le_refl _⟩, ⟨hN⟩, ⟨hs⟩, ⟨Below.refl _ _⟩⟩
  case round =>
    obtain ⟨r, out, p, rfl, HP, HR, HA, HK, HZ, HL, HB⟩ := hrel
    have HW := rb_lt HR.out
    have hC := HA.out
    clear HA H HH
    obtain ⟨v, h1, h2', h3⟩ := HR.out
    have c0 : wr.cell? ⟨b, 0, none⟩ = some (.string r) := by rw [cell_h h1]; rfl
    have c3 : wr.cell? ⟨b, 3, none⟩ = some (wayF false b) := by rw [cell_h h1]; rfl
    unfold wayF at c3
    simp only [Bool.false_eq_true, if_false] at c3
    clear h1 h2' h3
    cases hl : r.data.toList with
    | nil =>
      rw [hl, run_nil] at hC
      subst hC
      have d0 : r.toList.isEmpty = true := by rw [tl, hl]; rfl
      have hS := string_any b r p (wayF false b) out wr HR.out
      unfold self at hS
      clear hl
      go_wp2_with fail
      refine hS.mono ?_
      rintro e w1 ⟨rfl, hb1⟩
      go_wp2_with fail
      try rw [Exit.noGoto_ret]
      go_ret2
      exact ⟨rfl, HB.out.trans hb1⟩
    | cons c t =>
      have hrl : r.data.toList.length = t.length + 1 := by rw [hl]; rfl
      have hrs : r.size = t.length + 1 := by rw [Lib.size_eq]; exact hrl
      cases gk with
      | zero => have := HZ.out; omega
      | succ k1 =>
        rw [hl] at hC
        have d0 : r.toList.isEmpty = false := by rw [tl, hl]; rfl
        have hsz : 0 < r.size := by omega
        have hg : ((r[0]'hsz).toNat : Int) = (c.toNat : Int) := by
          have e := bt_get r 0 hsz
          have e2 := bt_list r 0 hsz (by omega)
          rw [e] at e2
          rw [e2]
          congr 2
          simp [hl]
        have ht : (r.extract 1 r.size).data.toList = t := by rw [extract_list, hl, List.drop_one, List.tail_cons, hrs]; simp
        have g60 : (((r[0]'hsz).toNat : Int) == 60) = decide (c = 60) := by rw [hg]; by_cases h : c = 60 <;> simp [h, u8_iff c 60 (by omega)]; exact fun e => h ((u8_iff c 60 (by omega)).1 e)
        have g38 : (((r[0]'hsz).toNat : Int) == 38) = decide (c = 38) := by rw [hg]; by_cases h : c = 38 <;> simp [h, u8_iff c 38 (by omega)]; exact fun e => h ((u8_iff c 38 (by omega)).1 e)
        have g13 : (((r[0]'hsz).toNat : Int) == 13) = decide (c = 13) := by rw [hg]; by_cases h : c = 13 <;> simp [h, u8_iff c 13 (by omega)]; exact fun e => h ((u8_iff c 13 (by omega)).1 e)
        have hm' := maxL_keep hm HB.out h2
        have hL := HL.out
        have hZ := HZ.out
        have hK := HK.out
        have hle : 1 ≤ r.size := hsz
        have HRS := Aside0.mk hrs
        clear hrs hrl
        simp only [runL] at hC
        by_cases k60 : c = 60
        · rw [if_pos k60] at hC
          subst hC
          rw [decide_eq_true k60] at g60
          clear g38 g13 hg hl
          go_wp2_with fail
          try rw [Exit.noGoto_ret]
          go_ret2
          exact ⟨rfl, HB.out⟩
        rw [if_neg k60] at hC
        rw [decide_eq_false k60] at g60
        by_cases k38 : c = 38
        · rw [if_pos k38] at hC
          rw [decide_eq_true k38] at g38
          have hxl := cut_len2 t [59]
          have hrs' := HRS.out
          cases hcut : (Lib.cut t [59]).2.2 with
          | false =>
            have hR : refR t = none := by unfold refR; rw [hcut]; rfl
            rw [hR] at hC
            simp only at hC
            subst hC
            have hS := reference_none b r p (wayF false b) (Lib.byteCells out) wr HR.out hle (by omega) hm' (by rw [ht]; exact hcut)
            clear hg hl hrs' hxl hcut ht
            go_wp2_with fail
            refine hS.mono ?_
            rintro e w1 ⟨rfl, hb1⟩
            go_wp2_with fail
            try rw [Exit.noGoto_ret]
            go_ret2
            exact ⟨rfl, HB.out.trans hb1⟩
          | true =>
            cases hx : chr (Lib.cut t [59]).1 with
            | none =>
              have hR : refR t = none := by unfold refR; rw [hcut, hx]; rfl
              rw [hR] at hC
              simp only at hC
              subst hC
              have hS := reference_bad b r p (wayF false b) (Lib.byteCells out) wr HR.out hle (by omega) hm' (by rw [ht]; exact hcut) (by rw [ht]; exact hx)
              clear hg hl hrs' hxl hcut ht hx
              go_wp2_with fail
              refine hS.mono ?_
              rintro e w1 ⟨rfl, hb1⟩
              go_wp2_with fail
              try rw [Exit.noGoto_ret]
              go_ret2
              exact ⟨rfl, HB.out.trans hb1⟩
            | some x =>
              have hR : refR t = some (x, (Lib.cut t [59]).2.1) := by unfold refR; rw [hcut, hx]; rfl
              rw [hR] at hC
              simp only at hC
              have hx4 := chr_len _ _ hx
              have hS := reference_some b r p (wayF false b) (Lib.byteCells out) wr HR.out HP.out hle (by omega) hm' x (by rw [ht]; exact hcut) (by rw [ht]; exact hx) (by rw [Lib.byteCells_length]; omega)
              rw [ht, ← bc_app] at hS
              generalize (Lib.cut t [59]).2.1 = q at *
              have hC' := Aside0.mk hC
              have hN2 : Aside0 (q.length ≤ k1) := ⟨by omega⟩
              have hN3 : Aside0 ((out ++ x).length + 4 * q.length ≤ 4294967280) := ⟨by rw [List.length_append]; omega⟩
              have hN4 : Aside0 (k1 ≤ N) := ⟨by omega⟩
              clear hg hl hrs' hxl hcut ht hx hC hL hZ hK hR hx4
              go_wp2_with fail
              refine hS.mono ?_
              rintro e w1 ⟨rfl, hb1, hRB⟩
              have H2 := Aside0.mk hRB
              have HB2 := Aside0.mk (HB.out.trans hb1)
              clear hRB hb1 hS
              go_wp2_with fail
              go_roundg k1
              case measure => have := HK.out; omega
              case rel => exact ⟨ba q, out ++ x, self b, rfl, ⟨.inr rfl⟩, H2, ⟨by rw [ba_list]; exact hC'.out⟩, hN4, ⟨by rw [ba_size]; exact hN2.out⟩, ⟨by rw [ba_size]; exact hN3.out⟩, HB2⟩
        rw [if_neg k38] at hC
        rw [decide_eq_false k38] at g38
        by_cases k13 : c = 13
        · rw [if_pos k13] at hC
          rw [decide_eq_true k13] at g13
          have hrs' := HRS.out
          have hT := trim1 (r.extract 1 r.size) wr
          rw [ht] at hT
          rw [List.drop_one] at hC
          have hql : (if ([10] : List UInt8).isPrefixOf t then t.tail else t).length ≤ t.length := by
            split
            · rw [List.length_tail]; omega
            · exact Nat.le_refl _
          generalize (if ([10] : List UInt8).isPrefixOf t then t.tail else t) = q at *
          have hS := same_in b (ba q) p (wayF false b) (Lib.byteCells out) 10 (wr.setCell ⟨b, 0, none⟩ (.string (ba q))) (rb_put HR.out) HP.out (by rw [Lib.byteCells_length]; omega)
          have f0 : wr.frozen? ⟨b, 0, none⟩ = false := by obtain ⟨v, h1, _⟩ := HR.out; exact Lib.frozen_of_heap h1 0
          have d3 : (wr.setCell ⟨b, 0, none⟩ (.string (ba q))).cell? ⟨b, 3, none⟩ = some (.func (.func 65) #[.pointer (some ⟨b, 0, none⟩)] #[]) := by
            obtain ⟨v, h1, _⟩ := rb_put (r2 := ba q) HR.out
            rw [cell_h h1]; rfl
          have hC' := Aside0.mk hC
          have hN2 : Aside0 (q.length ≤ k1) := ⟨by omega⟩
          have hN3 : Aside0 ((out ++ [plU false 10]).length + 4 * q.length ≤ 4294967280) := ⟨by rw [List.length_append]; simp; omega⟩
          have hN4 : Aside0 (k1 ≤ N) := ⟨by omega⟩
          have HB0 := Aside0.mk (HB.out.setCell (p := ⟨b, 0, none⟩) (Nat.le_refl _) (.string (ba q)))
          clear hg hl hrs' hql ht hC hL hZ hK
          go_wp2_with fail
          refine hT.mono ?_
          rintro e w1 ⟨rfl, rfl⟩
          go_wp2_with fail
          refine hS.mono ?_
          rintro e w1 ⟨rfl, hRB, hb1⟩
          have H2 : Aside0 (RB b (ba q) (self b) (wayF false b) (Lib.byteCells (out ++ [plU false 10])) w1) := ⟨by rw [bc_app, bc_one]; exact hRB⟩
          have HB2 := Aside0.mk (HB0.out.trans hb1)
          clear hRB hb1 hS
          go_wp2_with fail
          go_roundg k1
          case measure => have := HK.out; omega
          case rel => exact ⟨ba q, out ++ [plU false 10], self b, rfl, ⟨.inr rfl⟩, H2, ⟨by rw [ba_list]; exact hC'.out⟩, hN4, ⟨by rw [ba_size]; exact hN2.out⟩, ⟨by rw [ba_size]; exact hN3.out⟩, HB2⟩
        rw [if_neg k13] at hC
        rw [decide_eq_false k13] at g13
        have hS := same_in b r p (wayF false b) (Lib.byteCells out) (c.toNat : Int) wr HR.out HP.out (by rw [Lib.byteCells_length]; have := HRS.out; omega)
        rw [← hg] at hS
        have HG := Aside0.mk hg
        clear hg hl
        go_wp2_with fail
        refine hS.mono ?_
        rintro e w1 ⟨rfl, hRB, hb1⟩
        rw [HG.out] at hRB
        have hRB' : RB b (ba t) (self b) (wayF false b) (Lib.byteCells (out ++ [plU false c])) (w1.setCell ⟨b, 0, none⟩ (.string (r.extract 1 r.size))) := by
          have e : ba t = r.extract 1 r.size := ext_list ht.symm
          rw [e, bc_app, bc_one]
          exact rb_put hRB
        have H2 := Aside0.mk hRB'
        have HB2 := (HB.out.trans hb1).setCell (p := ⟨b, 0, none⟩) (Nat.le_refl _) (.string (r.extract 1 r.size))
        obtain ⟨v, h11, h12, h13⟩ := hRB
        have d1 : w1.cell? ⟨b, 0, none⟩ = some (.string r) := by rw [cell_h h11]; rfl
        have f1 : w1.frozen? ⟨b, 0, none⟩ = false := Lib.frozen_of_heap h11 0
        clear h11 h12 h13 hS hRB' c3 c0
        go_wp2_with fail
        go_roundg k1
        case measure => have := HK.out; omega
        case rel =>
          have := HRS.out
          exact ⟨ba t, out ++ [plU false c], self b, rfl, ⟨.inr rfl⟩, H2, ⟨by rw [ba_list]; exact hC⟩, ⟨by omega⟩, ⟨by rw [ba_size]; omega⟩, ⟨by rw [ba_size, List.length_append]; simp; omega⟩, ⟨HB2⟩⟩
end Go.Proofs.YticpobgkbapdmaaDoor.EscG
