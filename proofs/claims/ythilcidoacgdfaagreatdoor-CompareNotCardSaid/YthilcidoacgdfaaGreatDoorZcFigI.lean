/- figure.Read: what it computes. -/
import Derived.Test.YthilcidoacgdfaaGreatDoorZcFigH
namespace Go.Proofs.YthilcidoacgdfaaGreatDoor.CharB
end Go.Proofs.YthilcidoacgdfaaGreatDoor.CharB
namespace Go.Proofs.YthilcidoacgdfaaGreatDoor.CharD
end Go.Proofs.YthilcidoacgdfaaGreatDoor.CharD
namespace Go.Proofs.YthilcidoacgdfaaGreatDoor.CharF
end Go.Proofs.YthilcidoacgdfaaGreatDoor.CharF
namespace Go.Proofs.YthilcidoacgdfaaGreatDoor.DecA
end Go.Proofs.YthilcidoacgdfaaGreatDoor.DecA
namespace Go.Proofs.YthilcidoacgdfaaGreatDoor.DecE
end Go.Proofs.YthilcidoacgdfaaGreatDoor.DecE
namespace Go.Proofs.YthilcidoacgdfaaGreatDoor.DecF
end Go.Proofs.YthilcidoacgdfaaGreatDoor.DecF
namespace Go.Proofs.YthilcidoacgdfaaGreatDoor.DecG
end Go.Proofs.YthilcidoacgdfaaGreatDoor.DecG
namespace Go.Proofs.YthilcidoacgdfaaGreatDoor.FigA
end Go.Proofs.YthilcidoacgdfaaGreatDoor.FigA
namespace Go.Proofs.YthilcidoacgdfaaGreatDoor.FigB
end Go.Proofs.YthilcidoacgdfaaGreatDoor.FigB
namespace Go.Proofs.YthilcidoacgdfaaGreatDoor.FigC
end Go.Proofs.YthilcidoacgdfaaGreatDoor.FigC
namespace Go.Proofs.YthilcidoacgdfaaGreatDoor.FigD
end Go.Proofs.YthilcidoacgdfaaGreatDoor.FigD
namespace Go.Proofs.YthilcidoacgdfaaGreatDoor.FigE
end Go.Proofs.YthilcidoacgdfaaGreatDoor.FigE
namespace Go.Proofs.YthilcidoacgdfaaGreatDoor.FigF
end Go.Proofs.YthilcidoacgdfaaGreatDoor.FigF
namespace Go.Proofs.YthilcidoacgdfaaGreatDoor.FigG
end Go.Proofs.YthilcidoacgdfaaGreatDoor.FigG
namespace Go.Proofs.YthilcidoacgdfaaGreatDoor.FigH
end Go.Proofs.YthilcidoacgdfaaGreatDoor.FigH
namespace Go.Proofs.YthilcidoacgdfaaGreatDoor.SpanA
end Go.Proofs.YthilcidoacgdfaaGreatDoor.SpanA
namespace Go.Proofs.YthilcidoacgdfaaGreatDoorW.PrintLast
end Go.Proofs.YthilcidoacgdfaaGreatDoorW.PrintLast
namespace Go.Proofs.YthilcidoacgdfaaGreatDoorW.PrintMore
end Go.Proofs.YthilcidoacgdfaaGreatDoorW.PrintMore
namespace Go.Proofs.YthilcidoacgdfaaGreatDoorW.PrintWords
end Go.Proofs.YthilcidoacgdfaaGreatDoorW.PrintWords
namespace Go.Proofs.YthilcidoacgdfaaGreatDoor.FigI
open Go.RowKit Go.Shelf Go.Proofs.YthilcidoacgdfaaGreatDoorW.PrintWords Go.Proofs.YthilcidoacgdfaaGreatDoorW.PrintLast Go.Proofs.YthilcidoacgdfaaGreatDoorW.PrintMore Go.Proofs.YthilcidoacgdfaaGreatDoor.CharB Go.Proofs.YthilcidoacgdfaaGreatDoor.CharD Go.Proofs.YthilcidoacgdfaaGreatDoor.CharF Go.Proofs.YthilcidoacgdfaaGreatDoor.SpanA Go.Proofs.YthilcidoacgdfaaGreatDoor.DecA Go.Proofs.YthilcidoacgdfaaGreatDoor.DecE Go.Proofs.YthilcidoacgdfaaGreatDoor.DecF Go.Proofs.YthilcidoacgdfaaGreatDoor.DecG Go.Proofs.YthilcidoacgdfaaGreatDoor.FigA Go.Proofs.YthilcidoacgdfaaGreatDoor.FigB Go.Proofs.YthilcidoacgdfaaGreatDoor.FigC Go.Proofs.YthilcidoacgdfaaGreatDoor.FigD Go.Proofs.YthilcidoacgdfaaGreatDoor.FigE Go.Proofs.YthilcidoacgdfaaGreatDoor.FigF Go.Proofs.YthilcidoacgdfaaGreatDoor.FigG Go.Proofs.YthilcidoacgdfaaGreatDoor.FigH
set_option linter.unusedVariables false
set_option linter.unusedSimpArgs false
abbrev Tabs (w : World) : Prop := Lib.Utf8Tabs 0 1 w
theorem tabs_below {w w' : World} (hT : Tabs w) (h : Below w.heap.size w w') : Tabs w' := Utf8Tabs_below hT h
theorem space_gives (w : World) : PredAtRunes Tryz.prog 25 #[] sp w := fun W x _ _ => by
  refine (space_calls (x : Int) W).mono ?_
  rintro e w' ⟨rfl, m, rfl⟩
  exact ⟨rfl, m, rfl⟩
theorem trim_call (s : ByteArray) (w : World) (hs : s.size ≤ 1000000000) (hT : Tabs w) : Calls Tryz.prog 82 #[.string s, .func (.func 25) #[] #[]] w fun e w' => e = .returned (.string (ba (trimSp s.data.toList))) ∧ Below w.heap.size w w' := by
  have := Tryz.strings_TrimFunc_runes 25 #[] (enters_of Tryz.func25 (by kernel_rfl) rfl) sp s w (by omega) hT (space_gives w)
  rw [trim_sp] at this
  exact this
theorem cutp (l : List UInt8) : Lib.hasPrefix l [45] = decide (l.head? = some 45) ∧ Lib.trimPrefix l [45] = if l.head? = some 45 then l.tail else l := by
  unfold Lib.trimPrefix Lib.hasPrefix
  cases l with
  | nil => simp
  | cons c t =>
    by_cases h : c = 45
    · subst h; simp [List.isPrefixOf]
    · have : ¬ (45 : UInt8) = c := fun e => h e.symm
      simp [List.isPrefixOf, h, this]
theorem cut_call (l : List UInt8) (w : World) : Calls Tryz.prog 56 #[.string (ba l), .string ⟨#[45]⟩] w fun e w' => e = .returned (.tuple #[.string (ba (if l.head? = some 45 then l.tail else l)), .bool (decide (l.head? = some 45))]) ∧ w' = w := by
  have := Tryz.strings_CutPrefix (ba l) ⟨#[45]⟩ w
  rw [ba_list, show (⟨#[45]⟩ : ByteArray).data.toList = [45] from rfl, (cutp l).1, (cutp l).2] at this
  exact this
theorem trimSp_len (s : List UInt8) : (trimSp s).length ≤ s.length := by
  unfold trimSp
  have h1 := (List.dropWhile_sublist (l := s) spB).length_le
  have h2 := (List.dropWhile_sublist (l := (s.dropWhile spB).reverse) spB).length_le
  rw [List.length_reverse] at h2 ⊢
  omega
set_option maxHeartbeats 1600000 in
set_option maxRecDepth 100000 in
theorem read_call (s : ByteArray) (w : World) (hs : s.size ≤ 1000000000) (hT : Tabs w) :
    Calls Tryz.prog 41 #[.string s] w fun e w' => e = .returned (.agg #[.int .i64 (readS s.data.toList).1, .int .i64 (readS s.data.toList).2]) ∧ Below w.heap.size w w' := by
  have hTl := trimSp_len s.data.toList
  rw [← Lib.size_eq] at hTl
  have al := (Below.refl w.heap.size w).alloc (Nat.le_refl _) (Obj.cells #[.int .i64 0, .int .i64 0] 32)
  have ct := trim_call s _ hs (tabs_below hT al)
  have hB := Aside0.mk al
  have hX := Aside0.mk (box_new 0 0 w)
  obtain ⟨R, hR⟩ : ∃ R, readS s.data.toList = R := ⟨_, rfl⟩
  rw [hR]
  unfold readS at hR
  simp only at hR
  generalize trimSp s.data.toList = l at *
  have cc := fun W => cut_call l W
  obtain ⟨bl, hbl⟩ : ∃ b : Bool, decide (l.head? = some 45) = b := ⟨_, rfl⟩
  rw [hbl] at cc
  have hl2 : (if l.head? = some 45 then l.tail else l).length ≤ 1000000000 := by
    split
    · rw [List.length_tail]; omega
    · omega
  have hRn : (if (litS (if l.head? = some 45 then l.tail else l)).2 = true then (if bl = true then negS (nrm (litS (if l.head? = some 45 then l.tail else l)).1) else (litS (if l.head? = some 45 then l.tail else l)).1) else (1, 0)) = R := by
    rw [← hR, ← hbl]
    simp only [decide_eq_true_eq]
  clear hR hbl
  generalize (if l.head? = some 45 then l.tail else l) = t at *
  have cl := fun W => lit_call (ba t) W (by rw [ba_size]; exact hl2)
  rw [ba_list] at cl
  have hnm := nm_lit t
  generalize litS t = z at *
  obtain ⟨d, is⟩ := z
  simp only at cl hnm hRn
  have cn := fun W => neg_call d (nm_i64 hnm) W
  have HR := Aside0.mk hRn
  clear hRn hT hTl hl2 hnm al
  cases is with
  | false =>
    have hR : (1, 0) = R := HR.out
    subst hR
    clear HR cn
    go_enter Tryz.func41, Tryz.ntmps41
    go_wp2_with fail
    refine ct.mono ?_
    rintro e w1 ⟨rfl, b1⟩
    have B1 := Aside0.mk (chain hB.out (Nat.le_refl _) b1)
    have X1 := Aside0.mk (hX.out.below b1)
    clear b1 ct
    go_wp2_with fail
    refine (cc _).mono ?_
    rintro e w2 ⟨rfl, rfl⟩
    go_wp2_with fail
    refine (cl _).mono ?_
    rintro e w3 ⟨rfl, b3⟩
    have B3 := Aside0.mk ((chain B1.out (Nat.le_refl _) b3).alloc (Nat.le_trans B1.out.size b3.size) (Obj.cells #[.int .i64 d.1, .int .i64 d.2] 32))
    have X3 := (X1.out.below b3).below ((Below.refl w3.heap.size w3).alloc (Nat.le_refl _) (Obj.cells #[.int .i64 d.1, .int .i64 d.2] 32))
    have HX3 := Aside0.mk X3
    have r0 := X3.c0
    have r1 := X3.c1
    have z0 := X3.fr 0
    have z1 := X3.fr 1
    clear X3 b3 B1 X1
    go_wp2_with fail
    refine bodyPost_ret (results_cell_row rfl _ _ w.heap.size 32 #[.int .i64 1, .int .i64 0] (0, 0) _ rfl (HX3.out.put) Tryz.underlying32 rfl (by kernel_rfl)) rfl ?_
    exact ⟨rfl, (B3.out.setCell (p := ⟨w.heap.size, 0, none⟩) (Nat.le_refl _) _).setCell (p := ⟨w.heap.size, 1, none⟩) (Nat.le_refl _) _⟩
  | true =>
    cases bl with
    | false =>
      have hR : d = R := HR.out
      subst hR
      clear HR cn
      go_enter Tryz.func41, Tryz.ntmps41
      go_wp2_with fail
      refine ct.mono ?_
      rintro e w1 ⟨rfl, b1⟩
      have B1 := Aside0.mk (chain hB.out (Nat.le_refl _) b1)
      have X1 := Aside0.mk (hX.out.below b1)
      clear b1 ct
      go_wp2_with fail
      refine (cc _).mono ?_
      rintro e w2 ⟨rfl, rfl⟩
      go_wp2_with fail
      refine (cl _).mono ?_
      rintro e w3 ⟨rfl, b3⟩
      have B3 := Aside0.mk ((chain B1.out (Nat.le_refl _) b3).alloc (Nat.le_trans B1.out.size b3.size) (Obj.cells #[.int .i64 d.1, .int .i64 d.2] 32))
      have X3 := (X1.out.below b3).below ((Below.refl w3.heap.size w3).alloc (Nat.le_refl _) (Obj.cells #[.int .i64 d.1, .int .i64 d.2] 32))
      have HX3 := Aside0.mk X3
      have r0 := X3.c0
      have r1 := X3.c1
      have z0 := X3.fr 0
      have z1 := X3.fr 1
      clear X3 b3 B1 X1
      have Y3 := box_new d.1 d.2 w3
      have y0 := Y3.c0
      have y1 := Y3.c1
      clear Y3
      go_wp2_with fail
      refine bodyPost_ret (results_cell_row rfl _ _ w.heap.size 32 #[.int .i64 d.1, .int .i64 d.2] (0, 0) _ rfl (HX3.out.put) Tryz.underlying32 rfl (by kernel_rfl)) rfl ?_
      exact ⟨rfl, (B3.out.setCell (p := ⟨w.heap.size, 0, none⟩) (Nat.le_refl _) _).setCell (p := ⟨w.heap.size, 1, none⟩) (Nat.le_refl _) _⟩
    | true =>
      have hR : negS (nrm d) = R := HR.out
      rw [hR] at cn
      clear HR
      go_enter Tryz.func41, Tryz.ntmps41
      go_wp2_with fail
      refine ct.mono ?_
      rintro e w1 ⟨rfl, b1⟩
      have B1 := Aside0.mk (chain hB.out (Nat.le_refl _) b1)
      have X1 := Aside0.mk (hX.out.below b1)
      clear b1 ct
      go_wp2_with fail
      refine (cc _).mono ?_
      rintro e w2 ⟨rfl, rfl⟩
      go_wp2_with fail
      refine (cl _).mono ?_
      rintro e w3 ⟨rfl, b3⟩
      have B3 := Aside0.mk ((chain B1.out (Nat.le_refl _) b3).alloc (Nat.le_trans B1.out.size b3.size) (Obj.cells #[.int .i64 d.1, .int .i64 d.2] 32))
      have X3 := (X1.out.below b3).below ((Below.refl w3.heap.size w3).alloc (Nat.le_refl _) (Obj.cells #[.int .i64 d.1, .int .i64 d.2] 32))
      have HX3 := Aside0.mk X3
      have r0 := X3.c0
      have r1 := X3.c1
      have z0 := X3.fr 0
      have z1 := X3.fr 1
      clear X3 b3 B1 X1
      have HY3 := Aside0.mk (box_new d.1 d.2 w3)
      have y0 := HY3.out.c0
      have y1 := HY3.out.c1
      go_wp2_with fail
      refine (cn _).mono ?_
      rintro e w4 ⟨rfl, b4⟩
      have B4 := Aside0.mk (chain B3.out (Nat.le_refl _) b4)
      have X4 := HX3.out.below b4
      have HX4 := Aside0.mk X4
      have s0 := X4.c0
      have s1 := X4.c1
      have v0 := X4.fr 0
      have v1 := X4.fr 1
      clear X4 b4 r0 r1 z0 z1
      go_wp2_with fail
      refine bodyPost_ret (results_cell_row rfl _ _ w.heap.size 32 #[.int .i64 R.1, .int .i64 R.2] (0, 0) _ rfl (HX4.out.put) Tryz.underlying32 rfl (by kernel_rfl)) rfl ?_
      exact ⟨rfl, (B4.out.setCell (p := ⟨w.heap.size, 0, none⟩) (Nat.le_refl _) _).setCell (p := ⟨w.heap.size, 1, none⟩) (Nat.le_refl _) _⟩
end Go.Proofs.YthilcidoacgdfaaGreatDoor.FigI
