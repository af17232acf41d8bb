import Derived.Test.YthilcidoacgdfaaGreatDoorZwLexG
import Derived.Deep.QuietTactic
import Derived.BigQuiet
set_option maxHeartbeats 1600000
set_option maxRecDepth 100000
namespace Go.Proofs.YthilcidoacgdfaaGreatDoor.CharA
end Go.Proofs.YthilcidoacgdfaaGreatDoor.CharA
namespace Go.Proofs.YthilcidoacgdfaaGreatDoor.CharB
end Go.Proofs.YthilcidoacgdfaaGreatDoor.CharB
namespace Go.Proofs.YthilcidoacgdfaaGreatDoor.CharD
end Go.Proofs.YthilcidoacgdfaaGreatDoor.CharD
namespace Go.Proofs.YthilcidoacgdfaaGreatDoor.CharF
end Go.Proofs.YthilcidoacgdfaaGreatDoor.CharF
namespace Go.Proofs.YthilcidoacgdfaaGreatDoor.FigA
end Go.Proofs.YthilcidoacgdfaaGreatDoor.FigA
namespace Go.Proofs.YthilcidoacgdfaaGreatDoor.FigC
end Go.Proofs.YthilcidoacgdfaaGreatDoor.FigC
namespace Go.Proofs.YthilcidoacgdfaaGreatDoor.FigD
end Go.Proofs.YthilcidoacgdfaaGreatDoor.FigD
namespace Go.Proofs.YthilcidoacgdfaaGreatDoor.FigG
end Go.Proofs.YthilcidoacgdfaaGreatDoor.FigG
namespace Go.Proofs.YthilcidoacgdfaaGreatDoor.FigI
end Go.Proofs.YthilcidoacgdfaaGreatDoor.FigI
namespace Go.Proofs.YthilcidoacgdfaaGreatDoor.LexA
end Go.Proofs.YthilcidoacgdfaaGreatDoor.LexA
namespace Go.Proofs.YthilcidoacgdfaaGreatDoor.LexF
end Go.Proofs.YthilcidoacgdfaaGreatDoor.LexF
namespace Go.Proofs.YthilcidoacgdfaaGreatDoor.LexG
end Go.Proofs.YthilcidoacgdfaaGreatDoor.LexG
namespace Go.Proofs.YthilcidoacgdfaaGreatDoor.SpanA
end Go.Proofs.YthilcidoacgdfaaGreatDoor.SpanA
namespace Go.Proofs.YthilcidoacgdfaaGreatDoorW.PrintLast
end Go.Proofs.YthilcidoacgdfaaGreatDoorW.PrintLast
namespace Go.Proofs.YthilcidoacgdfaaGreatDoorW.PrintMore
end Go.Proofs.YthilcidoacgdfaaGreatDoorW.PrintMore
namespace Go.Proofs.YthilcidoacgdfaaGreatDoorW.PrintWords
end Go.Proofs.YthilcidoacgdfaaGreatDoorW.PrintWords
namespace Go.Proofs.YthilcidoacgdfaaGreatDoor.LexH
open Go.RowKit Go.Shelf YthilcidoacgdfaaGreatDoorW.PrintWords YthilcidoacgdfaaGreatDoorW.PrintLast YthilcidoacgdfaaGreatDoorW.PrintMore CharA CharB CharD CharF SpanA FigA FigC FigD FigG FigI LexA LexF LexG
set_option linter.unusedVariables false
set_option linter.unusedSimpArgs false
theorem index_cut (c : UInt8) : ∀ l : List UInt8, Lib.indexByte l c = match cutC c l with | none => -1 | some (a, _) => (a.length : Int)
 | [] => rfl
 | d :: t => by
  have ih := index_cut c t
  simp only [Lib.indexByte, cutC]
  by_cases h : d = c
  ·rw [if_pos h, if_pos (by first | exact h | (simpa using h))]; rfl
  ·rw [if_neg h, if_neg (by first | exact h | (simpa using h)), ih]
   cases cutC c t with
   | none => simp
   | some q =>
    obtain ⟨a, r⟩ := q
    have : ((a.length : Int) == -1) = false := by rw [beq_eq_false_iff_ne]; omega
    simp [this]
theorem lcut_none (s : ByteArray) (c : UInt8) (h : cutC c s.data.toList = none) (w : World) :
  Calls Tryz.prog 93 #[.string s, .string ⟨#[c]⟩] w fun e w' => e = .returned (.tuple #[.string s, .string ⟨#[]⟩, .bool false]) ∧ ∃ n, w' = w.drewN n := by
 have hi := fun W => Tryz.stringslite_Index_one s c W
 rw [index_cut, h] at hi
 simp only at hi
 clear h
 go_enter Tryz.func93, Tryz.ntmps93
 go_wp2_with fail
 refine (hi _).mono ?_
 rintro e w1 ⟨rfl, rfl⟩
 go_wp2_with fail
 go_ret3
 exact ⟨rfl, 0, rfl⟩
theorem lcut_some (s : ByteArray) (c : UInt8) (a r : List UInt8) (h : cutC c s.data.toList = some (a, r)) (hs : s.size ≤ 1000000000) (w : World) :
  Calls Tryz.prog 93 #[.string s, .string ⟨#[c]⟩] w fun e w' => e = .returned (.tuple #[.string (ba a), .string (ba r), .bool true]) ∧ ∃ n, w' = w.drewN n := by
 have hi := fun W => Tryz.stringslite_Index_one s c W
 rw [index_cut, h] at hi
 simp only at hi
 have hl := (cutC_app c _ a r h).1
 obtain ⟨i, hI⟩ : ∃ i, a.length = i := ⟨_, rfl⟩
 have hlen : s.size = i + 1 + r.length := by rw [Lib.size_eq, hl, List.length_append, List.length_cons]; omega
 have e1 : s.extract 0 i = ba a := by rw [ext_take s i (by omega), hl, ← hI, List.take_left]
 have e2 : s.extract (i + 1) s.size = ba r := by rw [ext_drop s (i + 1) (by omega), hl, ← hI]; congr 1; simp
 rw [hI] at hi
 have c1 : (0 : Int) ≤ (i : Int) := by omega
 have c2 : (i : Int) ≤ (s.size : Int) := by omega
 have c3 : (0 : Int) ≤ (i : Int) + 1 := by omega
 have c4 : (i : Int) + 1 ≤ (s.size : Int) := by omega
 have E1 := Aside0.mk e1
 have E2 := Aside0.mk e2
 have ez : (⟨#[c]⟩ : ByteArray).size = 1 := rfl
 clear h hl hI hlen e1 e2
 go_enter Tryz.func93, Tryz.ntmps93
 go_wp2_with fail
 refine (hi _).mono ?_
 rintro e w1 ⟨rfl, rfl⟩
 go_wp2_with fail
 repeat (go_quiet (fail); try go_wp2_with fail)
 go_ret3
 exact ⟨by rw [E1.out, E2.out]; rfl, _, rfl⟩
theorem cut_none (s : ByteArray) (c : UInt8) (h : cutC c s.data.toList = none) (w : World) :
  Calls Tryz.prog 52 #[.string s, .string ⟨#[c]⟩] w fun e w' => e = .returned (.tuple #[.string s, .string ⟨#[]⟩, .bool false]) ∧ ∃ n, w' = w.drewN n := by
 have hi := fun W => lcut_none s c h W
 clear h
 go_enter Tryz.func52, Tryz.ntmps52
 go_wp2_with fail
 refine (hi _).mono ?_
 rintro e w1 ⟨rfl, n, rfl⟩
 go_wp2_with fail
 go_ret3
 exact ⟨rfl, n, rfl⟩
theorem cut_some (s : ByteArray) (c : UInt8) (a r : List UInt8) (h : cutC c s.data.toList = some (a, r)) (hs : s.size ≤ 1000000000) (w : World) :
  Calls Tryz.prog 52 #[.string s, .string ⟨#[c]⟩] w fun e w' => e = .returned (.tuple #[.string (ba a), .string (ba r), .bool true]) ∧ ∃ n, w' = w.drewN n := by
 have hi := fun W => lcut_some s c a r h hs W
 clear h
 go_enter Tryz.func52, Tryz.ntmps52
 go_wp2_with fail
 refine (hi _).mono ?_
 rintro e w1 ⟨rfl, n, rfl⟩
 go_wp2_with fail
 go_ret3
 exact ⟨rfl, n, rfl⟩
theorem u8i (a : UInt8) (n : Nat) (hn : n < 256) : ((a.toNat : Int) = (n : Int)) ↔ a = UInt8.ofNat n := by
 constructor
 ·intro h
  apply UInt8.toNat_inj.1
  rw [UInt8.toNat_ofNat']
  omega
 ·rintro rfl
  rw [UInt8.toNat_ofNat']
  omega
structure Head (s : ByteArray) (c : UInt8) (t : ByteArray) : Prop where
 pos : 0 < s.size
 at0 : s[0]'pos = c
 list : s.data.toList = c :: t.data.toList
 first : s.extract 0 1 = ⟨#[c]⟩
 rest : s.extract 1 s.size = t
 size : s.size = t.size + 1
theorem head_of (c : UInt8) (t : List UInt8) : Head (ba (c :: t)) c (ba t) := by
 have hp : 0 < (ba (c :: t)).size := by rw [qc1]; simp
 refine ⟨hp, rfl, rfl, ?_, ?_, ?_⟩
 ·rw [ext_take _ 1 (by rw [qc1]; simp)]; rfl
 ·rw [ext_drop _ 1 (by rw [qc1]; simp)]; rfl
 ·rw [qc1, qc1]; rfl
theorem literal_no (b B : Nat) (s t : ByteArray) (c : UInt8) (l : List Wd) (w : World) (h : LB b B s l false w) (hd : Head s c t) (hc : ¬ (c = 34 ∨ c = 39)) :
  Calls Tryz.prog 26 #[selfL b] w fun e w' => e = .returned (.bool false) ∧ w = w' := by
 obtain ⟨v, h1, _⟩ := h
 have c0 : w.cell? ⟨b, 0, none⟩ = some (.string s) := by rw [qt h1]; rfl
 have hp := hd.pos
 have q1 : (((s[0]'hp).toNat : Int) != 34) = true := by rw [hd.at0, bne_iff_ne]; intro q; exact hc (.inl ((u8i c 34 (by omega)).1 q))
 have q2 : (((s[0]'hp).toNat : Int) != 39) = true := by rw [hd.at0, bne_iff_ne]; intro q; exact hc (.inr ((u8i c 39 (by omega)).1 q))
 clear hd h1 hc
 unfold selfL
 go_enter Tryz.func26, Tryz.ntmps26
 go_wp2_with fail
 go_ret
 exact ⟨rfl, rfl⟩
theorem literal_fail (b B : Nat) (s t : ByteArray) (c : UInt8) (l : List Wd) (w : World) (h : LB b B s l false w) (hb : b < B) (hd : Head s c t) (hc : c = 34 ∨ c = 39) (hq : cutC c t.data.toList = none) :
  Calls Tryz.prog 26 #[selfL b] w fun e w' => e = .returned (.bool true) ∧ LB b B s l true w' ∧ Fr b B w w' := by
 have hf := fun n => fail_call b B s l (w.drewN n) (h.drewN n) hb
 have hcut := fun W => cut_none t c hq W
 have HF := Aside0.mk (Fr.refl b B w)
 obtain ⟨v, h1, _⟩ := h
 have c0 : w.cell? ⟨b, 0, none⟩ = some (.string s) := by rw [qt h1]; rfl
 have hp := hd.pos
 have x1 := hd.first
 have x2 := hd.rest
 have x3 : (1 : Int) ≤ (s.size : Int) := by omega
 have q1 : (((s[0]'hp).toNat : Int) != 34) = !decide (c = 34) := by rw [hd.at0]; rcases hc with rfl | rfl <;> rfl
 have q2 : (((s[0]'hp).toNat : Int) != 39) = !decide (c = 39) := by rw [hd.at0]; rcases hc with rfl | rfl <;> rfl
 clear hd h1 hq
 unfold selfL at hf ⊢
 rcases hc with rfl | rfl
 all_goals
  simp at q1 q2
  go_enter Tryz.func26, Tryz.ntmps26
  go_wp2_with fail
  go_quiet ((go_at_call 52; exact Calls.quiet_of (hcut _)))
  go_wp2_with fail
  refine (hf _).mono ?_
  rintro e w2 ⟨rfl, h2, f2⟩
  go_wp2_with fail
  go_ret
  exact ⟨rfl, h2, (HF.out.drewN _).trans f2⟩
theorem literal_say (b B : Nat) (s t : ByteArray) (c : UInt8) (a r : List UInt8) (l : List Wd) (w : World) (h : LB b B s l false w) (hb : b < B) (hB : B ≤ w.heap.size) (hl : l.length ≤ 1000) (hs : s.size ≤ 1000000000) (hd : Head s c t) (hc : c = 34 ∨ c = 39) (hq : cutC c t.data.toList = some (a, r)) :
  Calls Tryz.prog 26 #[selfL b] w fun e w' => e = .returned (.bool true) ∧ LB b B (ba r) (l ++ [(8, a, 0, 0)]) false w' ∧ Fr b B w w' := by
 have hf := fun n => say_call b B s l 8 (ba a) (ba r) (w.drewN n) (h.drewN n) hb hB hl
 have hsz := hd.size
 have hcut := fun W => cut_some t c a r hq (by omega) W
 have HF := Aside0.mk (Fr.refl b B w)
 obtain ⟨v, h1, _⟩ := h
 have c0 : w.cell? ⟨b, 0, none⟩ = some (.string s) := by rw [qt h1]; rfl
 have hp := hd.pos
 have x1 := hd.first
 have x2 := hd.rest
 have x3 : (1 : Int) ≤ (s.size : Int) := by omega
 have q1 : (((s[0]'hp).toNat : Int) != 34) = !decide (c = 34) := by rw [hd.at0]; rcases hc with rfl | rfl <;> rfl
 have q2 : (((s[0]'hp).toNat : Int) != 39) = !decide (c = 39) := by rw [hd.at0]; rcases hc with rfl | rfl <;> rfl
 rw [qu] at hf
 clear hd h1 hq hsz
 unfold selfL at hf ⊢
 rcases hc with rfl | rfl
 all_goals
  simp at q1 q2
  go_enter Tryz.func26, Tryz.ntmps26
  go_wp2_with fail
  go_quiet ((go_at_call 52; exact Calls.quiet_of (hcut _)))
  go_wp2_with fail
  refine (hf _).mono ?_
  rintro e w2 ⟨rfl, h2, f2⟩
  go_wp2_with fail
  go_ret
  exact ⟨rfl, h2, (HF.out.drewN _).trans f2⟩
theorem star_no (b B : Nat) (s t : ByteArray) (c : UInt8) (l : List Wd) (w : World) (h : LB b B s l false w) (hd : Head s c t) (hc : ¬ c = 42) :
  Calls Tryz.prog 29 #[selfL b] w fun e w' => e = .returned (.bool false) ∧ w = w' := by
 obtain ⟨v, h1, _⟩ := h
 have c0 : w.cell? ⟨b, 0, none⟩ = some (.string s) := by rw [qt h1]; rfl
 have hp := hd.pos
 have q1 : (((s[0]'hp).toNat : Int) != 42) = true := by rw [hd.at0, bne_iff_ne]; intro q; exact hc ((u8i c 42 (by omega)).1 q)
 clear hd h1 hc
 unfold selfL
 go_enter Tryz.func29, Tryz.ntmps29
 go_wp2_with fail
 go_ret
 exact ⟨rfl, rfl⟩
theorem star_say (b B : Nat) (s t : ByteArray) (c : UInt8) (l : List Wd) (w : World) (h : LB b B s l false w) (hb : b < B) (hB : B ≤ w.heap.size) (hl : l.length ≤ 1000) (hd : Head s c t) (hc : c = 42) :
  Calls Tryz.prog 29 #[selfL b] w fun e w' => e = .returned (.bool true) ∧ LB b B t (l ++ [(if endsW l = true then 5 else 3, [42], 0, 0)]) false w' ∧ Fr b B w w' := by
 have he := ends_call b B s l w h hl
 have hf : ∀ k W, Below w.heap.size w W → _ := fun k W hW => say_call b B s l k ⟨#[42]⟩ t W (h.below hW) hb (Nat.le_trans hB hW.size) hl
 have hlt := h.lt
 have HF : ∀ W, Below w.heap.size w W → Fr b B w W := fun W hW => Fr.of_below hW hB (Nat.le_of_lt hb)
 have c1 : ∀ W, Below w.heap.size w W → W.cell? ⟨b, 0, none⟩ = some (.string s) := fun W hW => by obtain ⟨v, h1, _⟩ := h.below hW; rw [qt h1]; rfl
 have c0 := c1 w (Below.refl _ _)
 have hp := hd.pos
 have x2 := hd.rest
 have x3 : (1 : Int) ≤ (s.size : Int) := by omega
 have q1 : (((s[0]'hp).toNat : Int) != 42) = false := by rw [hd.at0, hc]; rfl
 have HE := Aside0.mk hf
 have HF2 := Aside0.mk HF
 have HC := Aside0.mk c1
 clear hd h hc hf HF c1
 unfold selfL at he HE ⊢
 cases hq : endsW l with
 | true =>
  rw [hq] at he
  clear hq
  go_enter Tryz.func29, Tryz.ntmps29
  go_wp2_with fail
  refine he.mono ?_
  rintro e w1 ⟨rfl, b1⟩
  have c2 := HC.out _ b1
  have hs := HE.out 5 _ b1
  have F1 := Aside0.mk (HF2.out _ b1)
  clear b1
  go_wp2_with fail
  refine hs.mono ?_
  rintro e w2 ⟨rfl, h2, f2⟩
  go_wp2_with fail
  go_ret
  exact ⟨rfl, h2, F1.out.trans f2⟩
 | false =>
  rw [hq] at he
  clear hq
  go_enter Tryz.func29, Tryz.ntmps29
  go_wp2_with fail
  refine he.mono ?_
  rintro e w1 ⟨rfl, b1⟩
  have c2 := HC.out _ b1
  have hs := HE.out 3 _ b1
  have F1 := Aside0.mk (HF2.out _ b1)
  clear b1
  go_wp2_with fail
  refine hs.mono ?_
  rintro e w2 ⟨rfl, h2, f2⟩
  go_wp2_with fail
  go_ret
  exact ⟨rfl, h2, F1.out.trans f2⟩
end Go.Proofs.YthilcidoacgdfaaGreatDoor.LexH
