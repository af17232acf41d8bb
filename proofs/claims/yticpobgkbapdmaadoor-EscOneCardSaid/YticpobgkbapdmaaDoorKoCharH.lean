/- CharWithin: the plain law and the walk. -/
import Derived.Test.YticpobgkbapdmaaDoorKoCharE
import Derived.Test.YticpobgkbapdmaaDoorKoCharF
import Derived.Lib.RuneBytes
namespace Go.Proofs.YticpobgkbapdmaaDoor.CharA
end Go.Proofs.YticpobgkbapdmaaDoor.CharA
namespace Go.Proofs.YticpobgkbapdmaaDoor.CharB
end Go.Proofs.YticpobgkbapdmaaDoor.CharB
namespace Go.Proofs.YticpobgkbapdmaaDoor.CharC
end Go.Proofs.YticpobgkbapdmaaDoor.CharC
namespace Go.Proofs.YticpobgkbapdmaaDoor.CharD
end Go.Proofs.YticpobgkbapdmaaDoor.CharD
namespace Go.Proofs.YticpobgkbapdmaaDoor.CharE
end Go.Proofs.YticpobgkbapdmaaDoor.CharE
namespace Go.Proofs.YticpobgkbapdmaaDoor.CharF
end Go.Proofs.YticpobgkbapdmaaDoor.CharF
namespace Go.Proofs.YticpobgkbapdmaaDoorW.PrintLast
end Go.Proofs.YticpobgkbapdmaaDoorW.PrintLast
namespace Go.Proofs.YticpobgkbapdmaaDoorW.PrintMore
end Go.Proofs.YticpobgkbapdmaaDoorW.PrintMore
namespace Go.Proofs.YticpobgkbapdmaaDoorW.PrintWords
end Go.Proofs.YticpobgkbapdmaaDoorW.PrintWords
namespace Go.Proofs.YticpobgkbapdmaaDoor.CharH
open Go.RowKit Go.Proofs.YticpobgkbapdmaaDoorW.PrintWords Go.Proofs.YticpobgkbapdmaaDoorW.PrintLast Go.Proofs.YticpobgkbapdmaaDoorW.PrintMore Go.Proofs.YticpobgkbapdmaaDoor.CharA Go.Proofs.YticpobgkbapdmaaDoor.CharB Go.Proofs.YticpobgkbapdmaaDoor.CharC Go.Proofs.YticpobgkbapdmaaDoor.CharD Go.Proofs.YticpobgkbapdmaaDoor.CharE Go.Proofs.YticpobgkbapdmaaDoor.CharF
set_option linter.unusedVariables false
set_option linter.unusedSimpArgs false
set_option linter.unnecessarySimpa false
def enc (r : Int) : ByteArray := ⟨(Lib.encodeRune r).toArray⟩
theorem enc_model (r : Int) (h0 : 0 ≤ r) (h1 : r ≤ 1114111) (h2 : r < 55296 ∨ 57343 < r) : Utf8.encode r = enc r := by
  obtain ⟨n, rfl⟩ : ∃ n : Nat, r = (n : Int) := ⟨r.toNat, by omega⟩
  have hv : Utf8.valid (n : Int) = true := by unfold Utf8.valid; simp; omega
  unfold enc Lib.encodeRune Utf8.encode
  simp only [hv, if_true, Int.toNat_natCast]
  by_cases c1 : n < 128
  · rw [Lib.encodeRuneZ_one (by omega) (by omega), if_pos c1]
    simp only [List.map_cons, List.map_nil, Int.toNat_natCast]
  rw [if_neg c1]
  by_cases c2 : n < 2048
  · rw [Lib.encodeRuneZ_two (by omega) (by omega), if_pos c2]
    simp only [List.map_cons, List.map_nil, show (192 + (n : Int) / 64).toNat = 192 + n / 64 by omega, show (128 + (n : Int) % 64).toNat = 128 + n % 64 by omega]
  rw [if_neg c2]
  by_cases c3 : n < 65536
  · rw [Lib.encodeRuneZ_three (by omega), if_pos c3]
    simp only [List.map_cons, List.map_nil, show (224 + (n : Int) / 4096).toNat = 224 + n / 4096 by omega, show (128 + (n : Int) / 64 % 64).toNat = 128 + n / 64 % 64 by omega, show (128 + (n : Int) % 64).toNat = 128 + n % 64 by omega]
  · rw [Lib.encodeRuneZ_four (by omega) (by omega), if_neg c3]
    simp only [List.map_cons, List.map_nil, show (240 + (n : Int) / 262144).toNat = 240 + n / 262144 by omega, show (128 + (n : Int) / 4096 % 64).toNat = 128 + n / 4096 % 64 by omega, show (128 + (n : Int) / 64 % 64).toNat = 128 + n / 64 % 64 by omega, show (128 + (n : Int) % 64).toNat = 128 + n % 64 by omega]
theorem enc_size (r : Int) : 1 ≤ (enc r).size ∧ (enc r).size ≤ 4 := by
  have := Lib.encodeRuneZ_length r
  have e : (enc r).size = (Lib.encodeRune r).length := by simp [enc, ByteArray.size]
  rw [e]
  unfold Lib.encodeRune
  rw [List.length_map]
  exact this
end Go.Proofs.YticpobgkbapdmaaDoor.CharH
