/- Proofs that are written often, as words. -/
import Derived.WalkKit
namespace Go.Proofs
open Go
set_option linter.unusedVariables false
theorem za {p q:Prop}(h:q)(k:q→p:=by intro h_;(with_reducible repeat(first | refine qi ?_ _ | refine qj ?_ | refine qb ?_ _));exact h_):p:=k h
theorem zb {p q:Prop}(h:q)(k:q→p:=by intro h_;(with_reducible repeat(first | refine qi ?_ _ | refine qj ?_ | refine qb ?_ _));refine qk (cs:= #[.int .i64 0,.int .i64 0]) ?_ 1 _ rfl;(with_reducible repeat(first | refine qi ?_ _ | refine qj ?_ | refine qb ?_ _));refine qk (cs:= #[.int .i64 0,.int .i64 0]) ?_ 0 _ rfl;(with_reducible repeat(first | refine qi ?_ _ | refine qj ?_ | refine qb ?_ _));exact h_):p:=k h
theorem zc {p q:Prop}(h:q)(k:q→p:=by intro h_;(with_reducible repeat(first | refine qi ?_ _ | refine qj ?_ | refine qb ?_ _));refine qh1 ?_ NB291_292.out _;(with_reducible repeat(first | refine qi ?_ _ | refine qj ?_ | refine qb ?_ _));refine qh1 ?_ NB291_292.out _;(with_reducible repeat(first | refine qi ?_ _ | refine qj ?_ | refine qb ?_ _));refine qk (cs:= #[.int .i64 t294,.int .i64 a0_1]) ?_ 1 _ rfl;(with_reducible repeat(first | refine qi ?_ _ | refine qj ?_ | refine qb ?_ _));refine qk (cs:= #[.int .i64 a0_0,.int .i64 a0_1]) ?_ 0 _ rfl;(with_reducible repeat(first | refine qi ?_ _ | refine qj ?_ | refine qb ?_ _));exact h_):p:=k h
theorem zd {p q:Prop}(h:q)(k:q→p:=by intro h_;(with_reducible repeat(first | refine qi ?_ _ | refine qj ?_ | refine qb ?_ _));refine qk (cs:= #[.int .i64 t296,.int .i64 a1_1]) ?_ 1 _ rfl;(with_reducible repeat(first | refine qi ?_ _ | refine qj ?_ | refine qb ?_ _));refine qk (cs:= #[.int .i64 a1_0,.int .i64 a1_1]) ?_ 0 _ rfl;(with_reducible repeat(first | refine qi ?_ _ | refine qj ?_ | refine qb ?_ _));refine qh1 ?_ NB292_291.out _;(with_reducible repeat(first | refine qi ?_ _ | refine qj ?_ | refine qb ?_ _));refine qh1 ?_ NB292_291.out _;(with_reducible repeat(first | refine qi ?_ _ | refine qj ?_ | refine qb ?_ _));exact h_):p:=k h
theorem ze {p q:Prop}(h:q)(k:q→p:=by intro h_;(with_reducible repeat(first | refine qi ?_ _ | refine qj ?_ | refine qb ?_ _));refine qh1 ?_ NB314_315.out _;(with_reducible repeat(first | refine qi ?_ _ | refine qj ?_ | refine qb ?_ _));refine qh1 ?_ NB314_315.out _;(with_reducible repeat(first | refine qi ?_ _ | refine qj ?_ | refine qb ?_ _));refine qk (cs:= #[.int .i64 t317,.int .i64 a0_1]) ?_ 1 _ rfl;(with_reducible repeat(first | refine qi ?_ _ | refine qj ?_ | refine qb ?_ _));refine qk (cs:= #[.int .i64 a0_0,.int .i64 a0_1]) ?_ 0 _ rfl;(with_reducible repeat(first | refine qi ?_ _ | refine qj ?_ | refine qb ?_ _));exact h_):p:=k h
theorem zg {p q:Prop}(h:q)(k:q→p:=by intro h_;(with_reducible repeat(first | refine qi ?_ _ | refine qj ?_ | refine qb ?_ _));refine qk (cs:= #[.int .i64 t319,.int .i64 a1_1]) ?_ 1 _ rfl;(with_reducible repeat(first | refine qi ?_ _ | refine qj ?_ | refine qb ?_ _));refine qk (cs:= #[.int .i64 a1_0,.int .i64 a1_1]) ?_ 0 _ rfl;(with_reducible repeat(first | refine qi ?_ _ | refine qj ?_ | refine qb ?_ _));refine qh1 ?_ NB315_314.out _;(with_reducible repeat(first | refine qi ?_ _ | refine qj ?_ | refine qb ?_ _));refine qh1 ?_ NB315_314.out _;(with_reducible repeat(first | refine qi ?_ _ | refine qj ?_ | refine qb ?_ _));exact h_):p:=k h
theorem zh {p q:Prop}(h:q)(k:q→p:=by intro h_;(with_reducible repeat(first | refine qi ?_ _ | refine qj ?_ | refine qb ?_ _));refine qh1 ?_ NB293_292.out _;(with_reducible repeat(first | refine qi ?_ _ | refine qj ?_ | refine qb ?_ _));refine qh1 ?_ NB293_292.out _;(with_reducible repeat(first | refine qi ?_ _ | refine qj ?_ | refine qb ?_ _));refine qh1 ?_ NB293_291.out _;(with_reducible repeat(first | refine qi ?_ _ | refine qj ?_ | refine qb ?_ _));refine qh1 ?_ NB293_291.out _;(with_reducible repeat(first | refine qi ?_ _ | refine qj ?_ | refine qb ?_ _));exact h_):p:=k h
theorem zi {p q:Prop}(h:q)(k:q→p:=by intro h_;(with_reducible repeat(first | refine qi ?_ _ | refine qj ?_ | refine qb ?_ _));refine qh1 ?_ NB316_315.out _;(with_reducible repeat(first | refine qi ?_ _ | refine qj ?_ | refine qb ?_ _));refine qh1 ?_ NB316_315.out _;(with_reducible repeat(first | refine qi ?_ _ | refine qj ?_ | refine qb ?_ _));refine qh1 ?_ NB316_314.out _;(with_reducible repeat(first | refine qi ?_ _ | refine qj ?_ | refine qb ?_ _));refine qh1 ?_ NB316_314.out _;(with_reducible repeat(first | refine qi ?_ _ | refine qj ?_ | refine qb ?_ _));exact h_):p:=k h
theorem zj {p:Prop}(h:p:=by repeat(first | (with_reducible first | exact HB.out | apply qg | apply qc | apply qh) | exact HB.out)):p:=h
theorem zk {p:Prop}(h:p:=by(try simp only [List.map_toArray,List.map_cons,List.map_nil]);first | done | rfl | (simp only [List.length_drop,List.length_take];rfl)):p:=h
theorem zl {p:Prop}(h:p:=by repeat(first | (with_reducible first | exact HB.out | apply qg | apply qc | apply qh | refine ql ?_ GE314.out | refine ql ?_ GE315.out | refine ql ?_ GE316.out) | exact HB.out)):p:=h
theorem zm {p:Prop}(h:p:=by kernel_rfl):p:=h
theorem zo {p:Prop}(h:p:=by first | rfl | (simp [ ]<;>rfl) | (simp [*]<;>rfl)):p:=h
theorem zp {p:Prop}(h:p:=by repeat(first | (with_reducible first | exact HB.out | apply qg | apply qc | apply qh | refine ql ?_ GE291.out | refine ql ?_ GE292.out | refine ql ?_ GE293.out | refine ql ?_ GE301.out) | exact HB.out)):p:=h
theorem zq {p:Prop}(h:p:=by first | rfl | (simp;done) | (simp [*];done)):p:=h
theorem zr {p:Prop}(h:p:=by have:=HP.out;omega):p:=h
theorem zt {p:Prop}(h:p:=by repeat(first | exact Drawn0.refl _ | apply Drawn0.step)):p:=h
theorem zu {p:Prop}(h:p:=by repeat(first | (with_reducible first | exact HB.out | apply qg | apply qc | apply qh | refine ql ?_ GE291.out | refine ql ?_ GE292.out | refine ql ?_ GE293.out) | exact HB.out)):p:=h
theorem zv {p:Prop}(h:p:=by repeat(first | (with_reducible first | exact HB.out | apply qg | apply qc | apply qh | refine ql ?_ GE119.out) | exact HB.out)):p:=h
theorem zw {p:Prop}(h:p:=by repeat(first | (with_reducible first | exact HB.out | apply qg | apply qc | apply qh | refine ql ?_ GE266.out) | exact HB.out)):p:=h
theorem zx {p:Prop}(h:p:=by repeat(first | (with_reducible first | exact HB.out | apply qg | apply qc | apply qh | refine ql ?_ GE107.out) | exact HB.out)):p:=h
theorem zy {p:Prop}(h:p:=by have:=HSW.out;omega):p:=h
theorem zz {p:Prop}(h:p:=by show(w.heap.push _)[w.heap.size]?=_;simp):p:=h
theorem z7 {p:Prop}(h:p:=by(with_reducible repeat(first | refine qi ?_ _ | refine qj ?_ | refine qb ?_ _));refine qk (cs:= #[.int .i64 ((rd_T93 l0 x8_1).f0),.string ((rd_T93 l0 x8_1).f1),.int .i64 ((rd_T93 l0 x8_1).f2.f0),.int .i64 0]) ?_ 3 _ rfl;(with_reducible repeat(first | refine qi ?_ _ | refine qj ?_ | refine qb ?_ _));refine qk (cs:= #[.int .i64 ((rd_T93 l0 x8_1).f0),.string ((rd_T93 l0 x8_1).f1),.int .i64 0,.int .i64 0]) ?_ 2 _ rfl;(with_reducible repeat(first | refine qi ?_ _ | refine qj ?_ | refine qb ?_ _));refine qk (cs:= #[.int .i64 ((rd_T93 l0 x8_1).f0),.string (⟨#[]⟩:ByteArray),.int .i64 0,.int .i64 0]) ?_ 1 _ rfl;(with_reducible repeat(first | refine qi ?_ _ | refine qj ?_ | refine qb ?_ _));refine qk (cs:= #[.int .i64 0,.string (⟨#[]⟩:ByteArray),.int .i64 0,.int .i64 0]) ?_ 0 _ rfl;(with_reducible repeat(first | refine qi ?_ _ | refine qj ?_ | refine qb ?_ _));exact BK107.out):p:=h
theorem z8 {p:Prop}(h:p:=by repeat(first | (with_reducible first | exact HB.out | apply qg | apply qc | apply qh | refine ql ?_ GE291.out | refine ql ?_ GE292.out) | exact HB.out)):p:=h
theorem zaa {p:Prop}(h:p:=by repeat(first | (with_reducible first | exact HB.out | apply qg | apply qc | apply qh | refine ql ?_ GE314.out | refine ql ?_ GE315.out) | exact HB.out)):p:=h
theorem zab {p:Prop}(h:p:=by(with_reducible repeat(first | refine qi ?_ _ | refine qj ?_ | refine qb ?_ _));refine qk (cs:= #[.int .i64 t298,.int .i64 0]) ?_ 1 _ rfl;(with_reducible repeat(first | refine qi ?_ _ | refine qj ?_ | refine qb ?_ _));refine qk (cs:= #[.int .i64 0,.int .i64 0]) ?_ 0 _ rfl;(with_reducible repeat(first | refine qi ?_ _ | refine qj ?_ | refine qb ?_ _));exact BK301.out):p:=h
theorem zac {p:Prop}(h:p:=by first | rfl | (simp;done)):p:=h
theorem zad {p:Prop}(h:p:=by(with_reducible repeat(first | refine qi ?_ _ | refine qj ?_ | refine qb ?_ _));refine qh1 ?_ NB291_301.out _;(with_reducible repeat(first | refine qi ?_ _ | refine qj ?_ | refine qb ?_ _));refine qh1 ?_ NB291_301.out _;(with_reducible repeat(first | refine qi ?_ _ | refine qj ?_ | refine qb ?_ _));exact BK291.out):p:=h
theorem zae {p:Prop}(h:p:=by(with_reducible repeat(first | refine qi ?_ _ | refine qj ?_ | refine qb ?_ _));refine qh1 ?_ NB292_301.out _;(with_reducible repeat(first | refine qi ?_ _ | refine qj ?_ | refine qb ?_ _));refine qh1 ?_ NB292_301.out _;(with_reducible repeat(first | refine qi ?_ _ | refine qj ?_ | refine qb ?_ _));exact BK292.out):p:=h
theorem zaf {p:Prop}(h:p:=by(with_reducible repeat(first | refine qi ?_ _ | refine qj ?_ | refine qb ?_ _));refine qh1 ?_ NB293_301.out _;(with_reducible repeat(first | refine qi ?_ _ | refine qj ?_ | refine qb ?_ _));refine qh1 ?_ NB293_301.out _;(with_reducible repeat(first | refine qi ?_ _ | refine qj ?_ | refine qb ?_ _));exact BK293.out):p:=h
theorem zag {p:Prop}(h:p:=by repeat(first | (with_reducible first | exact HB.out | apply qg | apply qc | apply qh | refine ql ?_ GE286.out) | exact HB.out)):p:=h
theorem zah {p:Prop}(h:p:=by repeat(first | (with_reducible first | exact HB.out | apply qg | apply qc | apply qh | refine ql ?_ GE291.out) | exact HB.out)):p:=h
theorem zai {p:Prop}(h:p:=by repeat(first | (with_reducible first | exact HB.out | apply qg | apply qc | apply qh | refine ql ?_ GE310.out) | exact HB.out)):p:=h
theorem zaj {p:Prop}(h:p:=by repeat(first | (with_reducible first | exact HB.out | apply qg | apply qc | apply qh | refine ql ?_ GE312.out) | exact HB.out)):p:=h
theorem zak {p:Prop}(h:p:=by repeat(first | (with_reducible first | exact HB.out | apply qg | apply qc | apply qh | refine ql ?_ GE314.out) | exact HB.out)):p:=h
theorem zal {p:Prop}(h:p:=by repeat(first | (with_reducible first | exact HB.out | apply qg | apply qc | apply qh | refine ql ?_ GE286.out | refine ql ?_ GE287.out) | exact HB.out)):p:=h
theorem zam {p:Prop}(h:p:=by repeat(first | (with_reducible first | exact HB.out | apply qg | apply qc | apply qh | refine ql ?_ GE284.out) | exact HB.out)):p:=h
theorem zan {p:Prop}(h:p:=by have:=HI.out;omega):p:=h
theorem zao {p:Prop}(h:p:=by simp only [qf1];exact(HFl.out k hk).2):p:=h
theorem zap {p:Prop}(h:p:=by repeat(first | (with_reducible first | exact HB.out | apply qg | apply qc | apply qh | refine ql ?_ GE271.out | refine ql ?_ GE272.out) | exact HB.out)):p:=h
theorem zaq {p:Prop}(h:p:=by repeat(first | (with_reducible first | exact HB.out | apply qg | apply qc | apply qh | refine ql ?_ GE278.out) | exact HB.out)):p:=h
theorem zar {p:Prop}(h:p:=by(with_reducible repeat(first | refine qi ?_ _ | refine qj ?_ | refine qb ?_ _));exact BK266.out):p:=h
theorem zas {p:Prop}(h:p:=by first | omega | exact Nat.le_refl _):p:=h
theorem zat {p:Prop}(h:p:=by have:=(HFl.out k hk).1;omega):p:=h
theorem zau {p:Prop}(h:p:=by rw [HS.out];omega):p:=h
theorem zav {p:Prop}(h:p:=by repeat(first | (with_reducible first | exact HB.out | apply qg | apply qc | apply qh | refine ql ?_ GE271.out) | exact HB.out)):p:=h
theorem zaw {p:Prop}(h:p:=by first | (with_reducible assumption) | assumption):p:=h
theorem zax {p:Prop}(h:p:=by have:=HL2.out;omega):p:=h
theorem zay {p:Prop}(h:p:=by rw [List.length_append];simp;omega):p:=h
theorem zaz {p:Prop}(h:p:=by obtain⟨u,hu,hg,_⟩:=(qj3 k1).bin (by omega) hx;rw [hu,List.length_append];have:=List.length_pos_iff.2 hg.ne;omega):p:=h
theorem za0 {p:Prop}(h:p:=by simp;have:=HSW.out;omega):p:=h
theorem za1 {p:Prop}(h:p:=by have:=HIK.out;omega):p:=h
theorem za2 {p:Prop}(h:p:=by have:=HEb.out;have:=HSb.out;omega):p:=h
theorem za3 {p:Prop}(h:p:=by rw [← Lib.size_eq];omega):p:=h
theorem za4 {p:Prop}(h:p:=by rw [List.drop_zero];exact hR0):p:=h
theorem za5 {p:Prop}(h:p:=by have:=HL.out;first | omega | (simp [World.setCell];omega)):p:=h
theorem za6 {p:Prop}(h:p:=by simp;omega):p:=h
theorem za7 {p:Prop}(h:p:=by rw [hs2];omega):p:=h
theorem za8 {p:Prop}(h:p:=by have:=HP.out;have:=HL1.out;omega):p:=h
theorem za9 {p:Prop}(h:p:=by have:=hFl k hk;rw [HS.out]at this;omega):p:=h
theorem zba {p:Prop}(h:p:=by repeat(first | (with_reducible first | exact HB.out | apply qg | apply qc | apply qh | refine ql ?_ GE310.out | refine ql ?_ GE311.out) | exact HB.out)):p:=h
theorem zbb {p:Prop}(h:p:=by have:=HK1.out;first | omega | exact Nat.le_refl _):p:=h
theorem zbc {p:Prop}(h:p:=by assumption):p:=h
theorem zbd {p:Prop}(h:p:=by rw [qo];omega):p:=h
theorem zbe {p:Prop}(h:p:=by simp only [qf1];exact((show ∀ k,F k→w.heap.size+2<k∧k<wr.heap.size from fun k hk=>⟨(HC.out.bnd k hk).1,(HC.out.bnd k hk).2.1⟩) k hk).2):p:=h
theorem zbf {p:Prop}(h:p:=by obtain⟨v,h1,_⟩:=h.below hW;rw [qb1 h1];rfl):p:=h
theorem zbg {p:Prop}(h:p:=by rw [qo1,qe1,List.take_of_length_le (by rw [List.length_drop];omega)]):p:=h
theorem zbh {p:Prop}(h:p:=by have:=((show ∀ k,F k→w.heap.size+2<k∧k<wr.heap.size from fun k hk=>⟨(HC.out.bnd k hk).1,(HC.out.bnd k hk).2.1⟩) k hk).1;omega):p:=h
theorem zbi {p:Prop}(h:p:=by intro hk;exact k0 hk):p:=h
end Go.Proofs
