/- Two failures of one disk are two disks, and a copy stands apart: the law returns true for every input, without a condition, and leaves what came in as it was. -/
import Derived.Test.YtpcaoildoepjiaaFx7
set_option linter.unusedVariables false
set_option linter.unusedSimpArgs false
set_option linter.unusedSectionVars false

namespace Go.Proofs.Ytpcaoildoepjiaa.twice
open Go Go.Proofs Go.Fx Go.Disk Go.ChangeShapes Go.WideShapes Go.ChangeAt Go.RowKit Go.Deep
set_option linter.unusedVariables false
set_option maxRecDepth 100000

theorem lifted (os : Os) (started : os.Started) (H : Type) (enc : TypeId × Value → H) :
    ReturnsInHanded {} Try.checked os 11 .any (Rows.simfsTwiceSpec.pre6 enc Try.prog Try.f11 Rows.simfsTwiceRow.domain false) (Rows.simfsTwiceSpec.post enc Try.prog Try.f11 false true false false) := by
  refine returnsInHanded_of_change_sized (C := Try.checked) ownTry started (by kernel_rfl) Try.func11
    (ChangeSpec.witness6 (enc := enc) (C := Try.checked) false ⟨#[], #[.int .i64 0, .slice none 0 0, .slice none 0 0, .slice none 0 0, .slice none 0 0], []⟩ 8 (by kernel_rfl) (by kernel_rfl) (by kernel_rfl) (by kernel_rfl)) ?_
  intro W base args ds gs before hval0 hW _ hw _
  obtain ⟨args⟩ := args
  have hval : ∀ (j : Nat) t v, Try.f11.params[j]? = some t → (⟨args⟩ : Array Value)[j]? = some v → Value.okWide Try.prog W .any base t v := hval0
  have hW' : DataW.Whole enc Try.prog Try.f11.params.toList [] false W args ds gs before := hW
  obtain ⟨p, q, hA, hV, _, _, _⟩ := hW'
  obtain ⟨rfl, rfl⟩ := trodVars_none hV
  have hw2 : (DataW.weightsEach Try.prog Try.f11.params.toList ds).all (· ≤ reachBytes) = true := by
    have e : Try.f11.params.toList ++ Rows.simfsTwiceSpec.plain.varTypes Try.prog = Try.f11.params.toList := by rfl
    have := hw
    rw [show (Try.checked.prog) = Try.prog from rfl, e, List.append_nil] at this
    exact this
  rw [Try.params11] at hA hval hw2
  have hr := reach_lt
  obtain ⟨v0, vs0, d0, ds0, p0, q0, rfl, rfl, _, t0, r0⟩ := trodAll_cons hA
  obtain ⟨v1, vs1, d1, ds1, p1, q1, rfl, rfl, _, t1, r1⟩ := trodAll_cons r0
  obtain ⟨v2, vs2, d2, ds2, p2, q2, rfl, rfl, _, t2, r2⟩ := trodAll_cons r1
  obtain ⟨v3, vs3, d3, ds3, p3, q3, rfl, rfl, _, t3, r3⟩ := trodAll_cons r2
  obtain ⟨v4, vs4, d4, ds4, p4, q4, rfl, rfl, _, t4, r4⟩ := trodAll_cons r3
  obtain ⟨rfl, rfl, _⟩ := trodAll_nil r4
  obtain ⟨x0, rfl, rfl, rfl, w0⟩ := open_int und3 (hval 0 _ _ rfl rfl) t0
  have y0 : -9223372036854775808 ≤ x0 ∧ x0 ≤ 9223372036854775807 := by simpa [Lit.wf, IntKind.min, IntKind.max, IntKind.signed, IntKind.bits] using w0
  obtain ⟨a1, l1, c1, x1, rfl, g1, z1⟩ := arg_ops (hval 1 _ _ rfl rfl) t1 (sized_each hw2 (j := 1) rfl rfl)
  obtain ⟨a2, l2, c2, x2, rfl, g2, z2, y2⟩ := arg_ints und23 und3 (by kernel_rfl) (by kernel_rfl) (hval 2 _ _ rfl rfl) t2 (sized_each hw2 (j := 2) rfl rfl)
  obtain ⟨a3, l3, c3, x3, rfl, g3, z3⟩ := arg_ops (hval 3 _ _ rfl rfl) t3 (sized_each hw2 (j := 3) rfl rfl)
  obtain ⟨a4, l4, c4, x4, rfl, g4, z4, y4⟩ := arg_ints und23 und3 (by kernel_rfl) (by kernel_rfl) (hval 4 _ _ rfl rfl) t4 (sized_each hw2 (j := 4) rfl rfl)
  refine law_calls (SimfsTwice_ok (C := C0) g1 (by have := g1.choose_spec.1.2.1; omega) g2 (by omega) g3 (by have := g3.choose_spec.1.2.1; omega) g4 (by omega) fun H' C' hev => ⟨rfl, C', hev⟩) rfl hW (by rw [Try.params11]; decide +kernel) rfl rfl rfl (by kernel_rfl) und4
end Go.Proofs.Ytpcaoildoepjiaa.twice
namespace Go.Proofs.Ytpcaoildoepjiaa
theorem simfsTwice_holds : Rows.SimfsTwiceSaid :=
  OpenClaim.holds_of_wide 11 Try.f11 rfl rfl rfl rfl rfl rfl rfl ⟨rfl, rfl, rfl, rfl, rfl⟩ rfl rfl rfl rfl rfl (by kernel_rfl) Try.func11 (by kernel_rfl)
    (of_decide_eq_true (by kernel_rfl)) (by unfold Func.isWrapper; first | (rw [if_pos (by decide +kernel)]; kernel_rfl) | (rw [if_neg (by decide +kernel)]; exact ⟨rfl, rfl⟩))
    (fun os started H enc _ => twice.lifted os started H enc)
#print axioms simfsTwice_holds
end Go.Proofs.Ytpcaoildoepjiaa
