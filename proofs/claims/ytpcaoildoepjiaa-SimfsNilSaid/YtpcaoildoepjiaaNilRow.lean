/- A disk that is not there answers that it is not there: the law returns true for every input, without a condition, and leaves what came in as it was. -/
import Derived.Test.YtpcaoildoepjiaaFx5
set_option linter.unusedVariables false
set_option linter.unusedSimpArgs false
set_option linter.unusedSectionVars false

namespace Go.Proofs.Ytpcaoildoepjiaa.nil
open Go Go.Proofs Go.Fx Go.Disk Go.ChangeShapes Go.WideShapes Go.ChangeAt Go.RowKit Go.Deep
set_option linter.unusedVariables false
set_option maxRecDepth 100000

theorem lifted (os : Os) (started : os.Started) (H : Type) (enc : TypeId × Value → H) :
    ReturnsInHanded {} Try.checked os 12 .any (Rows.simfsNilSpec.pre6 enc Try.prog Try.f12 Rows.simfsNilRow.domain false) (Rows.simfsNilSpec.post enc Try.prog Try.f12 false true false false) := by
  refine returnsInHanded_of_change_sized (C := Try.checked) ownTry started (by kernel_rfl) Try.func12
    (ChangeSpec.witness6 (enc := enc) (C := Try.checked) false ⟨#[], #[.agg ⟨[.int .u8 0, .string (str []), .string (str []), .int .i64 0, .slice none 0 0]⟩, .slice none 0 0], []⟩ 8 (by kernel_rfl) (by kernel_rfl) (by kernel_rfl) (by kernel_rfl)) ?_
  intro W base args ds gs before hval0 hW _ hw _
  obtain ⟨args⟩ := args
  have hval : ∀ (j : Nat) t v, Try.f12.params[j]? = some t → (⟨args⟩ : Array Value)[j]? = some v → Value.okWide Try.prog W .any base t v := hval0
  have hW' : DataW.Whole enc Try.prog Try.f12.params.toList [] false W args ds gs before := hW
  obtain ⟨p, q, hA, hV, _, _, _⟩ := hW'
  obtain ⟨rfl, rfl⟩ := trodVars_none hV
  have hw2 : (DataW.weightsEach Try.prog Try.f12.params.toList ds).all (· ≤ reachBytes) = true := by
    have e : Try.f12.params.toList ++ Rows.simfsNilSpec.plain.varTypes Try.prog = Try.f12.params.toList := by rfl
    have := hw
    rw [show (Try.checked.prog) = Try.prog from rfl, e, List.append_nil] at this
    exact this
  rw [Try.params12] at hA hval hw2
  have hr := reach_lt
  obtain ⟨v0, vs0, d0, ds0, p0, q0, rfl, rfl, _, t0, r0⟩ := trodAll_cons hA
  obtain ⟨v1, vs1, d1, ds1, p1, q1, rfl, rfl, _, t1, r1⟩ := trodAll_cons r0
  obtain ⟨rfl, rfl, _⟩ := trodAll_nil r1
  obtain ⟨x0, s0, rfl, g0⟩ := arg_op (hval 0 _ _ rfl rfl) t0 (sized_each hw2 (j := 0) rfl rfl)
  obtain ⟨a1, l1, c1, x1, rfl, g1, z1, y1⟩ := arg_ints und23 und3 (by kernel_rfl) (by kernel_rfl) (hval 1 _ _ rfl rfl) t1 (sized_each hw2 (j := 1) rfl rfl)
  refine law_calls (SimfsNil_ok (C := C0) fun H' C' hev => ⟨rfl, C', hev⟩) rfl hW (by rw [Try.params12]; decide +kernel) rfl rfl rfl (by kernel_rfl) und4
end Go.Proofs.Ytpcaoildoepjiaa.nil
namespace Go.Proofs.Ytpcaoildoepjiaa
theorem simfsNil_holds : Rows.SimfsNilSaid :=
  OpenClaim.holds_of_wide 12 Try.f12 rfl rfl rfl rfl rfl rfl rfl ⟨rfl, rfl, rfl, rfl, rfl⟩ rfl rfl rfl rfl rfl (by kernel_rfl) Try.func12 (by kernel_rfl)
    (of_decide_eq_true (by kernel_rfl)) (by unfold Func.isWrapper; first | (rw [if_pos (by decide +kernel)]; kernel_rfl) | (rw [if_neg (by decide +kernel)]; exact ⟨rfl, rfl⟩))
    (fun os started H enc _ => nil.lifted os started H enc)
#print axioms simfsNil_holds
end Go.Proofs.Ytpcaoildoepjiaa
