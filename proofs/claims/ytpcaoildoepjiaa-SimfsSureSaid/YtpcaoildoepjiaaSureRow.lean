/- A file that was synced, of a name that is there for sure, and to which nothing was done since, is there behind any failure, as it was: the law returns true for every input, without a condition, and leaves what came in as it was. -/
import Derived.Test.YtpcaoildoepjiaaFx4
set_option linter.unusedVariables false
set_option linter.unusedSimpArgs false
set_option linter.unusedSectionVars false

namespace Go.Proofs.Ytpcaoildoepjiaa.sure
open Go Go.Proofs Go.Fx Go.Disk Go.ChangeShapes Go.WideShapes Go.ChangeAt Go.RowKit Go.Deep
set_option linter.unusedVariables false
set_option maxRecDepth 100000

theorem lifted (os : Os) (started : os.Started) (H : Type) (enc : TypeId × Value → H) :
    ReturnsInHanded {} Try.checked os 6 .any (Rows.simfsSureSpec.pre6 enc Try.prog Try.f6 Rows.simfsSureRow.domain false) (Rows.simfsSureSpec.post enc Try.prog Try.f6 false true false false) := by
  refine returnsInHanded_of_change_sized (C := Try.checked) ownTry started (by kernel_rfl) Try.func6
    (ChangeSpec.witness6 (enc := enc) (C := Try.checked) false ⟨#[], #[.slice none 0 0, .slice none 0 0, .slice none 0 0], []⟩ 8 (by kernel_rfl) (by kernel_rfl) (by kernel_rfl) (by kernel_rfl)) ?_
  intro W base args ds gs before hval0 hW _ hw _
  obtain ⟨args⟩ := args
  have hval : ∀ (j : Nat) t v, Try.f6.params[j]? = some t → (⟨args⟩ : Array Value)[j]? = some v → Value.okWide Try.prog W .any base t v := hval0
  have hW' : DataW.Whole enc Try.prog Try.f6.params.toList [] false W args ds gs before := hW
  obtain ⟨p, q, hA, hV, _, _, _⟩ := hW'
  obtain ⟨rfl, rfl⟩ := trodVars_none hV
  have hw2 : (DataW.weightsEach Try.prog Try.f6.params.toList ds).all (· ≤ reachBytes) = true := by
    have e : Try.f6.params.toList ++ Rows.simfsSureSpec.plain.varTypes Try.prog = Try.f6.params.toList := by rfl
    have := hw
    rw [show (Try.checked.prog) = Try.prog from rfl, e, List.append_nil] at this
    exact this
  rw [Try.params6] at hA hval hw2
  have hr := reach_lt
  obtain ⟨v0, vs0, d0, ds0, p0, q0, rfl, rfl, _, t0, r0⟩ := trodAll_cons hA
  obtain ⟨v1, vs1, d1, ds1, p1, q1, rfl, rfl, _, t1, r1⟩ := trodAll_cons r0
  obtain ⟨v2, vs2, d2, ds2, p2, q2, rfl, rfl, _, t2, r2⟩ := trodAll_cons r1
  obtain ⟨rfl, rfl, _⟩ := trodAll_nil r2
  obtain ⟨a0, l0, c0, x0, rfl, g0, z0⟩ := arg_bytes und22 und5 (by kernel_rfl) (by kernel_rfl) (hval 0 _ _ rfl rfl) t0 (sized_each hw2 (j := 0) rfl rfl)
  obtain ⟨a1, l1, c1, x1, rfl, g1, z1⟩ := arg_ops (hval 1 _ _ rfl rfl) t1 (sized_each hw2 (j := 1) rfl rfl)
  obtain ⟨a2, l2, c2, x2, rfl, g2, z2, y2⟩ := arg_ints und23 und3 (by kernel_rfl) (by kernel_rfl) (hval 2 _ _ rfl rfl) t2 (sized_each hw2 (j := 2) rfl rfl)
  refine law_calls (SimfsSure_ok (C := C0) g0 g1 g2 (by have := g0.2.1; omega) (by have := g1.choose_spec.1.2.1; omega) (by omega) fun H' C' hev => ⟨rfl, C', hev⟩) rfl hW (by rw [Try.params6]; decide +kernel) rfl rfl rfl (by kernel_rfl) und4
end Go.Proofs.Ytpcaoildoepjiaa.sure
namespace Go.Proofs.Ytpcaoildoepjiaa
theorem simfsSure_holds : Rows.SimfsSureSaid :=
  OpenClaim.holds_of_wide 6 Try.f6 rfl rfl rfl rfl rfl rfl rfl ⟨rfl, rfl, rfl, rfl, rfl⟩ rfl rfl rfl rfl rfl (by kernel_rfl) Try.func6 (by kernel_rfl)
    (of_decide_eq_true (by kernel_rfl)) (by unfold Func.isWrapper; first | (rw [if_pos (by decide +kernel)]; kernel_rfl) | (rw [if_neg (by decide +kernel)]; exact ⟨rfl, rfl⟩))
    (fun os started H enc _ => sure.lifted os started H enc)
#print axioms simfsSure_holds
end Go.Proofs.Ytpcaoildoepjiaa
