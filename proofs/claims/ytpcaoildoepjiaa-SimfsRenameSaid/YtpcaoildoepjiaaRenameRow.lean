/- Where a file that is sure is renamed over another one that is, there is, behind whatever failure, the one or the other, whole: the law returns true for every input, without a condition, and leaves what came in as it was. -/
import Derived.Test.YtpcaoildoepjiaaFx4
set_option linter.unusedVariables false
set_option linter.unusedSimpArgs false
set_option linter.unusedSectionVars false

namespace Go.Proofs.Ytpcaoildoepjiaa.rename
open Go Go.Proofs Go.Fx Go.Disk Go.ChangeShapes Go.WideShapes Go.ChangeAt Go.RowKit Go.Deep
set_option linter.unusedVariables false
set_option maxRecDepth 100000

theorem lifted (os : Os) (started : os.Started) (H : Type) (enc : TypeId × Value → H) :
    ReturnsInHanded {} Try.checked os 3 .any (Rows.simfsRenameSpec.pre6 enc Try.prog Try.f3 Rows.simfsRenameRow.domain false) (Rows.simfsRenameSpec.post enc Try.prog Try.f3 false true false false) := by
  refine returnsInHanded_of_change_sized (C := Try.checked) ownTry started (by kernel_rfl) Try.func3
    (ChangeSpec.witness6 (enc := enc) (C := Try.checked) false ⟨#[], #[.slice none 0 0, .slice none 0 0, .slice none 0 0, .bool false], []⟩ 8 (by kernel_rfl) (by kernel_rfl) (by kernel_rfl) (by kernel_rfl)) ?_
  intro W base args ds gs before hval0 hW _ hw _
  have hval : ∀ (j : Nat) t v, Try.f3.params[j]? = some t → args[j]? = some v → Value.okWide Try.prog W .any base t v := hval0
  have hW' : DataW.Whole enc Try.prog Try.f3.params.toList [] false W args.toList ds gs before := hW
  obtain ⟨p, q, hA, hV, _, _, _⟩ := hW'
  obtain ⟨rfl, rfl⟩ := trodVars_none hV
  have hw2 : (DataW.weightsEach Try.prog Try.f3.params.toList ds).all (· ≤ reachBytes) = true := by
    have e : Try.f3.params.toList ++ Rows.simfsRenameSpec.plain.varTypes Try.prog = Try.f3.params.toList := by rfl
    have := hw
    rw [show (Try.checked.prog) = Try.prog from rfl, e, List.append_nil] at this
    exact this
  rw [Try.params3] at hA hval hw2
  obtain ⟨v0, v1, v2, v3, d0, d1, d2, d3, p0, p1, p2, p3, rfl, rfl, _, t0, t1, t2, t3⟩ := trodAll_four hA
  obtain ⟨a0, l0, c0, xs0, rfl, g0, z0⟩ := arg_bytes und22 und5 (by kernel_rfl) (by kernel_rfl) (hval 0 _ _ rfl rfl) t0 (sized_each hw2 (j := 0) rfl rfl)
  obtain ⟨a1, l1, c1, xs1, rfl, g1, z1⟩ := arg_bytes und22 und5 (by kernel_rfl) (by kernel_rfl) (hval 1 _ _ rfl rfl) t1 (sized_each hw2 (j := 1) rfl rfl)
  obtain ⟨a2, l2, c2, xs2, rfl, g2, z2, _⟩ := arg_ints und23 und3 (by kernel_rfl) (by kernel_rfl) (hval 2 _ _ rfl rfl) t2 (sized_each hw2 (j := 2) rfl rfl)
  obtain ⟨b3, rfl, rfl, rfl⟩ := open_bool und4 (hval 3 _ _ rfl rfl) t3
  have hr := reach_lt
  refine law_calls (SimfsRename_ok (C := C0) g0 g1 g2 (by have := g0.2.1; omega) (by have := g1.2.1; omega) (by omega) fun H' C' hev => ⟨rfl, C', hev⟩) rfl hW (by rw [Try.params3]; decide +kernel) rfl rfl rfl (by kernel_rfl) und4
end Go.Proofs.Ytpcaoildoepjiaa.rename
namespace Go.Proofs.Ytpcaoildoepjiaa
theorem simfsRename_holds : Rows.SimfsRenameSaid :=
  OpenClaim.holds_of_wide 3 Try.f3 rfl rfl rfl rfl rfl rfl rfl ⟨rfl, rfl, rfl, rfl, rfl⟩ rfl rfl rfl rfl rfl (by kernel_rfl) Try.func3 (by kernel_rfl)
    (of_decide_eq_true (by kernel_rfl)) (by unfold Func.isWrapper; first | (rw [if_pos (by decide +kernel)]; kernel_rfl) | (rw [if_neg (by decide +kernel)]; exact ⟨rfl, rfl⟩))
    (fun os started H enc _ => rename.lifted os started H enc)
#print axioms simfsRename_holds
end Go.Proofs.Ytpcaoildoepjiaa
