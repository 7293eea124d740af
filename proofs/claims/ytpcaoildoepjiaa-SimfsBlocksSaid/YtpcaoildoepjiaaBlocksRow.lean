/- Where a write over a file that is sure is torn, each block of 512 bytes is there as it was, or as it became: the law returns true for every input, without a condition, and leaves what came in as it was. -/
import Derived.Test.YtpcaoildoepjiaaFx4
set_option linter.unusedVariables false
set_option linter.unusedSimpArgs false
set_option linter.unusedSectionVars false

namespace Go.Proofs.Ytpcaoildoepjiaa.blocks
open Go Go.Proofs Go.Fx Go.Disk Go.ChangeShapes Go.WideShapes Go.ChangeAt Go.RowKit Go.Deep
set_option linter.unusedVariables false
set_option maxRecDepth 100000

theorem lifted (os : Os) (started : os.Started) (H : Type) (enc : TypeId × Value → H) :
    ReturnsInHanded {} Try.checked os 4 .any (Rows.simfsBlocksSpec.pre6 enc Try.prog Try.f4 Rows.simfsBlocksRow.domain false) (Rows.simfsBlocksSpec.post enc Try.prog Try.f4 false true false false) := by
  refine returnsInHanded_of_change_sized (C := Try.checked) ownTry started (by kernel_rfl) Try.func4
    (ChangeSpec.witness6 (enc := enc) (C := Try.checked) false ⟨#[], #[.int .u8 0, .int .u16 0, .slice none 0 0, .int .i64 0], []⟩ 8 (by kernel_rfl) (by kernel_rfl) (by kernel_rfl) (by kernel_rfl)) ?_
  intro W base args ds gs before hval0 hW _ hw _
  obtain ⟨args⟩ := args
  have hval : ∀ (j : Nat) t v, Try.f4.params[j]? = some t → (⟨args⟩ : Array Value)[j]? = some v → Value.okWide Try.prog W .any base t v := hval0
  have hW' : DataW.Whole enc Try.prog Try.f4.params.toList [] false W args ds gs before := hW
  obtain ⟨p, q, hA, hV, _, _, _⟩ := hW'
  obtain ⟨rfl, rfl⟩ := trodVars_none hV
  have hw2 : (DataW.weightsEach Try.prog Try.f4.params.toList ds).all (· ≤ reachBytes) = true := by
    have e : Try.f4.params.toList ++ Rows.simfsBlocksSpec.plain.varTypes Try.prog = Try.f4.params.toList := by rfl
    have := hw
    rw [show (Try.checked.prog) = Try.prog from rfl, e, List.append_nil] at this
    exact this
  rw [Try.params4] at hA hval hw2
  have hr := reach_lt
  obtain ⟨v0, vs0, d0, ds0, p0, q0, rfl, rfl, _, t0, r0⟩ := trodAll_cons hA
  obtain ⟨v1, vs1, d1, ds1, p1, q1, rfl, rfl, _, t1, r1⟩ := trodAll_cons r0
  obtain ⟨v2, vs2, d2, ds2, p2, q2, rfl, rfl, _, t2, r2⟩ := trodAll_cons r1
  obtain ⟨v3, vs3, d3, ds3, p3, q3, rfl, rfl, _, t3, r3⟩ := trodAll_cons r2
  obtain ⟨rfl, rfl, _⟩ := trodAll_nil r3
  obtain ⟨n0, rfl, rfl, rfl, w0⟩ := open_int und5 (hval 0 _ _ rfl rfl) t0
  have y0 : 0 ≤ n0 ∧ n0 ≤ 255 := by simpa [Lit.wf, IntKind.min, IntKind.max, IntKind.signed, IntKind.bits] using w0
  obtain ⟨x0, rfl⟩ := Int.eq_ofNat_of_zero_le y0.1
  obtain ⟨n1, rfl, rfl, rfl, w1⟩ := open_int und38 (hval 1 _ _ rfl rfl) t1
  have y1 : 0 ≤ n1 ∧ n1 ≤ 65535 := by simpa [Lit.wf, IntKind.min, IntKind.max, IntKind.signed, IntKind.bits] using w1
  obtain ⟨x1, rfl⟩ := Int.eq_ofNat_of_zero_le y1.1
  obtain ⟨a2, l2, c2, x2, rfl, g2, z2⟩ := arg_bytes und22 und5 (by kernel_rfl) (by kernel_rfl) (hval 2 _ _ rfl rfl) t2 (sized_each hw2 (j := 2) rfl rfl)
  obtain ⟨x3, rfl, rfl, rfl, w3⟩ := open_int und3 (hval 3 _ _ rfl rfl) t3
  have y3 : -9223372036854775808 ≤ x3 ∧ x3 ≤ 9223372036854775807 := by simpa [Lit.wf, IntKind.min, IntKind.max, IntKind.signed, IntKind.bits] using w3
  refine law_calls (SimfsBlocks_ok (C := C0) g2 (by have := g2.2.1; omega) (by omega) (by omega) fun H' C' hev => ⟨rfl, C', hev⟩) rfl hW (by rw [Try.params4]; decide +kernel) rfl rfl rfl (by kernel_rfl) und4
end Go.Proofs.Ytpcaoildoepjiaa.blocks
namespace Go.Proofs.Ytpcaoildoepjiaa
theorem simfsBlocks_holds : Rows.SimfsBlocksSaid :=
  OpenClaim.holds_of_wide 4 Try.f4 rfl rfl rfl rfl rfl rfl rfl ⟨rfl, rfl, rfl, rfl, rfl⟩ rfl rfl rfl rfl rfl (by kernel_rfl) Try.func4 (by kernel_rfl)
    (of_decide_eq_true (by kernel_rfl)) (by unfold Func.isWrapper; first | (rw [if_pos (by decide +kernel)]; kernel_rfl) | (rw [if_neg (by decide +kernel)]; exact ⟨rfl, rfl⟩))
    (fun os started H enc _ => blocks.lifted os started H enc)
#print axioms simfsBlocks_holds
end Go.Proofs.Ytpcaoildoepjiaa
