/- A proof layer over heaps, and contracts of the printed functions; no statement of the seat is proved here. -/
import Derived.Test.YtpcaoildoepjiaaFx3
import Derived.Test.YtpcaoildoepjiaaRows
import Derived.ProofKit
import Derived.ReadAgain
import Derived.SizedLaws
import Derived.Deep.Slices
import Derived.OpenShut
set_option linter.unusedVariables false
set_option linter.unusedSimpArgs false
set_option linter.unusedSectionVars false

namespace Go.Proofs
open Go Go.Fx Go.Disk
set_option linter.unusedVariables false
set_option maxRecDepth 20000

def dNamesOf (D : Disk) : List (List UInt8) := if D.dead then [] else dNames D.seen
theorem Names_ok {H : Heap} {C : Col} {k p : Nat} {D : Disk} {K : Value → Heap → Prop} (h : IsFS H C k p D) (hD : DiskOk D) (lab' : Lab)
    (hK : ∀ a c H' C', SlO H' C' lab' 9 1 a (dNamesOf D).length c ((dNamesOf D).map encStr) → Ev no H C H' C' → K (.slice a (dNamesOf D).length c) H') :
    Fn 28 [.pointer (some ⟨p, 0, none⟩)] H K := by
  obtain ⟨x, rfl, h⟩ := h
  refine F28_ok _ ?_
  unfold F28
  have hp := h.hp
  refine ready_ok hp rfl ?_
  show RtI .i64 (.int .i64 (if D.dead = true then 13 else 0)) _
  rw [fsX] at hp
  unfold dNamesOf at hK
  cases hd : D.dead with
  | true =>
    rw [if_pos hd] at hK
    simp only [cellH_mk, cellO_some, add_mk, size_upd, upd_upd, one_int, one_bool, one_string, one_pointer, one_slice, one_map, one_func, st1_some, stN_nil, stN_cons, StV_mk, StO_some, Ld_some, RtI_mk, RtB_mk, RtS_mk, RtP_mk, RtL_mk, RtM_mk, RtA_mk, RtT_mk, NilC_some, New_eq, At_eq, Ck_true, Rt0_mk, BrB_true, BrB_false, Nat.zero_add, List.length_cons, List.length_nil, List.getElem?_cons_zero, List.getElem?_cons_succ, List.set_cons_zero, List.set_cons_succ, List.getD_cons_zero, List.getD_cons_succ, Option.isNone_some, Option.isNone_none, Go.Disk.fsO, Go.Disk.fileO, Bool.false_eq_true, eq_self, Nat.reduceAdd, Nat.reduceSub, Nat.reduceMul, Nat.reduceLT, Nat.reduceLeDiff, Nat.reduceEqDiff, Int.reduceNeg, Int.reduceEq, Int.reduceNe, Int.reduceBEq, Int.reduceBNe, Int.reduceLT, Int.reduceLE, Int.reduceGT, Int.reduceAdd, reduceIte, Bool.not_true, Bool.not_false, decide_true, decide_false, ne_eq, not_false_eq_true, not_true_eq_false]
    exact hK none 0 H C (SlO.nil _ _ _ _ _) (Ev.refl _ _ _)
  | false =>
    rw [if_neg (by rw [hd]; simp)] at hK
    simp only [cellH_mk, cellO_some, add_mk, size_upd, upd_upd, one_int, one_bool, one_string, one_pointer, one_slice, one_map, one_func, st1_some, stN_nil, stN_cons, StV_mk, StO_some, Ld_some, RtI_mk, RtB_mk, RtS_mk, RtP_mk, RtL_mk, RtM_mk, RtA_mk, RtT_mk, NilC_some, New_eq, At_eq, Ck_true, Rt0_mk, BrB_true, BrB_false, Nat.zero_add, List.length_cons, List.length_nil, List.getElem?_cons_zero, List.getElem?_cons_succ, List.set_cons_zero, List.set_cons_succ, List.getD_cons_zero, List.getD_cons_succ, Option.isNone_some, Option.isNone_none, Go.Disk.fsO, Go.Disk.fileO, Bool.false_eq_true, eq_self, Nat.reduceAdd, Nat.reduceSub, Nat.reduceMul, Nat.reduceLT, Nat.reduceLeDiff, Nat.reduceEqDiff, Int.reduceNeg, Int.reduceEq, Int.reduceNe, Int.reduceBEq, Int.reduceBNe, Int.reduceLT, Int.reduceLE, Int.reduceGT, Int.reduceAdd, reduceIte, Bool.not_true, Bool.not_false, decide_true, decide_false, ne_eq, not_false_eq_true, not_true_eq_false, hp]
    have hl := hD.seen.2.1
    refine names_ok (lab' := lab') h.seen hD.seen.1 (by omega) fun a c H' C' h1 h2 => ?_
    simp only [cellH_mk, cellO_some, add_mk, size_upd, upd_upd, one_int, one_bool, one_string, one_pointer, one_slice, one_map, one_func, st1_some, stN_nil, stN_cons, StV_mk, StO_some, Ld_some, RtI_mk, RtB_mk, RtS_mk, RtP_mk, RtL_mk, RtM_mk, RtA_mk, RtT_mk, NilC_some, New_eq, At_eq, Ck_true, Rt0_mk, BrB_true, BrB_false, Nat.zero_add, List.length_cons, List.length_nil, List.getElem?_cons_zero, List.getElem?_cons_succ, List.set_cons_zero, List.set_cons_succ, List.getD_cons_zero, List.getD_cons_succ, Option.isNone_some, Option.isNone_none, Go.Disk.fsO, Go.Disk.fileO, Bool.false_eq_true, eq_self, Nat.reduceAdd, Nat.reduceSub, Nat.reduceMul, Nat.reduceLT, Nat.reduceLeDiff, Nat.reduceEqDiff, Int.reduceNeg, Int.reduceEq, Int.reduceNe, Int.reduceBEq, Int.reduceBNe, Int.reduceLT, Int.reduceLE, Int.reduceGT, Int.reduceAdd, reduceIte, Bool.not_true, Bool.not_false, decide_true, decide_false, ne_eq, not_false_eq_true, not_true_eq_false]
    have e : (dNames D.seen).length = D.seen.length := by simp [dNames]
    rw [e] at hK
    exact hK a c H' C' h1 h2

theorem Same_ok {H : Heap} {a b : Option Addr} {la ca lb cb : Nat} {xs ys : List UInt8} {K : Value → Heap → Prop} (ha : SlR H 1 a la ca (byts xs)) (hb : SlR H 1 b lb cb (byts ys)) (hl : la < 2 ^ 62)
    (hK : K (.bool (decide (xs = ys))) H) : Fn 22 [.slice a la ca, .slice b lb cb] H K := by
  refine F22_ok _ _ _ _ _ _ ?_
  unfold F22
  have hla : la = xs.length := by have := ha.1; rw [byts_len] at this; omega
  have hlb : lb = ys.length := by have := hb.1; rw [byts_len] at this; omega
  refine BrB_i (fun h => ?_) (fun h => ?_)
  · have : xs ≠ ys := by
      intro e
      rw [hla, hlb, e] at h
      simp at h
    rw [decide_eq_false this] at hK
    exact hK
  have hll : xs.length = ys.length := by
    have h2 : ((la : Int) == (lb : Int)) = true := by simpa [bne] using h
    have := eq_of_beq h2
    omega
  refine ⟨fun i H' => H' = H ∧ ∃ m : Nat, i = (m : Int) ∧ m ≤ la ∧ ∀ j, j < m → xs[j]? = ys[j]?, fun i _ => la - i.toNat, ⟨rfl, 0, rfl, by omega, fun j hj => absurd hj (by omega)⟩, ?_⟩
  rintro fr i H' ⟨hH, m, rfl, hm, hall⟩
  subst hH
  simp only [cellH_mk, cellO_some, add_mk, size_upd, upd_upd, one_int, one_bool, one_string, one_pointer, one_slice, one_map, one_func, st1_some, stN_nil, stN_cons, StV_mk, StO_some, Ld_some, RtI_mk, RtB_mk, RtS_mk, RtP_mk, RtL_mk, RtM_mk, RtA_mk, RtT_mk, NilC_some, New_eq, At_eq, Ck_true, Rt0_mk, BrB_true, BrB_false, Nat.zero_add, List.length_cons, List.length_nil, List.getElem?_cons_zero, List.getElem?_cons_succ, List.set_cons_zero, List.set_cons_succ, List.getD_cons_zero, List.getD_cons_succ, Option.isNone_some, Option.isNone_none, Go.Disk.fsO, Go.Disk.fileO, Bool.false_eq_true, eq_self, Nat.reduceAdd, Nat.reduceSub, Nat.reduceMul, Nat.reduceLT, Nat.reduceLeDiff, Nat.reduceEqDiff, Int.reduceNeg, Int.reduceEq, Int.reduceNe, Int.reduceBEq, Int.reduceBNe, Int.reduceLT, Int.reduceLE, Int.reduceGT, Int.reduceAdd, reduceIte, Bool.not_true, Bool.not_false, decide_true, decide_false, ne_eq, not_false_eq_true, not_true_eq_false]
  refine BrB_i (fun h => ?_) (fun h => ?_)
  · have h := of_decide_eq_true h
    have hx : xs[m]? = some (xs[m]'(by omega)) := List.getElem?_eq_getElem _
    have hy : ys[m]? = some (ys[m]'(by omega)) := List.getElem?_eq_getElem _
    generalize xs[m]'(by omega) = x at hx
    generalize ys[m]'(by omega) = y at hy
    refine ha.cell (by omega) (v := .int .u8 x.toNat) (by unfold byts; rw [List.getElem?_map, hx]; rfl) fun e he => ?_
    simp only [cellH_mk, cellO_some, add_mk, size_upd, upd_upd, one_int, one_bool, one_string, one_pointer, one_slice, one_map, one_func, st1_some, stN_nil, stN_cons, StV_mk, StO_some, Ld_some, RtI_mk, RtB_mk, RtS_mk, RtP_mk, RtL_mk, RtM_mk, RtA_mk, RtT_mk, NilC_some, New_eq, At_eq, Ck_true, Rt0_mk, BrB_true, BrB_false, Nat.zero_add, List.length_cons, List.length_nil, List.getElem?_cons_zero, List.getElem?_cons_succ, List.set_cons_zero, List.set_cons_succ, List.getD_cons_zero, List.getD_cons_succ, Option.isNone_some, Option.isNone_none, Go.Disk.fsO, Go.Disk.fileO, Bool.false_eq_true, eq_self, Nat.reduceAdd, Nat.reduceSub, Nat.reduceMul, Nat.reduceLT, Nat.reduceLeDiff, Nat.reduceEqDiff, Int.reduceNeg, Int.reduceEq, Int.reduceNe, Int.reduceBEq, Int.reduceBNe, Int.reduceLT, Int.reduceLE, Int.reduceGT, Int.reduceAdd, reduceIte, Bool.not_true, Bool.not_false, decide_true, decide_false, ne_eq, not_false_eq_true, not_true_eq_false, he]
    refine hb.cell (by omega) (v := .int .u8 y.toNat) (by unfold byts; rw [List.getElem?_map, hy]; rfl) fun e2 he2 => ?_
    simp only [cellH_mk, cellO_some, add_mk, size_upd, upd_upd, one_int, one_bool, one_string, one_pointer, one_slice, one_map, one_func, st1_some, stN_nil, stN_cons, StV_mk, StO_some, Ld_some, RtI_mk, RtB_mk, RtS_mk, RtP_mk, RtL_mk, RtM_mk, RtA_mk, RtT_mk, NilC_some, New_eq, At_eq, Ck_true, Rt0_mk, BrB_true, BrB_false, Nat.zero_add, List.length_cons, List.length_nil, List.getElem?_cons_zero, List.getElem?_cons_succ, List.set_cons_zero, List.set_cons_succ, List.getD_cons_zero, List.getD_cons_succ, Option.isNone_some, Option.isNone_none, Go.Disk.fsO, Go.Disk.fileO, Bool.false_eq_true, eq_self, Nat.reduceAdd, Nat.reduceSub, Nat.reduceMul, Nat.reduceLT, Nat.reduceLeDiff, Nat.reduceEqDiff, Int.reduceNeg, Int.reduceEq, Int.reduceNe, Int.reduceBEq, Int.reduceBNe, Int.reduceLT, Int.reduceLE, Int.reduceGT, Int.reduceAdd, reduceIte, Bool.not_true, Bool.not_false, decide_true, decide_false, ne_eq, not_false_eq_true, not_true_eq_false, he2]
    refine BrB_i (fun h3 => ?_) (fun h3 => ?_)
    · have : xs ≠ ys := by
        intro e
        rw [e, hy] at hx
        cases hx
        simp at h3
      rw [decide_eq_false this] at hK
      exact hK
    · have h4 : ((x.toNat : Int) == (y.toNat : Int)) = true := by simpa [bne] using h3
      have h5 : x = y := by
        have := eq_of_beq h4
        exact UInt8.toNat_inj.1 (by omega)
      rw [w64 (by omega) (by omega)]
      refine ⟨⟨rfl, m + 1, by omega, by omega, fun j hj => ?_⟩, ?_⟩
      · by_cases e : j = m
        · subst e; rw [hx, hy, h5]
        · exact hall j (by omega)
      · show la - ((m : Int) + 1).toNat < la - ((m : Nat) : Int).toNat
        omega
  · have h := of_decide_eq_false h
    have : xs = ys := by
      refine List.ext_getElem? fun j => ?_
      by_cases hj : j < m
      · exact hall j hj
      · rw [List.getElem?_eq_none (by omega), List.getElem?_eq_none (by omega)]
    rw [decide_eq_true this] at hK
    exact hK
end Go.Proofs

namespace Go.Disk
open Go Go.Fx
set_option linter.unusedVariables false
def ints (zs : List Int) : List Value := zs.map fun z => .int .i64 z
def tk (cuts : List Int) (many : Nat) : Nat × List Int := match cuts with
  | [] => (0, [])
  | c :: cs => ((c % 2 ^ 64 % (many : Int)).toNat, cs)
def CutsAt (H : Heap) (C : Col) (lab : Lab) (nb : Nat) (zs : List Int) : Prop := C nb = lab ∧ ∃ a l c, H[nb]? = some (.cells ⟨[.slice a l c]⟩ 23 (0, 0)) ∧ SlI H C 1 a l c (ints zs) ∧ c < 2 ^ 63
theorem CutsAt.ev {S : Lab → Prop} {H H' : Heap} {C C' : Col} {lab : Lab} {nb : Nat} {zs : List Int} (h : CutsAt H C lab nb zs) (he : Ev S H C H' C') (h0 : ∀ x, x.1 = 0 → ¬ S x) (hl : ¬ S lab) : CutsAt H' C' lab nb zs := by
  obtain ⟨a, sa, sl, sc, b, c, d⟩ := h
  exact ⟨(he.colOf b).trans a, sa, sl, sc, he.get b (by rw [a]; exact hl), c.ev he h0, d⟩
end Go.Disk
namespace Go.Proofs
open Go Go.Fx Go.Disk
set_option linter.unusedVariables false
set_option maxRecDepth 20000

theorem take_ok {H : Heap} {C : Col} {lab : Lab} {nb many : Nat} {zs : List Int} {K : Value → Heap → Prop} (h : CutsAt H C lab nb zs) (hlab : lab.1 ≠ 0) (hm : 0 < many) (hm2 : many < 2 ^ 62)
    (hK : ∀ H', CutsAt H' C lab nb (tk zs many).2 → Ev (at1 lab) H C H' C → K (.int .i64 ((tk zs many).1 : Int)) H') :
    Fn 53 [.int .i64 (many : Int), .pointer (some ⟨nb, 0, none⟩)] H K := by
  refine F53_ok _ _ ?_
  unfold F53
  obtain ⟨hc, a, l, c, hb, hs, hcl⟩ := h
  have hll : l = zs.length := by have := hs.1; simp [ints] at this; omega
  have hl := lt_of_get hb
  simp only [cellH_mk, cellO_some, add_mk, size_upd, upd_upd, one_int, one_bool, one_string, one_pointer, one_slice, one_map, one_func, st1_some, stN_nil, stN_cons, StV_mk, StO_some, Ld_some, RtI_mk, RtB_mk, RtS_mk, RtP_mk, RtL_mk, RtM_mk, RtA_mk, RtT_mk, NilC_some, New_eq, At_eq, Ck_true, Rt0_mk, BrB_true, BrB_false, Nat.zero_add, List.length_cons, List.length_nil, List.getElem?_cons_zero, List.getElem?_cons_succ, List.set_cons_zero, List.set_cons_succ, List.getD_cons_zero, List.getD_cons_succ, Option.isNone_some, Option.isNone_none, Go.Disk.fsO, Go.Disk.fileO, Bool.false_eq_true, eq_self, Nat.reduceAdd, Nat.reduceSub, Nat.reduceMul, Nat.reduceLT, Nat.reduceLeDiff, Nat.reduceEqDiff, Int.reduceNeg, Int.reduceEq, Int.reduceNe, Int.reduceBEq, Int.reduceBNe, Int.reduceLT, Int.reduceLE, Int.reduceGT, Int.reduceAdd, reduceIte, Bool.not_true, Bool.not_false, decide_true, decide_false, ne_eq, not_false_eq_true, not_true_eq_false, hb]
  cases zs with
  | nil =>
    have : l = 0 := hll
    subst this
    refine BrB_i (fun _ => ?_) (fun h => (nomatch h))
    exact hK H ⟨hc, a, 0, c, hb, hs, hcl⟩ (Ev.refl _ _ _)
  | cons z zs =>
    have hl0 : l = zs.length + 1 := by simpa using hll
    have hlc := hs.2.1
    refine BrB_i (fun h => by have := eq_of_beq h; omega) (fun _ => ?_)
    simp only [cellH_mk, cellO_some, add_mk, size_upd, upd_upd, one_int, one_bool, one_string, one_pointer, one_slice, one_map, one_func, st1_some, stN_nil, stN_cons, StV_mk, StO_some, Ld_some, RtI_mk, RtB_mk, RtS_mk, RtP_mk, RtL_mk, RtM_mk, RtA_mk, RtT_mk, NilC_some, New_eq, At_eq, Ck_true, Rt0_mk, BrB_true, BrB_false, Nat.zero_add, List.length_cons, List.length_nil, List.getElem?_cons_zero, List.getElem?_cons_succ, List.set_cons_zero, List.set_cons_succ, List.getD_cons_zero, List.getD_cons_succ, Option.isNone_some, Option.isNone_none, Go.Disk.fsO, Go.Disk.fileO, Bool.false_eq_true, eq_self, Nat.reduceAdd, Nat.reduceSub, Nat.reduceMul, Nat.reduceLT, Nat.reduceLeDiff, Nat.reduceEqDiff, Int.reduceNeg, Int.reduceEq, Int.reduceNe, Int.reduceBEq, Int.reduceBNe, Int.reduceLT, Int.reduceLE, Int.reduceGT, Int.reduceAdd, reduceIte, Bool.not_true, Bool.not_false, decide_true, decide_false, ne_eq, not_false_eq_true, not_true_eq_false, hb]
    refine hs.r.cell (i := 0) (by omega) (v := .int .i64 z) rfl fun e he => ?_
    simp only [cellH_mk, cellO_some, add_mk, size_upd, upd_upd, one_int, one_bool, one_string, one_pointer, one_slice, one_map, one_func, st1_some, stN_nil, stN_cons, StV_mk, StO_some, Ld_some, RtI_mk, RtB_mk, RtS_mk, RtP_mk, RtL_mk, RtM_mk, RtA_mk, RtT_mk, NilC_some, New_eq, At_eq, Ck_true, Rt0_mk, BrB_true, BrB_false, Nat.zero_add, List.length_cons, List.length_nil, List.getElem?_cons_zero, List.getElem?_cons_succ, List.set_cons_zero, List.set_cons_succ, List.getD_cons_zero, List.getD_cons_succ, Option.isNone_some, Option.isNone_none, Go.Disk.fsO, Go.Disk.fileO, Bool.false_eq_true, eq_self, Nat.reduceAdd, Nat.reduceSub, Nat.reduceMul, Nat.reduceLT, Nat.reduceLeDiff, Nat.reduceEqDiff, Int.reduceNeg, Int.reduceEq, Int.reduceNe, Int.reduceBEq, Int.reduceBNe, Int.reduceLT, Int.reduceLE, Int.reduceGT, Int.reduceAdd, reduceIte, Bool.not_true, Bool.not_false, decide_true, decide_false, ne_eq, not_false_eq_true, not_true_eq_false, he, hb]
    refine Ck_i ⟨by first | trivial | omega, by omega, by omega, by omega⟩ ?_
    simp only [cellH_mk, cellO_some, add_mk, size_upd, upd_upd, one_int, one_bool, one_string, one_pointer, one_slice, one_map, one_func, st1_some, stN_nil, stN_cons, StV_mk, StO_some, Ld_some, RtI_mk, RtB_mk, RtS_mk, RtP_mk, RtL_mk, RtM_mk, RtA_mk, RtT_mk, NilC_some, New_eq, At_eq, Ck_true, Rt0_mk, BrB_true, BrB_false, Nat.zero_add, List.length_cons, List.length_nil, List.getElem?_cons_zero, List.getElem?_cons_succ, List.set_cons_zero, List.set_cons_succ, List.getD_cons_zero, List.getD_cons_succ, Option.isNone_some, Option.isNone_none, Go.Disk.fsO, Go.Disk.fileO, Bool.false_eq_true, eq_self, Nat.reduceAdd, Nat.reduceSub, Nat.reduceMul, Nat.reduceLT, Nat.reduceLeDiff, Nat.reduceEqDiff, Int.reduceNeg, Int.reduceEq, Int.reduceNe, Int.reduceBEq, Int.reduceBNe, Int.reduceLT, Int.reduceLE, Int.reduceGT, Int.reduceAdd, reduceIte, Bool.not_true, Bool.not_false, decide_true, decide_false, ne_eq, not_false_eq_true, not_true_eq_false, hb]
    have e1 : IntKind.wrap .u64 (many : Int) = (many : Int) := by rw [wu64]; omega
    have e2 : IntKind.wrap .u64 z = z % 2 ^ 64 := wu64 z
    have e3 : Int.tmod (z % 2 ^ 64) (many : Int) = z % 2 ^ 64 % (many : Int) := Int.tmod_eq_emod_of_nonneg (by omega)
    have e4 : 0 ≤ z % 2 ^ 64 % (many : Int) ∧ z % 2 ^ 64 % (many : Int) < many := ⟨Int.emod_nonneg _ (by omega), Int.emod_lt_of_pos _ (by omega)⟩
    rw [e1, e2, e3, w64 (by omega) (by omega)]
    refine Ck_i (by omega) ?_
    have hsub := SlI.sub hs (lo := 1) (hi := l) (mx := c) (by omega) (Nat.le_refl _) (by omega)
    have e5 : List.take ((l - 1) * 1) (List.drop (1 * 1) (ints (z :: zs))) = ints zs := by
      rw [Nat.mul_one, Nat.mul_one]
      show List.take (l - 1) (ints zs) = ints zs
      rw [List.take_of_length_le]
      simp [ints]; omega
    rw [e5] at hsub
    have hev : Ev (at1 lab) H C (upd H nb (.cells ⟨[.slice (slA a 1 ((c : Nat) : Int) 1) (slN 1 ((l : Nat) : Int)) (slN 1 ((c : Nat) : Int))]⟩ 23 (0, 0))) C := ev_upd hc _
    have := hK _ ⟨hc, _, _, _, get_upd_of hb, ?_, ?_⟩ hev
    · have e6 : (((tk (z :: zs) many).1 : Nat) : Int) = z % 2 ^ 64 % (many : Int) := by
        show (((z % 2 ^ 64 % (many : Int)).toNat : Nat) : Int) = _
        omega
      rw [e6] at this
      exact this
    · have h1 := hsub.ev hev (fun x hx e => by unfold at1 at e; rw [e] at hx; exact hlab hx)
      rw [show slN 1 ((l : Nat) : Int) = l - 1 from slN_eq 1 l, show slN 1 ((c : Nat) : Int) = c - 1 from slN_eq 1 c]
      exact h1
    · rw [show slN 1 ((c : Nat) : Int) = c - 1 from slN_eq 1 c]
      omega
end Go.Proofs

namespace Go.Disk
open Go Go.Fx
set_option linter.unusedVariables false
def tornEnd (off t len : Nat) : Nat := if off + t < len then off + t - (off + t) % 512 else off + t
/-- What a failure leaves of a file, and the numbers that are left. -/
def remOf (f : FileA) (cuts : List Int) : List UInt8 × List Int :=
  let k := (tk cuts (f.row.length + 1)).1
  let r := (tk cuts (f.row.length + 1)).2
  let b := (f.row.take k).foldl (fun b c => c.app b) f.sure
  match f.row[k]? with
  | none => (b, r)
  | some c =>
    if c.cut then (b, r)
    else
      let t := (tk r (c.b.length + 1)).1
      let e := tornEnd c.off t b.length
      (if c.off < e then Chg.app ⟨false, c.off, c.b.take (e - c.off)⟩ b else b, (tk r (c.b.length + 1)).2)
theorem tk_le {cuts : List Int} {many : Nat} (h : 0 < many) : (tk cuts many).1 < many := by
  unfold tk
  split
  · exact h
  · have := Int.emod_lt_of_pos (‹Int› % 2 ^ 64) (show (0 : Int) < many by omega)
    have := Int.emod_nonneg (‹Int› % 2 ^ 64) (show (many : Int) ≠ 0 by omega)
    omega
theorem ChgsAt.get {H : Heap} {C : Col} : ∀ {cs : List Chg} {vs : List Value} {i : Nat} {c : Chg}, ChgsAt H C cs vs → cs[i]? = some c → ∃ s : SlV, (vs.drop (i * 3)).take 3 = chgCells c s ∧ ByI H C s c.b
  | [], vs, i, c, h, hi => by simp at hi
  | d :: cs, vs, 0, c, ⟨s, r, h1, h2, h3⟩, hi => by
    simp only [List.getElem?_cons_zero, Option.some.injEq] at hi
    subst hi
    exact ⟨s, by rw [h1]; rfl, h2⟩
  | d :: cs, vs, i + 1, c, ⟨s, r, h1, h2, h3⟩, hi => by
    obtain ⟨t, g1, g2⟩ := h3.get (i := i) (by simpa using hi)
    refine ⟨t, ?_, g2⟩
    rw [← g1, h1, Nat.add_mul, Nat.one_mul]
    rfl
theorem FPath.at : ∀ {cs : List Chg} {xs ys : List UInt8} (k : Nat), FPath xs cs ys → FPath xs (cs.take k) ((cs.take k).foldl (fun b c => c.app b) xs)
  | [], xs, ys, k, h => by simp only [List.take_nil, List.foldl_nil]; exact ⟨rfl, h.2⟩
  | c :: cs, xs, ys, 0, h => ⟨rfl, h.1⟩
  | c :: cs, xs, ys, k + 1, h => ⟨h.1, h.2.1, FPath.at k h.2.2⟩
theorem FPath.next {c : Chg} : ∀ {cs : List Chg} {xs ys : List UInt8} {k : Nat}, FPath xs cs ys → cs[k]? = some c → ChOk c ((cs.take k).foldl (fun b c => c.app b) xs)
  | [], xs, ys, k, h, hk => by simp at hk
  | d :: cs, xs, ys, 0, h, hk => by
    simp only [List.getElem?_cons_zero, Option.some.injEq] at hk
    subst hk
    exact h.2.1
  | d :: cs, xs, ys, k + 1, h, hk => FPath.next (k := k) h.2.2 (by simpa using hk)
end Go.Disk

namespace Go.Proofs
open Go Go.Fx Go.Disk
set_option linter.unusedVariables false
set_option maxRecDepth 20000

def takeV (nb : Nat) : Value := .func (.func 53) ⟨[]⟩ ⟨[.pointer (some ⟨nb, 0, none⟩)]⟩
theorem callTake {H : Heap} {C : Col} {lab : Lab} {nb many : Nat} {zs : List Int} {K : Value → Heap → Prop} (h : CutsAt H C lab nb zs) (hlab : lab.1 ≠ 0) (hm : 0 < many) (hm2 : many < 2 ^ 62)
    (hK : ∀ H', CutsAt H' C lab nb (tk zs many).2 → Ev (at1 lab) H C H' C → K (.int .i64 ((tk zs many).1 : Int)) H') : CallK Try.prog (takeV nb) ⟨[.int .i64 (many : Int)]⟩ H K := by
  refine ⟨_, _, _, rfl, ?_⟩
  have e : (⟨[]⟩ ++ ⟨[.int .i64 (many : Int)]⟩ ++ ⟨[.pointer (some ⟨nb, 0, none⟩)]⟩ : Array Value) = ⟨[.int .i64 (many : Int), .pointer (some ⟨nb, 0, none⟩)]⟩ := by
    apply Array.ext'; simp
  rw [e]
  exact take_ok h hlab hm hm2 hK

theorem left_ok {H : Heap} {C : Col} {k i fb nb : Nat} {f : FileA} {lab : Lab} {zs : List Int} {K : Value → Heap → Prop} (h : FileAt H C k i fb f) (hz : CutsAt H C lab nb zs) (hlab : lab.1 ≠ 0) (hlk : lab.1 ≠ k) (hp : FPath f.sure f.row f.now) (hrow : f.row.length < 2 ^ 60)
    (hK : ∀ (s' : SlV) H' C', ByI H' C' s' (remOf f zs).1 → CutsAt H' C' lab nb (remOf f zs).2 → Ev (at1 lab) H C H' C' → K (.slice s'.1 s'.2.1 s'.2.2) H') :
    Fn 56 [.pointer (some ⟨fb, 0, none⟩), takeV nb] H K := by
  refine F56_ok _ _ ?_
  unfold F56
  have h0 : ∀ x : Lab, x.1 = 0 → ¬ at1 lab x := fun x hx e => by unfold at1 at e; rw [e] at hx; exact hlab hx
  have hkk : ∀ j, ¬ at1 lab (k, j) := fun j e => by unfold at1 at e; rw [← e] at hlk; exact hlk rfl
  obtain ⟨qc, s, nw, r, cells, hf, hs, hnw, hrw, hch, hrl⟩ := id h
  have w1 : IntKind.wrap .i64 (((r.2.1 : Nat) : Int) + 1) = ((f.row.length + 1 : Nat) : Int) := by rw [hrl, w64 (by omega) (by omega)]; omega
  simp only [cellH_mk, cellO_some, add_mk, size_upd, upd_upd, one_int, one_bool, one_string, one_pointer, one_slice, one_map, one_func, st1_some, stN_nil, stN_cons, StV_mk, StO_some, Ld_some, RtI_mk, RtB_mk, RtS_mk, RtP_mk, RtL_mk, RtM_mk, RtA_mk, RtT_mk, NilC_some, New_eq, At_eq, Ck_true, Rt0_mk, BrB_true, BrB_false, Nat.zero_add, List.length_cons, List.length_nil, List.getElem?_cons_zero, List.getElem?_cons_succ, List.set_cons_zero, List.set_cons_succ, List.getD_cons_zero, List.getD_cons_succ, Option.isNone_some, Option.isNone_none, Go.Disk.fsO, Go.Disk.fileO, Bool.false_eq_true, eq_self, Nat.reduceAdd, Nat.reduceSub, Nat.reduceMul, Nat.reduceLT, Nat.reduceLeDiff, Nat.reduceEqDiff, Int.reduceNeg, Int.reduceEq, Int.reduceNe, Int.reduceBEq, Int.reduceBNe, Int.reduceLT, Int.reduceLE, Int.reduceGT, Int.reduceAdd, reduceIte, Bool.not_true, Bool.not_false, decide_true, decide_false, ne_eq, not_false_eq_true, not_true_eq_false, hf]
  rw [w1]
  have htk := tk_le (cuts := zs) (many := f.row.length + 1) (by omega)
  generalize hL : remOf f zs = L at *
  unfold remOf at hL
  refine callTake hz hlab (by omega) (by omega) fun H1 hz1 hev1 => ?_
  generalize hkk1 : (tk zs (f.row.length + 1)).1 = kk at *
  generalize hr1 : (tk zs (f.row.length + 1)).2 = r1 at *
  have hf1 := hev1.get hf (by rw [qc]; exact hkk _)
  simp only [cellH_mk, cellO_some, add_mk, size_upd, upd_upd, one_int, one_bool, one_string, one_pointer, one_slice, one_map, one_func, st1_some, stN_nil, stN_cons, StV_mk, StO_some, Ld_some, RtI_mk, RtB_mk, RtS_mk, RtP_mk, RtL_mk, RtM_mk, RtA_mk, RtT_mk, NilC_some, New_eq, At_eq, Ck_true, Rt0_mk, BrB_true, BrB_false, Nat.zero_add, List.length_cons, List.length_nil, List.getElem?_cons_zero, List.getElem?_cons_succ, List.set_cons_zero, List.set_cons_succ, List.getD_cons_zero, List.getD_cons_succ, Option.isNone_some, Option.isNone_none, Go.Disk.fsO, Go.Disk.fileO, Bool.false_eq_true, eq_self, Nat.reduceAdd, Nat.reduceSub, Nat.reduceMul, Nat.reduceLT, Nat.reduceLeDiff, Nat.reduceEqDiff, Int.reduceNeg, Int.reduceEq, Int.reduceNe, Int.reduceBEq, Int.reduceBNe, Int.reduceLT, Int.reduceLE, Int.reduceGT, Int.reduceAdd, reduceIte, Bool.not_true, Bool.not_false, decide_true, decide_false, ne_eq, not_false_eq_true, not_true_eq_false, hf1]
  have hs1 := hs.ev hev1 h0
  have hsl := hs1.len
  have hsure := hp.len0
  have hrc := hrw.2.1
  refine app_copyK (C := C) (lab := (0, 0)) und22 und22 (.inl ⟨_, rfl⟩) tyf5 (by rfl) hs1.src (by rw [byts_len, hsl]; omega) byts_one (by omega) (by omega) fun a2 c2 H2 C2 ho2 hev2 => ?_
  have hf2 := hev2.get hf1 fun h => h
  have hF2 := (h.ev hev1 h0 (hkk _) (hkk _)).ev hev2 (fun _ _ h => h) (fun h => h) fun h => h
  have hz2 := hz1.ev hev2 (fun _ _ h => h) fun h => h
  have hev12 : Ev (at1 lab) H C H2 C2 := hev1.trans (hev2.mono fun _ h => h.elim)
  simp only [cellH_mk, cellO_some, add_mk, size_upd, upd_upd, one_int, one_bool, one_string, one_pointer, one_slice, one_map, one_func, st1_some, stN_nil, stN_cons, StV_mk, StO_some, Ld_some, RtI_mk, RtB_mk, RtS_mk, RtP_mk, RtL_mk, RtM_mk, RtA_mk, RtT_mk, NilC_some, New_eq, At_eq, Ck_true, Rt0_mk, BrB_true, BrB_false, Nat.zero_add, List.length_cons, List.length_nil, List.getElem?_cons_zero, List.getElem?_cons_succ, List.set_cons_zero, List.set_cons_succ, List.getD_cons_zero, List.getD_cons_succ, Option.isNone_some, Option.isNone_none, Go.Disk.fsO, Go.Disk.fileO, Bool.false_eq_true, eq_self, Nat.reduceAdd, Nat.reduceSub, Nat.reduceMul, Nat.reduceLT, Nat.reduceLeDiff, Nat.reduceEqDiff, Int.reduceNeg, Int.reduceEq, Int.reduceNe, Int.reduceBEq, Int.reduceBNe, Int.reduceLT, Int.reduceLE, Int.reduceGT, Int.reduceAdd, reduceIte, Bool.not_true, Bool.not_false, decide_true, decide_false, ne_eq, not_false_eq_true, not_true_eq_false, hf2]
  refine Ck_i ⟨by first | trivial | omega, by omega, by omega, by omega⟩ ?_
  refine ⟨fun a l c i H' => ∃ C', ∃ m : Nat, i = (m : Int) ∧ m ≤ kk ∧ ByI H' C' (a, l, c) ((f.row.take m).foldl (fun b c => c.app b) f.sure) ∧ Ev no H2 C2 H' C', fun _ _ _ i _ => kk - i.toNat, ⟨C2, 0, rfl, by omega, ho2.imm rfl, Ev.refl _ _ _⟩, ?_⟩
  rintro fr a l c i' H3 ⟨C3, m, rfl, hm, hb3, hev3⟩
  have hF3 := hF2.ev hev3 (fun _ _ h => h) (fun h => h) fun h => h
  have hz3 := hz2.ev hev3 (fun _ _ h => h) fun h => h
  have hf3 := hev3.get hf2 fun h => h
  obtain ⟨qc3, s3, nw3, r3, cells3, hf3', hs3, hnw3, hrw3, hch3, hrl3⟩ := id hF3
  have he : r3 = r := by
    rw [hf3] at hf3'
    simp only [fileO, Option.some.injEq, Obj.cells.injEq, Array.mk.injEq, List.cons.injEq, Value.slice.injEq, and_true] at hf3'
    obtain ⟨_, _, e1, e2, e3⟩ := hf3'
    exact Prod.ext e1.symm (Prod.ext e2.symm e3.symm)
  subst he
  simp only [cellH_mk, cellO_some, add_mk, size_upd, upd_upd, one_int, one_bool, one_string, one_pointer, one_slice, one_map, one_func, st1_some, stN_nil, stN_cons, StV_mk, StO_some, Ld_some, RtI_mk, RtB_mk, RtS_mk, RtP_mk, RtL_mk, RtM_mk, RtA_mk, RtT_mk, NilC_some, New_eq, At_eq, Ck_true, Rt0_mk, BrB_true, BrB_false, Nat.zero_add, List.length_cons, List.length_nil, List.getElem?_cons_zero, List.getElem?_cons_succ, List.set_cons_zero, List.set_cons_succ, List.getD_cons_zero, List.getD_cons_succ, Option.isNone_some, Option.isNone_none, Go.Disk.fsO, Go.Disk.fileO, Bool.false_eq_true, eq_self, Nat.reduceAdd, Nat.reduceSub, Nat.reduceMul, Nat.reduceLT, Nat.reduceLeDiff, Nat.reduceEqDiff, Int.reduceNeg, Int.reduceEq, Int.reduceNe, Int.reduceBEq, Int.reduceBNe, Int.reduceLT, Int.reduceLE, Int.reduceGT, Int.reduceAdd, reduceIte, Bool.not_true, Bool.not_false, decide_true, decide_false, ne_eq, not_false_eq_true, not_true_eq_false]
  rw [show slN 0 (kk : Int) = kk - 0 from slN_eq 0 kk]
  have hrow := hrw3.r
  refine BrB_i (fun hlt => ?_) (fun hlt => ?_)
  · have hlt := of_decide_eq_true hlt
    have hmk : m < kk := by omega
    have hcm : f.row[m]? = some (f.row[m]'(by omega)) := List.getElem?_eq_getElem _
    generalize f.row[m]'(by omega) = cg at hcm
    obtain ⟨sg, g1, g2⟩ := hch3.get hcm
    have hsub := hrow.sub (lo := 0) (hi := kk) (mx := r3.2.2) (by omega) (by omega) (by omega)
    refine hsub.row (i := m) (by omega) fun e he _ => ?_
    have e1 : List.take 3 (List.drop (m * 3) (List.take ((kk - 0) * 3) (List.drop (0 * 3) cells3))) = chgCells cg sg := by
      rw [← g1, Nat.zero_mul, List.drop_zero, List.drop_take, List.take_take, Nat.min_eq_left (by omega)]
    rw [e1] at he
    unfold chgCells at he
    simp only [cellH_mk, cellO_some, add_mk, size_upd, upd_upd, one_int, one_bool, one_string, one_pointer, one_slice, one_map, one_func, st1_some, stN_nil, stN_cons, StV_mk, StO_some, Ld_some, RtI_mk, RtB_mk, RtS_mk, RtP_mk, RtL_mk, RtM_mk, RtA_mk, RtT_mk, NilC_some, New_eq, At_eq, Ck_true, Rt0_mk, BrB_true, BrB_false, Nat.zero_add, List.length_cons, List.length_nil, List.getElem?_cons_zero, List.getElem?_cons_succ, List.set_cons_zero, List.set_cons_succ, List.getD_cons_zero, List.getD_cons_succ, Option.isNone_some, Option.isNone_none, Go.Disk.fsO, Go.Disk.fileO, Bool.false_eq_true, eq_self, Nat.reduceAdd, Nat.reduceSub, Nat.reduceMul, Nat.reduceLT, Nat.reduceLeDiff, Nat.reduceEqDiff, Int.reduceNeg, Int.reduceEq, Int.reduceNe, Int.reduceBEq, Int.reduceBNe, Int.reduceLT, Int.reduceLE, Int.reduceGT, Int.reduceAdd, reduceIte, Bool.not_true, Bool.not_false, decide_true, decide_false, ne_eq, not_false_eq_true, not_true_eq_false, he, NewN_eq, get_push_self, upd_push_self]
    rw [upd_push_self]
    rw [rowV_mk _ _ 0 3 (get_push_self _ _) (by simp)]
    simp only [List.drop_zero, List.take_succ_cons, List.take_zero]
    simp only [cellH_mk, cellO_some, add_mk, size_upd, upd_upd, one_int, one_bool, one_string, one_pointer, one_slice, one_map, one_func, st1_some, stN_nil, stN_cons, StV_mk, StO_some, Ld_some, RtI_mk, RtB_mk, RtS_mk, RtP_mk, RtL_mk, RtM_mk, RtA_mk, RtT_mk, NilC_some, New_eq, At_eq, Ck_true, Rt0_mk, BrB_true, BrB_false, Nat.zero_add, List.length_cons, List.length_nil, List.getElem?_cons_zero, List.getElem?_cons_succ, List.set_cons_zero, List.set_cons_succ, List.getD_cons_zero, List.getD_cons_succ, Option.isNone_some, Option.isNone_none, Go.Disk.fsO, Go.Disk.fileO, Bool.false_eq_true, eq_self, Nat.reduceAdd, Nat.reduceSub, Nat.reduceMul, Nat.reduceLT, Nat.reduceLeDiff, Nat.reduceEqDiff, Int.reduceNeg, Int.reduceEq, Int.reduceNe, Int.reduceBEq, Int.reduceBNe, Int.reduceLT, Int.reduceLE, Int.reduceGT, Int.reduceAdd, reduceIte, Bool.not_true, Bool.not_false, decide_true, decide_false, ne_eq, not_false_eq_true, not_true_eq_false]
    have hev4 := ev_push no H3 C3 (.cells ⟨[.bool cg.cut, .int .i64 (cg.off : Int), .slice sg.1 sg.2.1 sg.2.2]⟩ 90) (0, 0)
    have hpm := hp.at m
    refine chgDo_ok (sl := sg) (s := (a, l, c)) (g2.ev hev4 fun _ _ h => h) (hb3.ev hev4 fun _ _ h => h) (hp.next hcm) hpm.len1 fun s' H5 C5 hb5 hev5 => ?_
    simp only [cellH_mk, cellO_some, add_mk, size_upd, upd_upd, one_int, one_bool, one_string, one_pointer, one_slice, one_map, one_func, st1_some, stN_nil, stN_cons, StV_mk, StO_some, Ld_some, RtI_mk, RtB_mk, RtS_mk, RtP_mk, RtL_mk, RtM_mk, RtA_mk, RtT_mk, NilC_some, New_eq, At_eq, Ck_true, Rt0_mk, BrB_true, BrB_false, Nat.zero_add, List.length_cons, List.length_nil, List.getElem?_cons_zero, List.getElem?_cons_succ, List.set_cons_zero, List.set_cons_succ, List.getD_cons_zero, List.getD_cons_succ, Option.isNone_some, Option.isNone_none, Go.Disk.fsO, Go.Disk.fileO, Bool.false_eq_true, eq_self, Nat.reduceAdd, Nat.reduceSub, Nat.reduceMul, Nat.reduceLT, Nat.reduceLeDiff, Nat.reduceEqDiff, Int.reduceNeg, Int.reduceEq, Int.reduceNe, Int.reduceBEq, Int.reduceBNe, Int.reduceLT, Int.reduceLE, Int.reduceGT, Int.reduceAdd, reduceIte, Bool.not_true, Bool.not_false, decide_true, decide_false, ne_eq, not_false_eq_true, not_true_eq_false]
    rw [w64 (by omega) (by omega)]
    refine ⟨⟨C5, m + 1, by omega, by omega, ?_, hev3.trans (hev4.trans hev5)⟩, ?_⟩
    · rw [List.take_add_one, hcm, List.foldl_append]
      exact hb5
    · show kk - ((m : Int) + 1).toNat < kk - ((m : Nat) : Int).toNat
      omega
  · have hlt := of_decide_eq_false hlt
    have hmk : m = kk := by omega
    subst hmk
    generalize hB : (f.row.take m).foldl (fun b c => c.app b) f.sure = B at *
    have hBl : B.length ≤ 2 ^ 20 := by rw [← hB]; exact (hp.at m).len1
    have hev13 : Ev (at1 lab) H C H3 C3 := hev12.trans (hev3.mono fun _ h => h.elim)
    simp only [cellH_mk, cellO_some, add_mk, size_upd, upd_upd, one_int, one_bool, one_string, one_pointer, one_slice, one_map, one_func, st1_some, stN_nil, stN_cons, StV_mk, StO_some, Ld_some, RtI_mk, RtB_mk, RtS_mk, RtP_mk, RtL_mk, RtM_mk, RtA_mk, RtT_mk, NilC_some, New_eq, At_eq, Ck_true, Rt0_mk, BrB_true, BrB_false, Nat.zero_add, List.length_cons, List.length_nil, List.getElem?_cons_zero, List.getElem?_cons_succ, List.set_cons_zero, List.set_cons_succ, List.getD_cons_zero, List.getD_cons_succ, Option.isNone_some, Option.isNone_none, Go.Disk.fsO, Go.Disk.fileO, Bool.false_eq_true, eq_self, Nat.reduceAdd, Nat.reduceSub, Nat.reduceMul, Nat.reduceLT, Nat.reduceLeDiff, Nat.reduceEqDiff, Int.reduceNeg, Int.reduceEq, Int.reduceNe, Int.reduceBEq, Int.reduceBNe, Int.reduceLT, Int.reduceLE, Int.reduceGT, Int.reduceAdd, reduceIte, Bool.not_true, Bool.not_false, decide_true, decide_false, ne_eq, not_false_eq_true, not_true_eq_false, hf3]
    refine BrB_i (fun h5 => ?_) (fun h5 => ?_)
    · have h5 := eq_of_beq h5
      have hnone : f.row[m]? = none := List.getElem?_eq_none (by omega)
      simp only [hnone, hB] at hL
      subst hL
      exact hK (a, l, c) H3 C3 hb3 hz3 hev13
    have hml : m < f.row.length := by
      have : ¬ ((m : Int) = ((r3.2.1 : Nat) : Int)) := fun e => by rw [e] at h5; simp at h5
      omega
    have hcm : f.row[m]? = some f.row[m] := List.getElem?_eq_getElem hml
    generalize f.row[m] = cg at hcm
    have hck := hp.next hcm
    rw [hB] at hck
    obtain ⟨sg, g1, g2⟩ := hch3.get hcm
    simp only [cellH_mk, cellO_some, add_mk, size_upd, upd_upd, one_int, one_bool, one_string, one_pointer, one_slice, one_map, one_func, st1_some, stN_nil, stN_cons, StV_mk, StO_some, Ld_some, RtI_mk, RtB_mk, RtS_mk, RtP_mk, RtL_mk, RtM_mk, RtA_mk, RtT_mk, NilC_some, New_eq, At_eq, Ck_true, Rt0_mk, BrB_true, BrB_false, Nat.zero_add, List.length_cons, List.length_nil, List.getElem?_cons_zero, List.getElem?_cons_succ, List.set_cons_zero, List.set_cons_succ, List.getD_cons_zero, List.getD_cons_succ, Option.isNone_some, Option.isNone_none, Go.Disk.fsO, Go.Disk.fileO, Bool.false_eq_true, eq_self, Nat.reduceAdd, Nat.reduceSub, Nat.reduceMul, Nat.reduceLT, Nat.reduceLeDiff, Nat.reduceEqDiff, Int.reduceNeg, Int.reduceEq, Int.reduceNe, Int.reduceBEq, Int.reduceBNe, Int.reduceLT, Int.reduceLE, Int.reduceGT, Int.reduceAdd, reduceIte, Bool.not_true, Bool.not_false, decide_true, decide_false, ne_eq, not_false_eq_true, not_true_eq_false, hf3]
    simp only [hcm, hB] at hL
    refine hrow.row (i := m) (by omega) fun e he ⟨eb, eo, hee, hec⟩ => ?_
    subst hee
    have hcell0 := hec 0 (by omega)
    have hc0 : cells3[m * 3 + 0]? = some (.bool cg.cut) := by
      have : ((cells3.drop (m * 3)).take 3)[0]? = some (.bool cg.cut) := by rw [g1]; rfl
      rw [List.getElem?_take, if_pos (by omega), List.getElem?_drop] at this
      exact this
    rw [hc0] at hcell0
    rw [add_mk, hcell0]
    simp only [cellH_mk, cellO_some, add_mk, size_upd, upd_upd, one_int, one_bool, one_string, one_pointer, one_slice, one_map, one_func, st1_some, stN_nil, stN_cons, StV_mk, StO_some, Ld_some, RtI_mk, RtB_mk, RtS_mk, RtP_mk, RtL_mk, RtM_mk, RtA_mk, RtT_mk, NilC_some, New_eq, At_eq, Ck_true, Rt0_mk, BrB_true, BrB_false, Nat.zero_add, List.length_cons, List.length_nil, List.getElem?_cons_zero, List.getElem?_cons_succ, List.set_cons_zero, List.set_cons_succ, List.getD_cons_zero, List.getD_cons_succ, Option.isNone_some, Option.isNone_none, Go.Disk.fsO, Go.Disk.fileO, Bool.false_eq_true, eq_self, Nat.reduceAdd, Nat.reduceSub, Nat.reduceMul, Nat.reduceLT, Nat.reduceLeDiff, Nat.reduceEqDiff, Int.reduceNeg, Int.reduceEq, Int.reduceNe, Int.reduceBEq, Int.reduceBNe, Int.reduceLT, Int.reduceLE, Int.reduceGT, Int.reduceAdd, reduceIte, Bool.not_true, Bool.not_false, decide_true, decide_false, ne_eq, not_false_eq_true, not_true_eq_false]
    cases hcut : cg.cut with
    | true =>
      rw [hcut, if_pos rfl] at hL
      subst hL
      simp only [cellH_mk, cellO_some, add_mk, size_upd, upd_upd, one_int, one_bool, one_string, one_pointer, one_slice, one_map, one_func, st1_some, stN_nil, stN_cons, StV_mk, StO_some, Ld_some, RtI_mk, RtB_mk, RtS_mk, RtP_mk, RtL_mk, RtM_mk, RtA_mk, RtT_mk, NilC_some, New_eq, At_eq, Ck_true, Rt0_mk, BrB_true, BrB_false, Nat.zero_add, List.length_cons, List.length_nil, List.getElem?_cons_zero, List.getElem?_cons_succ, List.set_cons_zero, List.set_cons_succ, List.getD_cons_zero, List.getD_cons_succ, Option.isNone_some, Option.isNone_none, Go.Disk.fsO, Go.Disk.fileO, Bool.false_eq_true, eq_self, Nat.reduceAdd, Nat.reduceSub, Nat.reduceMul, Nat.reduceLT, Nat.reduceLeDiff, Nat.reduceEqDiff, Int.reduceNeg, Int.reduceEq, Int.reduceNe, Int.reduceBEq, Int.reduceBNe, Int.reduceLT, Int.reduceLE, Int.reduceGT, Int.reduceAdd, reduceIte, Bool.not_true, Bool.not_false, decide_true, decide_false, ne_eq, not_false_eq_true, not_true_eq_false]
      exact hK (a, l, c) H3 C3 hb3 hz3 hev13
    | false =>
      rw [hcut, if_neg (by simp)] at hL
      simp only [cellH_mk, cellO_some, add_mk, size_upd, upd_upd, one_int, one_bool, one_string, one_pointer, one_slice, one_map, one_func, st1_some, stN_nil, stN_cons, StV_mk, StO_some, Ld_some, RtI_mk, RtB_mk, RtS_mk, RtP_mk, RtL_mk, RtM_mk, RtA_mk, RtT_mk, NilC_some, New_eq, At_eq, Ck_true, Rt0_mk, BrB_true, BrB_false, Nat.zero_add, List.length_cons, List.length_nil, List.getElem?_cons_zero, List.getElem?_cons_succ, List.set_cons_zero, List.set_cons_succ, List.getD_cons_zero, List.getD_cons_succ, Option.isNone_some, Option.isNone_none, Go.Disk.fsO, Go.Disk.fileO, Bool.false_eq_true, eq_self, Nat.reduceAdd, Nat.reduceSub, Nat.reduceMul, Nat.reduceLT, Nat.reduceLeDiff, Nat.reduceEqDiff, Int.reduceNeg, Int.reduceEq, Int.reduceNe, Int.reduceBEq, Int.reduceBNe, Int.reduceLT, Int.reduceLE, Int.reduceGT, Int.reduceAdd, reduceIte, Bool.not_true, Bool.not_false, decide_true, decide_false, ne_eq, not_false_eq_true, not_true_eq_false, hf3]
      refine hrow.row (i := m) (by omega) fun e2 he2 _ => ?_
      rw [g1] at he2
      unfold chgCells at he2
      simp only [cellH_mk, cellO_some, add_mk, size_upd, upd_upd, one_int, one_bool, one_string, one_pointer, one_slice, one_map, one_func, st1_some, stN_nil, stN_cons, StV_mk, StO_some, Ld_some, RtI_mk, RtB_mk, RtS_mk, RtP_mk, RtL_mk, RtM_mk, RtA_mk, RtT_mk, NilC_some, New_eq, At_eq, Ck_true, Rt0_mk, BrB_true, BrB_false, Nat.zero_add, List.length_cons, List.length_nil, List.getElem?_cons_zero, List.getElem?_cons_succ, List.set_cons_zero, List.set_cons_succ, List.getD_cons_zero, List.getD_cons_succ, Option.isNone_some, Option.isNone_none, Go.Disk.fsO, Go.Disk.fileO, Bool.false_eq_true, eq_self, Nat.reduceAdd, Nat.reduceSub, Nat.reduceMul, Nat.reduceLT, Nat.reduceLeDiff, Nat.reduceEqDiff, Int.reduceNeg, Int.reduceEq, Int.reduceNe, Int.reduceBEq, Int.reduceBNe, Int.reduceLT, Int.reduceLE, Int.reduceGT, Int.reduceAdd, reduceIte, Bool.not_true, Bool.not_false, decide_true, decide_false, ne_eq, not_false_eq_true, not_true_eq_false, he2, NewN_eq, get_push_self]
      rw [upd_push_self]
      have hev4 := ev_push no H3 C3 (.cells ⟨[.bool cg.cut, .int .i64 (cg.off : Int), .slice sg.1 sg.2.1 sg.2.2]⟩ 90) (0, 0)
      have hnb4 : (H3.push (.cells ⟨[.bool cg.cut, .int .i64 (cg.off : Int), .slice sg.1 sg.2.1 sg.2.2]⟩ 90))[H3.size]? = some (.cells ⟨[.bool cg.cut, .int .i64 (cg.off : Int), .slice sg.1 sg.2.1 sg.2.2]⟩ 90) := get_push_self _ _
      have hcb4 : setC C3 H3.size (0, 0) H3.size = (0, 0) := setC_self _ _ _
      have hb4 := hb3.ev hev4 fun _ _ h => h
      have hz4 := hz3.ev hev4 (fun _ _ h => h) fun h => h
      have g4 := g2.ev hev4 fun _ _ h => h
      have hgl := g2.len
      have hgc := g2.cap
      have hcb := hck.2
      have hco := hck.1
      generalize hH4 : H3.push _ = H4 at *
      generalize hC4 : setC C3 H3.size (0, 0) = C4 at *
      have w2 : IntKind.wrap .i64 (((sg.2.1 : Nat) : Int) + 1) = ((cg.b.length + 1 : Nat) : Int) := by rw [hgl, w64 (by omega) (by omega)]; omega
      simp only [cellH_mk, cellO_some, add_mk, size_upd, upd_upd, one_int, one_bool, one_string, one_pointer, one_slice, one_map, one_func, st1_some, stN_nil, stN_cons, StV_mk, StO_some, Ld_some, RtI_mk, RtB_mk, RtS_mk, RtP_mk, RtL_mk, RtM_mk, RtA_mk, RtT_mk, NilC_some, New_eq, At_eq, Ck_true, Rt0_mk, BrB_true, BrB_false, Nat.zero_add, List.length_cons, List.length_nil, List.getElem?_cons_zero, List.getElem?_cons_succ, List.set_cons_zero, List.set_cons_succ, List.getD_cons_zero, List.getD_cons_succ, Option.isNone_some, Option.isNone_none, Go.Disk.fsO, Go.Disk.fileO, Bool.false_eq_true, eq_self, Nat.reduceAdd, Nat.reduceSub, Nat.reduceMul, Nat.reduceLT, Nat.reduceLeDiff, Nat.reduceEqDiff, Int.reduceNeg, Int.reduceEq, Int.reduceNe, Int.reduceBEq, Int.reduceBNe, Int.reduceLT, Int.reduceLE, Int.reduceGT, Int.reduceAdd, reduceIte, Bool.not_true, Bool.not_false, decide_true, decide_false, ne_eq, not_false_eq_true, not_true_eq_false, hnb4]
      rw [w2]
      have htk2 := tk_le (cuts := r1) (many := cg.b.length + 1) (by omega)
      refine callTake hz4 hlab (by omega) (by omega) fun H5 hz5 hev5 => ?_
      generalize (tk r1 (cg.b.length + 1)).1 = tt at *
      generalize (tk r1 (cg.b.length + 1)).2 = r2 at *
      have hnb5 := hev5.get hnb4 (by rw [hcb4]; exact h0 _ rfl)
      have hb5 := hb4.ev hev5 h0
      have g5 := g4.ev hev5 h0
      have hev15 : Ev (at1 lab) H C H5 C4 := (hev13.trans (hev4.mono fun _ h => h.elim)).trans hev5
      have hlen := hb3.len
      have w3 : IntKind.wrap .i64 ((cg.off : Int) + (tt : Int)) = ((cg.off + tt : Nat) : Int) := by rw [w64 (by omega) (by omega)]; omega
      simp only [cellH_mk, cellO_some, add_mk, size_upd, upd_upd, one_int, one_bool, one_string, one_pointer, one_slice, one_map, one_func, st1_some, stN_nil, stN_cons, StV_mk, StO_some, Ld_some, RtI_mk, RtB_mk, RtS_mk, RtP_mk, RtL_mk, RtM_mk, RtA_mk, RtT_mk, NilC_some, New_eq, At_eq, Ck_true, Rt0_mk, BrB_true, BrB_false, Nat.zero_add, List.length_cons, List.length_nil, List.getElem?_cons_zero, List.getElem?_cons_succ, List.set_cons_zero, List.set_cons_succ, List.getD_cons_zero, List.getD_cons_succ, Option.isNone_some, Option.isNone_none, Go.Disk.fsO, Go.Disk.fileO, Bool.false_eq_true, eq_self, Nat.reduceAdd, Nat.reduceSub, Nat.reduceMul, Nat.reduceLT, Nat.reduceLeDiff, Nat.reduceEqDiff, Int.reduceNeg, Int.reduceEq, Int.reduceNe, Int.reduceBEq, Int.reduceBNe, Int.reduceLT, Int.reduceLE, Int.reduceGT, Int.reduceAdd, reduceIte, Bool.not_true, Bool.not_false, decide_true, decide_false, ne_eq, not_false_eq_true, not_true_eq_false, hnb5]
      rw [w3]
      refine ⟨fun en H' => H' = H5 ∧ en = ((tornEnd cg.off tt B.length : Nat) : Int), ?_, ?_⟩
      · rintro fr2 en H' ⟨rfl, rfl⟩
        have hte : tornEnd cg.off tt B.length ≤ cg.off + tt := by unfold tornEnd; split <;> omega
        generalize tornEnd cg.off tt B.length = en at *
        refine ⟨fun a l c H' => ∃ C', ByI H' C' (a, l, c) L.1 ∧ CutsAt H' C' lab nb L.2 ∧ Ev (at1 lab) H C H' C', ?_, ?_⟩
        · rintro fr3 a l c H' ⟨C', q1, q2, q3⟩
          exact hK (a, l, c) H' C' q1 q2 q3
        simp only [cellH_mk, cellO_some, add_mk, size_upd, upd_upd, one_int, one_bool, one_string, one_pointer, one_slice, one_map, one_func, st1_some, stN_nil, stN_cons, StV_mk, StO_some, Ld_some, RtI_mk, RtB_mk, RtS_mk, RtP_mk, RtL_mk, RtM_mk, RtA_mk, RtT_mk, NilC_some, New_eq, At_eq, Ck_true, Rt0_mk, BrB_true, BrB_false, Nat.zero_add, List.length_cons, List.length_nil, List.getElem?_cons_zero, List.getElem?_cons_succ, List.set_cons_zero, List.set_cons_succ, List.getD_cons_zero, List.getD_cons_succ, Option.isNone_some, Option.isNone_none, Go.Disk.fsO, Go.Disk.fileO, Bool.false_eq_true, eq_self, Nat.reduceAdd, Nat.reduceSub, Nat.reduceMul, Nat.reduceLT, Nat.reduceLeDiff, Nat.reduceEqDiff, Int.reduceNeg, Int.reduceEq, Int.reduceNe, Int.reduceBEq, Int.reduceBNe, Int.reduceLT, Int.reduceLE, Int.reduceGT, Int.reduceAdd, reduceIte, Bool.not_true, Bool.not_false, decide_true, decide_false, ne_eq, not_false_eq_true, not_true_eq_false, hnb5]
        refine BrB_i (fun h6 => ?_) (fun h6 => ?_)
        · have h6 := of_decide_eq_true h6
          rw [if_pos (by omega)] at hL
          simp only [cellH_mk, cellO_some, add_mk, size_upd, upd_upd, one_int, one_bool, one_string, one_pointer, one_slice, one_map, one_func, st1_some, stN_nil, stN_cons, StV_mk, StO_some, Ld_some, RtI_mk, RtB_mk, RtS_mk, RtP_mk, RtL_mk, RtM_mk, RtA_mk, RtT_mk, NilC_some, New_eq, At_eq, Ck_true, Rt0_mk, BrB_true, BrB_false, Nat.zero_add, List.length_cons, List.length_nil, List.getElem?_cons_zero, List.getElem?_cons_succ, List.set_cons_zero, List.set_cons_succ, List.getD_cons_zero, List.getD_cons_succ, Option.isNone_some, Option.isNone_none, Go.Disk.fsO, Go.Disk.fileO, Bool.false_eq_true, eq_self, Nat.reduceAdd, Nat.reduceSub, Nat.reduceMul, Nat.reduceLT, Nat.reduceLeDiff, Nat.reduceEqDiff, Int.reduceNeg, Int.reduceEq, Int.reduceNe, Int.reduceBEq, Int.reduceBNe, Int.reduceLT, Int.reduceLE, Int.reduceGT, Int.reduceAdd, reduceIte, Bool.not_true, Bool.not_false, decide_true, decide_false, ne_eq, not_false_eq_true, not_true_eq_false, hnb5]
          have w4 : IntKind.wrap .i64 ((en : Int) - (cg.off : Int)) = ((en - cg.off : Nat) : Int) := by rw [w64 (by omega) (by omega)]; omega
          rw [w4]
          refine Ck_i ⟨by first | trivial | omega, by omega, by omega, by omega⟩ ?_
          have hsub := SlI.sub g5 (lo := 0) (hi := en - cg.off) (mx := en - cg.off) (by omega) (by omega) (by omega)
          have e5 : List.take ((en - cg.off - 0) * 1) (List.drop (0 * 1) (byts cg.b)) = byts (cg.b.take (en - cg.off)) := by
            rw [byts_take]; simp
          rw [e5] at hsub
          rw [show slN 0 ((en - cg.off : Nat) : Int) = en - cg.off - 0 from slN_eq 0 _]
          refine chgDo_ok (c := ⟨false, cg.off, cg.b.take (en - cg.off)⟩) (sl := (slA sg.1 0 ((en - cg.off : Nat) : Int) 1, en - cg.off - 0, en - cg.off - 0)) (s := (a, l, c)) hsub hb5 ⟨hco, by show (cg.b.take _).length ≤ _; rw [List.length_take]; omega⟩ hBl fun s' H6 C6 hb6 hev6 => ?_
          simp only [cellH_mk, cellO_some, add_mk, size_upd, upd_upd, one_int, one_bool, one_string, one_pointer, one_slice, one_map, one_func, st1_some, stN_nil, stN_cons, StV_mk, StO_some, Ld_some, RtI_mk, RtB_mk, RtS_mk, RtP_mk, RtL_mk, RtM_mk, RtA_mk, RtT_mk, NilC_some, New_eq, At_eq, Ck_true, Rt0_mk, BrB_true, BrB_false, Nat.zero_add, List.length_cons, List.length_nil, List.getElem?_cons_zero, List.getElem?_cons_succ, List.set_cons_zero, List.set_cons_succ, List.getD_cons_zero, List.getD_cons_succ, Option.isNone_some, Option.isNone_none, Go.Disk.fsO, Go.Disk.fileO, Bool.false_eq_true, eq_self, Nat.reduceAdd, Nat.reduceSub, Nat.reduceMul, Nat.reduceLT, Nat.reduceLeDiff, Nat.reduceEqDiff, Int.reduceNeg, Int.reduceEq, Int.reduceNe, Int.reduceBEq, Int.reduceBNe, Int.reduceLT, Int.reduceLE, Int.reduceGT, Int.reduceAdd, reduceIte, Bool.not_true, Bool.not_false, decide_true, decide_false, ne_eq, not_false_eq_true, not_true_eq_false]
          subst hL
          exact ⟨C6, hb6, hz5.ev hev6 (fun _ _ h => h) fun h => h, hev15.trans (hev6.mono fun _ h => h.elim)⟩
        · have h6 := of_decide_eq_false h6
          rw [if_neg (by omega)] at hL
          subst hL
          exact ⟨C4, hb5, hz5, hev15⟩
      · refine BrB_i (fun h6 => ?_) (fun h6 => ?_)
        · have h6 := of_decide_eq_true h6
          refine Ck_i (by simp) ⟨rfl, ?_⟩
          have e6 : Int.tmod ((cg.off + tt : Nat) : Int) 512 = (((cg.off + tt) % 512 : Nat) : Int) := by
            rw [Int.tmod_eq_emod_of_nonneg (by omega)]; omega
          rw [e6, w64 (by omega) (by omega)]
          unfold tornEnd
          rw [if_pos (by have : l = B.length := hlen; omega)]
          omega
        · have h6 := of_decide_eq_false h6
          refine ⟨rfl, ?_⟩
          unfold tornEnd
          rw [if_neg (by have : l = B.length := hlen; omega)]
end Go.Proofs

namespace Go.Fx
open Go Go.Disk
set_option linter.unusedVariables false
section
variable {κ : Type} [DecidableEq κ] {P : Program} {d : TypeDesc} {inj : κ → Value}
/-- A map to which a key was just laid, its value still to come. -/
def MapHole (inj : κ → Value) (o : Obj) (kvs : List (κ × Value)) (k : κ) (st : Nat) : Prop := ∃ (es : Array MapEntry) (z : Value), o = .map (es.push { key := inj k, val := z, born := st }) (st + 1) ∧ Ents inj es.toList st kvs
theorem mapEntryK (hk : KeyI d inj) {T t e : TypeId} {z : Value} {s b : Nat} (hT : P.underlying T = some (.map t e)) (ht : P.underlying t = some d) (hi : TyF P e z s b)
    {H : Heap} {m : Nat} {o : Obj} {kvs : List (κ × Value)} (hm : H[m]? = some o) (ho : MapIs inj o kvs) (k : κ) (hkn : k ∉ kvs.map (·.1)) {K : Value → Heap → Prop}
    (hK : ∀ o' st, MapHole inj o' kvs k st → K (.tuple ⟨[z, .int .i64 (st : Int)]⟩) (upd H m o')) : Smk P (Instr.mapEntry T (.map (some m)) (inj k)) H K := by
  obtain ⟨i, hi, hz, _, _⟩ := hi
  obtain ⟨es, clk, rfl, hE⟩ := ho
  have hl : lkI k kvs 0 = none := by
    cases hl : lkI k kvs 0 with
    | none => rfl
    | some jx =>
      obtain ⟨j, x⟩ := jx
      obtain ⟨l1, l2, rfl, _⟩ := lkI_some hl
      exact absurd (by simp) hkn
  unfold Smk Sm Instr.mapEntry
  have hchk : ∀ (b : Bool) (K : Unit → Heap → Prop) (H : Heap), wpH P (Instr.checkKey b 10000 t (inj k)) K H = K () H := fun b K H => hk.chkW 9999 b P t k K H ht
  have hfind := fun K H => wpH_findKey (P := P) hk ht hE k K H
  rw [wpH_bind', wpH_und hT]
  simp only [wpH_bind', wpH_getObj]
  refine ⟨_, hm, rfl, ?_⟩
  simp only [wpH_bind', hchk, hfind, hl, wpH_zero hi hz, wpH_setObj, wpH_pure]
  exact ⟨⟨_, hm, rfl⟩, hK _ clk ⟨es, z, rfl, hE⟩⟩
theorem entryStoreK {T : TypeId} {H : Heap} {m : Nat} {o : Obj} {k : κ} {kvs : List (κ × Value)} {v : Value} {st : Nat} (hm : H[m]? = some o) (ho : MapHole inj o kvs k st) (hkn : k ∉ kvs.map (·.1)) {K : Heap → Prop}
    (hK : ∀ o', MapIs inj o' (ins k v kvs) → K (upd H m o')) : SmUk P (Instr.entryStore T (.map (some m)) (.int .i64 (st : Int)) v) H K := by
  obtain ⟨es, z, rfl, hE⟩ := ho
  have hfind : (es.push { key := inj k, val := z, born := st }).findIdx? (fun e => (e.born : Int) == (st : Int)) = some es.size := by
    rw [Array.findIdx?_push]
    have : es.findIdx? (fun e => (e.born : Int) == (st : Int)) = none := by
      rw [Array.findIdx?_eq_none_iff]
      intro x hx
      have := hE.clk x (Array.mem_toList_iff.2 hx)
      simp; omega
    rw [this]
    simp
  have hmod : (es.push { key := inj k, val := z, born := st }).modify es.size (fun e => { e with val := v }) = es.push { key := inj k, val := v, born := st } := by
    apply Array.ext'
    rw [Array.toList_modify]
    simp only [Array.toList_push]
    have := modify_mid (fun e : MapEntry => { e with val := v }) { key := inj k, val := z, born := st } [] es.toList
    simpa using this
  unfold SmUk SmU Instr.entryStore
  simp only [wpH_bind', wpH_getObj]
  refine ⟨_, hm, rfl, ?_⟩
  simp only [asInt, asIntOf, wpH_bind', wpH_pure]
  rw [show (es.push { key := inj k, val := z, born := st }).findIdx? (fun e => (e.born : Int) == (IntKind.i64, (st : Int)).2) = some es.size from hfind]
  simp only [wpH_setObj, hmod]
  refine ⟨⟨_, hm, rfl⟩, hK _ ⟨_, _, rfl, ?_⟩⟩
  rw [ins_new hkn]
  refine ⟨by simp [hE.kv], ?_, ?_, ?_⟩
  · simp only [Array.toList_push, List.map_append, List.map_cons, List.map_nil]
    refine List.pairwise_append.2 ⟨hE.born, by simp, fun a ha b hb => ?_⟩
    obtain ⟨x, hx, rfl⟩ := List.mem_map.1 ha
    simp only [List.mem_singleton] at hb
    subst hb
    exact hE.clk x hx
  · intro x hx
    simp only [Array.toList_push, List.mem_append, List.mem_singleton] at hx
    rcases hx with hx | rfl
    · have := hE.clk x hx; omega
    · show st < st + 1; omega
  · simp only [List.map_append, List.map_cons, List.map_nil]
    refine List.nodup_append.2 ⟨hE.nodup, by simp, fun a ha b hb => ?_⟩
    simp only [List.mem_singleton] at hb
    subst hb
    exact fun e => hkn (e ▸ ha)
end
end Go.Fx

namespace Go.Disk
open Go Go.Fx
set_option linter.unusedVariables false
/-- What a failure leaves: the bytes of each name's file, and the numbers that are left. -/
def remAll (fs : List FileA) : Dir → List Int → List (List UInt8) × List Int
  | [], cuts => ([], cuts)
  | p :: ps, cuts =>
    let r := remOf ((fs[p.2]?).getD ⟨[], [], []⟩) cuts
    let q := remAll fs ps r.2
    (r.1 :: q.1, q.2)
def numbered : Nat → List Name → Dir
  | _, [] => []
  | i, n :: ns => (n, i) :: numbered (i + 1) ns
def dirAfter (D : Disk) (cuts : List Int) : Dir := (D.row.take (tk cuts (D.row.length + 1)).1).foldl (fun d m => m.app d) D.sure
def dFail (D : Disk) (cuts : List Int) : Disk :=
  let d := dirAfter D cuts
  let bs := (remAll D.files d (tk cuts (D.row.length + 1)).2).1
  ⟨D.room, bs.map fun b => ⟨b, b, []⟩, numbered 0 (d.map (·.1)), numbered 0 (d.map (·.1)), [], 0, 0, false⟩
end Go.Disk

namespace Go.Disk
open Go Go.Fx
set_option linter.unusedVariables false
abbrev noFile : FileA := ⟨[], [], []⟩
theorem remAll_snoc (fs : List FileA) (p : Name × Nat) : ∀ (ps : Dir) (cuts : List Int), remAll fs (ps ++ [p]) cuts =
    ((remAll fs ps cuts).1 ++ [(remOf ((fs[p.2]?).getD noFile) (remAll fs ps cuts).2).1], (remOf ((fs[p.2]?).getD noFile) (remAll fs ps cuts).2).2)
  | [], cuts => rfl
  | q :: qs, cuts => by
    show ((remOf _ cuts).1 :: (remAll fs (qs ++ [p]) _).1, (remAll fs (qs ++ [p]) _).2) = _
    rw [remAll_snoc fs p qs]
    rfl
theorem remAll_len (fs : List FileA) : ∀ (ps : Dir) (cuts : List Int), (remAll fs ps cuts).1.length = ps.length
  | [], cuts => rfl
  | q :: qs, cuts => by
    show (remAll fs qs _).1.length + 1 = _
    rw [remAll_len fs qs]; rfl
theorem numbered_snoc (n : Name) : ∀ (ns : List Name) (i : Nat), numbered i (ns ++ [n]) = numbered i ns ++ [(n, i + ns.length)]
  | [], i => rfl
  | m :: ms, i => by
    show (m, i) :: numbered (i + 1) (ms ++ [n]) = (m, i) :: (numbered (i + 1) ms ++ _)
    rw [numbered_snoc n ms]
    congr 4
    simp; omega
theorem numbered_keys : ∀ (ns : List Name) (i : Nat), (numbered i ns).map (·.1) = ns
  | [], i => rfl
  | m :: ms, i => by
    show m :: (numbered (i + 1) ms).map (·.1) = _
    rw [numbered_keys ms]
theorem numbered_lt : ∀ (ns : List Name) (i : Nat), ∀ p ∈ numbered i ns, p.2 < i + ns.length
  | [], i, p, h => by cases h
  | m :: ms, i, p, h => by
    rcases List.mem_cons.1 h with rfl | h
    · show i < i + (ms.length + 1); omega
    · have := numbered_lt ms (i + 1) p h
      simp only [List.length_cons]; omega
def leftD (room : Nat) (fs : List FileA) (d : Dir) (cuts : List Int) : Disk :=
  ⟨room, (remAll fs d cuts).1.map fun b => ⟨b, b, []⟩, numbered 0 (d.map (·.1)), numbered 0 (d.map (·.1)), [], 0, 0, false⟩
theorem leftD_len (room : Nat) (fs : List FileA) (d : Dir) (cuts : List Int) : (leftD room fs d cuts).files.length = d.length := by
  show ((remAll fs d cuts).1.map _).length = _
  rw [List.length_map, remAll_len]
def Disk.plus (L : Disk) (b : List UInt8) (s : Name) : Disk := { L with files := L.files ++ [⟨b, b, []⟩], sure := L.sure ++ [(s, L.files.length)], seen := L.seen ++ [(s, L.files.length)] }
theorem leftD_snoc (room : Nat) (fs : List FileA) (p : Name × Nat) (ps : Dir) (cuts : List Int) : leftD room fs (ps ++ [p]) cuts = (leftD room fs ps cuts).plus (remOf ((fs[p.2]?).getD noFile) (remAll fs ps cuts).2).1 p.1 := by
  have h1 : (leftD room fs ps cuts).files.length = ps.length := leftD_len _ _ _ _
  unfold Disk.plus
  rw [h1]
  unfold leftD
  rw [remAll_snoc, List.map_append, List.map_append]
  have h2 : numbered 0 (ps.map (·.1) ++ [p].map (·.1)) = numbered 0 (ps.map (·.1)) ++ [(p.1, ps.length)] := by
    show numbered 0 (ps.map (·.1) ++ [p.1]) = _
    rw [numbered_snoc, List.length_map, Nat.zero_add]
  rw [h2]
  rfl
theorem DPath.at : ∀ {n : Nat} {ms : List Mv} {d e : Dir} (k : Nat), DPath n d ms e → DPath n d (ms.take k) ((ms.take k).foldl (fun d m => m.app d) d)
  | n, [], d, e, k, h => by simp only [List.take_nil, List.foldl_nil]; exact ⟨rfl, h.2⟩
  | n, m :: ms, d, e, 0, h => ⟨rfl, h.1⟩
  | n, m :: ms, d, e, k + 1, h => ⟨h.1, h.2.1, DPath.at k h.2.2⟩
theorem DPath.next : ∀ {n : Nat} {ms : List Mv} {d e : Dir} {k : Nat} {m : Mv}, DPath n d ms e → ms[k]? = some m → MvOk n m ((ms.take k).foldl (fun d m => m.app d) d)
  | n, [], d, e, k, m, h, hk => by simp at hk
  | n, q :: ms, d, e, 0, m, h, hk => by
    simp only [List.getElem?_cons_zero, Option.some.injEq] at hk
    subst hk
    exact h.2.1
  | n, q :: ms, d, e, k + 1, m, h, hk => DPath.next (k := k) h.2.2 (by simpa using hk)
theorem tornEnd_le (off t len : Nat) : tornEnd off t len ≤ off + t := by unfold tornEnd; split <;> omega
theorem remOf_len {f : FileA} (hp : FPath f.sure f.row f.now) (cuts : List Int) : (remOf f cuts).1.length ≤ 2 ^ 20 := by
  have hb : ∀ k, ((f.row.take k).foldl (fun b c => c.app b) f.sure).length ≤ 2 ^ 20 := fun k => (hp.at k).len1
  generalize hL : remOf f cuts = L
  unfold remOf at hL
  dsimp only at hL
  generalize (tk cuts (f.row.length + 1)).1 = k at hL
  generalize (tk cuts (f.row.length + 1)).2 = r at hL
  cases hc : f.row[k]? with
  | none => simp only [hc] at hL; subst hL; exact hb k
  | some c =>
    simp only [hc] at hL
    by_cases hcut : c.cut = true
    · rw [if_pos hcut] at hL; subst hL; exact hb k
    · rw [if_neg hcut] at hL
      have h1 := hb (k + 1)
      rw [List.take_add_one, hc, List.foldl_append] at h1
      have h0 := hb k
      have hck := hp.next hc
      generalize (f.row.take k).foldl (fun b c => c.app b) f.sure = b at *
      have hcf : c.cut = false := by simpa using hcut
      have h1 : (c.app b).length ≤ 2 ^ 20 := h1
      rw [Chg.app_len hck.1, if_neg hcut] at h1
      have ht := tk_le (cuts := r) (many := c.b.length + 1) (by omega)
      generalize (tk r (c.b.length + 1)).1 = t at *
      have hte := tornEnd_le c.off t b.length
      have hm1 := Nat.max_le.1 h1
      subst hL
      show (if c.off < tornEnd c.off t b.length then _ else b).length ≤ _
      split
      · rw [Chg.app_len (c := ⟨false, c.off, c.b.take (tornEnd c.off t b.length - c.off)⟩) hck.1, if_neg (by simp)]
        refine Nat.max_le.2 ⟨?_, h0⟩
        show c.off + (c.b.take _).length ≤ _
        rw [List.length_take]; omega
      · exact h0
theorem remAll_le {fs : List FileA} (h : ∀ f ∈ fs, FPath f.sure f.row f.now) : ∀ (d : Dir) (cuts : List Int), ∀ b ∈ (remAll fs d cuts).1, b.length ≤ 2 ^ 20
  | [], cuts, b, hb => by cases hb
  | p :: ps, cuts, b, hb => by
    rcases List.mem_cons.1 hb with rfl | hb
    · refine remOf_len ?_ cuts
      cases hf : fs[p.2]? with
      | none => exact ⟨rfl, Nat.zero_le _⟩
      | some f => exact h f (List.mem_of_getElem? hf)
    · exact remAll_le h ps _ b hb
theorem DiskOk.after {D : Disk} (h : DiskOk D) (cuts : List Int) : DirOk D.files.length (dirAfter D cuts) := (h.path.at _).ok1
theorem leftD_ok {room : Nat} {fs : List FileA} {d : Dir} {n : Nat} (hr : room ≤ 2 ^ 20) (hf : ∀ f ∈ fs, FPath f.sure f.row f.now) (hd : DirOk n d) (cuts : List Int) : DiskOk (leftD room fs d cuts) := by
  have hn : (leftD room fs d cuts).files.length = d.length := leftD_len _ _ _ _
  refine ⟨hr, fun f hf' => ?_, by rw [hn]; exact hd.2.1, Nat.zero_le _, ?_, by show (0 : Nat) < _; omega⟩
  · obtain ⟨b, hb, rfl⟩ := List.mem_map.1 hf'
    exact ⟨⟨rfl, remAll_le hf _ _ b hb⟩, Nat.zero_le _⟩
  · rw [hn]
    refine (show DPath d.length (numbered 0 (d.map (·.1))) [] (numbered 0 (d.map (·.1))) from ⟨rfl, ?_, ?_, fun p hp => ?_⟩)
    · show ((numbered 0 _).map (·.1)).Pairwise _
      rw [numbered_keys]; exact hd.1
    · have := congrArg List.length (numbered_keys (d.map (·.1)) 0)
      simp only [List.length_map] at this
      rw [this]; exact hd.2.1
    · have := numbered_lt _ _ p hp
      simpa using this
theorem dFail_ok {D : Disk} (h : DiskOk D) (cuts : List Int) : DiskOk (dFail D cuts) := leftD_ok h.room (fun f hf => (h.files f hf).1) (h.after cuts) _
end Go.Disk

namespace Go.Fx
open Go
def two (k q : Nat) : Lab → Prop := fun l => l.1 = k ∨ l.1 = q
theorem two_1 {k q j : Nat} {l : Lab} (h : at1 (k, j) l) : two k q l := .inl (own_of_at1 h)
theorem two_2 {k q j : Nat} {l : Lab} (h : at1 (q, j) l) : two k q l := .inr (own_of_at1 h)
theorem at1_o {k q j i : Nat} (h : k ≠ q) : ¬ at1 (k, j) (q, i) := fun e => h (by unfold at1 at e; exact (Prod.mk.inj e).1.symm)
theorem two_no0 {k q : Nat} (hk : k ≠ 0) (hq : q ≠ 0) : ∀ x : Lab, x.1 = 0 → ¬ two k q x := by
  intro x hx h
  rcases h with h | h <;> omega
theorem Ev.none {S : Lab → Prop} {H H' : Heap} {C C' : Col} (h : Ev S H C H' C') (hf : ∀ b, b < H.size → ¬ S (C b)) : Ev no H C H' C' :=
  ⟨h.size, h.col, fun b hb _ => h.keep b hb (hf b hb)⟩
theorem fresh_two (C : Col) (n k : Nat) : ∃ q, q ≠ 0 ∧ q ≠ k ∧ ∀ b, b < n → (C b).1 ≠ q := by
  obtain ⟨m, hm⟩ := fresh C n
  exact ⟨m + k + 1, by omega, by omega, fun b hb => by have := hm b hb; omega⟩
end Go.Fx
namespace Go.Proofs
open Go Go.Fx Go.Disk
set_option linter.unusedVariables false
set_option maxRecDepth 20000

theorem Fail_none {H : Heap} {C : Col} {a : Option Addr} {l c : Nat} {K : Value → Heap → Prop} (hK : ∀ H' C', Ev no H C H' C' → K (.tuple ⟨[.pointer none, .int .i64 1]⟩) H') : Fn 20 [.pointer none, .slice a l c] H K := by
  refine F20_ok _ _ _ _ ?_
  unfold F20
  simp only [cellH_mk, cellO_some, add_mk, size_upd, upd_upd, one_int, one_bool, one_string, one_pointer, one_slice, one_map, one_func, st1_some, stN_nil, stN_cons, StV_mk, StO_some, Ld_some, RtI_mk, RtB_mk, RtS_mk, RtP_mk, RtL_mk, RtM_mk, RtA_mk, RtT_mk, NilC_some, New_eq, At_eq, Ck_true, Rt0_mk, BrB_true, BrB_false, Nat.zero_add, List.length_cons, List.length_nil, List.getElem?_cons_zero, List.getElem?_cons_succ, List.set_cons_zero, List.set_cons_succ, List.getD_cons_zero, List.getD_cons_succ, Option.isNone_some, Option.isNone_none, Go.Disk.fsO, Go.Disk.fileO, Bool.false_eq_true, eq_self, Nat.reduceAdd, Nat.reduceSub, Nat.reduceMul, Nat.reduceLT, Nat.reduceLeDiff, Nat.reduceEqDiff, Int.reduceNeg, Int.reduceEq, Int.reduceNe, Int.reduceBEq, Int.reduceBNe, Int.reduceLT, Int.reduceLE, Int.reduceGT, Int.reduceAdd, reduceIte, Bool.not_true, Bool.not_false, decide_true, decide_false, ne_eq, not_false_eq_true, not_true_eq_false, NewN_eq]
  exact hK _ (setC C H.size (0, 0)) (ev_push _ _ _ _ _)
theorem mvsCells_get : ∀ {ms : List Mv} {i : Nat} {m : Mv}, ms[i]? = some m → ((mvsCells ms).drop (i * 4)).take 4 = mvCells m
  | [], i, m, h => by simp at h
  | q :: qs, 0, m, h => by
    simp only [List.getElem?_cons_zero, Option.some.injEq] at h
    subst h
    rfl
  | q :: qs, i + 1, m, h => by
    have := mvsCells_get (ms := qs) (i := i) (m := m) (by simpa using h)
    rw [← this, Nat.add_mul, Nat.one_mul]
    rfl

theorem Fail_ok {H : Heap} {C : Col} {k k' p : Nat} {D : Disk} {a : Option Addr} {l c : Nat} {zs : List Int} {K : Value → Heap → Prop} (hk : k ≠ 0) (hk' : k' ≠ 0) (hfr : ∀ b, b < H.size → (C b).1 ≠ k') (h : IsFS H C k p D) (hD : DiskOk D) (ha : D.acts < 2 ^ 39)
    (hz : SlI H C 1 a l c (ints zs)) (hc : c < 2 ^ 63)
    (hK : ∀ p' H' C', IsFS H' C' k' p' (dFail D zs) → Ev no H C H' C' → K (.tuple ⟨[.pointer (some ⟨p', 0, none⟩), .int .i64 0]⟩) H') :
    Fn 20 [.pointer (some ⟨p, 0, none⟩), .slice a l c] H K := by
  obtain ⟨x, rfl, h⟩ := h
  refine F20_ok _ _ _ _ ?_
  unfold F20
  obtain ⟨q, hq, hqk, hfq⟩ := fresh_two C H.size k'
  have hkk' : k ≠ k' := by have := hfr x.p (lt_of_get h.hp); rw [h.cp] at this; exact this
  have hkq : k ≠ q := by have := hfq x.p (lt_of_get h.hp); rw [h.cp] at this; exact this
  have hnone : ∀ {H' : Heap} {C' : Col}, Ev (two k' q) H C H' C' → Ev no H C H' C' := fun he => he.none fun b hb hS => by
    rcases hS with e | e
    · exact hfr b hb e
    · exact hfq b hb e
  have two0 := two_no0 hk' hq
  have twok : ∀ j, ¬ two k' q (k, j) := fun j e => by
    rcases e with e | e
    · exact hkk' e
    · exact hkq e
  simp only [cellH_mk, cellO_some, add_mk, size_upd, upd_upd, one_int, one_bool, one_string, one_pointer, one_slice, one_map, one_func, st1_some, stN_nil, stN_cons, StV_mk, StO_some, Ld_some, RtI_mk, RtB_mk, RtS_mk, RtP_mk, RtL_mk, RtM_mk, RtA_mk, RtT_mk, NilC_some, New_eq, At_eq, Ck_true, Rt0_mk, BrB_true, BrB_false, Nat.zero_add, List.length_cons, List.length_nil, List.getElem?_cons_zero, List.getElem?_cons_succ, List.set_cons_zero, List.set_cons_succ, List.getD_cons_zero, List.getD_cons_succ, Option.isNone_some, Option.isNone_none, Go.Disk.fsO, Go.Disk.fileO, Bool.false_eq_true, eq_self, Nat.reduceAdd, Nat.reduceSub, Nat.reduceMul, Nat.reduceLT, Nat.reduceLeDiff, Nat.reduceEqDiff, Int.reduceNeg, Int.reduceEq, Int.reduceNe, Int.reduceBEq, Int.reduceBNe, Int.reduceLT, Int.reduceLE, Int.reduceGT, Int.reduceAdd, reduceIte, Bool.not_true, Bool.not_false, decide_true, decide_false, ne_eq, not_false_eq_true, not_true_eq_false, NewN_eq]
  have hev1 : Ev (two k' q) H C (H.push (.cells ⟨[.slice a l c]⟩ 23)) (setC C H.size (q, 0)) := ev_push _ _ _ _ _
  have hz1 : CutsAt (H.push (.cells ⟨[.slice a l c]⟩ 23)) (setC C H.size (q, 0)) (q, 0) H.size zs :=
    ⟨setC_self _ _ _, a, l, c, get_push_self _ _, hz.ev hev1 two0, hc⟩
  have h1 := h.ev hev1 two0 fun j _ => twok j
  generalize H.push _ = H1 at *
  generalize setC C H.size (q, 0) = C1 at *
  generalize H.size = nb at *
  have hp1 := h1.hp
  rw [fsX] at hp1
  simp only [cellH_mk, cellO_some, add_mk, size_upd, upd_upd, one_int, one_bool, one_string, one_pointer, one_slice, one_map, one_func, st1_some, stN_nil, stN_cons, StV_mk, StO_some, Ld_some, RtI_mk, RtB_mk, RtS_mk, RtP_mk, RtL_mk, RtM_mk, RtA_mk, RtT_mk, NilC_some, New_eq, At_eq, Ck_true, Rt0_mk, BrB_true, BrB_false, Nat.zero_add, List.length_cons, List.length_nil, List.getElem?_cons_zero, List.getElem?_cons_succ, List.set_cons_zero, List.set_cons_succ, List.getD_cons_zero, List.getD_cons_succ, Option.isNone_some, Option.isNone_none, Go.Disk.fsO, Go.Disk.fileO, Bool.false_eq_true, eq_self, Nat.reduceAdd, Nat.reduceSub, Nat.reduceMul, Nat.reduceLT, Nat.reduceLeDiff, Nat.reduceEqDiff, Int.reduceNeg, Int.reduceEq, Int.reduceNe, Int.reduceBEq, Int.reduceBNe, Int.reduceLT, Int.reduceLE, Int.reduceGT, Int.reduceAdd, reduceIte, Bool.not_true, Bool.not_false, decide_true, decide_false, ne_eq, not_false_eq_true, not_true_eq_false, hp1]
  refine twin_ok (lab' := (q, 1)) h1.sure fun db H2 C2 hdb hev2 => ?_
  have h2 := h1.ev hev2 (fun _ _ h => h) fun _ _ h => h
  have hp2 := hev2.get hp1 fun h => h
  have hz2 := hz1.ev hev2 (fun _ _ h => h) fun h => h
  have hev12 : Ev (two k' q) H C H2 C2 := hev1.trans (hev2.mono fun _ h => h.elim)
  have hrl := hD.row
  simp only [cellH_mk, cellO_some, add_mk, size_upd, upd_upd, one_int, one_bool, one_string, one_pointer, one_slice, one_map, one_func, st1_some, stN_nil, stN_cons, StV_mk, StO_some, Ld_some, RtI_mk, RtB_mk, RtS_mk, RtP_mk, RtL_mk, RtM_mk, RtA_mk, RtT_mk, NilC_some, New_eq, At_eq, Ck_true, Rt0_mk, BrB_true, BrB_false, Nat.zero_add, List.length_cons, List.length_nil, List.getElem?_cons_zero, List.getElem?_cons_succ, List.set_cons_zero, List.set_cons_succ, List.getD_cons_zero, List.getD_cons_succ, Option.isNone_some, Option.isNone_none, Go.Disk.fsO, Go.Disk.fileO, Bool.false_eq_true, eq_self, Nat.reduceAdd, Nat.reduceSub, Nat.reduceMul, Nat.reduceLT, Nat.reduceLeDiff, Nat.reduceEqDiff, Int.reduceNeg, Int.reduceEq, Int.reduceNe, Int.reduceBEq, Int.reduceBNe, Int.reduceLT, Int.reduceLE, Int.reduceGT, Int.reduceAdd, reduceIte, Bool.not_true, Bool.not_false, decide_true, decide_false, ne_eq, not_false_eq_true, not_true_eq_false, hp2]
  have hrlen := h2.row.2
  have w1 : IntKind.wrap .i64 (((x.row.2.1 : Nat) : Int) + 1) = ((D.row.length + 1 : Nat) : Int) := by rw [hrlen, w64 (by omega) (by omega)]; omega
  rw [w1]
  have htk := tk_le (cuts := zs) (many := D.row.length + 1) (by omega)
  have hfail : dFail D zs = leftD D.room D.files (dirAfter D zs) (tk zs (D.row.length + 1)).2 := rfl
  have hafter : dirAfter D zs = (D.row.take (tk zs (D.row.length + 1)).1).foldl (fun d m => m.app d) D.sure := rfl
  refine callTake hz2 hq (by omega) (by omega) fun H3 hz3 hev3 => ?_
  generalize (tk zs (D.row.length + 1)).1 = kk at *
  generalize (tk zs (D.row.length + 1)).2 = r0 at *
  have hp3 := hev3.get hp2 (by rw [h2.cp]; exact at1_o hkq.symm)
  have h3 := h2.ev hev3 (at1_no0 hq) fun j _ => at1_o hkq.symm
  have hdb3 := hdb.ev hev3 (at1_ne (by omega))
  have hev13 : Ev (two k' q) H C H3 C2 := hev12.trans (hev3.mono fun _ => two_2)
  have hrc := h3.row.1.2.1
  simp only [cellH_mk, cellO_some, add_mk, size_upd, upd_upd, one_int, one_bool, one_string, one_pointer, one_slice, one_map, one_func, st1_some, stN_nil, stN_cons, StV_mk, StO_some, Ld_some, RtI_mk, RtB_mk, RtS_mk, RtP_mk, RtL_mk, RtM_mk, RtA_mk, RtT_mk, NilC_some, New_eq, At_eq, Ck_true, Rt0_mk, BrB_true, BrB_false, Nat.zero_add, List.length_cons, List.length_nil, List.getElem?_cons_zero, List.getElem?_cons_succ, List.set_cons_zero, List.set_cons_succ, List.getD_cons_zero, List.getD_cons_succ, Option.isNone_some, Option.isNone_none, Go.Disk.fsO, Go.Disk.fileO, Bool.false_eq_true, eq_self, Nat.reduceAdd, Nat.reduceSub, Nat.reduceMul, Nat.reduceLT, Nat.reduceLeDiff, Nat.reduceEqDiff, Int.reduceNeg, Int.reduceEq, Int.reduceNe, Int.reduceBEq, Int.reduceBNe, Int.reduceLT, Int.reduceLE, Int.reduceGT, Int.reduceAdd, reduceIte, Bool.not_true, Bool.not_false, decide_true, decide_false, ne_eq, not_false_eq_true, not_true_eq_false, hp3]
  refine Ck_i ⟨by first | trivial | omega, by omega, by omega, by omega⟩ ?_
  refine ⟨fun i H' => ∃ C', ∃ m : Nat, i = (m : Int) ∧ m ≤ kk ∧ DirAt H' C' (q, 1) db ((D.row.take m).foldl (fun d m => m.app d) D.sure) ∧ Ev (at1 (q, 1)) H3 C2 H' C', fun i _ => kk - i.toNat, ⟨C2, 0, rfl, by omega, hdb3, Ev.refl _ _ _⟩, ?_⟩
  rintro fr i' H4 ⟨C4, m, rfl, hm, hdb4, hev4⟩
  have h4 := h3.ev hev4 (at1_no0 hq) fun j _ => at1_o hkq.symm
  have hz4 := hz3.ev hev4 (at1_no0 hq) (at1_ne (by omega))
  have hev14 : Ev (two k' q) H C H4 C4 := hev13.trans (hev4.mono fun _ => two_2)
  simp only [cellH_mk, cellO_some, add_mk, size_upd, upd_upd, one_int, one_bool, one_string, one_pointer, one_slice, one_map, one_func, st1_some, stN_nil, stN_cons, StV_mk, StO_some, Ld_some, RtI_mk, RtB_mk, RtS_mk, RtP_mk, RtL_mk, RtM_mk, RtA_mk, RtT_mk, NilC_some, New_eq, At_eq, Ck_true, Rt0_mk, BrB_true, BrB_false, Nat.zero_add, List.length_cons, List.length_nil, List.getElem?_cons_zero, List.getElem?_cons_succ, List.set_cons_zero, List.set_cons_succ, List.getD_cons_zero, List.getD_cons_succ, Option.isNone_some, Option.isNone_none, Go.Disk.fsO, Go.Disk.fileO, Bool.false_eq_true, eq_self, Nat.reduceAdd, Nat.reduceSub, Nat.reduceMul, Nat.reduceLT, Nat.reduceLeDiff, Nat.reduceEqDiff, Int.reduceNeg, Int.reduceEq, Int.reduceNe, Int.reduceBEq, Int.reduceBNe, Int.reduceLT, Int.reduceLE, Int.reduceGT, Int.reduceAdd, reduceIte, Bool.not_true, Bool.not_false, decide_true, decide_false, ne_eq, not_false_eq_true, not_true_eq_false]
  rw [show slN 0 (kk : Int) = kk - 0 from slN_eq 0 kk]
  have hpm := hD.path.at m
  refine BrB_i (fun hlt => ?_) (fun hlt => ?_)
  · have hlt := of_decide_eq_true hlt
    have hmk : m < kk := by omega
    have hcm : D.row[m]? = some (D.row[m]'(by omega)) := List.getElem?_eq_getElem _
    generalize D.row[m]'(by omega) = mv at hcm
    have hsub := h4.row.1.r.sub (lo := 0) (hi := kk) (mx := x.row.2.2) (by omega) (by omega) (by omega)
    refine hsub.row (i := m) (by omega) fun e he _ => ?_
    have e1 : List.take 4 (List.drop (m * 4) (List.take ((kk - 0) * 4) (List.drop (0 * 4) (mvsCells D.row)))) = mvCells mv := by
      rw [Nat.zero_mul, List.drop_zero, List.drop_take, List.take_take, Nat.min_eq_left (by omega)]
      exact mvsCells_get hcm
    rw [e1] at he
    unfold mvCells at he
    simp only [cellH_mk, cellO_some, add_mk, size_upd, upd_upd, one_int, one_bool, one_string, one_pointer, one_slice, one_map, one_func, st1_some, stN_nil, stN_cons, StV_mk, StO_some, Ld_some, RtI_mk, RtB_mk, RtS_mk, RtP_mk, RtL_mk, RtM_mk, RtA_mk, RtT_mk, NilC_some, New_eq, At_eq, Ck_true, Rt0_mk, BrB_true, BrB_false, Nat.zero_add, List.length_cons, List.length_nil, List.getElem?_cons_zero, List.getElem?_cons_succ, List.set_cons_zero, List.set_cons_succ, List.getD_cons_zero, List.getD_cons_succ, Option.isNone_some, Option.isNone_none, Go.Disk.fsO, Go.Disk.fileO, Bool.false_eq_true, eq_self, Nat.reduceAdd, Nat.reduceSub, Nat.reduceMul, Nat.reduceLT, Nat.reduceLeDiff, Nat.reduceEqDiff, Int.reduceNeg, Int.reduceEq, Int.reduceNe, Int.reduceBEq, Int.reduceBNe, Int.reduceLT, Int.reduceLE, Int.reduceGT, Int.reduceAdd, reduceIte, Bool.not_true, Bool.not_false, decide_true, decide_false, ne_eq, not_false_eq_true, not_true_eq_false, he, NewN_eq, get_push_self, upd_push_self]
    rw [upd_push_self]
    rw [rowV_mk _ _ 0 4 (get_push_self _ _) (by simp)]
    simp only [List.drop_zero, List.take_succ_cons, List.take_zero]
    simp only [cellH_mk, cellO_some, add_mk, size_upd, upd_upd, one_int, one_bool, one_string, one_pointer, one_slice, one_map, one_func, st1_some, stN_nil, stN_cons, StV_mk, StO_some, Ld_some, RtI_mk, RtB_mk, RtS_mk, RtP_mk, RtL_mk, RtM_mk, RtA_mk, RtT_mk, NilC_some, New_eq, At_eq, Ck_true, Rt0_mk, BrB_true, BrB_false, Nat.zero_add, List.length_cons, List.length_nil, List.getElem?_cons_zero, List.getElem?_cons_succ, List.set_cons_zero, List.set_cons_succ, List.getD_cons_zero, List.getD_cons_succ, Option.isNone_some, Option.isNone_none, Go.Disk.fsO, Go.Disk.fileO, Bool.false_eq_true, eq_self, Nat.reduceAdd, Nat.reduceSub, Nat.reduceMul, Nat.reduceLT, Nat.reduceLeDiff, Nat.reduceEqDiff, Int.reduceNeg, Int.reduceEq, Int.reduceNe, Int.reduceBEq, Int.reduceBNe, Int.reduceLT, Int.reduceLE, Int.reduceGT, Int.reduceAdd, reduceIte, Bool.not_true, Bool.not_false, decide_true, decide_false, ne_eq, not_false_eq_true, not_true_eq_false]
    have hev5 := ev_push no H4 C4 (.cells ⟨[.int .i64 (mv.kind : Int), .string mv.src, .string mv.dst, .int .i64 (if mv.kind = 0 then (mv.file : Int) + 1 else 0)]⟩ 85) (0, 0)
    refine moveDo_ok (m := mv) (hdb4.ev hev5 fun h => h) hpm.ok1.1 (hD.path.next hcm) fun H6 C6 hdb6 hev6 => ?_
    simp only [cellH_mk, cellO_some, add_mk, size_upd, upd_upd, one_int, one_bool, one_string, one_pointer, one_slice, one_map, one_func, st1_some, stN_nil, stN_cons, StV_mk, StO_some, Ld_some, RtI_mk, RtB_mk, RtS_mk, RtP_mk, RtL_mk, RtM_mk, RtA_mk, RtT_mk, NilC_some, New_eq, At_eq, Ck_true, Rt0_mk, BrB_true, BrB_false, Nat.zero_add, List.length_cons, List.length_nil, List.getElem?_cons_zero, List.getElem?_cons_succ, List.set_cons_zero, List.set_cons_succ, List.getD_cons_zero, List.getD_cons_succ, Option.isNone_some, Option.isNone_none, Go.Disk.fsO, Go.Disk.fileO, Bool.false_eq_true, eq_self, Nat.reduceAdd, Nat.reduceSub, Nat.reduceMul, Nat.reduceLT, Nat.reduceLeDiff, Nat.reduceEqDiff, Int.reduceNeg, Int.reduceEq, Int.reduceNe, Int.reduceBEq, Int.reduceBNe, Int.reduceLT, Int.reduceLE, Int.reduceGT, Int.reduceAdd, reduceIte, Bool.not_true, Bool.not_false, decide_true, decide_false, ne_eq, not_false_eq_true, not_true_eq_false]
    rw [w64 (by omega) (by omega)]
    refine ⟨⟨C6, m + 1, by omega, by omega, ?_, hev4.trans ((hev5.mono fun _ h => h.elim).trans hev6)⟩, ?_⟩
    · rw [List.take_add_one, hcm, List.foldl_append]
      exact hdb6
    · show kk - ((m : Int) + 1).toNat < kk - ((m : Nat) : Int).toNat
      omega
  · have hlt := of_decide_eq_false hlt
    have hmk : m = kk := by omega
    subst hmk
    rw [← hafter] at hdb4 hpm
    have hdok : DirOk D.files.length (dirAfter D zs) := hpm.ok1
    clear hpm hafter
    generalize dirAfter D zs = d at *
    have hp4 := h4.hp
    rw [fsX] at hp4
    simp only [cellH_mk, cellO_some, add_mk, size_upd, upd_upd, one_int, one_bool, one_string, one_pointer, one_slice, one_map, one_func, st1_some, stN_nil, stN_cons, StV_mk, StO_some, Ld_some, RtI_mk, RtB_mk, RtS_mk, RtP_mk, RtL_mk, RtM_mk, RtA_mk, RtT_mk, NilC_some, New_eq, At_eq, Ck_true, Rt0_mk, BrB_true, BrB_false, Nat.zero_add, List.length_cons, List.length_nil, List.getElem?_cons_zero, List.getElem?_cons_succ, List.set_cons_zero, List.set_cons_succ, List.getD_cons_zero, List.getD_cons_succ, Option.isNone_some, Option.isNone_none, Go.Disk.fsO, Go.Disk.fileO, Bool.false_eq_true, eq_self, Nat.reduceAdd, Nat.reduceSub, Nat.reduceMul, Nat.reduceLT, Nat.reduceLeDiff, Nat.reduceEqDiff, Int.reduceNeg, Int.reduceEq, Int.reduceNe, Int.reduceBEq, Int.reduceBNe, Int.reduceLT, Int.reduceLE, Int.reduceGT, Int.reduceAdd, reduceIte, Bool.not_true, Bool.not_false, decide_true, decide_false, ne_eq, not_false_eq_true, not_true_eq_false, hp4]
    refine New_ok (C := C4) (k := k') hk' hD.room fun p' H5 C5 ho5 hev5 => ?_
    simp only [cellH_mk, cellO_some, add_mk, size_upd, upd_upd, one_int, one_bool, one_string, one_pointer, one_slice, one_map, one_func, st1_some, stN_nil, stN_cons, StV_mk, StO_some, Ld_some, RtI_mk, RtB_mk, RtS_mk, RtP_mk, RtL_mk, RtM_mk, RtA_mk, RtT_mk, NilC_some, New_eq, At_eq, Ck_true, Rt0_mk, BrB_true, BrB_false, Nat.zero_add, List.length_cons, List.length_nil, List.getElem?_cons_zero, List.getElem?_cons_succ, List.set_cons_zero, List.set_cons_succ, List.getD_cons_zero, List.getD_cons_succ, Option.isNone_some, Option.isNone_none, Go.Disk.fsO, Go.Disk.fileO, Bool.false_eq_true, eq_self, Nat.reduceAdd, Nat.reduceSub, Nat.reduceMul, Nat.reduceLT, Nat.reduceLeDiff, Nat.reduceEqDiff, Int.reduceNeg, Int.reduceEq, Int.reduceNe, Int.reduceBEq, Int.reduceBNe, Int.reduceLT, Int.reduceLE, Int.reduceGT, Int.reduceAdd, reduceIte, Bool.not_true, Bool.not_false, decide_true, decide_false, ne_eq, not_false_eq_true, not_true_eq_false]
    have h5 := h4.ev hev5 (fun _ _ h => h) fun _ _ h => h
    have hdb5 := hdb4.ev hev5 fun h => h
    have hz5 := hz4.ev hev5 (fun _ _ h => h) fun h => h
    have hev15 : Ev (two k' q) H C H5 C5 := hev14.trans (hev5.mono fun _ h => h.elim)
    refine names_ok (lab' := (q, 2)) hdb5 hdok.1 (by have := hdok.2.1; omega) fun an cn H6 C6 hn6 hev6 => ?_
    simp only [cellH_mk, cellO_some, add_mk, size_upd, upd_upd, one_int, one_bool, one_string, one_pointer, one_slice, one_map, one_func, st1_some, stN_nil, stN_cons, StV_mk, StO_some, Ld_some, RtI_mk, RtB_mk, RtS_mk, RtP_mk, RtL_mk, RtM_mk, RtA_mk, RtT_mk, NilC_some, New_eq, At_eq, Ck_true, Rt0_mk, BrB_true, BrB_false, Nat.zero_add, List.length_cons, List.length_nil, List.getElem?_cons_zero, List.getElem?_cons_succ, List.set_cons_zero, List.set_cons_succ, List.getD_cons_zero, List.getD_cons_succ, Option.isNone_some, Option.isNone_none, Go.Disk.fsO, Go.Disk.fileO, Bool.false_eq_true, eq_self, Nat.reduceAdd, Nat.reduceSub, Nat.reduceMul, Nat.reduceLT, Nat.reduceLeDiff, Nat.reduceEqDiff, Int.reduceNeg, Int.reduceEq, Int.reduceNe, Int.reduceBEq, Int.reduceBNe, Int.reduceLT, Int.reduceLE, Int.reduceGT, Int.reduceAdd, reduceIte, Bool.not_true, Bool.not_false, decide_true, decide_false, ne_eq, not_false_eq_true, not_true_eq_false]
    have hdl := hdok.2.1
    have h6 := h5.ev hev6 (fun _ _ h => h) fun _ _ h => h
    have hdb6 := hdb5.ev hev6 fun h => h
    have hz6 := hz5.ev hev6 (fun _ _ h => h) fun h => h
    have ho6 := ho5.ev hev6 (fun _ _ h => h) fun _ _ h => h
    have hev16 : Ev (two k' q) H C H6 C6 := hev15.trans (hev6.mono fun _ h => h.elim)
    refine ⟨fun i H' => ∃ C', ∃ m : Nat, i = (m : Int) ∧ m ≤ d.length ∧ FsAt H' C' k x D D.used ∧ DirAt H' C' (q, 1) db d ∧ SlO H' C' (q, 2) 9 1 an d.length cn ((dNames d).map encStr) ∧
      CutsAt H' C' (q, 0) nb (remAll D.files (d.take m) r0).2 ∧ (∃ y, y.p = p' ∧ FsAt H' C' k' y (leftD D.room D.files (d.take m) r0) 0) ∧ Ev (two k' q) H C H' C', fun i _ => d.length - i.toNat, ⟨C6, 0, rfl, Nat.zero_le _, h6, hdb6, hn6, hz6, ?_, hev16⟩, ?_⟩
    · obtain ⟨y, hy, hy2⟩ := ho6
      exact ⟨y, hy, hy2⟩
    rintro fr2 i2 H7 ⟨C7, m2, rfl, hm2, h7, hdb7, hn7, hz7, ⟨y, rfl, ho7⟩, hev17⟩
    simp only [cellH_mk, cellO_some, add_mk, size_upd, upd_upd, one_int, one_bool, one_string, one_pointer, one_slice, one_map, one_func, st1_some, stN_nil, stN_cons, StV_mk, StO_some, Ld_some, RtI_mk, RtB_mk, RtS_mk, RtP_mk, RtL_mk, RtM_mk, RtA_mk, RtT_mk, NilC_some, New_eq, At_eq, Ck_true, Rt0_mk, BrB_true, BrB_false, Nat.zero_add, List.length_cons, List.length_nil, List.getElem?_cons_zero, List.getElem?_cons_succ, List.set_cons_zero, List.set_cons_succ, List.getD_cons_zero, List.getD_cons_succ, Option.isNone_some, Option.isNone_none, Go.Disk.fsO, Go.Disk.fileO, Bool.false_eq_true, eq_self, Nat.reduceAdd, Nat.reduceSub, Nat.reduceMul, Nat.reduceLT, Nat.reduceLeDiff, Nat.reduceEqDiff, Int.reduceNeg, Int.reduceEq, Int.reduceNe, Int.reduceBEq, Int.reduceBNe, Int.reduceLT, Int.reduceLE, Int.reduceGT, Int.reduceAdd, reduceIte, Bool.not_true, Bool.not_false, decide_true, decide_false, ne_eq, not_false_eq_true, not_true_eq_false]
    refine BrB_i (fun hlt => ?_) (fun hlt => ?_)
    · have hlt := of_decide_eq_true hlt
      have hm3 : m2 < d.length := by omega
      have hdm : d[m2]? = some d[m2] := List.getElem?_eq_getElem hm3
      generalize d[m2] = pr at hdm
      obtain ⟨s, fi⟩ := pr
      refine hn7.r.cell (i := m2) hm3 (v := .string s) ?_ fun e he => ?_
      · unfold dNames
        rw [List.getElem?_map, List.getElem?_map, hdm]
        exact congrArg some (encStr_name s)
      have hp7 := h7.hp
      rw [fsX] at hp7
      simp only [cellH_mk, cellO_some, add_mk, size_upd, upd_upd, one_int, one_bool, one_string, one_pointer, one_slice, one_map, one_func, st1_some, stN_nil, stN_cons, StV_mk, StO_some, Ld_some, RtI_mk, RtB_mk, RtS_mk, RtP_mk, RtL_mk, RtM_mk, RtA_mk, RtT_mk, NilC_some, New_eq, At_eq, Ck_true, Rt0_mk, BrB_true, BrB_false, Nat.zero_add, List.length_cons, List.length_nil, List.getElem?_cons_zero, List.getElem?_cons_succ, List.set_cons_zero, List.set_cons_succ, List.getD_cons_zero, List.getD_cons_succ, Option.isNone_some, Option.isNone_none, Go.Disk.fsO, Go.Disk.fileO, Bool.false_eq_true, eq_self, Nat.reduceAdd, Nat.reduceSub, Nat.reduceMul, Nat.reduceLT, Nat.reduceLeDiff, Nat.reduceEqDiff, Int.reduceNeg, Int.reduceEq, Int.reduceNe, Int.reduceBEq, Int.reduceBNe, Int.reduceLT, Int.reduceLE, Int.reduceGT, Int.reduceAdd, reduceIte, Bool.not_true, Bool.not_false, decide_true, decide_false, ne_eq, not_false_eq_true, not_true_eq_false, he, hp7]
      have hmem : (s, fi) ∈ d := List.mem_of_getElem? hdm
      have hfi : fi < D.files.length := hdok.2.2 _ hmem
      obtain ⟨hcd, od, hod, kvd, hmd, hpd⟩ := id hdb7
      refine ⟨_, lookup_rdT keyS und70 und9 tyf3 hod hmd s false, ?_⟩
      have hlk : lk s kvd = some (.int .i64 ((fi : Int) + 1)) := by
        rw [lk_perm hpd (MapIs.nodup hmd)]
        refine (lk_mem ?_).2 ?_
        · rw [dirK_keys]; exact hdok.1.nodup
        · exact List.mem_map.2 ⟨_, hmem, rfl⟩
      rw [hlk]
      simp only [Option.getD_some]
      simp only [cellH_mk, cellO_some, add_mk, size_upd, upd_upd, one_int, one_bool, one_string, one_pointer, one_slice, one_map, one_func, st1_some, stN_nil, stN_cons, StV_mk, StO_some, Ld_some, RtI_mk, RtB_mk, RtS_mk, RtP_mk, RtL_mk, RtM_mk, RtA_mk, RtT_mk, NilC_some, New_eq, At_eq, Ck_true, Rt0_mk, BrB_true, BrB_false, Nat.zero_add, List.length_cons, List.length_nil, List.getElem?_cons_zero, List.getElem?_cons_succ, List.set_cons_zero, List.set_cons_succ, List.getD_cons_zero, List.getD_cons_succ, Option.isNone_some, Option.isNone_none, Go.Disk.fsO, Go.Disk.fileO, Bool.false_eq_true, eq_self, Nat.reduceAdd, Nat.reduceSub, Nat.reduceMul, Nat.reduceLT, Nat.reduceLeDiff, Nat.reduceEqDiff, Int.reduceNeg, Int.reduceEq, Int.reduceNe, Int.reduceBEq, Int.reduceBNe, Int.reduceLT, Int.reduceLE, Int.reduceGT, Int.reduceAdd, reduceIte, Bool.not_true, Bool.not_false, decide_true, decide_false, ne_eq, not_false_eq_true, not_true_eq_false]
      obtain ⟨hcf, ⟨of, kvf, hof, hmf, hpf⟩, hfl, hfs⟩ := id h7.files
      have hfb : x.fbs[fi]? = some (x.fbs[fi]'(by omega)) := List.getElem?_eq_getElem _
      generalize x.fbs[fi]'(by omega) = fb at hfb
      have hff : D.files[fi]? = some D.files[fi] := List.getElem?_eq_getElem hfi
      generalize D.files[fi] = f at hff
      refine ⟨_, lookup_rdT keyInt und69 und3 tyf79 hof hmf ((fi : Int) + 1) false, ?_⟩
      rw [files_lk hmf hpf hfb]
      simp only [Option.getD_some]
      simp only [cellH_mk, cellO_some, add_mk, size_upd, upd_upd, one_int, one_bool, one_string, one_pointer, one_slice, one_map, one_func, st1_some, stN_nil, stN_cons, StV_mk, StO_some, Ld_some, RtI_mk, RtB_mk, RtS_mk, RtP_mk, RtL_mk, RtM_mk, RtA_mk, RtT_mk, NilC_some, New_eq, At_eq, Ck_true, Rt0_mk, BrB_true, BrB_false, Nat.zero_add, List.length_cons, List.length_nil, List.getElem?_cons_zero, List.getElem?_cons_succ, List.set_cons_zero, List.set_cons_succ, List.getD_cons_zero, List.getD_cons_succ, Option.isNone_some, Option.isNone_none, Go.Disk.fsO, Go.Disk.fileO, Bool.false_eq_true, eq_self, Nat.reduceAdd, Nat.reduceSub, Nat.reduceMul, Nat.reduceLT, Nat.reduceLeDiff, Nat.reduceEqDiff, Int.reduceNeg, Int.reduceEq, Int.reduceNe, Int.reduceBEq, Int.reduceBNe, Int.reduceLT, Int.reduceLE, Int.reduceGT, Int.reduceAdd, reduceIte, Bool.not_true, Bool.not_false, decide_true, decide_false, ne_eq, not_false_eq_true, not_true_eq_false]
      have hfok := hD.files f (List.mem_of_getElem? hff)
      have hdt : d.take (m2 + 1) = d.take m2 ++ [(s, fi)] := by rw [List.take_add_one, hdm]; rfl
      have hra := remAll_snoc D.files (s, fi) (d.take m2) r0
      simp only [hff, Option.getD_some] at hra
      have hLn := leftD_snoc D.room D.files (s, fi) (d.take m2) r0
      rw [← hdt] at hLn
      simp only [hff, Option.getD_some] at hLn
      have hr2 : (remAll D.files (d.take (m2 + 1)) r0).2 = (remOf f (remAll D.files (d.take m2) r0).2).2 := by rw [hdt, hra]
      have hll : (leftD D.room D.files (d.take m2) r0).files.length = m2 := by rw [leftD_len, List.length_take]; omega
      have hkey : (leftD D.room D.files (d.take m2) r0).sure.map (·.1) = (d.take m2).map (·.1) := numbered_keys _ _
      have hkey2 : (leftD D.room D.files (d.take m2) r0).seen.map (·.1) = (d.take m2).map (·.1) := numbered_keys _ _
      have hsn : s ∉ (d.take m2).map (·.1) := by
        have h1 : ((d.take (m2 + 1)).map (·.1)).Nodup := hdok.1.nodup.sublist ((List.take_sublist _ _).map _)
        rw [hdt, List.map_append, List.nodup_append] at h1
        intro hm
        exact h1.2.2 s hm s (by simp) rfl
      have hremlen := remOf_len hfok.1 (remAll D.files (d.take m2) r0).2
      refine left_ok (hfs fi fb f hfb hff) hz7 hq hkq.symm hfok.1 (by have := hfok.2; omega) fun s' H8 C8 hs8 hz8 hev8 => ?_
      rw [← hr2] at hz8
      generalize (remOf f (remAll D.files (d.take m2) r0).2).1 = bb at *
      generalize leftD D.room D.files (d.take m2) r0 = L at *
      have h8 := h7.ev hev8 (at1_no0 hq) fun j _ => at1_o hkq.symm
      have hdb8 := hdb7.ev hev8 (at1_ne (by omega))
      have hn8 := hn7.ev hev8 (at1_ne (by omega))
      have ho8 := ho7.ev hev8 (at1_no0 hq) fun j _ => at1_o hqk
      have hev18 : Ev (two k' q) H C H8 C8 := hev17.trans (hev8.mono fun _ => two_2)
      have hpo := ho8.hp
      rw [fsX] at hpo
      have hlo := lt_of_get hpo
      simp only [cellH_mk, cellO_some, add_mk, size_upd, upd_upd, one_int, one_bool, one_string, one_pointer, one_slice, one_map, one_func, st1_some, stN_nil, stN_cons, StV_mk, StO_some, Ld_some, RtI_mk, RtB_mk, RtS_mk, RtP_mk, RtL_mk, RtM_mk, RtA_mk, RtT_mk, NilC_some, New_eq, At_eq, Ck_true, Rt0_mk, BrB_true, BrB_false, Nat.zero_add, List.length_cons, List.length_nil, List.getElem?_cons_zero, List.getElem?_cons_succ, List.set_cons_zero, List.set_cons_succ, List.getD_cons_zero, List.getD_cons_succ, Option.isNone_some, Option.isNone_none, Go.Disk.fsO, Go.Disk.fileO, Bool.false_eq_true, eq_self, Nat.reduceAdd, Nat.reduceSub, Nat.reduceMul, Nat.reduceLT, Nat.reduceLeDiff, Nat.reduceEqDiff, Int.reduceNeg, Int.reduceEq, Int.reduceNe, Int.reduceBEq, Int.reduceBNe, Int.reduceLT, Int.reduceLE, Int.reduceGT, Int.reduceAdd, reduceIte, Bool.not_true, Bool.not_false, decide_true, decide_false, ne_eq, not_false_eq_true, not_true_eq_false, hpo, get_upd_self, hlo]
      have w2 : IntKind.wrap .i64 ((L.files.length : Int) + 1) = (L.files.length : Int) + 1 := w64 (by omega) (by omega)
      rw [w2]
      generalize hO9 : Obj.cells _ _ _ = o9
      have hev9 : Ev (at1 (k', 0)) H8 C8 (upd H8 y.p o9) C8 := ev_upd ho8.cp _
      have hpo9 : (upd H8 y.p o9)[y.p]? = some o9 := get_upd_of hpo
      have f9 := ho8.files.ev hev9 (at1_no0 hk') (at1_ne (by omega)) fun j hj => at1_ne (by omega)
      have su9 := ho8.sure.ev hev9 (at1_ne (by omega))
      have se9 := ho8.seen.ev hev9 (at1_ne (by omega))
      have r9 := ho8.row.ev hev9 (at1_ne (by omega))
      have h9 := h8.ev hev9 (at1_no0 hk') fun j _ => at1_o hkk'.symm
      have hdb9 := hdb8.ev hev9 (at1_o hqk.symm)
      have hn9 := hn8.ev hev9 (at1_o hqk.symm)
      have hz9 := hz8.ev hev9 (at1_no0 hk') (at1_o hqk.symm)
      have hs9 := hs8.ev hev9 (at1_no0 hk')
      have hev19 : Ev (two k' q) H C (upd H8 y.p o9) C8 := hev18.trans (hev9.mono fun _ => two_1)
      generalize upd H8 y.p o9 = H9 at *
      have hsl := hs9.len
      refine app_copyK (C := C8) (lab := (0, 0)) und22 und22 (.inl ⟨_, rfl⟩) tyf5 (by rfl) hs9.src (by rw [byts_len, hsl]; omega) byts_one (by omega) (by omega) fun a2 c2 H10 C10 hb10 hev10 => ?_
      have hpo10 := hev10.get hpo9 fun h => h
      have hcp10 := (hev10.colOf hpo9).trans ho8.cp
      have f10 := f9.ev hev10 (fun _ _ h => h) (fun h => h) fun _ _ h => h
      have su10 := su9.ev hev10 fun h => h
      have se10 := se9.ev hev10 fun h => h
      have r10 := r9.ev hev10 fun h => h
      have h10 := h9.ev hev10 (fun _ _ h => h) fun _ _ h => h
      have hdb10 := hdb9.ev hev10 fun h => h
      have hn10 := hn9.ev hev10 fun h => h
      have hz10 := hz9.ev hev10 (fun _ _ h => h) fun h => h
      have hs10 := hs9.ev hev10 fun _ _ h => h
      have hev110 : Ev (two k' q) H C H10 C10 := hev19.trans (hev10.mono fun _ h => h.elim)
      rw [← hO9] at hpo10
      have hlt10 := lt_of_get hpo10
      simp only [cellH_mk, cellO_some, add_mk, size_upd, upd_upd, one_int, one_bool, one_string, one_pointer, one_slice, one_map, one_func, st1_some, stN_nil, stN_cons, StV_mk, StO_some, Ld_some, RtI_mk, RtB_mk, RtS_mk, RtP_mk, RtL_mk, RtM_mk, RtA_mk, RtT_mk, NilC_some, New_eq, At_eq, Ck_true, Rt0_mk, BrB_true, BrB_false, Nat.zero_add, List.length_cons, List.length_nil, List.getElem?_cons_zero, List.getElem?_cons_succ, List.set_cons_zero, List.set_cons_succ, List.getD_cons_zero, List.getD_cons_succ, Option.isNone_some, Option.isNone_none, Go.Disk.fsO, Go.Disk.fileO, Bool.false_eq_true, eq_self, Nat.reduceAdd, Nat.reduceSub, Nat.reduceMul, Nat.reduceLT, Nat.reduceLeDiff, Nat.reduceEqDiff, Int.reduceNeg, Int.reduceEq, Int.reduceNe, Int.reduceBEq, Int.reduceBNe, Int.reduceLT, Int.reduceLE, Int.reduceGT, Int.reduceAdd, reduceIte, Bool.not_true, Bool.not_false, decide_true, decide_false, ne_eq, not_false_eq_true, not_true_eq_false, hpo10]
      have hev11 := ev_push no H10 C10 (fileO s' (a2, s'.2.1, c2) (none, 0, 0)) (k', 6 + 2 * L.files.length)
      have hnb11 : (H10.push (fileO s' (a2, s'.2.1, c2) (none, 0, 0)))[H10.size]? = some (fileO s' (a2, s'.2.1, c2) (none, 0, 0)) := get_push_self _ _
      have hc11 : setC C10 H10.size (k', 6 + 2 * L.files.length) H10.size = (k', 6 + 2 * L.files.length) := setC_self _ _ _
      have hpo11 := hev11.get hpo10 fun h => h
      have hcp11 := (hev11.colOf hpo10).trans hcp10
      have f11 := f10.ev hev11 (fun _ _ h => h) (fun h => h) fun _ _ h => h
      have su11 := su10.ev hev11 fun h => h
      have se11 := se10.ev hev11 fun h => h
      have r11 := r10.ev hev11 fun h => h
      have h11 := h10.ev hev11 (fun _ _ h => h) fun _ _ h => h
      have hdb11 := hdb10.ev hev11 fun h => h
      have hn11 := hn10.ev hev11 fun h => h
      have hz11 := hz10.ev hev11 (fun _ _ h => h) fun h => h
      have hs11 := hs10.ev hev11 fun _ _ h => h
      have hb11 := (hb10.imm rfl).ev hev11 fun _ _ h => h
      have hev111 : Ev (two k' q) H C _ _ := hev110.trans (hev11.mono fun _ h => h.elim)
      unfold fileO at *
      generalize H10.push _ = H11 at *
      generalize setC C10 H10.size _ = C11 at *
      generalize H10.size = fnew at *
      simp only [cellH_mk, cellO_some, add_mk, size_upd, upd_upd, one_int, one_bool, one_string, one_pointer, one_slice, one_map, one_func, st1_some, stN_nil, stN_cons, StV_mk, StO_some, Ld_some, RtI_mk, RtB_mk, RtS_mk, RtP_mk, RtL_mk, RtM_mk, RtA_mk, RtT_mk, NilC_some, New_eq, At_eq, Ck_true, Rt0_mk, BrB_true, BrB_false, Nat.zero_add, List.length_cons, List.length_nil, List.getElem?_cons_zero, List.getElem?_cons_succ, List.set_cons_zero, List.set_cons_succ, List.getD_cons_zero, List.getD_cons_succ, Option.isNone_some, Option.isNone_none, Go.Disk.fsO, Go.Disk.fileO, Bool.false_eq_true, eq_self, Nat.reduceAdd, Nat.reduceSub, Nat.reduceMul, Nat.reduceLT, Nat.reduceLeDiff, Nat.reduceEqDiff, Int.reduceNeg, Int.reduceEq, Int.reduceNe, Int.reduceBEq, Int.reduceBNe, Int.reduceLT, Int.reduceLE, Int.reduceGT, Int.reduceAdd, reduceIte, Bool.not_true, Bool.not_false, decide_true, decide_false, ne_eq, not_false_eq_true, not_true_eq_false, hpo11]
      obtain ⟨hcg, ⟨og, kvg, hog, hmg, hpg⟩, hgl, hgs⟩ := f11
      refine mapUpdateK keyInt und69 und3 hog hmg ((L.files.length : Int) + 1) _ fun o12 ho12 => ?_
      have hnk : ((L.files.length : Int) + 1) ∉ kvg.map (·.1) := by
        intro hm
        have hm2 := (hpg.map (·.1)).mem_iff.1 hm
        have := filK_keys _ _ _ hm2
        rw [hgl] at this
        omega
      rw [ins_new hnk] at ho12
      have hev12' : Ev (at1 (k', 1)) H11 C11 (upd H11 y.mf o12) C11 := ev_upd hcg _
      have hpo12 := hev12'.get hpo11 (by rw [hcp11]; exact at1_ne (by omega))
      have hnb12 := hev12'.get hnb11 (by rw [hc11]; exact at1_ne (by omega))
      have hF : FilesAt (upd H11 y.mf o12) C11 k' y.mf (y.fbs ++ [fnew]) (L.files ++ [⟨bb, bb, []⟩]) := by
        refine ⟨hcg, ⟨o12, _, get_upd_of hog, ho12, ?_⟩, by simp [hgl], fun i fb f q1 q2 => ?_⟩
        · rw [filK_append, hgl, Nat.zero_add]
          exact hpg.append_right _
        · by_cases hi : i < L.files.length
          · rw [List.getElem?_append_left (by omega)] at q1
            rw [List.getElem?_append_left hi] at q2
            exact (hgs i fb f q1 q2).ev hev12' (at1_no0 hk') (at1_ne (by omega)) (at1_ne (by omega))
          · have hi2 : i = L.files.length := by
              have := (List.getElem?_eq_some_iff.1 q2).1
              simp at this; omega
            subst hi2
            rw [List.getElem?_append_right (by omega), hgl, Nat.sub_self] at q1
            rw [List.getElem?_append_right (by omega), Nat.sub_self] at q2
            simp only [List.getElem?_cons_zero, Option.some.injEq] at q1 q2
            subst q1 q2
            exact ⟨hc11, s', (a2, s'.2.1, c2), (none, 0, 0), [], hnb12, hs11.ev hev12' (at1_no0 hk'), hb11.ev hev12' (at1_no0 hk'), SlO.nil _ _ _ _ _, rfl, rfl⟩
      have su12 := su11.ev hev12' (at1_ne (by omega))
      have se12 := se11.ev hev12' (at1_ne (by omega))
      have r12 := r11.ev hev12' (at1_ne (by omega))
      have h12 := h11.ev hev12' (at1_no0 hk') fun j _ => at1_o hkk'.symm
      have hdb12 := hdb11.ev hev12' (at1_o hqk.symm)
      have hn12 := hn11.ev hev12' (at1_o hqk.symm)
      have hz12 := hz11.ev hev12' (at1_no0 hk') (at1_o hqk.symm)
      have hev112 : Ev (two k' q) H C _ _ := hev111.trans (hev12'.mono fun _ => two_1)
      generalize upd H11 y.mf o12 = H12 at *
      simp only [cellH_mk, cellO_some, add_mk, size_upd, upd_upd, one_int, one_bool, one_string, one_pointer, one_slice, one_map, one_func, st1_some, stN_nil, stN_cons, StV_mk, StO_some, Ld_some, RtI_mk, RtB_mk, RtS_mk, RtP_mk, RtL_mk, RtM_mk, RtA_mk, RtT_mk, NilC_some, New_eq, At_eq, Ck_true, Rt0_mk, BrB_true, BrB_false, Nat.zero_add, List.length_cons, List.length_nil, List.getElem?_cons_zero, List.getElem?_cons_succ, List.set_cons_zero, List.set_cons_succ, List.getD_cons_zero, List.getD_cons_succ, Option.isNone_some, Option.isNone_none, Go.Disk.fsO, Go.Disk.fileO, Bool.false_eq_true, eq_self, Nat.reduceAdd, Nat.reduceSub, Nat.reduceMul, Nat.reduceLT, Nat.reduceLeDiff, Nat.reduceEqDiff, Int.reduceNeg, Int.reduceEq, Int.reduceNe, Int.reduceBEq, Int.reduceBNe, Int.reduceLT, Int.reduceLE, Int.reduceGT, Int.reduceAdd, reduceIte, Bool.not_true, Bool.not_false, decide_true, decide_false, ne_eq, not_false_eq_true, not_true_eq_false, hpo12]
      obtain ⟨hcs, os, hos, kvs, hms, hps⟩ := su12
      have hsk : s ∉ kvs.map (·.1) := by
        intro hm
        have := (hps.map (·.1)).mem_iff.1 hm
        rw [dirK_keys, hkey] at this
        exact hsn this
      refine mapEntryK keyS und70 und9 tyf3 hos hms s hsk fun o13 st13 ho13 => ?_
      have hev13' : Ev (at1 (k', 2)) H12 C11 (upd H12 y.ms o13) C11 := ev_upd hcs _
      have hpo13 := hev13'.get hpo12 (by rw [hcp11]; exact at1_ne (by omega))
      simp only [cellH_mk, cellO_some, add_mk, size_upd, upd_upd, one_int, one_bool, one_string, one_pointer, one_slice, one_map, one_func, st1_some, stN_nil, stN_cons, StV_mk, StO_some, Ld_some, RtI_mk, RtB_mk, RtS_mk, RtP_mk, RtL_mk, RtM_mk, RtA_mk, RtT_mk, NilC_some, New_eq, At_eq, Ck_true, Rt0_mk, BrB_true, BrB_false, Nat.zero_add, List.length_cons, List.length_nil, List.getElem?_cons_zero, List.getElem?_cons_succ, List.set_cons_zero, List.set_cons_succ, List.getD_cons_zero, List.getD_cons_succ, Option.isNone_some, Option.isNone_none, Go.Disk.fsO, Go.Disk.fileO, Bool.false_eq_true, eq_self, Nat.reduceAdd, Nat.reduceSub, Nat.reduceMul, Nat.reduceLT, Nat.reduceLeDiff, Nat.reduceEqDiff, Int.reduceNeg, Int.reduceEq, Int.reduceNe, Int.reduceBEq, Int.reduceBNe, Int.reduceLT, Int.reduceLE, Int.reduceGT, Int.reduceAdd, reduceIte, Bool.not_true, Bool.not_false, decide_true, decide_false, ne_eq, not_false_eq_true, not_true_eq_false, hpo13]
      refine entryStoreK (get_upd_of hos) ho13 hsk fun o14 ho14 => ?_
      rw [ins_new hsk] at ho14
      rw [upd_upd]
      have hev14' : Ev (at1 (k', 2)) H12 C11 (upd H12 y.ms o14) C11 := ev_upd hcs _
      have hpo14 := hev14'.get hpo12 (by rw [hcp11]; exact at1_ne (by omega))
      have f14 := hF.ev hev14' (at1_no0 hk') (at1_ne (by omega)) fun j hj => at1_ne (by omega)
      have su14 : DirAt (upd H12 y.ms o14) C11 (k', 2) y.ms (L.sure ++ [(s, L.files.length)]) := ⟨hcs, o14, get_upd_of hos, _, ho14, by
        unfold dirK
        rw [List.map_append]
        exact hps.append_right _⟩
      have se14 := se12.ev hev14' (at1_ne (by omega))
      have r14 := r12.ev hev14' (at1_ne (by omega))
      have h14 := h12.ev hev14' (at1_no0 hk') fun j _ => at1_o hkk'.symm
      have hdb14 := hdb12.ev hev14' (at1_o hqk.symm)
      have hn14 := hn12.ev hev14' (at1_o hqk.symm)
      have hz14 := hz12.ev hev14' (at1_no0 hk') (at1_o hqk.symm)
      have hev114 : Ev (two k' q) H C _ _ := hev112.trans (hev14'.mono fun _ => two_1)
      generalize upd H12 y.ms o14 = H14 at *
      obtain ⟨hcv, ov, hov, kvv, hmv, hpv⟩ := se14
      have hvk : s ∉ kvv.map (·.1) := by
        intro hm
        have := (hpv.map (·.1)).mem_iff.1 hm
        rw [dirK_keys, hkey2] at this
        exact hsn this
      refine mapEntryK keyS und70 und9 tyf3 hov hmv s hvk fun o15 st15 ho15 => ?_
      simp only [cellH_mk, cellO_some, add_mk, size_upd, upd_upd, one_int, one_bool, one_string, one_pointer, one_slice, one_map, one_func, st1_some, stN_nil, stN_cons, StV_mk, StO_some, Ld_some, RtI_mk, RtB_mk, RtS_mk, RtP_mk, RtL_mk, RtM_mk, RtA_mk, RtT_mk, NilC_some, New_eq, At_eq, Ck_true, Rt0_mk, BrB_true, BrB_false, Nat.zero_add, List.length_cons, List.length_nil, List.getElem?_cons_zero, List.getElem?_cons_succ, List.set_cons_zero, List.set_cons_succ, List.getD_cons_zero, List.getD_cons_succ, Option.isNone_some, Option.isNone_none, Go.Disk.fsO, Go.Disk.fileO, Bool.false_eq_true, eq_self, Nat.reduceAdd, Nat.reduceSub, Nat.reduceMul, Nat.reduceLT, Nat.reduceLeDiff, Nat.reduceEqDiff, Int.reduceNeg, Int.reduceEq, Int.reduceNe, Int.reduceBEq, Int.reduceBNe, Int.reduceLT, Int.reduceLE, Int.reduceGT, Int.reduceAdd, reduceIte, Bool.not_true, Bool.not_false, decide_true, decide_false, ne_eq, not_false_eq_true, not_true_eq_false]
      refine entryStoreK (get_upd_of hov) ho15 hvk fun o16 ho16 => ?_
      rw [ins_new hvk] at ho16
      rw [upd_upd, w64 (by omega) (by omega)]
      have hev16' : Ev (at1 (k', 3)) H14 C11 (upd H14 y.mv o16) C11 := ev_upd hcv _
      refine ⟨⟨C11, m2 + 1, by omega, by omega, h14.ev hev16' (at1_no0 hk') fun j _ => at1_o hkk'.symm, hdb14.ev hev16' (at1_o hqk.symm), hn14.ev hev16' (at1_o hqk.symm), hz14.ev hev16' (at1_no0 hk') (at1_o hqk.symm),
        ⟨{ y with fbs := y.fbs ++ [fnew] }, rfl, ?_⟩, hev114.trans (hev16'.mono fun _ => two_1)⟩, ?_⟩
      · rw [hLn]
        refine ⟨hcp11, ?_, f14.ev hev16' (at1_no0 hk') (at1_ne (by omega)) fun j hj => at1_ne (by omega), su14.ev hev16' (at1_ne (by omega)), ⟨hcv, o16, get_upd_of hov, _, ho16, ?_⟩, r14.ev hev16' (at1_ne (by omega))⟩
        · have := hev16'.get hpo14 (by rw [hcp11]; exact at1_ne (by omega))
          rw [this, fsX]
          unfold Disk.plus
          simp
        · unfold dirK
          unfold Disk.plus
          rw [List.map_append]
          exact hpv.append_right _
      · show d.length - ((m2 : Int) + 1).toNat < d.length - ((m2 : Nat) : Int).toNat
        omega
    · have hlt := of_decide_eq_false hlt
      have hm3 : m2 = d.length := by omega
      subst hm3
      rw [List.take_length] at ho7
      have hdk := dFail_ok hD zs
      rw [hfail] at hdk hK
      refine count_ok hk' ho7 hdk.seen (flen_le hdk) fun H8 C8 ho8 hev8 => ?_
      simp only [cellH_mk, cellO_some, add_mk, size_upd, upd_upd, one_int, one_bool, one_string, one_pointer, one_slice, one_map, one_func, st1_some, stN_nil, stN_cons, StV_mk, StO_some, Ld_some, RtI_mk, RtB_mk, RtS_mk, RtP_mk, RtL_mk, RtM_mk, RtA_mk, RtT_mk, NilC_some, New_eq, At_eq, Ck_true, Rt0_mk, BrB_true, BrB_false, Nat.zero_add, List.length_cons, List.length_nil, List.getElem?_cons_zero, List.getElem?_cons_succ, List.set_cons_zero, List.set_cons_succ, List.getD_cons_zero, List.getD_cons_succ, Option.isNone_some, Option.isNone_none, Go.Disk.fsO, Go.Disk.fileO, Bool.false_eq_true, eq_self, Nat.reduceAdd, Nat.reduceSub, Nat.reduceMul, Nat.reduceLT, Nat.reduceLeDiff, Nat.reduceEqDiff, Int.reduceNeg, Int.reduceEq, Int.reduceNe, Int.reduceBEq, Int.reduceBNe, Int.reduceLT, Int.reduceLE, Int.reduceGT, Int.reduceAdd, reduceIte, Bool.not_true, Bool.not_false, decide_true, decide_false, ne_eq, not_false_eq_true, not_true_eq_false]
      exact hK y.p H8 C8 ⟨y, rfl, ho8⟩ (hnone (hev17.trans (hev8.mono fun _ h => .inl h)))
end Go.Proofs

namespace Go.Fx
open Go Go.Disk
set_option linter.unusedVariables false
section
variable {P : Program}
/-- A slice literal. -/
theorem build_nK {T e : TypeId} {z : Value} {s b n : Nat} {parts : List (Nat × Value)} {cells : List Value} (hT : P.underlying T = some (.slice e)) (hi : TyF P e z s b) (hp : 0 < n * s) (hlt : n * s ≤ 2 ^ 24)
    (hf : fillL (fun x => some (x * s, s)) ((List.range (n * s)).map fun i => z.cells[i % z.cells.size]!) parts = some cells)
    {H : Heap} {K : Value → Heap → Prop} (hK : K (.slice (some ⟨H.size, 0, none⟩) n n) (H.push (.cells ⟨cells⟩ e))) :
    Smk P (Instr.buildSlice T n ⟨parts⟩) H K := by
  obtain ⟨i, hi, hz, rfl, _⟩ := hi
  unfold Smk Sm Instr.buildSlice
  simp only [wpH_bind', wpH_und hT, wpH_size hi]
  rw [if_neg (by omega), if_neg (by omega)]
  simp only [wpH_bind', wpH_zero hi hz, wpH_pure]
  have h1 := fillL_fill _ _ _ hf
  have h2 : ((List.range (n * i.size)).map fun i => z.cells[i % z.cells.size]!).toArray = (Array.range (n * i.size)).map fun x => z.cells[x % z.cells.size]! := by
    apply Array.ext'
    simp
  rw [h2] at h1
  have hpl : (⟨parts⟩ : Array (Nat × Value)).toList = parts := rfl
  simp only [hpl, h1, wpH_bind', wpH_newRow, wpH_pure]
  exact hK
/-- '[]byte("..")': the literal's conversion to its own type. -/
theorem conv_litK {T e : TypeId} (hT : P.underlying T = some (.slice e)) (he : P.underlying e = some (.int .u8)) {H : Heap} {cs : List Value} {t : TypeId} {l c : Nat} {K : Value → Heap → Prop}
    (hK : ∀ fz, K (.slice (some ⟨H.size, 0, none⟩) l c) (H.push (.cells ⟨cs⟩ t fz))) :
    Smk P (convert T T (.slice (some ⟨H.size, 0, none⟩) l c)) (H.push (.cells ⟨cs⟩ t)) K := by
  unfold Smk Sm convert
  simp only [wpH_bind', wpH_und hT, wpH_und he, beq_self_eq_true]
  unfold markStringish
  rw [wpH_bind']
  show wpH P (match shapeH (H.push (.cells ⟨cs⟩ t)) H.size with | some (_, n) => _ | _ => _) _ _
  have hshape : shapeH (H.push (.cells ⟨cs⟩ t)) H.size = some (t, cs.length) := by
    unfold shapeH; rw [get_push_self]; rfl
  rw [hshape]
  show K _ (freezeH (H.push (.cells ⟨cs⟩ t)) ⟨H.size, cs.length, none⟩ 1)
  have hfr : freezeH (H.push (.cells ⟨cs⟩ t)) ⟨H.size, cs.length, none⟩ 1 = H.push (.cells ⟨cs⟩ t (cs.length, cs.length + 1)) := by
    unfold freezeH
    rw [if_neg (by omega)]
    refine Array.ext_getElem? fun i => ?_
    rw [Array.getElem?_modify]
    by_cases e : H.size = i
    · subst e; simp
    · rw [if_neg e, Array.getElem?_push, Array.getElem?_push]
      simp [Ne.symm e]
  rw [hfr]
  exact hK _
/-- 'make([]T, n)', of elements of one cell. -/
theorem makeSliceK {T e : TypeId} {z : Value} {b n : Nat} (hT : P.underlying T = some (.slice e)) (hi : TyF P e z 1 b) (hz1 : z.cells = #[z]) (hb : b * n ≤ 2 ^ 48) (hn : n < 2 ^ 62) {H : Heap} {K : Value → Heap → Prop}
    (hK : K (.slice (some ⟨H.size, 0, none⟩) n n) (H.push (.cells ⟨List.replicate n z⟩ e))) : Smk P (Instr.makeSlice T (.int .i64 (n : Int)) (.int .i64 (n : Int))) H K := by
  obtain ⟨i, hi, hz, hs, hbi⟩ := hi
  unfold Smk Sm Instr.makeSlice
  have hw : IntKind.wrap .i64 (n : Int) = n := w64 (by omega) (by omega)
  simp only [wpH_bind', wpH_und hT, asInt, asIntOf, wpH_pure, wpH_size hi, hs, hw, hbi]
  have hti : ∀ (K : TypeInfo → Heap → Prop) (H : Heap), wpH P (typeInfo e) K H = K i H := by
    intro K H
    unfold typeInfo
    simp only [wpH_bind', wpH_program, hi, wpH_pure]
  simp only [hti]
  have hle : (b : Int) * (n : Int) ≤ 2 ^ 48 := by
    have : ((b * n : Nat) : Int) ≤ 2 ^ 48 := by exact_mod_cast hb
    rwa [Int.natCast_mul] at this
  rw [if_neg (by
    simp only [Bool.or_eq_true, decide_eq_true_eq]
    rw [← hbi] at hle
    omega)]
  rw [Int.toNat_natCast]
  simp only [wpH_bind', wpH_askRoom, wpH_size hi, hs, Nat.mul_one]
  have hz2 : ((Array.range n).map fun x => z.cells[x % z.cells.size]!) = ⟨List.replicate n z⟩ := by
    apply Array.ext
    · simp
    · intro k h1 h2
      simp [hz1, Nat.mod_one]
  by_cases h0 : n = 0
  · subst h0
    rw [if_pos rfl]
    simp only [wpH_bind', wpH_pure, wpH_newRow]
    have e0 : ((Array.range 0).map fun x => (#[] : Array Value)[x % (#[] : Array Value).size]!) = ⟨[]⟩ := by
      apply Array.ext
      · simp
      · intro k h1 h2
        simp at h1
    rw [e0]
    exact hK
  · rw [if_neg h0]
    simp only [wpH_bind', wpH_zero hi hz, wpH_pure, wpH_newRow]
    rw [hz2]
    exact hK
theorem bytes_loop (f : Value → ByteArray → Sem (ForInStep ByteArray)) (hf : ∀ (x : UInt8) s, f (.int .u8 x.toNat) s = pure (ForInStep.yield (s.push x))) : ∀ (xs : List UInt8) (s : ByteArray) (K : ByteArray → Heap → Prop) (H : Heap), K ⟨⟨s.data.toList ++ xs⟩⟩ H →
    wpH P (forIn (byts xs) s f) K H
  | [], s, K, H, h => by
    have e : (⟨⟨s.data.toList ++ []⟩⟩ : ByteArray) = s := by simp
    rw [e] at h
    simp only [byts, List.map_nil, List.forIn_nil, wpH_pure]
    exact h
  | x :: xs, s, K, H, h => by
    have ih := bytes_loop f hf xs (s.push x) K H (by simpa [ByteArray.push] using h)
    simp only [byts, List.map_cons, List.forIn_cons, hf, wpH_bind', wpH_pure]
    exact ih
theorem conv_strK {T T' e : TypeId} (hT : P.underlying T = some (.slice e)) (hT' : P.underlying T' = some .string) (he : P.underlying e = some (.int .u8)) {H : Heap} {a : Option Addr} {l c : Nat} {xs : List UInt8} {K : Value → Heap → Prop}
    (h : SrcH H 1 (.slice a l c) l (byts xs)) (hK : K (.string (str xs)) H) : Smk P (convert T T' (.slice a l c)) H K := by
  unfold Smk Sm convert
  unfold SrcH at h
  cases a with
  | none =>
    obtain ⟨_, h⟩ := h
    have : xs = [] := by
      cases xs with
      | nil => rfl
      | cons x xs => cases h
    subst this
    simp only [wpH_bind', wpH_und hT, wpH_und hT', wpH_und he]
    exact hK
  | some a =>
    obtain ⟨_, h⟩ := h
    simp only [wpH_bind', wpH_und hT, wpH_und hT', wpH_und he]
    unfold Conv.bytesToString
    simp only [wpH_bind']
    rw [Nat.mul_one] at h
    refine wpH_loadCells h ?_
    simp only [List.forIn_toArray]
    refine bytes_loop _ (fun x s => ?_) xs ByteArray.empty _ H ?_
    · simp
    · rw [wpH_pure]; exact hK
end
end Go.Fx

namespace Go.Disk
open Go Go.Fx
def nmA : Name := str [97]
theorem nmA_is : isNm nmA = true := by unfold isNm; rw [ByteArray.toList_eq]; rfl
def wk0 : Disk := ⟨10, [⟨[], [], []⟩], [], [(nmA, 0)], [⟨0, str [], nmA, 0⟩], 1, 0, false⟩
def wk1 : Disk := ⟨10, [⟨[], [97, 98], [⟨false, 0, [97, 98]⟩]⟩], [], [(nmA, 0)], [⟨0, str [], nmA, 0⟩], 2, 0, false⟩
def wk2 : Disk := ⟨10, [⟨[97, 98], [97, 98], []⟩], [], [(nmA, 0)], [⟨0, str [], nmA, 0⟩], 3, 0, false⟩
def wk3 : Disk := ⟨10, [⟨[97, 98], [97, 98], []⟩], [(nmA, 0)], [(nmA, 0)], [], 4, 0, false⟩
def wk4 : Disk := ⟨10, [⟨[97, 98], [97, 98, 99, 100], [⟨false, 2, [99, 100]⟩]⟩], [(nmA, 0)], [(nmA, 0)], [], 5, 0, false⟩
def wk5 : Disk := ⟨10, [⟨[97, 98, 99], [97, 98, 99], []⟩], [(nmA, 0)], [(nmA, 0)], [], 0, 0, false⟩
theorem wk0_is : dCreate nmA (newDisk 10) = (0, wk0) := by unfold dCreate; rw [nmA_is]; rfl
theorem wk1_is : dAppend nmA [97, 98] wk0 = (0, wk1) := rfl
theorem wk2_is : dSync nmA wk1 = (0, wk2) := rfl
theorem wk3_is : dSyncDir wk2 = (0, wk3) := rfl
theorem wk4_is : dAppend nmA [99, 100] wk3 = (0, wk4) := rfl
theorem wk5_is : dFail wk4 [0, 0, 1] = wk5 := rfl
theorem wk6_is : dRead nmA 0 9 wk5 = ([97, 98, 99], 0) := rfl
end Go.Disk
namespace Go.Fx
open Go Go.Disk
theorem SlI.lit {H : Heap} {C : Col} {b n sz : Nat} {cs : List Value} {t : TypeId} {fz : Nat × Nat} (hc : (C b).1 = 0) (hb : H[b]? = some (.cells ⟨cs⟩ t fz)) (hl : cs.length = n * sz) : SlI H C sz (some ⟨b, 0, none⟩) n n cs :=
  ⟨hl, Nat.le_refl _, .inr ⟨b, 0, cs, t, fz, rfl, hc, hb, by omega, by rw [List.drop_zero, ← hl, List.take_length]⟩⟩
theorem SlO.bl {H : Heap} {C : Col} {lab : Lab} {t : TypeId} {a : Option Addr} {l c : Nat} {xs : List UInt8} (h : SlO H C lab t 1 a l c (byts xs)) : l = xs.length := by
  have := h.1; rw [byts_len] at this; omega
theorem SlI.bl {H : Heap} {C : Col} {a : Option Addr} {l c : Nat} {xs : List UInt8} (h : SlI H C 1 a l c (byts xs)) : l = xs.length := by
  have := h.1; rw [byts_len] at this; omega
theorem SlR.bl {H : Heap} {a : Option Addr} {l c : Nat} {xs : List UInt8} (h : SlR H 1 a l c (byts xs)) : l = xs.length := by
  have := h.1; rw [byts_len] at this; omega
end Go.Fx
namespace Go.Proofs
open Go Go.Fx Go.Disk
set_option linter.unusedVariables false
set_option maxRecDepth 20000

theorem works_ok {H : Heap} {C : Col} {K : Value → Heap → Prop} (hK : ∀ H' C', Ev no H C H' C' → K (.bool true) H') : Fn 13 [] H K := by
  refine F13_ok ?_
  unfold F13
  obtain ⟨k, hk, hfr⟩ := fresh_own C H.size
  refine New_ok (C := C) (k := k) (room := 10) hk (by omega) fun p H1 C1 h1 hev1 => ?_
  have hev1 : Ev (own k) H C H1 C1 := hev1.mono fun _ h => h.elim
  simp only [cellH_mk, cellO_some, add_mk, size_upd, upd_upd, one_int, one_bool, one_string, one_pointer, one_slice, one_map, one_func, st1_some, stN_nil, stN_cons, StV_mk, StO_some, Ld_some, RtI_mk, RtB_mk, RtS_mk, RtP_mk, RtL_mk, RtM_mk, RtA_mk, RtT_mk, NilC_some, New_eq, At_eq, Ck_true, Rt0_mk, BrB_true, BrB_false, Nat.zero_add, List.length_cons, List.length_nil, List.getElem?_cons_zero, List.getElem?_cons_succ, List.set_cons_zero, List.set_cons_succ, List.getD_cons_zero, List.getD_cons_succ, Option.isNone_some, Option.isNone_none, Go.Disk.fsO, Go.Disk.fileO, Bool.false_eq_true, eq_self, Nat.reduceAdd, Nat.reduceSub, Nat.reduceMul, Nat.reduceLT, Nat.reduceLeDiff, Nat.reduceEqDiff, Int.reduceNeg, Int.reduceEq, Int.reduceNe, Int.reduceBEq, Int.reduceBNe, Int.reduceLT, Int.reduceLE, Int.reduceGT, Int.reduceAdd, reduceIte, Bool.not_true, Bool.not_false, decide_true, decide_false, ne_eq, not_false_eq_true, not_true_eq_false]
  refine Create_ok (name := nmA) hk h1 (new_dok (by omega)) (by show (0 : Nat) < _; omega) (by show (1 : Nat) < _; omega) fun H2 C2 h2 hev2 => ?_
  have ok0 := (dCreate_good (name := nmA) (new_dok (room := 10) (by omega))).1
  rw [wk0_is] at h2 ok0 ⊢
  have hev2 := hev1.trans hev2
  simp only [cellH_mk, cellO_some, add_mk, size_upd, upd_upd, one_int, one_bool, one_string, one_pointer, one_slice, one_map, one_func, st1_some, stN_nil, stN_cons, StV_mk, StO_some, Ld_some, RtI_mk, RtB_mk, RtS_mk, RtP_mk, RtL_mk, RtM_mk, RtA_mk, RtT_mk, NilC_some, New_eq, At_eq, Ck_true, Rt0_mk, BrB_true, BrB_false, Nat.zero_add, List.length_cons, List.length_nil, List.getElem?_cons_zero, List.getElem?_cons_succ, List.set_cons_zero, List.set_cons_succ, List.getD_cons_zero, List.getD_cons_succ, Option.isNone_some, Option.isNone_none, Go.Disk.fsO, Go.Disk.fileO, Bool.false_eq_true, eq_self, Nat.reduceAdd, Nat.reduceSub, Nat.reduceMul, Nat.reduceLT, Nat.reduceLeDiff, Nat.reduceEqDiff, Int.reduceNeg, Int.reduceEq, Int.reduceNe, Int.reduceBEq, Int.reduceBNe, Int.reduceLT, Int.reduceLE, Int.reduceGT, Int.reduceAdd, reduceIte, Bool.not_true, Bool.not_false, decide_true, decide_false, ne_eq, not_false_eq_true, not_true_eq_false]
  refine build_nK und22 tyf5 (by omega) (by omega) (cells := byts [97, 98]) (by rfl) ?_
  simp only [cellH_mk, cellO_some, add_mk, size_upd, upd_upd, one_int, one_bool, one_string, one_pointer, one_slice, one_map, one_func, st1_some, stN_nil, stN_cons, StV_mk, StO_some, Ld_some, RtI_mk, RtB_mk, RtS_mk, RtP_mk, RtL_mk, RtM_mk, RtA_mk, RtT_mk, NilC_some, New_eq, At_eq, Ck_true, Rt0_mk, BrB_true, BrB_false, Nat.zero_add, List.length_cons, List.length_nil, List.getElem?_cons_zero, List.getElem?_cons_succ, List.set_cons_zero, List.set_cons_succ, List.getD_cons_zero, List.getD_cons_succ, Option.isNone_some, Option.isNone_none, Go.Disk.fsO, Go.Disk.fileO, Bool.false_eq_true, eq_self, Nat.reduceAdd, Nat.reduceSub, Nat.reduceMul, Nat.reduceLT, Nat.reduceLeDiff, Nat.reduceEqDiff, Int.reduceNeg, Int.reduceEq, Int.reduceNe, Int.reduceBEq, Int.reduceBNe, Int.reduceLT, Int.reduceLE, Int.reduceGT, Int.reduceAdd, reduceIte, Bool.not_true, Bool.not_false, decide_true, decide_false, ne_eq, not_false_eq_true, not_true_eq_false]
  refine conv_litK und22 und5 fun fz => ?_
  have hev3 := ev_push (own k) H2 C2 (.cells ⟨byts [97, 98]⟩ 5 fz) (0, 0)
  have g3 : SlI (H2.push (.cells ⟨byts [97, 98]⟩ 5 fz)) (setC C2 H2.size (0, 0)) 1 (some ⟨H2.size, 0, none⟩) 2 2 (byts [97, 98]) := SlI.lit (by rw [setC_self]) (get_push_self _ _) (by rfl)
  have h3 := h2.ev ((ev_push no H2 C2 (.cells ⟨byts [97, 98]⟩ 5 fz) (0, 0))) (fun _ _ h => h) fun _ _ h => h
  have hev3 := hev2.trans hev3
  generalize H2.push _ = H3 at *
  generalize setC C2 _ _ = C3 at *
  simp only [cellH_mk, cellO_some, add_mk, size_upd, upd_upd, one_int, one_bool, one_string, one_pointer, one_slice, one_map, one_func, st1_some, stN_nil, stN_cons, StV_mk, StO_some, Ld_some, RtI_mk, RtB_mk, RtS_mk, RtP_mk, RtL_mk, RtM_mk, RtA_mk, RtT_mk, NilC_some, New_eq, At_eq, Ck_true, Rt0_mk, BrB_true, BrB_false, Nat.zero_add, List.length_cons, List.length_nil, List.getElem?_cons_zero, List.getElem?_cons_succ, List.set_cons_zero, List.set_cons_succ, List.getD_cons_zero, List.getD_cons_succ, Option.isNone_some, Option.isNone_none, Go.Disk.fsO, Go.Disk.fileO, Bool.false_eq_true, eq_self, Nat.reduceAdd, Nat.reduceSub, Nat.reduceMul, Nat.reduceLT, Nat.reduceLeDiff, Nat.reduceEqDiff, Int.reduceNeg, Int.reduceEq, Int.reduceNe, Int.reduceBEq, Int.reduceBNe, Int.reduceLT, Int.reduceLE, Int.reduceGT, Int.reduceAdd, reduceIte, Bool.not_true, Bool.not_false, decide_true, decide_false, ne_eq, not_false_eq_true, not_true_eq_false]
  refine Append_ok (name := nmA) (b := [97, 98]) hk h3 ok0 (by show (1 : Nat) < _; omega) g3.r fun H4 C4 h4 hev4 => ?_
  have ok1 := (dAppend_good (name := nmA) (b := [97, 98]) ok0).1
  rw [wk1_is] at h4 ok1 ⊢
  have hev4 := hev3.trans hev4
  simp only [cellH_mk, cellO_some, add_mk, size_upd, upd_upd, one_int, one_bool, one_string, one_pointer, one_slice, one_map, one_func, st1_some, stN_nil, stN_cons, StV_mk, StO_some, Ld_some, RtI_mk, RtB_mk, RtS_mk, RtP_mk, RtL_mk, RtM_mk, RtA_mk, RtT_mk, NilC_some, New_eq, At_eq, Ck_true, Rt0_mk, BrB_true, BrB_false, Nat.zero_add, List.length_cons, List.length_nil, List.getElem?_cons_zero, List.getElem?_cons_succ, List.set_cons_zero, List.set_cons_succ, List.getD_cons_zero, List.getD_cons_succ, Option.isNone_some, Option.isNone_none, Go.Disk.fsO, Go.Disk.fileO, Bool.false_eq_true, eq_self, Nat.reduceAdd, Nat.reduceSub, Nat.reduceMul, Nat.reduceLT, Nat.reduceLeDiff, Nat.reduceEqDiff, Int.reduceNeg, Int.reduceEq, Int.reduceNe, Int.reduceBEq, Int.reduceBNe, Int.reduceLT, Int.reduceLE, Int.reduceGT, Int.reduceAdd, reduceIte, Bool.not_true, Bool.not_false, decide_true, decide_false, ne_eq, not_false_eq_true, not_true_eq_false]
  refine Sync_ok (name := nmA) hk h4 ok1 (by show (2 : Nat) < _; omega) fun H5 C5 h5 hev5 => ?_
  have ok2 := (dSync_good (name := nmA) ok1).1
  rw [wk2_is] at h5 ok2 ⊢
  have hev5 := hev4.trans hev5
  simp only [cellH_mk, cellO_some, add_mk, size_upd, upd_upd, one_int, one_bool, one_string, one_pointer, one_slice, one_map, one_func, st1_some, stN_nil, stN_cons, StV_mk, StO_some, Ld_some, RtI_mk, RtB_mk, RtS_mk, RtP_mk, RtL_mk, RtM_mk, RtA_mk, RtT_mk, NilC_some, New_eq, At_eq, Ck_true, Rt0_mk, BrB_true, BrB_false, Nat.zero_add, List.length_cons, List.length_nil, List.getElem?_cons_zero, List.getElem?_cons_succ, List.set_cons_zero, List.set_cons_succ, List.getD_cons_zero, List.getD_cons_succ, Option.isNone_some, Option.isNone_none, Go.Disk.fsO, Go.Disk.fileO, Bool.false_eq_true, eq_self, Nat.reduceAdd, Nat.reduceSub, Nat.reduceMul, Nat.reduceLT, Nat.reduceLeDiff, Nat.reduceEqDiff, Int.reduceNeg, Int.reduceEq, Int.reduceNe, Int.reduceBEq, Int.reduceBNe, Int.reduceLT, Int.reduceLE, Int.reduceGT, Int.reduceAdd, reduceIte, Bool.not_true, Bool.not_false, decide_true, decide_false, ne_eq, not_false_eq_true, not_true_eq_false]
  refine SyncDir_ok hk h5 ok2 (by show (3 : Nat) < _; omega) fun H6 C6 h6 hev6 => ?_
  have ok3 := (dSyncDir_good ok2).1
  rw [wk3_is] at h6 ok3 ⊢
  have hev6 := hev5.trans hev6
  simp only [cellH_mk, cellO_some, add_mk, size_upd, upd_upd, one_int, one_bool, one_string, one_pointer, one_slice, one_map, one_func, st1_some, stN_nil, stN_cons, StV_mk, StO_some, Ld_some, RtI_mk, RtB_mk, RtS_mk, RtP_mk, RtL_mk, RtM_mk, RtA_mk, RtT_mk, NilC_some, New_eq, At_eq, Ck_true, Rt0_mk, BrB_true, BrB_false, Nat.zero_add, List.length_cons, List.length_nil, List.getElem?_cons_zero, List.getElem?_cons_succ, List.set_cons_zero, List.set_cons_succ, List.getD_cons_zero, List.getD_cons_succ, Option.isNone_some, Option.isNone_none, Go.Disk.fsO, Go.Disk.fileO, Bool.false_eq_true, eq_self, Nat.reduceAdd, Nat.reduceSub, Nat.reduceMul, Nat.reduceLT, Nat.reduceLeDiff, Nat.reduceEqDiff, Int.reduceNeg, Int.reduceEq, Int.reduceNe, Int.reduceBEq, Int.reduceBNe, Int.reduceLT, Int.reduceLE, Int.reduceGT, Int.reduceAdd, reduceIte, Bool.not_true, Bool.not_false, decide_true, decide_false, ne_eq, not_false_eq_true, not_true_eq_false]
  refine build_nK und22 tyf5 (by omega) (by omega) (cells := byts [99, 100]) (by rfl) ?_
  simp only [cellH_mk, cellO_some, add_mk, size_upd, upd_upd, one_int, one_bool, one_string, one_pointer, one_slice, one_map, one_func, st1_some, stN_nil, stN_cons, StV_mk, StO_some, Ld_some, RtI_mk, RtB_mk, RtS_mk, RtP_mk, RtL_mk, RtM_mk, RtA_mk, RtT_mk, NilC_some, New_eq, At_eq, Ck_true, Rt0_mk, BrB_true, BrB_false, Nat.zero_add, List.length_cons, List.length_nil, List.getElem?_cons_zero, List.getElem?_cons_succ, List.set_cons_zero, List.set_cons_succ, List.getD_cons_zero, List.getD_cons_succ, Option.isNone_some, Option.isNone_none, Go.Disk.fsO, Go.Disk.fileO, Bool.false_eq_true, eq_self, Nat.reduceAdd, Nat.reduceSub, Nat.reduceMul, Nat.reduceLT, Nat.reduceLeDiff, Nat.reduceEqDiff, Int.reduceNeg, Int.reduceEq, Int.reduceNe, Int.reduceBEq, Int.reduceBNe, Int.reduceLT, Int.reduceLE, Int.reduceGT, Int.reduceAdd, reduceIte, Bool.not_true, Bool.not_false, decide_true, decide_false, ne_eq, not_false_eq_true, not_true_eq_false]
  refine conv_litK und22 und5 fun fz2 => ?_
  have hev7 := ev_push (own k) H6 C6 (.cells ⟨byts [99, 100]⟩ 5 fz2) (0, 0)
  have g7 : SlI (H6.push (.cells ⟨byts [99, 100]⟩ 5 fz2)) (setC C6 H6.size (0, 0)) 1 (some ⟨H6.size, 0, none⟩) 2 2 (byts [99, 100]) := SlI.lit (by rw [setC_self]) (get_push_self _ _) (by rfl)
  have h7 := h6.ev ((ev_push no H6 C6 (.cells ⟨byts [99, 100]⟩ 5 fz2) (0, 0))) (fun _ _ h => h) fun _ _ h => h
  have hev7 := hev6.trans hev7
  generalize H6.push _ = H7 at *
  generalize setC C6 _ _ = C7 at *
  simp only [cellH_mk, cellO_some, add_mk, size_upd, upd_upd, one_int, one_bool, one_string, one_pointer, one_slice, one_map, one_func, st1_some, stN_nil, stN_cons, StV_mk, StO_some, Ld_some, RtI_mk, RtB_mk, RtS_mk, RtP_mk, RtL_mk, RtM_mk, RtA_mk, RtT_mk, NilC_some, New_eq, At_eq, Ck_true, Rt0_mk, BrB_true, BrB_false, Nat.zero_add, List.length_cons, List.length_nil, List.getElem?_cons_zero, List.getElem?_cons_succ, List.set_cons_zero, List.set_cons_succ, List.getD_cons_zero, List.getD_cons_succ, Option.isNone_some, Option.isNone_none, Go.Disk.fsO, Go.Disk.fileO, Bool.false_eq_true, eq_self, Nat.reduceAdd, Nat.reduceSub, Nat.reduceMul, Nat.reduceLT, Nat.reduceLeDiff, Nat.reduceEqDiff, Int.reduceNeg, Int.reduceEq, Int.reduceNe, Int.reduceBEq, Int.reduceBNe, Int.reduceLT, Int.reduceLE, Int.reduceGT, Int.reduceAdd, reduceIte, Bool.not_true, Bool.not_false, decide_true, decide_false, ne_eq, not_false_eq_true, not_true_eq_false]
  refine Append_ok (name := nmA) (b := [99, 100]) hk h7 ok3 (by show (4 : Nat) < _; omega) g7.r fun H8 C8 h8 hev8 => ?_
  have ok4 := (dAppend_good (name := nmA) (b := [99, 100]) ok3).1
  rw [wk4_is] at h8 ok4 ⊢
  have hev8 := hev7.trans hev8
  simp only [cellH_mk, cellO_some, add_mk, size_upd, upd_upd, one_int, one_bool, one_string, one_pointer, one_slice, one_map, one_func, st1_some, stN_nil, stN_cons, StV_mk, StO_some, Ld_some, RtI_mk, RtB_mk, RtS_mk, RtP_mk, RtL_mk, RtM_mk, RtA_mk, RtT_mk, NilC_some, New_eq, At_eq, Ck_true, Rt0_mk, BrB_true, BrB_false, Nat.zero_add, List.length_cons, List.length_nil, List.getElem?_cons_zero, List.getElem?_cons_succ, List.set_cons_zero, List.set_cons_succ, List.getD_cons_zero, List.getD_cons_succ, Option.isNone_some, Option.isNone_none, Go.Disk.fsO, Go.Disk.fileO, Bool.false_eq_true, eq_self, Nat.reduceAdd, Nat.reduceSub, Nat.reduceMul, Nat.reduceLT, Nat.reduceLeDiff, Nat.reduceEqDiff, Int.reduceNeg, Int.reduceEq, Int.reduceNe, Int.reduceBEq, Int.reduceBNe, Int.reduceLT, Int.reduceLE, Int.reduceGT, Int.reduceAdd, reduceIte, Bool.not_true, Bool.not_false, decide_true, decide_false, ne_eq, not_false_eq_true, not_true_eq_false]
  refine build_nK und23 tyf3 (by omega) (by omega) (cells := ints [0, 0, 1]) (by rfl) ?_
  have hev9 := ev_push (own k) H8 C8 (.cells ⟨ints [0, 0, 1]⟩ 3) (0, 0)
  have g9 : SlI (H8.push (.cells ⟨ints [0, 0, 1]⟩ 3)) (setC C8 H8.size (0, 0)) 1 (some ⟨H8.size, 0, none⟩) 3 3 (ints [0, 0, 1]) := SlI.lit (by rw [setC_self]) (get_push_self _ _) (by rfl)
  have h9 := h8.ev ((ev_push no H8 C8 (.cells ⟨ints [0, 0, 1]⟩ 3) (0, 0))) (fun _ _ h => h) fun _ _ h => h
  have hev9 := hev8.trans hev9
  generalize H8.push _ = H9 at *
  generalize setC C8 _ _ = C9 at *
  simp only [cellH_mk, cellO_some, add_mk, size_upd, upd_upd, one_int, one_bool, one_string, one_pointer, one_slice, one_map, one_func, st1_some, stN_nil, stN_cons, StV_mk, StO_some, Ld_some, RtI_mk, RtB_mk, RtS_mk, RtP_mk, RtL_mk, RtM_mk, RtA_mk, RtT_mk, NilC_some, New_eq, At_eq, Ck_true, Rt0_mk, BrB_true, BrB_false, Nat.zero_add, List.length_cons, List.length_nil, List.getElem?_cons_zero, List.getElem?_cons_succ, List.set_cons_zero, List.set_cons_succ, List.getD_cons_zero, List.getD_cons_succ, Option.isNone_some, Option.isNone_none, Go.Disk.fsO, Go.Disk.fileO, Bool.false_eq_true, eq_self, Nat.reduceAdd, Nat.reduceSub, Nat.reduceMul, Nat.reduceLT, Nat.reduceLeDiff, Nat.reduceEqDiff, Int.reduceNeg, Int.reduceEq, Int.reduceNe, Int.reduceBEq, Int.reduceBNe, Int.reduceLT, Int.reduceLE, Int.reduceGT, Int.reduceAdd, reduceIte, Bool.not_true, Bool.not_false, decide_true, decide_false, ne_eq, not_false_eq_true, not_true_eq_false]
  obtain ⟨k', hk', hfr'⟩ := fresh_own C9 H9.size
  refine Fail_ok hk hk' hfr' h9 ok4 (by show (5 : Nat) < _; omega) g9 (by omega) fun p' H10 C10 h10 hev10 => ?_
  have ok5 := dFail_ok ok4 [0, 0, 1]
  rw [wk5_is] at h10 ok5
  have hev10 := hev9.trans (hev10.mono fun _ h => h.elim)
  simp only [cellH_mk, cellO_some, add_mk, size_upd, upd_upd, one_int, one_bool, one_string, one_pointer, one_slice, one_map, one_func, st1_some, stN_nil, stN_cons, StV_mk, StO_some, Ld_some, RtI_mk, RtB_mk, RtS_mk, RtP_mk, RtL_mk, RtM_mk, RtA_mk, RtT_mk, NilC_some, New_eq, At_eq, Ck_true, Rt0_mk, BrB_true, BrB_false, Nat.zero_add, List.length_cons, List.length_nil, List.getElem?_cons_zero, List.getElem?_cons_succ, List.set_cons_zero, List.set_cons_succ, List.getD_cons_zero, List.getD_cons_succ, Option.isNone_some, Option.isNone_none, Go.Disk.fsO, Go.Disk.fileO, Bool.false_eq_true, eq_self, Nat.reduceAdd, Nat.reduceSub, Nat.reduceMul, Nat.reduceLT, Nat.reduceLeDiff, Nat.reduceEqDiff, Int.reduceNeg, Int.reduceEq, Int.reduceNe, Int.reduceBEq, Int.reduceBNe, Int.reduceLT, Int.reduceLE, Int.reduceGT, Int.reduceAdd, reduceIte, Bool.not_true, Bool.not_false, decide_true, decide_false, ne_eq, not_false_eq_true, not_true_eq_false]
  refine Read_ok (name := nmA) h10 ok5 (by omega) (by omega) (0, 0) fun a l c H11 C11 g11 hev11 => ?_
  rw [wk6_is] at g11 ⊢
  have hev11 := hev10.trans (hev11.mono fun _ h => h.elim)
  simp only [cellH_mk, cellO_some, add_mk, size_upd, upd_upd, one_int, one_bool, one_string, one_pointer, one_slice, one_map, one_func, st1_some, stN_nil, stN_cons, StV_mk, StO_some, Ld_some, RtI_mk, RtB_mk, RtS_mk, RtP_mk, RtL_mk, RtM_mk, RtA_mk, RtT_mk, NilC_some, New_eq, At_eq, Ck_true, Rt0_mk, BrB_true, BrB_false, Nat.zero_add, List.length_cons, List.length_nil, List.getElem?_cons_zero, List.getElem?_cons_succ, List.set_cons_zero, List.set_cons_succ, List.getD_cons_zero, List.getD_cons_succ, Option.isNone_some, Option.isNone_none, Go.Disk.fsO, Go.Disk.fileO, Bool.false_eq_true, eq_self, Nat.reduceAdd, Nat.reduceSub, Nat.reduceMul, Nat.reduceLT, Nat.reduceLeDiff, Nat.reduceEqDiff, Int.reduceNeg, Int.reduceEq, Int.reduceNe, Int.reduceBEq, Int.reduceBNe, Int.reduceLT, Int.reduceLE, Int.reduceGT, Int.reduceAdd, reduceIte, Bool.not_true, Bool.not_false, decide_true, decide_false, ne_eq, not_false_eq_true, not_true_eq_false]
  refine conv_strK und22 und9 und5 g11.src ?_
  simp only [cellH_mk, cellO_some, add_mk, size_upd, upd_upd, one_int, one_bool, one_string, one_pointer, one_slice, one_map, one_func, st1_some, stN_nil, stN_cons, StV_mk, StO_some, Ld_some, RtI_mk, RtB_mk, RtS_mk, RtP_mk, RtL_mk, RtM_mk, RtA_mk, RtT_mk, NilC_some, New_eq, At_eq, Ck_true, Rt0_mk, BrB_true, BrB_false, Nat.zero_add, List.length_cons, List.length_nil, List.getElem?_cons_zero, List.getElem?_cons_succ, List.set_cons_zero, List.set_cons_succ, List.getD_cons_zero, List.getD_cons_succ, Option.isNone_some, Option.isNone_none, Go.Disk.fsO, Go.Disk.fileO, Bool.false_eq_true, eq_self, Nat.reduceAdd, Nat.reduceSub, Nat.reduceMul, Nat.reduceLT, Nat.reduceLeDiff, Nat.reduceEqDiff, Int.reduceNeg, Int.reduceEq, Int.reduceNe, Int.reduceBEq, Int.reduceBNe, Int.reduceLT, Int.reduceLE, Int.reduceGT, Int.reduceAdd, reduceIte, Bool.not_true, Bool.not_false, decide_true, decide_false, ne_eq, not_false_eq_true, not_true_eq_false]
  have e2 : ((str [97, 98, 99]).toList == (str [97, 98, 99]).toList) = true := beq_self_eq_true _
  rw [e2]
  exact hK H11 C11 (hev11.none hfr)
end Go.Proofs

namespace Go.Fx
open Go Go.Disk Go.ChangeShapes Go.WideShapes Go.ChangeAt Go.RowKit Go.Deep
set_option linter.unusedVariables false

section
variable {H : Type} {enc : TypeId × Value → H} {P : Program}
/-! ## From a row's world to a heap, and back -/
theorem trodAll_carry {w w' : World} {base : Nat} {spare : Nat → Bool} {held : Bool} : ∀ {ts : List TypeId} {vs : List Value} {ds : List (DataW H)} {ps : List MemPlace},
    DataW.TrodAll enc P w base spare held ts vs ds ps → (∀ p ∈ ps, w.sameAt w' p) → DataW.TrodAll enc P w' base spare held ts vs ds ps
  | [], _, _, _, h, _ => by
    obtain ⟨rfl, rfl, rfl⟩ := trodAll_nil h
    exact trodAll_mk0
  | t :: ts, _, _, _, h, hs => by
    obtain ⟨v, vs', d, ds', p, q, rfl, rfl, rfl, ⟨n, h1⟩, h2⟩ := trodAll_cons h
    exact trodAll_cons_mk ⟨n, DataW.trod_carry n _ _ _ h1 fun x hx => hs x (List.mem_append_left _ hx)⟩ (trodAll_carry h2 fun x hx => hs x (List.mem_append_right _ hx))

theorem post_true {f : Func} {s : ChangeSpec} {T : TypeId → Prop} {W W' : World} {args : Array Value} {ds gs : List (DataW H)} {before : List MemPlace} {tb : TypeId} {apart : Bool}
    (hv : s.vars = []) (hW : DataW.Whole enc P f.params.toList s.vars apart W args.toList ds gs before) (hs : SameOut W W') (hsz : W.heap.size ≤ W'.heap.size) (hb : ∀ k, k < W.heap.size → W'.heap[k]? = W.heap[k]?)
    (K : Kids P T) (hz : ∀ t e, T t → P.underlying t = some (.slice e) → 0 < P.cellsOf e) (hT : ∀ t ∈ f.params.toList, T t)
    (hres : (s.fn H (ds ++ gs)).results = [.lit (.bool true)]) (hargs : (s.fn H (ds ++ gs)).args = ds) (hvars : (s.fn H (ds ++ gs)).vars = []) (hrt : f.resultTypes = #[tb]) (hu : P.underlying tb = some .bool) :
    s.post enc P f apart true false false W args (.bool true) W' := by
  have hW2 := hW
  have hlt := hW.lt
  obtain ⟨p, q, hA, hV, rfl, hfz, hnd⟩ := hW
  have hgs : gs = [] ∧ q = [] := by
    rw [hv] at hV
    exact trodVars_none hV
  obtain ⟨rfl, rfl⟩ := hgs
  have hA2 := DataW.TrodAll.respare (spare' := fun b => decide (b < W.heap.size)) K hz hT hA fun x hx => by simpa using hlt x (by simpa using hx)
  have hsame : ∀ x ∈ p, W.sameAt W' x := fun x hx => by
    have hl := hlt x (by simpa using hx)
    cases x with
    | cell b o => exact World.cell?_of_block (w := W) (hb b hl)
    | map b => exact hb b hl
  refine ⟨ds, [], p ++ [], [], p, [], hW2, ?_, ?_, ?_, ?_, fun h => (nomatch h)⟩
  · rw [hres, hrt]
    exact trodAll_cons_mk (shut_bool hu _) trodAll_mk0
  · rw [hargs]
    exact trodAll_carry hA2 hsame
  · rw [hvars, hv]
    exact rfl
  · refine ⟨hs.os, hs.output, fun i hi => ?_⟩
    rw [hb i hi]
    split <;> simp_all

def Sized (P : Program) (t : TypeId) (d : DataW H) : Prop := ∀ n ∈ d.weights P t, n ≤ reachBytes
theorem reach_lt : reachBytes + 4096 = 2 ^ 47 := by decide
theorem sized_each {ts : List TypeId} {ds : List (DataW H)} (h : (DataW.weightsEach P ts ds).all (· ≤ reachBytes) = true) {j : Nat} {t : TypeId} {d : DataW H} (ht : ts[j]? = some t) (hd : ds[j]? = some d) : Sized P t d := fun n hn => by
  have := List.all_eq_true.1 h _ (DataW.weights_mem_each ht hd n hn)
  simpa using this

/-- A row of cells that a reading met. -/
theorem row_of {H : Heap} {b off n : Nat} {V : Nat → Value} (hn : 0 < n) (h : ∀ i, i < n → cellH H ⟨b, off + i, none⟩ = some (V i)) :
    ∃ cs t fz, H[b]? = some (.cells ⟨cs⟩ t fz) ∧ off + n ≤ cs.length ∧ (cs.drop off).take n = (List.range n).map V := by
  have h0 := h 0 hn
  rw [cellH_mk] at h0
  cases hb : H[b]? with
  | none => rw [hb] at h0; cases h0
  | some o =>
    cases o with
    | cells c t fz =>
      obtain ⟨cs⟩ := c
      have hc : ∀ i, i < n → cs[off + i]? = some (V i) := fun i hi => by
        have := h i hi
        rwa [cellH_mk, hb, cellO_some] at this
      have hl : off + n ≤ cs.length := by
        have := (List.getElem?_eq_some_iff.1 (hc (n - 1) (by omega))).1
        omega
      refine ⟨cs, t, fz, rfl, hl, ?_⟩
      refine List.ext_getElem? fun i => ?_
      rw [List.getElem?_take, List.getElem?_map, List.getElem?_drop]
      by_cases hi : i < n
      · rw [if_pos hi, hc i hi, List.getElem?_range hi]; rfl
      · rw [if_neg hi, List.getElem?_eq_none (by simpa using hi)]; rfl
    | _ => rw [hb] at h0; cases h0

abbrev C0 : Col := fun _ => (0, 0)
/-- A slice that came in, its elements of one cell. -/
theorem arg_slice1 {t e : TypeId} {w : World} {v : Value} {d : DataW H} {p : List MemPlace} {r : Reach} {b0 : Nat} (ht : P.underlying t = some (.slice e)) (hc : P.cellsOf e = 1) (hb1 : 0 < P.bytesOf e) (hval : Value.okWide P w r b0 t v)
    (hd : DataW.Trod enc P w 0 (fun _ => true) true t v d p) (hz : Sized P t d) :
    ∃ a l c, v = .slice a l c ∧ c * P.bytesOf e ≤ reachBytes ∧ ∃ (V : Nat → Value) (D : Nat → DataW H) (Pl : Nat → List MemPlace) (n : Nat), SlI w.heap C0 1 a l c ((List.range l).map V) ∧ ∀ i, i < l → DataW.trod enc P w 0 (fun _ => true) true n e [V i] = some (D i, Pl i) ∧ Sized P e (D i) := by
  obtain ⟨a, l, c, rfl⟩ := okWide_slice ht hval
  obtain ⟨fuel, hf⟩ := hd
  refine ⟨a, l, c, rfl, ?_⟩
  rcases open_slice1 ht hc hf with ⟨hcs, hx⟩ | ⟨a', l', c', m, n, V, D, Pl, hcs, _, hlc, _, hm, hx, hall⟩
  · simp only [Value.cells, List.cons.injEq, Value.slice.injEq, and_true] at hcs
    obtain ⟨rfl, rfl, rfl⟩ := hcs
    exact ⟨by omega, fun _ => undef, fun _ => .nil, fun _ => [], 0, SlI.nil _ _ _, fun i hi => absurd hi (by omega)⟩
  · simp only [Value.cells, List.cons.injEq, Value.slice.injEq, and_true] at hcs
    obtain ⟨rfl, rfl, rfl⟩ := hcs
    simp only [if_true] at hm
    subst hm
    simp only [Prod.mk.injEq] at hx
    obtain ⟨rfl, rfl⟩ := hx
    have hsz : m * P.bytesOf e ≤ reachBytes := by
      have := hz (((List.range l).map D).length + ((List.range (m - l)).map fun j => D (l + j)).length |> (· * P.bytesOf e)) (by simp [DataW.weights, ht])
      simp only [List.length_map, List.length_range] at this
      rwa [show l + (m - l) = m from by omega] at this
    refine ⟨hsz, V, D, Pl, n, ⟨by simp, hlc, ?_⟩, fun i hi => ⟨(hall i (by omega)).2, fun x hx => ?_⟩⟩
    · by_cases h0 : l = 0
      · exact .inl h0
      · obtain ⟨b, off, sp⟩ := a'
        have hsp : sp = none := by simpa [Addr.add] using World.cell?_spot (hall 0 (by omega)).1
        subst hsp
        have hcell : ∀ i, i < l → cellH w.heap ⟨b, off + i, none⟩ = some (V i) := fun i hi => by
          have := (hall i (by omega)).1
          rwa [add_mk, cellH_eq] at this
        obtain ⟨cs, ty, fz, h1, h2, h3⟩ := row_of (by omega) hcell
        exact .inr ⟨b, off, cs, ty, fz, rfl, rfl, h1, by omega, by rw [Nat.mul_one]; exact h3⟩
    · refine hz x ?_
      have : x ∈ DataW.weightsAll P e ((List.range l).map D) := by
        have key : ∀ (L : List Nat), i ∈ L → x ∈ DataW.weightsAll P e (L.map D) := by
          intro L
          induction L with
          | nil => intro h; cases h
          | cons y ys ih =>
            intro h
            simp only [List.map_cons, DataW.weightsAll, List.mem_append]
            rcases List.mem_cons.1 h with rfl | h
            · exact .inl hx
            · exact .inr (ih h)
        exact key _ (List.mem_range.2 hi)
      simp [DataW.weights, ht, this]

/-- '[]byte' -/
theorem arg_bytes {t e : TypeId} {w : World} {v : Value} {d : DataW H} {p : List MemPlace} {r : Reach} {b0 : Nat} (ht : P.underlying t = some (.slice e)) (he : P.underlying e = some (.int .u8)) (hc : P.cellsOf e = 1) (hb1 : P.bytesOf e = 1) (hval : Value.okWide P w r b0 t v)
    (hd : DataW.Trod enc P w 0 (fun _ => true) true t v d p) (hz : Sized P t d) : ∃ a l c xs, v = .slice a l c ∧ SlI w.heap C0 1 a l c (byts xs) ∧ c ≤ reachBytes := by
  obtain ⟨a, l, c, rfl, h1, V, D, Pl, n, h2, h3⟩ := arg_slice1 ht hc (by omega) hval hd hz
  refine ⟨a, l, c, (List.range l).map fun i => UInt8.ofNat (match V i with | .int _ n => n.toNat | _ => 0), rfl, ?_, by rw [hb1] at h1; omega⟩
  have e : byts ((List.range l).map fun i => UInt8.ofNat (match V i with | .int _ n => n.toNat | _ => 0)) = (List.range l).map V := by
    unfold byts
    rw [List.map_map]
    refine List.map_congr_left fun i hi => ?_
    obtain ⟨m, hm, _, hw⟩ := DataW.trod_int he (h3 i (List.mem_range.1 hi)).1
    simp only [List.cons.injEq, and_true] at hm
    have hr : 0 ≤ m ∧ m ≤ 255 := by simpa [Lit.wf, IntKind.min, IntKind.max, IntKind.signed, IntKind.bits] using hw
    show Value.int .u8 ((UInt8.ofNat (match V i with | .int _ n => n.toNat | _ => 0)).toNat : Int) = V i
    rw [hm]
    simp only
    congr 1
    rw [UInt8.toNat_ofNat']
    omega
  rw [e]
  exact h2
/-- '[]int' -/
theorem arg_ints {t e : TypeId} {w : World} {v : Value} {d : DataW H} {p : List MemPlace} {r : Reach} {b0 : Nat} (ht : P.underlying t = some (.slice e)) (he : P.underlying e = some (.int .i64)) (hc : P.cellsOf e = 1) (hb1 : P.bytesOf e = 8) (hval : Value.okWide P w r b0 t v)
    (hd : DataW.Trod enc P w 0 (fun _ => true) true t v d p) (hz : Sized P t d) : ∃ a l c xs, v = .slice a l c ∧ SlI w.heap C0 1 a l c (ints xs) ∧ c * 8 ≤ reachBytes ∧ ∀ x ∈ xs, -2 ^ 63 ≤ x ∧ x < 2 ^ 63 := by
  obtain ⟨a, l, c, rfl, h1, V, D, Pl, n, h2, h3⟩ := arg_slice1 ht hc (by omega) hval hd hz
  have hV : ∀ i, i < l → ∃ m : Int, V i = .int .i64 m ∧ -2 ^ 63 ≤ m ∧ m < 2 ^ 63 := fun i hi => by
    obtain ⟨m, hm, _, hw⟩ := DataW.trod_int he (h3 i hi).1
    simp only [List.cons.injEq, and_true] at hm
    have hr : -9223372036854775808 ≤ m ∧ m ≤ 9223372036854775807 := by simpa [Lit.wf, IntKind.min, IntKind.max, IntKind.signed, IntKind.bits] using hw
    exact ⟨m, hm, by omega, by omega⟩
  refine ⟨a, l, c, (List.range l).map fun i => (match V i with | .int _ n => n | _ => 0), rfl, ?_, by rw [hb1] at h1; omega, fun x hx => ?_⟩
  · have e : ints ((List.range l).map fun i => (match V i with | .int _ n => n | _ => 0)) = (List.range l).map V := by
      unfold ints
      rw [List.map_map]
      refine List.map_congr_left fun i hi => ?_
      obtain ⟨m, hm, _⟩ := hV i (List.mem_range.1 hi)
      show Value.int .i64 (match V i with | .int _ n => n | _ => 0) = V i
      rw [hm]
    rw [e]
    exact h2
  · obtain ⟨i, hi, rfl⟩ := List.mem_map.1 hx
    obtain ⟨m, hm, h1, h2⟩ := hV i (List.mem_range.1 hi)
    rw [hm]
    exact ⟨h1, h2⟩
end
end Go.Fx
namespace Go.Proofs
open Go Go.Fx Go.Disk Go.ChangeShapes Go.WideShapes Go.ChangeAt Go.RowKit Go.Deep
set_option linter.unusedVariables false
theorem ownTry : ownKnob Try.prog.godebug = none := by kernel_rfl
theorem kidsTry : Kids Try.prog (· < Try.prog.types.size) := kids_rows (by kernel_rfl) (by kernel_rfl)
theorem fullTry : ∀ t e, t < Try.prog.types.size → Try.prog.underlying t = some (.slice e) → 0 < Try.prog.cellsOf e := slices_full_of Try.prog (by kernel_rfl)
/-- How a law's call on the heap becomes the row's. -/
theorem law_calls {H : Type} {enc : TypeId × Value → H} {n : FuncId} {f : Func} {s : ChangeSpec} {W : World} {args : List Value} {ds gs : List (DataW H)} {before : List MemPlace} {tb : TypeId} {apart : Bool}
    (h : Fn n args W.heap fun v H' => v = .bool true ∧ ∃ C', Ev no W.heap C0 H' C')
    (hv : s.vars = []) (hW : DataW.Whole enc Try.prog f.params.toList s.vars apart W args ds gs before)
    (hT : ∀ t ∈ f.params.toList, t < Try.prog.types.size)
    (hres : (s.fn H (ds ++ gs)).results = [.lit (.bool true)]) (hargs : (s.fn H (ds ++ gs)).args = ds) (hvars : (s.fn H (ds ++ gs)).vars = []) (hrt : f.resultTypes = #[tb]) (hu : Try.prog.underlying tb = some .bool) :
    Calls Try.prog n ⟨args⟩ W fun e W' => ∃ v, e = .returned v ∧ s.post enc Try.prog f apart true false false W ⟨args⟩ v W' := by
  refine (h.2 W rfl).mono fun e W' ⟨v, he, hs, hv', C', hev⟩ => ?_
  subst hv'
  exact ⟨_, he, post_true hv hW hs hev.size (fun k hk => hev.keep k hk fun h => h) kidsTry fullTry hT hres hargs hvars hrt hu⟩
end Go.Proofs

namespace Go.Disk
open Go Go.Fx
set_option linter.unusedVariables false
/-! ## Deeds that come in -/
structure OpA where
  call : Nat
  name : Name
  dst : Name
  off : Int
  b : List UInt8
structure OpA.Ok (o : OpA) : Prop where
  call : o.call < 256
  name : o.name.size < 2 ^ 48
  dst : o.dst.size < 2 ^ 48
  off : -2 ^ 63 ≤ o.off ∧ o.off < 2 ^ 63
  b : o.b.length < 2 ^ 48
def opCells (o : OpA) (s : SlV) : List Value := [.int .u8 (o.call : Int), .string o.name, .string o.dst, .int .i64 o.off, .slice s.1 s.2.1 s.2.2]
def OpsAt (H : Heap) (C : Col) : List OpA → List Value → Prop
  | [], vs => vs = []
  | o :: os, vs => ∃ (s : SlV) (r : List Value), vs = opCells o s ++ r ∧ ByI H C s o.b ∧ o.Ok ∧ OpsAt H C os r
theorem OpsAt.ev {S : Lab → Prop} {H H' : Heap} {C C' : Col} (he : Ev S H C H' C') (hS : ∀ x, x.1 = 0 → ¬ S x) : ∀ {os : List OpA} {vs : List Value}, OpsAt H C os vs → OpsAt H' C' os vs
  | [], _, h => h
  | o :: os, vs, ⟨s, r, h1, h2, h3, h4⟩ => ⟨s, r, h1, h2.ev he hS, h3, OpsAt.ev he hS h4⟩
theorem OpsAt.get {H : Heap} {C : Col} : ∀ {os : List OpA} {vs : List Value} {i : Nat} {o : OpA}, OpsAt H C os vs → os[i]? = some o → ∃ s : SlV, (vs.drop (i * 5)).take 5 = opCells o s ∧ ByI H C s o.b ∧ o.Ok
  | [], vs, i, o, h, hi => by simp at hi
  | d :: os, vs, 0, o, ⟨s, r, h1, h2, h3, h4⟩, hi => by
    simp only [List.getElem?_cons_zero, Option.some.injEq] at hi
    subst hi
    exact ⟨s, by rw [h1]; rfl, h2, h3⟩
  | d :: os, vs, i + 1, o, ⟨s, r, h1, h2, h3, h4⟩, hi => by
    obtain ⟨t, g1, g2, g3⟩ := h4.get (i := i) (by simpa using hi)
    refine ⟨t, ?_, g2, g3⟩
    rw [← g1, h1, Nat.add_mul, Nat.one_mul]
    rfl
theorem OpsAt.len {H : Heap} {C : Col} : ∀ {os : List OpA} {vs : List Value}, OpsAt H C os vs → vs.length = os.length * 5
  | [], vs, h => by rw [h]; rfl
  | o :: os, vs, ⟨s, r, h1, _, _, h4⟩ => by
    rw [h1, List.length_append, h4.len, List.length_cons, Nat.add_mul]
    show 5 + _ = _
    omega
/-- A slice of deeds. -/
def OpsI (H : Heap) (C : Col) (a : Option Addr) (l c : Nat) (os : List OpA) : Prop := ∃ cells, SlI H C 5 a l c cells ∧ OpsAt H C os cells ∧ l = os.length
theorem OpsI.ev {S : Lab → Prop} {H H' : Heap} {C C' : Col} {a : Option Addr} {l c : Nat} {os : List OpA} (h : OpsI H C a l c os) (he : Ev S H C H' C') (hS : ∀ x, x.1 = 0 → ¬ S x) : OpsI H' C' a l c os := by
  obtain ⟨cells, h1, h2, h3⟩ := h
  exact ⟨cells, h1.ev he hS, h2.ev he hS, h3⟩
def dDo (o : OpA) (D : Disk) : Int × Disk :=
  if o.call = 0 then dCreate o.name D
  else if o.call = 1 then dAppend o.name o.b D
  else if o.call = 2 then dWrite o.name o.off o.b D
  else if o.call = 3 then dCut o.name o.off D
  else if o.call = 4 then dRename o.name o.dst D
  else if o.call = 5 then dRemove o.name D
  else if o.call = 6 then dSync o.name D
  else if o.call = 7 then dSyncDir D
  else if o.call = 8 then dArm o.off D
  else (0, D)
theorem dDo_good {o : OpA} (ho : o.Ok) {D : Disk} (h : DiskOk D) : Good D (dDo o D) := by
  unfold dDo
  split
  · exact dCreate_good h
  split
  · exact dAppend_good h
  split
  · exact dWrite_good h
  split
  · exact dCut_good h
  split
  · exact dRename_good h
  split
  · exact dRemove_good h
  split
  · exact dSync_good h
  split
  · exact dSyncDir_good h
  split
  · exact dArm_good ho.off.2 h
  · exact Good.same h _
end Go.Disk
namespace Go.Fx
open Go Go.Disk
theorem SlI.opRow {H : Heap} {C : Col} {a : Option Addr} {l c : Nat} {os : List OpA} (h : OpsI H C a l c os) {i : Nat} {o : OpA} (hi : os[i]? = some o) {K : Addr → Prop}
    (hK : ∀ e s, rowV H e 5 = some (.agg ⟨opCells o s⟩) → ByI H C s o.b → o.Ok → (∀ j, j < 5 → cellH H (e.add j) = (opCells o s)[j]?) → K e) : Idx a l (i : Int) 5 K := by
  obtain ⟨cells, h1, h2, h3⟩ := h
  obtain ⟨s, g1, g2, g3⟩ := h2.get hi
  have hil := (List.getElem?_eq_some_iff.1 hi).1
  refine h1.r.row (i := i) (by omega) fun e he ⟨b, off, hee, hc⟩ => hK e s (by rw [he, g1]) g2 g3 fun j hj => ?_
  rw [hee, add_mk, hc j hj, ← g1, List.getElem?_take, if_pos hj, List.getElem?_drop]
end Go.Fx
namespace Go.Proofs
open Go Go.Fx Go.Disk
set_option linter.unusedVariables false
set_option maxRecDepth 20000
theorem do_ok {H : Heap} {C : Col} {k p : Nat} {D : Disk} {o : OpA} {s : SlV} {K : Value → Heap → Prop} (hk : k ≠ 0) (h : IsFS H C k p D) (hD : DiskOk D) (ha : D.acts < 2 ^ 39) (hb : ByI H C s o.b) (ho : o.Ok)
    (hK : ∀ H' C', IsFS H' C' k p (dDo o D).2 → Ev (own k) H C H' C' → K (.int .i64 (dDo o D).1) H') :
    Fn 31 [.pointer (some ⟨p, 0, none⟩), .agg ⟨opCells o s⟩] H K := by
  unfold opCells
  refine F31_ok _ _ _ _ _ _ _ _ ?_
  unfold F31
  simp only [cellH_mk, cellO_some, add_mk, size_upd, upd_upd, one_int, one_bool, one_string, one_pointer, one_slice, one_map, one_func, st1_some, stN_nil, stN_cons, StV_mk, StO_some, Ld_some, RtI_mk, RtB_mk, RtS_mk, RtP_mk, RtL_mk, RtM_mk, RtA_mk, RtT_mk, NilC_some, New_eq, At_eq, Ck_true, Rt0_mk, BrB_true, BrB_false, Nat.zero_add, List.length_cons, List.length_nil, List.getElem?_cons_zero, List.getElem?_cons_succ, List.set_cons_zero, List.set_cons_succ, List.getD_cons_zero, List.getD_cons_succ, Option.isNone_some, Option.isNone_none, Go.Disk.fsO, Go.Disk.fileO, Bool.false_eq_true, eq_self, Nat.reduceAdd, Nat.reduceSub, Nat.reduceMul, Nat.reduceLT, Nat.reduceLeDiff, Nat.reduceEqDiff, Int.reduceNeg, Int.reduceEq, Int.reduceNe, Int.reduceBEq, Int.reduceBNe, Int.reduceLT, Int.reduceLE, Int.reduceGT, Int.reduceAdd, reduceIte, Bool.not_true, Bool.not_false, decide_true, decide_false, ne_eq, not_false_eq_true, not_true_eq_false, NewN_eq]
  have hev1 := ev_push no H C (.cells ⟨[.int .u8 (o.call : Int), .string o.name, .string o.dst, .int .i64 o.off, .slice s.1 s.2.1 s.2.2]⟩ 50) (0, 0)
  have hb1 : (H.push (.cells ⟨[.int .u8 (o.call : Int), .string o.name, .string o.dst, .int .i64 o.off, .slice s.1 s.2.1 s.2.2]⟩ 50))[H.size]? = some (.cells ⟨[.int .u8 (o.call : Int), .string o.name, .string o.dst, .int .i64 o.off, .slice s.1 s.2.1 s.2.2]⟩ 50) := get_push_self _ _
  have h1 := h.ev hev1 (fun _ _ h => h) fun _ _ h => h
  have g1 := hb.ev hev1 fun _ _ h => h
  have hev1 : Ev (own k) H C _ _ := hev1.mono fun _ h => h.elim
  have hK1 : ∀ {H2 C2 H' C'}, IsFS H' C' k p (dDo o D).2 → Ev (own k) H C H2 C2 → Ev (own k) H2 C2 H' C' → K (.int .i64 (dDo o D).1) H' := fun h2 e1 e2 => hK _ _ h2 (e1.trans e2)
  generalize H.push _ = H1 at *
  generalize setC C H.size (0, 0) = C1 at *
  generalize H.size = nb at *
  clear hK
  have hdn := ho.name
  have hdd := ho.dst
  have hdf := ho.off
  have hb2 : o.b.length < 2 ^ 60 := by have := ho.b; omega
  unfold dDo at hK1
  simp only [cellH_mk, cellO_some, add_mk, size_upd, upd_upd, one_int, one_bool, one_string, one_pointer, one_slice, one_map, one_func, st1_some, stN_nil, stN_cons, StV_mk, StO_some, Ld_some, RtI_mk, RtB_mk, RtS_mk, RtP_mk, RtL_mk, RtM_mk, RtA_mk, RtT_mk, NilC_some, New_eq, At_eq, Ck_true, Rt0_mk, BrB_true, BrB_false, Nat.zero_add, List.length_cons, List.length_nil, List.getElem?_cons_zero, List.getElem?_cons_succ, List.set_cons_zero, List.set_cons_succ, List.getD_cons_zero, List.getD_cons_succ, Option.isNone_some, Option.isNone_none, Go.Disk.fsO, Go.Disk.fileO, Bool.false_eq_true, eq_self, Nat.reduceAdd, Nat.reduceSub, Nat.reduceMul, Nat.reduceLT, Nat.reduceLeDiff, Nat.reduceEqDiff, Int.reduceNeg, Int.reduceEq, Int.reduceNe, Int.reduceBEq, Int.reduceBNe, Int.reduceLT, Int.reduceLE, Int.reduceGT, Int.reduceAdd, reduceIte, Bool.not_true, Bool.not_false, decide_true, decide_false, ne_eq, not_false_eq_true, not_true_eq_false, hb1]
  have nx : ∀ {n : Nat}, ((o.call : Int) == (n : Int)) = false → o.call ≠ n := fun h e => by rw [e] at h; simp at h
  have px : ∀ {n : Nat}, ((o.call : Int) == (n : Int)) = true → o.call = n := fun h => by have := eq_of_beq h; omega
  refine BrB_i (fun e => ?_) (fun e0 => ?_)
  · have e := px (n := 0) e
    rw [if_pos e] at hK1
    simp only [cellH_mk, cellO_some, add_mk, size_upd, upd_upd, one_int, one_bool, one_string, one_pointer, one_slice, one_map, one_func, st1_some, stN_nil, stN_cons, StV_mk, StO_some, Ld_some, RtI_mk, RtB_mk, RtS_mk, RtP_mk, RtL_mk, RtM_mk, RtA_mk, RtT_mk, NilC_some, New_eq, At_eq, Ck_true, Rt0_mk, BrB_true, BrB_false, Nat.zero_add, List.length_cons, List.length_nil, List.getElem?_cons_zero, List.getElem?_cons_succ, List.set_cons_zero, List.set_cons_succ, List.getD_cons_zero, List.getD_cons_succ, Option.isNone_some, Option.isNone_none, Go.Disk.fsO, Go.Disk.fileO, Bool.false_eq_true, eq_self, Nat.reduceAdd, Nat.reduceSub, Nat.reduceMul, Nat.reduceLT, Nat.reduceLeDiff, Nat.reduceEqDiff, Int.reduceNeg, Int.reduceEq, Int.reduceNe, Int.reduceBEq, Int.reduceBNe, Int.reduceLT, Int.reduceLE, Int.reduceGT, Int.reduceAdd, reduceIte, Bool.not_true, Bool.not_false, decide_true, decide_false, ne_eq, not_false_eq_true, not_true_eq_false, hb1]
    refine Create_ok (name := o.name) hk h1 hD ha (by omega) fun H2 C2 h2 hev2 => ?_
    simp only [cellH_mk, cellO_some, add_mk, size_upd, upd_upd, one_int, one_bool, one_string, one_pointer, one_slice, one_map, one_func, st1_some, stN_nil, stN_cons, StV_mk, StO_some, Ld_some, RtI_mk, RtB_mk, RtS_mk, RtP_mk, RtL_mk, RtM_mk, RtA_mk, RtT_mk, NilC_some, New_eq, At_eq, Ck_true, Rt0_mk, BrB_true, BrB_false, Nat.zero_add, List.length_cons, List.length_nil, List.getElem?_cons_zero, List.getElem?_cons_succ, List.set_cons_zero, List.set_cons_succ, List.getD_cons_zero, List.getD_cons_succ, Option.isNone_some, Option.isNone_none, Go.Disk.fsO, Go.Disk.fileO, Bool.false_eq_true, eq_self, Nat.reduceAdd, Nat.reduceSub, Nat.reduceMul, Nat.reduceLT, Nat.reduceLeDiff, Nat.reduceEqDiff, Int.reduceNeg, Int.reduceEq, Int.reduceNe, Int.reduceBEq, Int.reduceBNe, Int.reduceLT, Int.reduceLE, Int.reduceGT, Int.reduceAdd, reduceIte, Bool.not_true, Bool.not_false, decide_true, decide_false, ne_eq, not_false_eq_true, not_true_eq_false]
    exact hK1 h2 hev1 hev2
  have e0 := nx (n := 0) e0
  rw [if_neg e0] at hK1
  refine BrB_i (fun e => ?_) (fun e0 => ?_)
  · have e := px (n := 1) e
    rw [if_pos e] at hK1
    simp only [cellH_mk, cellO_some, add_mk, size_upd, upd_upd, one_int, one_bool, one_string, one_pointer, one_slice, one_map, one_func, st1_some, stN_nil, stN_cons, StV_mk, StO_some, Ld_some, RtI_mk, RtB_mk, RtS_mk, RtP_mk, RtL_mk, RtM_mk, RtA_mk, RtT_mk, NilC_some, New_eq, At_eq, Ck_true, Rt0_mk, BrB_true, BrB_false, Nat.zero_add, List.length_cons, List.length_nil, List.getElem?_cons_zero, List.getElem?_cons_succ, List.set_cons_zero, List.set_cons_succ, List.getD_cons_zero, List.getD_cons_succ, Option.isNone_some, Option.isNone_none, Go.Disk.fsO, Go.Disk.fileO, Bool.false_eq_true, eq_self, Nat.reduceAdd, Nat.reduceSub, Nat.reduceMul, Nat.reduceLT, Nat.reduceLeDiff, Nat.reduceEqDiff, Int.reduceNeg, Int.reduceEq, Int.reduceNe, Int.reduceBEq, Int.reduceBNe, Int.reduceLT, Int.reduceLE, Int.reduceGT, Int.reduceAdd, reduceIte, Bool.not_true, Bool.not_false, decide_true, decide_false, ne_eq, not_false_eq_true, not_true_eq_false, hb1]
    refine Append_ok hk h1 hD ha g1.r fun H2 C2 h2 hev2 => ?_
    simp only [cellH_mk, cellO_some, add_mk, size_upd, upd_upd, one_int, one_bool, one_string, one_pointer, one_slice, one_map, one_func, st1_some, stN_nil, stN_cons, StV_mk, StO_some, Ld_some, RtI_mk, RtB_mk, RtS_mk, RtP_mk, RtL_mk, RtM_mk, RtA_mk, RtT_mk, NilC_some, New_eq, At_eq, Ck_true, Rt0_mk, BrB_true, BrB_false, Nat.zero_add, List.length_cons, List.length_nil, List.getElem?_cons_zero, List.getElem?_cons_succ, List.set_cons_zero, List.set_cons_succ, List.getD_cons_zero, List.getD_cons_succ, Option.isNone_some, Option.isNone_none, Go.Disk.fsO, Go.Disk.fileO, Bool.false_eq_true, eq_self, Nat.reduceAdd, Nat.reduceSub, Nat.reduceMul, Nat.reduceLT, Nat.reduceLeDiff, Nat.reduceEqDiff, Int.reduceNeg, Int.reduceEq, Int.reduceNe, Int.reduceBEq, Int.reduceBNe, Int.reduceLT, Int.reduceLE, Int.reduceGT, Int.reduceAdd, reduceIte, Bool.not_true, Bool.not_false, decide_true, decide_false, ne_eq, not_false_eq_true, not_true_eq_false]
    exact hK1 h2 hev1 hev2
  have e0 := nx (n := 1) e0
  rw [if_neg e0] at hK1
  refine BrB_i (fun e => ?_) (fun e0 => ?_)
  · have e := px (n := 2) e
    rw [if_pos e] at hK1
    simp only [cellH_mk, cellO_some, add_mk, size_upd, upd_upd, one_int, one_bool, one_string, one_pointer, one_slice, one_map, one_func, st1_some, stN_nil, stN_cons, StV_mk, StO_some, Ld_some, RtI_mk, RtB_mk, RtS_mk, RtP_mk, RtL_mk, RtM_mk, RtA_mk, RtT_mk, NilC_some, New_eq, At_eq, Ck_true, Rt0_mk, BrB_true, BrB_false, Nat.zero_add, List.length_cons, List.length_nil, List.getElem?_cons_zero, List.getElem?_cons_succ, List.set_cons_zero, List.set_cons_succ, List.getD_cons_zero, List.getD_cons_succ, Option.isNone_some, Option.isNone_none, Go.Disk.fsO, Go.Disk.fileO, Bool.false_eq_true, eq_self, Nat.reduceAdd, Nat.reduceSub, Nat.reduceMul, Nat.reduceLT, Nat.reduceLeDiff, Nat.reduceEqDiff, Int.reduceNeg, Int.reduceEq, Int.reduceNe, Int.reduceBEq, Int.reduceBNe, Int.reduceLT, Int.reduceLE, Int.reduceGT, Int.reduceAdd, reduceIte, Bool.not_true, Bool.not_false, decide_true, decide_false, ne_eq, not_false_eq_true, not_true_eq_false, hb1]
    refine Write_ok hk h1 hD ha g1.r hb2 ho.off fun H2 C2 h2 hev2 => ?_
    simp only [cellH_mk, cellO_some, add_mk, size_upd, upd_upd, one_int, one_bool, one_string, one_pointer, one_slice, one_map, one_func, st1_some, stN_nil, stN_cons, StV_mk, StO_some, Ld_some, RtI_mk, RtB_mk, RtS_mk, RtP_mk, RtL_mk, RtM_mk, RtA_mk, RtT_mk, NilC_some, New_eq, At_eq, Ck_true, Rt0_mk, BrB_true, BrB_false, Nat.zero_add, List.length_cons, List.length_nil, List.getElem?_cons_zero, List.getElem?_cons_succ, List.set_cons_zero, List.set_cons_succ, List.getD_cons_zero, List.getD_cons_succ, Option.isNone_some, Option.isNone_none, Go.Disk.fsO, Go.Disk.fileO, Bool.false_eq_true, eq_self, Nat.reduceAdd, Nat.reduceSub, Nat.reduceMul, Nat.reduceLT, Nat.reduceLeDiff, Nat.reduceEqDiff, Int.reduceNeg, Int.reduceEq, Int.reduceNe, Int.reduceBEq, Int.reduceBNe, Int.reduceLT, Int.reduceLE, Int.reduceGT, Int.reduceAdd, reduceIte, Bool.not_true, Bool.not_false, decide_true, decide_false, ne_eq, not_false_eq_true, not_true_eq_false]
    exact hK1 h2 hev1 hev2
  have e0 := nx (n := 2) e0
  rw [if_neg e0] at hK1
  refine BrB_i (fun e => ?_) (fun e0 => ?_)
  · have e := px (n := 3) e
    rw [if_pos e] at hK1
    simp only [cellH_mk, cellO_some, add_mk, size_upd, upd_upd, one_int, one_bool, one_string, one_pointer, one_slice, one_map, one_func, st1_some, stN_nil, stN_cons, StV_mk, StO_some, Ld_some, RtI_mk, RtB_mk, RtS_mk, RtP_mk, RtL_mk, RtM_mk, RtA_mk, RtT_mk, NilC_some, New_eq, At_eq, Ck_true, Rt0_mk, BrB_true, BrB_false, Nat.zero_add, List.length_cons, List.length_nil, List.getElem?_cons_zero, List.getElem?_cons_succ, List.set_cons_zero, List.set_cons_succ, List.getD_cons_zero, List.getD_cons_succ, Option.isNone_some, Option.isNone_none, Go.Disk.fsO, Go.Disk.fileO, Bool.false_eq_true, eq_self, Nat.reduceAdd, Nat.reduceSub, Nat.reduceMul, Nat.reduceLT, Nat.reduceLeDiff, Nat.reduceEqDiff, Int.reduceNeg, Int.reduceEq, Int.reduceNe, Int.reduceBEq, Int.reduceBNe, Int.reduceLT, Int.reduceLE, Int.reduceGT, Int.reduceAdd, reduceIte, Bool.not_true, Bool.not_false, decide_true, decide_false, ne_eq, not_false_eq_true, not_true_eq_false, hb1]
    refine Cut_ok hk h1 hD ha fun H2 C2 h2 hev2 => ?_
    simp only [cellH_mk, cellO_some, add_mk, size_upd, upd_upd, one_int, one_bool, one_string, one_pointer, one_slice, one_map, one_func, st1_some, stN_nil, stN_cons, StV_mk, StO_some, Ld_some, RtI_mk, RtB_mk, RtS_mk, RtP_mk, RtL_mk, RtM_mk, RtA_mk, RtT_mk, NilC_some, New_eq, At_eq, Ck_true, Rt0_mk, BrB_true, BrB_false, Nat.zero_add, List.length_cons, List.length_nil, List.getElem?_cons_zero, List.getElem?_cons_succ, List.set_cons_zero, List.set_cons_succ, List.getD_cons_zero, List.getD_cons_succ, Option.isNone_some, Option.isNone_none, Go.Disk.fsO, Go.Disk.fileO, Bool.false_eq_true, eq_self, Nat.reduceAdd, Nat.reduceSub, Nat.reduceMul, Nat.reduceLT, Nat.reduceLeDiff, Nat.reduceEqDiff, Int.reduceNeg, Int.reduceEq, Int.reduceNe, Int.reduceBEq, Int.reduceBNe, Int.reduceLT, Int.reduceLE, Int.reduceGT, Int.reduceAdd, reduceIte, Bool.not_true, Bool.not_false, decide_true, decide_false, ne_eq, not_false_eq_true, not_true_eq_false]
    exact hK1 h2 hev1 hev2
  have e0 := nx (n := 3) e0
  rw [if_neg e0] at hK1
  refine BrB_i (fun e => ?_) (fun e0 => ?_)
  · have e := px (n := 4) e
    rw [if_pos e] at hK1
    simp only [cellH_mk, cellO_some, add_mk, size_upd, upd_upd, one_int, one_bool, one_string, one_pointer, one_slice, one_map, one_func, st1_some, stN_nil, stN_cons, StV_mk, StO_some, Ld_some, RtI_mk, RtB_mk, RtS_mk, RtP_mk, RtL_mk, RtM_mk, RtA_mk, RtT_mk, NilC_some, New_eq, At_eq, Ck_true, Rt0_mk, BrB_true, BrB_false, Nat.zero_add, List.length_cons, List.length_nil, List.getElem?_cons_zero, List.getElem?_cons_succ, List.set_cons_zero, List.set_cons_succ, List.getD_cons_zero, List.getD_cons_succ, Option.isNone_some, Option.isNone_none, Go.Disk.fsO, Go.Disk.fileO, Bool.false_eq_true, eq_self, Nat.reduceAdd, Nat.reduceSub, Nat.reduceMul, Nat.reduceLT, Nat.reduceLeDiff, Nat.reduceEqDiff, Int.reduceNeg, Int.reduceEq, Int.reduceNe, Int.reduceBEq, Int.reduceBNe, Int.reduceLT, Int.reduceLE, Int.reduceGT, Int.reduceAdd, reduceIte, Bool.not_true, Bool.not_false, decide_true, decide_false, ne_eq, not_false_eq_true, not_true_eq_false, hb1]
    refine Rename_ok (dst := o.dst) hk h1 hD ha (by omega) fun H2 C2 h2 hev2 => ?_
    simp only [cellH_mk, cellO_some, add_mk, size_upd, upd_upd, one_int, one_bool, one_string, one_pointer, one_slice, one_map, one_func, st1_some, stN_nil, stN_cons, StV_mk, StO_some, Ld_some, RtI_mk, RtB_mk, RtS_mk, RtP_mk, RtL_mk, RtM_mk, RtA_mk, RtT_mk, NilC_some, New_eq, At_eq, Ck_true, Rt0_mk, BrB_true, BrB_false, Nat.zero_add, List.length_cons, List.length_nil, List.getElem?_cons_zero, List.getElem?_cons_succ, List.set_cons_zero, List.set_cons_succ, List.getD_cons_zero, List.getD_cons_succ, Option.isNone_some, Option.isNone_none, Go.Disk.fsO, Go.Disk.fileO, Bool.false_eq_true, eq_self, Nat.reduceAdd, Nat.reduceSub, Nat.reduceMul, Nat.reduceLT, Nat.reduceLeDiff, Nat.reduceEqDiff, Int.reduceNeg, Int.reduceEq, Int.reduceNe, Int.reduceBEq, Int.reduceBNe, Int.reduceLT, Int.reduceLE, Int.reduceGT, Int.reduceAdd, reduceIte, Bool.not_true, Bool.not_false, decide_true, decide_false, ne_eq, not_false_eq_true, not_true_eq_false]
    exact hK1 h2 hev1 hev2
  have e0 := nx (n := 4) e0
  rw [if_neg e0] at hK1
  refine BrB_i (fun e => ?_) (fun e0 => ?_)
  · have e := px (n := 5) e
    rw [if_pos e] at hK1
    simp only [cellH_mk, cellO_some, add_mk, size_upd, upd_upd, one_int, one_bool, one_string, one_pointer, one_slice, one_map, one_func, st1_some, stN_nil, stN_cons, StV_mk, StO_some, Ld_some, RtI_mk, RtB_mk, RtS_mk, RtP_mk, RtL_mk, RtM_mk, RtA_mk, RtT_mk, NilC_some, New_eq, At_eq, Ck_true, Rt0_mk, BrB_true, BrB_false, Nat.zero_add, List.length_cons, List.length_nil, List.getElem?_cons_zero, List.getElem?_cons_succ, List.set_cons_zero, List.set_cons_succ, List.getD_cons_zero, List.getD_cons_succ, Option.isNone_some, Option.isNone_none, Go.Disk.fsO, Go.Disk.fileO, Bool.false_eq_true, eq_self, Nat.reduceAdd, Nat.reduceSub, Nat.reduceMul, Nat.reduceLT, Nat.reduceLeDiff, Nat.reduceEqDiff, Int.reduceNeg, Int.reduceEq, Int.reduceNe, Int.reduceBEq, Int.reduceBNe, Int.reduceLT, Int.reduceLE, Int.reduceGT, Int.reduceAdd, reduceIte, Bool.not_true, Bool.not_false, decide_true, decide_false, ne_eq, not_false_eq_true, not_true_eq_false, hb1]
    refine Remove_ok hk h1 hD ha fun H2 C2 h2 hev2 => ?_
    simp only [cellH_mk, cellO_some, add_mk, size_upd, upd_upd, one_int, one_bool, one_string, one_pointer, one_slice, one_map, one_func, st1_some, stN_nil, stN_cons, StV_mk, StO_some, Ld_some, RtI_mk, RtB_mk, RtS_mk, RtP_mk, RtL_mk, RtM_mk, RtA_mk, RtT_mk, NilC_some, New_eq, At_eq, Ck_true, Rt0_mk, BrB_true, BrB_false, Nat.zero_add, List.length_cons, List.length_nil, List.getElem?_cons_zero, List.getElem?_cons_succ, List.set_cons_zero, List.set_cons_succ, List.getD_cons_zero, List.getD_cons_succ, Option.isNone_some, Option.isNone_none, Go.Disk.fsO, Go.Disk.fileO, Bool.false_eq_true, eq_self, Nat.reduceAdd, Nat.reduceSub, Nat.reduceMul, Nat.reduceLT, Nat.reduceLeDiff, Nat.reduceEqDiff, Int.reduceNeg, Int.reduceEq, Int.reduceNe, Int.reduceBEq, Int.reduceBNe, Int.reduceLT, Int.reduceLE, Int.reduceGT, Int.reduceAdd, reduceIte, Bool.not_true, Bool.not_false, decide_true, decide_false, ne_eq, not_false_eq_true, not_true_eq_false]
    exact hK1 h2 hev1 hev2
  have e0 := nx (n := 5) e0
  rw [if_neg e0] at hK1
  refine BrB_i (fun e => ?_) (fun e0 => ?_)
  · have e := px (n := 6) e
    rw [if_pos e] at hK1
    simp only [cellH_mk, cellO_some, add_mk, size_upd, upd_upd, one_int, one_bool, one_string, one_pointer, one_slice, one_map, one_func, st1_some, stN_nil, stN_cons, StV_mk, StO_some, Ld_some, RtI_mk, RtB_mk, RtS_mk, RtP_mk, RtL_mk, RtM_mk, RtA_mk, RtT_mk, NilC_some, New_eq, At_eq, Ck_true, Rt0_mk, BrB_true, BrB_false, Nat.zero_add, List.length_cons, List.length_nil, List.getElem?_cons_zero, List.getElem?_cons_succ, List.set_cons_zero, List.set_cons_succ, List.getD_cons_zero, List.getD_cons_succ, Option.isNone_some, Option.isNone_none, Go.Disk.fsO, Go.Disk.fileO, Bool.false_eq_true, eq_self, Nat.reduceAdd, Nat.reduceSub, Nat.reduceMul, Nat.reduceLT, Nat.reduceLeDiff, Nat.reduceEqDiff, Int.reduceNeg, Int.reduceEq, Int.reduceNe, Int.reduceBEq, Int.reduceBNe, Int.reduceLT, Int.reduceLE, Int.reduceGT, Int.reduceAdd, reduceIte, Bool.not_true, Bool.not_false, decide_true, decide_false, ne_eq, not_false_eq_true, not_true_eq_false, hb1]
    refine Sync_ok hk h1 hD ha fun H2 C2 h2 hev2 => ?_
    simp only [cellH_mk, cellO_some, add_mk, size_upd, upd_upd, one_int, one_bool, one_string, one_pointer, one_slice, one_map, one_func, st1_some, stN_nil, stN_cons, StV_mk, StO_some, Ld_some, RtI_mk, RtB_mk, RtS_mk, RtP_mk, RtL_mk, RtM_mk, RtA_mk, RtT_mk, NilC_some, New_eq, At_eq, Ck_true, Rt0_mk, BrB_true, BrB_false, Nat.zero_add, List.length_cons, List.length_nil, List.getElem?_cons_zero, List.getElem?_cons_succ, List.set_cons_zero, List.set_cons_succ, List.getD_cons_zero, List.getD_cons_succ, Option.isNone_some, Option.isNone_none, Go.Disk.fsO, Go.Disk.fileO, Bool.false_eq_true, eq_self, Nat.reduceAdd, Nat.reduceSub, Nat.reduceMul, Nat.reduceLT, Nat.reduceLeDiff, Nat.reduceEqDiff, Int.reduceNeg, Int.reduceEq, Int.reduceNe, Int.reduceBEq, Int.reduceBNe, Int.reduceLT, Int.reduceLE, Int.reduceGT, Int.reduceAdd, reduceIte, Bool.not_true, Bool.not_false, decide_true, decide_false, ne_eq, not_false_eq_true, not_true_eq_false]
    exact hK1 h2 hev1 hev2
  have e0 := nx (n := 6) e0
  rw [if_neg e0] at hK1
  refine BrB_i (fun e => ?_) (fun e0 => ?_)
  · have e := px (n := 7) e
    rw [if_pos e] at hK1
    refine SyncDir_ok hk h1 hD ha fun H2 C2 h2 hev2 => ?_
    simp only [cellH_mk, cellO_some, add_mk, size_upd, upd_upd, one_int, one_bool, one_string, one_pointer, one_slice, one_map, one_func, st1_some, stN_nil, stN_cons, StV_mk, StO_some, Ld_some, RtI_mk, RtB_mk, RtS_mk, RtP_mk, RtL_mk, RtM_mk, RtA_mk, RtT_mk, NilC_some, New_eq, At_eq, Ck_true, Rt0_mk, BrB_true, BrB_false, Nat.zero_add, List.length_cons, List.length_nil, List.getElem?_cons_zero, List.getElem?_cons_succ, List.set_cons_zero, List.set_cons_succ, List.getD_cons_zero, List.getD_cons_succ, Option.isNone_some, Option.isNone_none, Go.Disk.fsO, Go.Disk.fileO, Bool.false_eq_true, eq_self, Nat.reduceAdd, Nat.reduceSub, Nat.reduceMul, Nat.reduceLT, Nat.reduceLeDiff, Nat.reduceEqDiff, Int.reduceNeg, Int.reduceEq, Int.reduceNe, Int.reduceBEq, Int.reduceBNe, Int.reduceLT, Int.reduceLE, Int.reduceGT, Int.reduceAdd, reduceIte, Bool.not_true, Bool.not_false, decide_true, decide_false, ne_eq, not_false_eq_true, not_true_eq_false]
    exact hK1 h2 hev1 hev2
  have e0 := nx (n := 7) e0
  rw [if_neg e0] at hK1
  refine BrB_i (fun e => ?_) (fun e0 => ?_)
  · have e := px (n := 8) e
    rw [if_pos e] at hK1
    simp only [cellH_mk, cellO_some, add_mk, size_upd, upd_upd, one_int, one_bool, one_string, one_pointer, one_slice, one_map, one_func, st1_some, stN_nil, stN_cons, StV_mk, StO_some, Ld_some, RtI_mk, RtB_mk, RtS_mk, RtP_mk, RtL_mk, RtM_mk, RtA_mk, RtT_mk, NilC_some, New_eq, At_eq, Ck_true, Rt0_mk, BrB_true, BrB_false, Nat.zero_add, List.length_cons, List.length_nil, List.getElem?_cons_zero, List.getElem?_cons_succ, List.set_cons_zero, List.set_cons_succ, List.getD_cons_zero, List.getD_cons_succ, Option.isNone_some, Option.isNone_none, Go.Disk.fsO, Go.Disk.fileO, Bool.false_eq_true, eq_self, Nat.reduceAdd, Nat.reduceSub, Nat.reduceMul, Nat.reduceLT, Nat.reduceLeDiff, Nat.reduceEqDiff, Int.reduceNeg, Int.reduceEq, Int.reduceNe, Int.reduceBEq, Int.reduceBNe, Int.reduceLT, Int.reduceLE, Int.reduceGT, Int.reduceAdd, reduceIte, Bool.not_true, Bool.not_false, decide_true, decide_false, ne_eq, not_false_eq_true, not_true_eq_false, hb1]
    refine Arm_ok hk h1 fun H2 C2 h2 hev2 => ?_
    simp only [cellH_mk, cellO_some, add_mk, size_upd, upd_upd, one_int, one_bool, one_string, one_pointer, one_slice, one_map, one_func, st1_some, stN_nil, stN_cons, StV_mk, StO_some, Ld_some, RtI_mk, RtB_mk, RtS_mk, RtP_mk, RtL_mk, RtM_mk, RtA_mk, RtT_mk, NilC_some, New_eq, At_eq, Ck_true, Rt0_mk, BrB_true, BrB_false, Nat.zero_add, List.length_cons, List.length_nil, List.getElem?_cons_zero, List.getElem?_cons_succ, List.set_cons_zero, List.set_cons_succ, List.getD_cons_zero, List.getD_cons_succ, Option.isNone_some, Option.isNone_none, Go.Disk.fsO, Go.Disk.fileO, Bool.false_eq_true, eq_self, Nat.reduceAdd, Nat.reduceSub, Nat.reduceMul, Nat.reduceLT, Nat.reduceLeDiff, Nat.reduceEqDiff, Int.reduceNeg, Int.reduceEq, Int.reduceNe, Int.reduceBEq, Int.reduceBNe, Int.reduceLT, Int.reduceLE, Int.reduceGT, Int.reduceAdd, reduceIte, Bool.not_true, Bool.not_false, decide_true, decide_false, ne_eq, not_false_eq_true, not_true_eq_false]
    exact hK1 h2 hev1 hev2
  have e0 := nx (n := 8) e0
  rw [if_neg e0] at hK1
  exact hK1 h1 hev1 (Ev.refl _ _ _)

theorem great_ok {H : Heap} {C : Col} {a : Option Addr} {l c : Nat} {os : List OpA} {K : Value → Heap → Prop} (h : OpsI H C a l c os) (hl : l < 2 ^ 60)
    (hK : ∀ b : Bool, (b = false → os.length ≤ 120 ∧ ∀ o ∈ os, o.b.length ≤ 20000) → K (.bool b) H) : Fn 30 [.slice a l c] H K := by
  refine F30_ok _ _ _ ?_
  unfold F30
  have hlen : l = os.length := h.choose_spec.2.2
  refine ⟨fun n i H' => H' = H ∧ ∃ m : Nat, i = (m : Int) ∧ m ≤ l ∧ 0 ≤ n ∧ n ≤ 40001 ∧ ∀ j o, j < m → os[j]? = some o → ((Nat.min o.b.length 20001 : Nat) : Int) ≤ n, fun _ i _ => l - i.toNat, ⟨rfl, 0, rfl, by omega, by omega, by omega, fun j o hj => absurd hj (by omega)⟩, ?_⟩
  rintro fr n i H' ⟨rfl, m, rfl, hm, hn0, hn1, hall⟩
  simp only [cellH_mk, cellO_some, add_mk, size_upd, upd_upd, one_int, one_bool, one_string, one_pointer, one_slice, one_map, one_func, st1_some, stN_nil, stN_cons, StV_mk, StO_some, Ld_some, RtI_mk, RtB_mk, RtS_mk, RtP_mk, RtL_mk, RtM_mk, RtA_mk, RtT_mk, NilC_some, New_eq, At_eq, Ck_true, Rt0_mk, BrB_true, BrB_false, Nat.zero_add, List.length_cons, List.length_nil, List.getElem?_cons_zero, List.getElem?_cons_succ, List.set_cons_zero, List.set_cons_succ, List.getD_cons_zero, List.getD_cons_succ, Option.isNone_some, Option.isNone_none, Go.Disk.fsO, Go.Disk.fileO, Bool.false_eq_true, eq_self, Nat.reduceAdd, Nat.reduceSub, Nat.reduceMul, Nat.reduceLT, Nat.reduceLeDiff, Nat.reduceEqDiff, Int.reduceNeg, Int.reduceEq, Int.reduceNe, Int.reduceBEq, Int.reduceBNe, Int.reduceLT, Int.reduceLE, Int.reduceGT, Int.reduceAdd, reduceIte, Bool.not_true, Bool.not_false, decide_true, decide_false, ne_eq, not_false_eq_true, not_true_eq_false]
  have fin : (n ≤ 20000 → m = l) → BrB (decide (((l : Nat) : Int) > 120)) (K (.bool true) H') (K (.bool (decide (n > 20000))) H') := by
    intro hx
    refine BrB_i (fun h => hK true fun h => (nomatch h)) (fun h => hK _ fun hb => ?_)
    have h := of_decide_eq_false h
    have hb := of_decide_eq_false hb
    have hml := hx (by omega)
    refine ⟨by omega, fun o ho => ?_⟩
    obtain ⟨j, hj, hjo⟩ := List.getElem_of_mem ho
    have := hall j o (by omega) (by rw [List.getElem?_eq_getElem hj, hjo])
    have h2 : Nat.min o.b.length 20001 ≤ 20000 := by omega
    by_cases h3 : o.b.length ≤ 20001
    · rw [show Nat.min o.b.length 20001 = o.b.length from Nat.min_eq_left h3] at h2; exact h2
    · rw [show Nat.min o.b.length 20001 = 20001 from Nat.min_eq_right (by omega)] at h2; omega
  refine BrB_i (fun h1 => ?_) (fun h1 => ?_)
  · have h1 := of_decide_eq_true h1
    refine BrB_i (fun h2 => ?_) (fun h2 => ?_)
    · have h2 := of_decide_eq_true h2
      have ho : os[m]? = some (os[m]'(by omega)) := List.getElem?_eq_getElem _
      generalize os[m]'(by omega) = o at ho
      refine SlI.opRow h ho fun e s he hs hok hc => ?_
      have hc4 := hc 4 (by omega)
      have e4 : (opCells o s)[4]? = some (.slice s.1 s.2.1 s.2.2) := rfl
      rw [e4] at hc4
      simp only [cellH_mk, cellO_some, add_mk, size_upd, upd_upd, one_int, one_bool, one_string, one_pointer, one_slice, one_map, one_func, st1_some, stN_nil, stN_cons, StV_mk, StO_some, Ld_some, RtI_mk, RtB_mk, RtS_mk, RtP_mk, RtL_mk, RtM_mk, RtA_mk, RtT_mk, NilC_some, New_eq, At_eq, Ck_true, Rt0_mk, BrB_true, BrB_false, Nat.zero_add, List.length_cons, List.length_nil, List.getElem?_cons_zero, List.getElem?_cons_succ, List.set_cons_zero, List.set_cons_succ, List.getD_cons_zero, List.getD_cons_succ, Option.isNone_some, Option.isNone_none, Go.Disk.fsO, Go.Disk.fileO, Bool.false_eq_true, eq_self, Nat.reduceAdd, Nat.reduceSub, Nat.reduceMul, Nat.reduceLT, Nat.reduceLeDiff, Nat.reduceEqDiff, Int.reduceNeg, Int.reduceEq, Int.reduceNe, Int.reduceBEq, Int.reduceBNe, Int.reduceLT, Int.reduceLE, Int.reduceGT, Int.reduceAdd, reduceIte, Bool.not_true, Bool.not_false, decide_true, decide_false, ne_eq, not_false_eq_true, not_true_eq_false, hc4]
      have hsl := hs.len
      have hmin : imin ((s.2.1 : Nat) : Int) 20001 = ((Nat.min o.b.length 20001 : Nat) : Int) := by
        unfold imin
        rw [hsl]
        by_cases h3 : o.b.length ≤ 20001
        · rw [show Nat.min o.b.length 20001 = o.b.length from Nat.min_eq_left h3]
          split <;> omega
        · rw [show Nat.min o.b.length 20001 = 20001 from Nat.min_eq_right (by omega)]
          split <;> omega
      have hml : Nat.min o.b.length 20001 ≤ 20001 := Nat.min_le_right _ _
      rw [hmin]
      generalize hmm : Nat.min o.b.length 20001 = mm at *
      rw [w64 (by omega) (by omega), w64 (by omega) (by omega)]
      refine ⟨⟨trivial, m + 1, by omega, by omega, by omega, by omega, fun j o' hj ho' => ?_⟩, ?_⟩
      · by_cases e : j = m
        · subst e
          rw [ho] at ho'
          cases ho'
          rw [hmm]; omega
        · have := hall j o' (by omega) ho'
          omega
      · show l - ((m : Int) + 1).toNat < l - ((m : Nat) : Int).toNat
        omega
    · have h2 := of_decide_eq_false h2
      exact fin fun h => absurd h h2
  · have h1 := of_decide_eq_false h1
    exact fin fun _ => by omega
end Go.Proofs

namespace Go.Fx
open Go Go.Disk Go.Proofs Go.ChangeShapes Go.WideShapes Go.ChangeAt Go.RowKit Go.Deep
set_option linter.unusedVariables false
section
variable {H : Type} {enc : TypeId × Value → H} {P : Program}
theorem weights_all_mem {P : Program} {e : TypeId} {x : Nat} {D : Nat → DataW H} {i : Nat} (hx : x ∈ (D i).weights P e) : ∀ (L : List Nat), i ∈ L → x ∈ DataW.weightsAll P e (L.map D)
  | [], h => by cases h
  | y :: ys, h => by
    simp only [List.map_cons, DataW.weightsAll, List.mem_append]
    rcases List.mem_cons.1 h with rfl | h
    · exact .inl hx
    · exact .inr (weights_all_mem hx ys h)
/-- A slice that came in, its elements of any cells. -/
theorem arg_sliceN {t e : TypeId} {w : World} {v : Value} {d : DataW H} {p : List MemPlace} {r : Reach} {b0 : Nat} {n : Nat} (ht : P.underlying t = some (.slice e)) (hc : P.cellsOf e = n) (hn : 0 < n) (hval : Value.okWide P w r b0 t v)
    (hd : DataW.Trod enc P w 0 (fun _ => true) true t v d p) (hz : Sized P t d) :
    ∃ a l c, v = .slice a l c ∧ c * P.bytesOf e ≤ reachBytes ∧ ∃ (cells : List Value) (D : Nat → DataW H) (Pl : Nat → List MemPlace) (m : Nat), SlI w.heap C0 n a l c cells ∧
      ∀ i, i < l → DataW.trod enc P w 0 (fun _ => true) true m e ((cells.drop (i * n)).take n) = some (D i, Pl i) ∧ Sized P e (D i) := by
  obtain ⟨a, l, c, rfl⟩ := okWide_slice ht hval
  obtain ⟨fuel, hf⟩ := hd
  refine ⟨a, l, c, rfl, ?_⟩
  rcases open_slice ht hf with ⟨hcs, hx⟩ | ⟨a', l', c', m, k, D, Pl, hcs, _, hlc, _, hm, hx, hall⟩
  · simp only [Value.cells, List.cons.injEq, Value.slice.injEq, and_true] at hcs
    obtain ⟨rfl, rfl, rfl⟩ := hcs
    exact ⟨by omega, [], fun _ => .nil, fun _ => [], 0, SlI.nil _ _ _, fun i hi => absurd hi (by omega)⟩
  · simp only [Value.cells, List.cons.injEq, Value.slice.injEq, and_true] at hcs
    obtain ⟨rfl, rfl, rfl⟩ := hcs
    simp only [if_true] at hm
    subst hm
    simp only [Prod.mk.injEq] at hx
    obtain ⟨rfl, rfl⟩ := hx
    rw [hc] at hall
    have hsz : m * P.bytesOf e ≤ reachBytes := by
      have := hz (((List.range l).map D).length + ((List.range (m - l)).map fun j => D (l + j)).length |> (· * P.bytesOf e)) (by simp [DataW.weights, ht])
      simp only [List.length_map, List.length_range] at this
      rwa [show l + (m - l) = m from by omega] at this
    refine ⟨hsz, ?_⟩
    by_cases h0 : l = 0
    · subst h0
      exact ⟨[], D, Pl, k, ⟨by simp, by omega, .inl rfl⟩, fun i hi => absurd hi (by omega)⟩
    obtain ⟨b, off, sp⟩ := a'
    have hsp : sp = none := by
      obtain ⟨cs', h1, _⟩ := hall 0 (by omega)
      have := (World.cells?_some h1).2.2 0 hn
      have hl := (World.cells?_some h1).2.1
      rw [List.getElem?_eq_getElem (by omega)] at this
      simpa [Addr.add] using World.cell?_spot this
    subst hsp
    have hcell : ∀ q, q < l * n → ∃ v, cellH w.heap ⟨b, off + q, none⟩ = some v := fun q hq => by
      have hdm : q / n < l := Nat.div_lt_of_lt_mul (by rw [Nat.mul_comm]; exact hq)
      obtain ⟨cs', h1, _⟩ := hall (q / n) (by omega)
      have h2 := (World.cells?_some h1).2.2 (q % n) (Nat.mod_lt _ hn)
      have hl := (World.cells?_some h1).2.1
      rw [List.getElem?_eq_getElem (by rw [hl]; exact Nat.mod_lt _ hn), add_mk, add_mk, cellH_eq] at h2
      rw [show off + q / n * n + q % n = off + q from by have := Nat.div_add_mod q n; rw [Nat.mul_comm] at this; omega] at h2
      exact ⟨_, h2⟩
    have hV : ∀ q, q < l * n → cellH w.heap ⟨b, off + q, none⟩ = some ((cellH w.heap ⟨b, off + q, none⟩).getD undef) := fun q hq => by
      obtain ⟨v, hv⟩ := hcell q hq
      rw [hv]; rfl
    obtain ⟨cs, ty, fz, h1, h2, h3⟩ := row_of (Nat.mul_pos (by omega) hn) hV
    refine ⟨_, D, Pl, k, ⟨by simp, hlc, .inr ⟨b, off, cs, ty, fz, rfl, rfl, h1, h2, h3⟩⟩, fun i hi => ?_⟩
    obtain ⟨cs', g1, g2⟩ := hall i (by omega)
    have hcs' : (((List.range (l * n)).map fun q => (cellH w.heap ⟨b, off + q, none⟩).getD undef).drop (i * n)).take n = cs' := by
      have hl := (World.cells?_some g1).2.1
      have him : i * n + n ≤ l * n := by
        have := Nat.mul_le_mul_right n (show i + 1 ≤ l from hi)
        rw [Nat.add_mul, Nat.one_mul] at this
        exact this
      refine List.ext_getElem? fun j => ?_
      rw [List.getElem?_take, List.getElem?_drop, List.getElem?_map]
      by_cases hj : j < n
      · have h4 := (World.cells?_some g1).2.2 j hj
        rw [add_mk, add_mk, cellH_eq] at h4
        rw [if_pos hj, List.getElem?_range (by omega), Option.map_some, show off + (i * n + j) = off + i * n + j from by omega, h4, List.getElem?_eq_getElem (by omega)]
        rfl
      · rw [if_neg hj, List.getElem?_eq_none (by omega)]
    rw [hcs']
    refine ⟨g2, fun x hx => hz x ?_⟩
    have := weights_all_mem hx _ (List.mem_range.2 hi)
    simp [DataW.weights, ht, this]
end
end Go.Fx

namespace Go.Fx
open Go Go.Disk Go.Proofs Go.ChangeShapes Go.WideShapes Go.ChangeAt Go.RowKit Go.Deep
set_option linter.unusedVariables false
set_option maxRecDepth 100000
section
variable {H : Type} {enc : TypeId × Value → H} {P : Program}
/-- '[]byte', of a reading alone. -/
theorem raw_bytes {t e : TypeId} {w : World} {fuel : Nat} {cs : List Value} {x : DataW H × List MemPlace} (ht : P.underlying t = some (.slice e)) (he : P.underlying e = some (.int .u8)) (hc : P.cellsOf e = 1) (hb1 : P.bytesOf e = 1)
    (hf : DataW.trod enc P w 0 (fun _ => true) true fuel t cs = some x) (hz : Sized P t x.1) : ∃ (s : SlV) (xs : List UInt8), cs = [.slice s.1 s.2.1 s.2.2] ∧ ByI w.heap C0 s xs ∧ s.2.2 ≤ reachBytes := by
  rcases open_slice1 ht hc hf with ⟨hcs, hx⟩ | ⟨a', l, c', m, n, V, D, Pl, hcs, _, hlc, _, hm, hx, hall⟩
  · exact ⟨(none, 0, 0), [], hcs, SlI.nil _ _ _, by show 0 ≤ _; omega⟩
  · simp only [if_true] at hm
    subst hm
    subst hx
    have hsz : m ≤ reachBytes := by
      have := hz (((List.range l).map D).length + ((List.range (m - l)).map fun j => D (l + j)).length |> (· * P.bytesOf e)) (by simp [DataW.weights, ht])
      simp only [List.length_map, List.length_range, hb1, Nat.mul_one] at this
      omega
    refine ⟨(some a', l, m), (List.range l).map fun i => UInt8.ofNat (match V i with | .int _ n => n.toNat | _ => 0), hcs, ?_, hsz⟩
    have e2 : byts ((List.range l).map fun i => UInt8.ofNat (match V i with | .int _ n => n.toNat | _ => 0)) = (List.range l).map V := by
      unfold byts
      rw [List.map_map]
      refine List.map_congr_left fun i hi => ?_
      obtain ⟨k, hk, _, hw⟩ := DataW.trod_int he (hall i (by have := List.mem_range.1 hi; omega)).2
      simp only [List.cons.injEq, and_true] at hk
      have hr : 0 ≤ k ∧ k ≤ 255 := by simpa [Lit.wf, IntKind.min, IntKind.max, IntKind.signed, IntKind.bits] using hw
      show Value.int .u8 ((UInt8.ofNat (match V i with | .int _ n => n.toNat | _ => 0)).toNat : Int) = V i
      rw [hk]
      simp only
      congr 1
      rw [UInt8.toNat_ofNat']
      omega
    show SlI w.heap C0 1 (some a') l m (byts _)
    rw [e2]
    refine ⟨by simp, hlc, ?_⟩
    by_cases h0 : l = 0
    · exact .inl h0
    · obtain ⟨b, off, sp⟩ := a'
      have hsp : sp = none := by simpa [Addr.add] using World.cell?_spot (hall 0 (by omega)).1
      subst hsp
      have hcell : ∀ i, i < l → cellH w.heap ⟨b, off + i, none⟩ = some (V i) := fun i hi => by
        have := (hall i (by omega)).1
        rwa [add_mk, cellH_eq] at this
      obtain ⟨cs, ty, fz, h1, h2, h3⟩ := row_of (by omega) hcell
      exact .inr ⟨b, off, cs, ty, fz, rfl, rfl, h1, by omega, by rw [Nat.mul_one]; exact h3⟩
theorem sized_field {P : Program} {t : TypeId} {fs : Array Field} {parts : List (DataW H)} (ht : P.underlying t = some (.struct fs)) (hz : Sized P t (.agg parts)) {j : Nat} {f : Field} {d : DataW H} (hf : fs.toList[j]? = some f) (hd : parts[j]? = some d) : Sized P f.type d := fun n hn => by
  refine hz n ?_
  have := DataW.weights_mem_each (P := P) (ts := fs.toList.map (·.type)) (ds := parts) (j := j) (t := f.type) (d := d) (by rw [List.getElem?_map, hf]; rfl) hd n hn
  simpa [DataW.weights, ht] using this
theorem sized_str {P : Program} {t : TypeId} {s : ByteArray} (hz : Sized (H := H) P t (.lit (.string s.data.toList))) : s.size ≤ reachBytes := by
  have := hz s.data.toList.length (by simp [DataW.weights])
  have e : s.data.toList.length = s.size := Array.length_toList
  omega
theorem trod_struct5 {w : World} {base : Nat} {spare : Nat → Bool} {held : Bool} {t : TypeId} {f0 f1 f2 f3 f4 : Field} {fuel : Nat} {cs : List Value} {x : DataW H × List MemPlace} (ht : P.underlying t = some (.struct #[f0, f1, f2, f3, f4])) (h : DataW.trod enc P w base spare held fuel t cs = some x) :
    ∃ y0 y1 y2 y3 y4 n, x.1 = .agg [y0.1, y1.1, y2.1, y3.1, y4.1] ∧ cs.length = P.cellsOf t ∧ DataW.trod enc P w base spare held n f0.type ((cs.drop f0.offset).take (P.cellsOf f0.type)) = some y0 ∧
      DataW.trod enc P w base spare held n f1.type ((cs.drop f1.offset).take (P.cellsOf f1.type)) = some y1 ∧ DataW.trod enc P w base spare held n f2.type ((cs.drop f2.offset).take (P.cellsOf f2.type)) = some y2 ∧
      DataW.trod enc P w base spare held n f3.type ((cs.drop f3.offset).take (P.cellsOf f3.type)) = some y3 ∧ DataW.trod enc P w base spare held n f4.type ((cs.drop f4.offset).take (P.cellsOf f4.type)) = some y4 := by
  obtain ⟨xs, n, _, rfl, hl, hlen, hf⟩ := DataW.trod_struct ht h
  match xs, hlen with
  | [y0, y1, y2, y3, y4], _ => exact ⟨y0, y1, y2, y3, y4, n, by simp, hl, by simpa using hf 0 f0 rfl, by simpa using hf 1 f1 rfl, by simpa using hf 2 f2 rfl, by simpa using hf 3 f3 rfl, by simpa using hf 4 f4 rfl⟩
theorem ops_of {Hp : Heap} : ∀ (l : Nat) (cells : List Value), cells.length = l * 5 → (∀ i, i < l → ∃ o s, (cells.drop (i * 5)).take 5 = opCells o s ∧ ByI Hp C0 s o.b ∧ o.Ok) → ∃ os, OpsAt Hp C0 os cells ∧ l = os.length
  | 0, cells, hl, _ => ⟨[], List.eq_nil_of_length_eq_zero (by omega), rfl⟩
  | l + 1, cells, hl, h => by
    obtain ⟨o, s, h1, h2, h3⟩ := h 0 (by omega)
    obtain ⟨os, g1, g2⟩ := ops_of l (cells.drop 5) (by rw [List.length_drop]; omega) fun i hi => by
      obtain ⟨o, s, q1, q2, q3⟩ := h (i + 1) (by omega)
      exact ⟨o, s, by rw [← q1, List.drop_drop, show 5 + i * 5 = (i + 1) * 5 from by omega], q2, q3⟩
    refine ⟨o :: os, ⟨s, cells.drop 5, ?_, h2, h3, g1⟩, by rw [List.length_cons, g2]⟩
    rw [← h1, Nat.zero_mul, List.drop_zero, List.take_append_drop]
end
end Go.Fx
namespace Go.Proofs
open Go Go.Fx Go.Disk Go.ChangeShapes Go.WideShapes Go.ChangeAt Go.RowKit Go.Deep
set_option linter.unusedVariables false
set_option maxRecDepth 100000
section
variable {H : Type} {enc : TypeId × Value → H}
theorem op_of {w : World} {n : Nat} {cs : List Value} {x : DataW H × List MemPlace} (h : DataW.trod enc Try.prog w 0 (fun _ => true) true n 50 cs = some x) (hz : Sized Try.prog 50 x.1) :
    ∃ o s, cs = opCells o s ∧ ByI w.heap C0 s o.b ∧ o.Ok := by
  obtain ⟨y0, y1, y2, y3, y4, m, hx, hl, t0, t1, t2, t3, t4⟩ := trod_struct5 Try.underlying50 h
  have hc : Try.prog.cellsOf 50 = 5 := by kernel_rfl
  rw [hc] at hl
  rw [hx] at hz
  match cs, hl with
  | [c0, c1, c2, c3, c4], _ =>
    have hz' : ∀ (j : Nat) f d, _ → _ → _ := fun j f d => sized_field (j := j) (f := f) (d := d) Try.underlying50 hz
    have k8 : Try.prog.cellsOf 5 = 1 := by kernel_rfl
    have ks : Try.prog.cellsOf 9 = 1 := by kernel_rfl
    have ki : Try.prog.cellsOf 3 = 1 := by kernel_rfl
    have kb : Try.prog.cellsOf 22 = 1 := by kernel_rfl
    simp only [k8, ks, ki, kb, List.drop, List.take] at t0 t1 t2 t3 t4
    obtain ⟨n0, e0, _, w0⟩ := DataW.trod_int und5 t0
    obtain ⟨s1, e1, q1, _⟩ := DataW.trod_string und9 t1
    obtain ⟨s2, e2, q2, _⟩ := DataW.trod_string und9 t2
    obtain ⟨n3, e3, _, w3⟩ := DataW.trod_int und3 t3
    obtain ⟨s4, b4, e4, g4, z4⟩ := raw_bytes und22 und5 (by kernel_rfl) (by kernel_rfl) t4 (hz' 4 _ _ rfl rfl)
    have z1 := hz' 1 _ _ rfl rfl
    have z2 := hz' 2 _ _ rfl rfl
    rw [q1] at z1
    rw [q2] at z2
    have z1 := sized_str z1
    have z2 := sized_str z2
    have hr := reach_lt
    have y0 : 0 ≤ n0 ∧ n0 ≤ 255 := by simpa [Lit.wf, IntKind.min, IntKind.max, IntKind.signed, IntKind.bits] using w0
    have y3 : -9223372036854775808 ≤ n3 ∧ n3 ≤ 9223372036854775807 := by simpa [Lit.wf, IntKind.min, IntKind.max, IntKind.signed, IntKind.bits] using w3
    obtain ⟨m0, rfl⟩ := Int.eq_ofNat_of_zero_le y0.1
    simp only [List.cons.injEq, and_true] at e0 e1 e2 e3 e4
    subst e0 e1 e2 e3 e4
    have := g4.len
    have := g4.cap
    exact ⟨⟨m0, s1, s2, n3, b4⟩, s4, rfl, g4, ⟨by show m0 < 256; omega, by show s1.size < _; omega, by show s2.size < _; omega, by show -2 ^ 63 ≤ n3 ∧ n3 < 2 ^ 63; omega, by show b4.length < _; omega⟩⟩
theorem arg_ops {w : World} {v : Value} {d : DataW H} {p : List MemPlace} {r : Reach} {b0 : Nat} (hval : Value.okWide Try.prog w r b0 47 v)
    (hd : DataW.Trod enc Try.prog w 0 (fun _ => true) true 47 v d p) (hz : Sized Try.prog 47 d) : ∃ a l c os, v = .slice a l c ∧ OpsI w.heap C0 a l c os ∧ c ≤ reachBytes := by
  have kb : Try.prog.bytesOf 50 = 72 := by kernel_rfl
  obtain ⟨a, l, c, rfl, h1, cells, D, Pl, m, h2, h3⟩ := arg_sliceN und47 (n := 5) (by kernel_rfl) (by omega) hval hd hz
  rw [kb] at h1
  obtain ⟨os, g1, g2⟩ := ops_of (Hp := w.heap) l cells h2.1 fun i hi => op_of (h3 i hi).1 (h3 i hi).2
  exact ⟨a, l, c, os, rfl, ⟨cells, h2, g1, g2⟩, by omega⟩
theorem arg_op {w : World} {v : Value} {d : DataW H} {p : List MemPlace} {r : Reach} {b0 : Nat} (hval : Value.okWide Try.prog w r b0 50 v)
    (hd : DataW.Trod enc Try.prog w 0 (fun _ => true) true 50 v d p) (hz : Sized Try.prog 50 d) : ∃ o s, v = .agg ⟨opCells o s⟩ ∧ ByI w.heap C0 s o.b ∧ o.Ok := by
  obtain ⟨fuel, hf⟩ := hd
  obtain ⟨o, s, h1, h2, h3⟩ := op_of hf hz
  have hagg : ∃ cs : Array Value, v = .agg cs := by
    have hl : v.cells.toList.length = 5 := by rw [h1]; rfl
    cases v <;> first | exact ⟨_, rfl⟩ | (simp [Value.cells] at hl)
  obtain ⟨cs, rfl⟩ := hagg
  refine ⟨o, s, ?_, h2, h3⟩
  have : cs.toList = opCells o s := h1
  rw [← this]
end
end Go.Proofs
