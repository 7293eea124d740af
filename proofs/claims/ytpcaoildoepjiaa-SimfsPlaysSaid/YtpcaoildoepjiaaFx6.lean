/- A proof layer over heaps, and contracts of the printed functions; no statement of the seat is proved here. -/
import Derived.Test.YtpcaoildoepjiaaFx5
set_option linter.unusedVariables false
set_option linter.unusedSimpArgs false
set_option linter.unusedSectionVars false

namespace Go.Fx
open Go
def isU8 (v : Value) : Prop := ∃ n : Int, v = .int .u8 n
theorem byts_u8 {xs : List UInt8} : ∀ v ∈ byts xs, isU8 v := by
  intro v hv
  obtain ⟨b, _, rfl⟩ := List.mem_map.1 hv
  exact ⟨_, rfl⟩
theorem zero_u8 : ∀ v ∈ (Value.int .u8 0).cells, isU8 v := by
  intro v hv
  have : v ∈ [Value.int .u8 0] := by simpa [Value.cells] using hv
  simp only [List.mem_singleton] at this
  exact ⟨0, this⟩
theorem AllCells.nil (H : Heap) (Q : Value → Prop) : AllCells H none 0 Q := ⟨by omega, fun b cs t fz h => (nomatch h)⟩
end Go.Fx
namespace Go.Proofs
open Go Go.Fx Go.Disk
set_option linter.unusedVariables false
set_option maxRecDepth 20000
section
variable {H : Heap} {C : Col} {k p : Nat} {D : Disk} {K : Value → Heap → Prop}

theorem Read_okZ (h : IsFS H C k p D) (hD : DiskOk D) {name : Name} {off n : Int} (hoff : -2 ^ 63 ≤ off ∧ off < 2 ^ 63) (hn63 : n < 2 ^ 63) (lab : Lab)
    (hK : ∀ a l c H' C', SlO H' C' lab 5 1 a l c (byts (dRead name off n D).1) → AllCells H' a c isU8 → Ev no H C H' C' → K (.tuple ⟨[.slice a l c, .int .i64 (dRead name off n D).2]⟩) H') :
    Fn 21 [.pointer (some ⟨p, 0, none⟩), .string name, .int .i64 off, .int .i64 n] H K := by
  obtain ⟨x, rfl, h⟩ := h
  refine F21_ok _ _ _ _ ?_
  unfold F21
  unfold dRead at hK
  refine get_ok h hD.seen (fun hd => ?_) (fun hd hg => ?_) fun i fb f hd hg hfb hn => ?_
  · rw [if_pos hd] at hK
    simp only [cellH_mk, cellO_some, add_mk, size_upd, upd_upd, one_int, one_bool, one_string, one_pointer, one_slice, one_map, one_func, st1_some, stN_nil, stN_cons, StV_mk, StO_some, Ld_some, RtI_mk, RtB_mk, RtS_mk, RtP_mk, RtL_mk, RtM_mk, RtA_mk, RtT_mk, NilC_some, New_eq, At_eq, Ck_true, Rt0_mk, BrB_true, BrB_false, Nat.zero_add, List.length_cons, List.length_nil, List.getElem?_cons_zero, List.getElem?_cons_succ, List.set_cons_zero, List.set_cons_succ, List.getD_cons_zero, List.getD_cons_succ, Option.isNone_some, Option.isNone_none, Go.Disk.fsO, Go.Disk.fileO, Bool.false_eq_true, eq_self, Nat.reduceAdd, Nat.reduceSub, Nat.reduceMul, Nat.reduceLT, Nat.reduceLeDiff, Nat.reduceEqDiff, Int.reduceNeg, Int.reduceEq, Int.reduceNe, Int.reduceBEq, Int.reduceBNe, Int.reduceLT, Int.reduceLE, Int.reduceGT, Int.reduceAdd, reduceIte, Bool.not_true, Bool.not_false, decide_true, decide_false, ne_eq, not_false_eq_true, not_true_eq_false]
    exact hK none 0 0 H C (SlO.nil _ _ _ _ _) (AllCells.nil _ _) (Ev.refl _ _ _)
  · rw [if_neg (by rw [hd]; simp), hg] at hK
    simp only [cellH_mk, cellO_some, add_mk, size_upd, upd_upd, one_int, one_bool, one_string, one_pointer, one_slice, one_map, one_func, st1_some, stN_nil, stN_cons, StV_mk, StO_some, Ld_some, RtI_mk, RtB_mk, RtS_mk, RtP_mk, RtL_mk, RtM_mk, RtA_mk, RtT_mk, NilC_some, New_eq, At_eq, Ck_true, Rt0_mk, BrB_true, BrB_false, Nat.zero_add, List.length_cons, List.length_nil, List.getElem?_cons_zero, List.getElem?_cons_succ, List.set_cons_zero, List.set_cons_succ, List.getD_cons_zero, List.getD_cons_succ, Option.isNone_some, Option.isNone_none, Go.Disk.fsO, Go.Disk.fileO, Bool.false_eq_true, eq_self, Nat.reduceAdd, Nat.reduceSub, Nat.reduceMul, Nat.reduceLT, Nat.reduceLeDiff, Nat.reduceEqDiff, Int.reduceNeg, Int.reduceEq, Int.reduceNe, Int.reduceBEq, Int.reduceBNe, Int.reduceLT, Int.reduceLE, Int.reduceGT, Int.reduceAdd, reduceIte, Bool.not_true, Bool.not_false, decide_true, decide_false, ne_eq, not_false_eq_true, not_true_eq_false]
    exact hK none 0 0 H C (SlO.nil _ _ _ _ _) (AllCells.nil _ _) (Ev.refl _ _ _)
  · rw [if_neg (by rw [hd]; simp), hg] at hK
    obtain ⟨qc, s, nw, r, cells, hf, hs, hnw, hrow, hch, hrl⟩ := h.files.2.2.2 i fb f hfb hn
    have hnl := hnw.len
    have hcap := hnw.cap
    have hfl := flen_le hD i
    rw [flen_of hn] at hfl
    simp only [nowOf_of hn] at hK
    have bad : (off < 0 ∨ (f.now.length : Int) < off ∨ n < 0) → K (.tuple ⟨[.slice none 0 0, .int .i64 2]⟩) H := by
      intro hb
      rw [if_pos hb] at hK
      exact hK none 0 0 H C (SlO.nil _ _ _ _ _) (AllCells.nil _ _) (Ev.refl _ _ _)
    simp only [cellH_mk, cellO_some, add_mk, size_upd, upd_upd, one_int, one_bool, one_string, one_pointer, one_slice, one_map, one_func, st1_some, stN_nil, stN_cons, StV_mk, StO_some, Ld_some, RtI_mk, RtB_mk, RtS_mk, RtP_mk, RtL_mk, RtM_mk, RtA_mk, RtT_mk, NilC_some, New_eq, At_eq, Ck_true, Rt0_mk, BrB_true, BrB_false, Nat.zero_add, List.length_cons, List.length_nil, List.getElem?_cons_zero, List.getElem?_cons_succ, List.set_cons_zero, List.set_cons_succ, List.getD_cons_zero, List.getD_cons_succ, Option.isNone_some, Option.isNone_none, Go.Disk.fsO, Go.Disk.fileO, Bool.false_eq_true, eq_self, Nat.reduceAdd, Nat.reduceSub, Nat.reduceMul, Nat.reduceLT, Nat.reduceLeDiff, Nat.reduceEqDiff, Int.reduceNeg, Int.reduceEq, Int.reduceNe, Int.reduceBEq, Int.reduceBNe, Int.reduceLT, Int.reduceLE, Int.reduceGT, Int.reduceAdd, reduceIte, Bool.not_true, Bool.not_false, decide_true, decide_false, ne_eq, not_false_eq_true, not_true_eq_false]
    refine BrB_i (fun h0 => bad (.inl (of_decide_eq_true h0))) (fun h0 => ?_)
    have h0 := of_decide_eq_false h0
    simp only [cellH_mk, cellO_some, add_mk, size_upd, upd_upd, one_int, one_bool, one_string, one_pointer, one_slice, one_map, one_func, st1_some, stN_nil, stN_cons, StV_mk, StO_some, Ld_some, RtI_mk, RtB_mk, RtS_mk, RtP_mk, RtL_mk, RtM_mk, RtA_mk, RtT_mk, NilC_some, New_eq, At_eq, Ck_true, Rt0_mk, BrB_true, BrB_false, Nat.zero_add, List.length_cons, List.length_nil, List.getElem?_cons_zero, List.getElem?_cons_succ, List.set_cons_zero, List.set_cons_succ, List.getD_cons_zero, List.getD_cons_succ, Option.isNone_some, Option.isNone_none, Go.Disk.fsO, Go.Disk.fileO, Bool.false_eq_true, eq_self, Nat.reduceAdd, Nat.reduceSub, Nat.reduceMul, Nat.reduceLT, Nat.reduceLeDiff, Nat.reduceEqDiff, Int.reduceNeg, Int.reduceEq, Int.reduceNe, Int.reduceBEq, Int.reduceBNe, Int.reduceLT, Int.reduceLE, Int.reduceGT, Int.reduceAdd, reduceIte, Bool.not_true, Bool.not_false, decide_true, decide_false, ne_eq, not_false_eq_true, not_true_eq_false, hf]
    refine BrB_i (fun h1 => bad (.inr (.inl (by have := of_decide_eq_true h1; omega)))) (fun h1 => ?_)
    have h1 := of_decide_eq_false h1
    refine BrB_i (fun h2 => bad (.inr (.inr (of_decide_eq_true h2)))) (fun h2 => ?_)
    have h2 := of_decide_eq_false h2
    rw [if_neg (by omega)] at hK
    simp only [cellH_mk, cellO_some, add_mk, size_upd, upd_upd, one_int, one_bool, one_string, one_pointer, one_slice, one_map, one_func, st1_some, stN_nil, stN_cons, StV_mk, StO_some, Ld_some, RtI_mk, RtB_mk, RtS_mk, RtP_mk, RtL_mk, RtM_mk, RtA_mk, RtT_mk, NilC_some, New_eq, At_eq, Ck_true, Rt0_mk, BrB_true, BrB_false, Nat.zero_add, List.length_cons, List.length_nil, List.getElem?_cons_zero, List.getElem?_cons_succ, List.set_cons_zero, List.set_cons_succ, List.getD_cons_zero, List.getD_cons_succ, Option.isNone_some, Option.isNone_none, Go.Disk.fsO, Go.Disk.fileO, Bool.false_eq_true, eq_self, Nat.reduceAdd, Nat.reduceSub, Nat.reduceMul, Nat.reduceLT, Nat.reduceLeDiff, Nat.reduceEqDiff, Int.reduceNeg, Int.reduceEq, Int.reduceNe, Int.reduceBEq, Int.reduceBNe, Int.reduceLT, Int.reduceLE, Int.reduceGT, Int.reduceAdd, reduceIte, Bool.not_true, Bool.not_false, decide_true, decide_false, ne_eq, not_false_eq_true, not_true_eq_false, hf]
    have w1 : IntKind.wrap .i64 (((nw.2.1 : Nat) : Int) - off) = (((f.now.length - off.toNat : Nat)) : Int) := by rw [hnl, w64 (by omega) (by omega)]; omega
    rw [w1]
    have hm : imin n ((f.now.length - off.toNat : Nat) : Int) = ((Nat.min n.toNat (f.now.length - off.toNat) : Nat) : Int) := by
      unfold imin
      show _ = ((min _ _ : Nat) : Int)
      split <;> omega
    rw [hm]
    generalize hmm : Nat.min n.toNat (f.now.length - off.toNat) = m
    have hm1 : m ≤ f.now.length - off.toNat := by rw [← hmm]; exact Nat.min_le_right _ _
    have w2 : IntKind.wrap .i64 (off + (m : Int)) = ((off.toNat + m : Nat) : Int) := by rw [w64 (by omega) (by omega)]; omega
    have ho : off = ((off.toNat : Nat) : Int) := by omega
    rw [w2]
    rw [ho]
    simp only [Int.toNat_natCast]
    refine Ck_i ⟨by omega, by omega, by omega, by omega⟩ ?_
    rw [slN_eq, slN_eq]
    have hsub := SlI.sub hnw (lo := off.toNat) (hi := off.toNat + m) (mx := nw.2.2) (by omega) (by omega) (by omega)
    have e : List.take ((off.toNat + m - off.toNat) * 1) (List.drop (off.toNat * 1) (byts f.now)) = byts ((f.now.drop off.toNat).take n.toNat) := by
      rw [Nat.mul_one, Nat.mul_one, ← byts_drop, ← byts_take, Nat.add_sub_cancel_left]
      congr 1
      rw [← hmm]
      show List.take (min _ _) _ = _
      rw [← List.take_take, List.take_of_length_le (l := f.now.drop off.toNat) (by rw [List.length_drop]; omega)]
    rw [e] at hsub
    refine app_copyZ (C := C) (lab := lab) (Q := isU8) und22 und22 (.inl ⟨_, rfl⟩) tyf5 (by rfl) hsub.src hsub.1 (by omega) (by omega) byts_u8 zero_u8 fun a2 c2 H2 C2 ho2 hz2 hev2 => ?_
    simp only [cellH_mk, cellO_some, add_mk, size_upd, upd_upd, one_int, one_bool, one_string, one_pointer, one_slice, one_map, one_func, st1_some, stN_nil, stN_cons, StV_mk, StO_some, Ld_some, RtI_mk, RtB_mk, RtS_mk, RtP_mk, RtL_mk, RtM_mk, RtA_mk, RtT_mk, NilC_some, New_eq, At_eq, Ck_true, Rt0_mk, BrB_true, BrB_false, Nat.zero_add, List.length_cons, List.length_nil, List.getElem?_cons_zero, List.getElem?_cons_succ, List.set_cons_zero, List.set_cons_succ, List.getD_cons_zero, List.getD_cons_succ, Option.isNone_some, Option.isNone_none, Go.Disk.fsO, Go.Disk.fileO, Bool.false_eq_true, eq_self, Nat.reduceAdd, Nat.reduceSub, Nat.reduceMul, Nat.reduceLT, Nat.reduceLeDiff, Nat.reduceEqDiff, Int.reduceNeg, Int.reduceEq, Int.reduceNe, Int.reduceBEq, Int.reduceBNe, Int.reduceLT, Int.reduceLE, Int.reduceGT, Int.reduceAdd, reduceIte, Bool.not_true, Bool.not_false, decide_true, decide_false, ne_eq, not_false_eq_true, not_true_eq_false]
    exact hK a2 _ c2 H2 C2 ho2 hz2 hev2
end

theorem Texts_ok {H : Heap} {a b : Option Addr} {la ca lb cb : Nat} {xs ys : List Name} {K : Value → Heap → Prop} (ha : SlR H 1 a la ca (xs.map Value.string)) (hb : SlR H 1 b lb cb (ys.map Value.string)) (hl : la < 2 ^ 62)
    (hK : K (.bool (decide (xs = ys))) H) : Fn 29 [.slice a la ca, .slice b lb cb] H K := by
  refine F29_ok _ _ _ _ _ _ ?_
  unfold F29
  have hla : la = xs.length := by have := ha.1; simp at this; omega
  have hlb : lb = ys.length := by have := hb.1; simp at this; omega
  refine BrB_i (fun h => ?_) (fun h => ?_)
  · have : xs ≠ ys := by
      intro e
      rw [hla, hlb, e] at h
      simp at h
    rw [decide_eq_false this] at hK
    exact hK
  have hll : xs.length = ys.length := by
    have h2 : ((la : Int) == (lb : Int)) = true := by simpa [bne] using h
    have := eq_of_beq h2
    omega
  refine ⟨fun i H' => H' = H ∧ ∃ m : Nat, i = (m : Int) ∧ m ≤ la ∧ ∀ j, j < m → xs[j]? = ys[j]?, fun i _ => la - i.toNat, ⟨rfl, 0, rfl, by omega, fun j hj => absurd hj (by omega)⟩, ?_⟩
  rintro fr i H' ⟨hH, m, rfl, hm, hall⟩
  subst hH
  simp only [cellH_mk, cellO_some, add_mk, size_upd, upd_upd, one_int, one_bool, one_string, one_pointer, one_slice, one_map, one_func, st1_some, stN_nil, stN_cons, StV_mk, StO_some, Ld_some, RtI_mk, RtB_mk, RtS_mk, RtP_mk, RtL_mk, RtM_mk, RtA_mk, RtT_mk, NilC_some, New_eq, At_eq, Ck_true, Rt0_mk, BrB_true, BrB_false, Nat.zero_add, List.length_cons, List.length_nil, List.getElem?_cons_zero, List.getElem?_cons_succ, List.set_cons_zero, List.set_cons_succ, List.getD_cons_zero, List.getD_cons_succ, Option.isNone_some, Option.isNone_none, Go.Disk.fsO, Go.Disk.fileO, Bool.false_eq_true, eq_self, Nat.reduceAdd, Nat.reduceSub, Nat.reduceMul, Nat.reduceLT, Nat.reduceLeDiff, Nat.reduceEqDiff, Int.reduceNeg, Int.reduceEq, Int.reduceNe, Int.reduceBEq, Int.reduceBNe, Int.reduceLT, Int.reduceLE, Int.reduceGT, Int.reduceAdd, reduceIte, Bool.not_true, Bool.not_false, decide_true, decide_false, ne_eq, not_false_eq_true, not_true_eq_false]
  refine BrB_i (fun h => ?_) (fun h => ?_)
  · have h := of_decide_eq_true h
    have hx : xs[m]? = some (xs[m]'(by omega)) := List.getElem?_eq_getElem _
    have hy : ys[m]? = some (ys[m]'(by omega)) := List.getElem?_eq_getElem _
    generalize xs[m]'(by omega) = x at hx
    generalize ys[m]'(by omega) = y at hy
    refine ha.cell (i := m) (by omega) (v := .string x) (by rw [List.getElem?_map, hx]; rfl) fun e he => ?_
    simp only [cellH_mk, cellO_some, add_mk, size_upd, upd_upd, one_int, one_bool, one_string, one_pointer, one_slice, one_map, one_func, st1_some, stN_nil, stN_cons, StV_mk, StO_some, Ld_some, RtI_mk, RtB_mk, RtS_mk, RtP_mk, RtL_mk, RtM_mk, RtA_mk, RtT_mk, NilC_some, New_eq, At_eq, Ck_true, Rt0_mk, BrB_true, BrB_false, Nat.zero_add, List.length_cons, List.length_nil, List.getElem?_cons_zero, List.getElem?_cons_succ, List.set_cons_zero, List.set_cons_succ, List.getD_cons_zero, List.getD_cons_succ, Option.isNone_some, Option.isNone_none, Go.Disk.fsO, Go.Disk.fileO, Bool.false_eq_true, eq_self, Nat.reduceAdd, Nat.reduceSub, Nat.reduceMul, Nat.reduceLT, Nat.reduceLeDiff, Nat.reduceEqDiff, Int.reduceNeg, Int.reduceEq, Int.reduceNe, Int.reduceBEq, Int.reduceBNe, Int.reduceLT, Int.reduceLE, Int.reduceGT, Int.reduceAdd, reduceIte, Bool.not_true, Bool.not_false, decide_true, decide_false, ne_eq, not_false_eq_true, not_true_eq_false, he]
    refine hb.cell (i := m) (by omega) (v := .string y) (by rw [List.getElem?_map, hy]; rfl) fun e2 he2 => ?_
    simp only [cellH_mk, cellO_some, add_mk, size_upd, upd_upd, one_int, one_bool, one_string, one_pointer, one_slice, one_map, one_func, st1_some, stN_nil, stN_cons, StV_mk, StO_some, Ld_some, RtI_mk, RtB_mk, RtS_mk, RtP_mk, RtL_mk, RtM_mk, RtA_mk, RtT_mk, NilC_some, New_eq, At_eq, Ck_true, Rt0_mk, BrB_true, BrB_false, Nat.zero_add, List.length_cons, List.length_nil, List.getElem?_cons_zero, List.getElem?_cons_succ, List.set_cons_zero, List.set_cons_succ, List.getD_cons_zero, List.getD_cons_succ, Option.isNone_some, Option.isNone_none, Go.Disk.fsO, Go.Disk.fileO, Bool.false_eq_true, eq_self, Nat.reduceAdd, Nat.reduceSub, Nat.reduceMul, Nat.reduceLT, Nat.reduceLeDiff, Nat.reduceEqDiff, Int.reduceNeg, Int.reduceEq, Int.reduceNe, Int.reduceBEq, Int.reduceBNe, Int.reduceLT, Int.reduceLE, Int.reduceGT, Int.reduceAdd, reduceIte, Bool.not_true, Bool.not_false, decide_true, decide_false, ne_eq, not_false_eq_true, not_true_eq_false, he2]
    refine BrB_i (fun hne => ?_) (fun heq => ?_)
    · have : xs ≠ ys := by
        intro e
        rw [e, hy] at hx
        cases hx
        simp at hne
      rw [decide_eq_false this] at hK
      exact hK
    · have hxy : x = y := by
        refine nm_eq ?_
        simpa using heq
      subst hxy
      rw [w64 (by omega) (by omega)]
      refine ⟨⟨rfl, m + 1, by omega, by omega, fun j hj => ?_⟩, ?_⟩
      · by_cases e : j = m
        · subst e; rw [hx, hy]
        · exact hall j (by omega)
      · show la - ((m : Int) + 1).toNat < la - ((m : Nat) : Int).toNat
        omega
  · have h := of_decide_eq_false h
    have : xs = ys := by
      refine List.ext_getElem? fun j => ?_
      by_cases hj : j < m
      · exact hall j hj
      · rw [List.getElem?_eq_none (by omega), List.getElem?_eq_none (by omega)]
    rw [decide_eq_true this] at hK
    exact hK

theorem Spoil_ok {H : Heap} {C : Col} {lab : Lab} {a : Option Addr} {l c : Nat} {cells : List Value} {by_ : Int} {K : Value → Heap → Prop} (h : SlO H C lab 5 1 a l c cells) (hz : AllCells H a c isU8)
    (hK : ∀ H', Ev (at1 lab) H C H' C → K (.tuple ⟨[]⟩) H') : Fn 26 [.slice a l c, .int .u8 by_] H K := by
  refine F26_ok _ _ _ _ ?_
  unfold F26
  obtain ⟨hc63, hall⟩ := hz
  refine Ck_i ⟨by omega, by omega, by omega, by omega⟩ ?_
  obtain ⟨h1, h2, h3⟩ := h
  rcases h3 with ⟨rfl, rfl, rfl⟩ | ⟨b, cs, rfl, hcb, hb, hcl, hcs⟩
  · refine ⟨fun i H' => H' = H ∧ i = 0, fun _ _ => 0, ⟨rfl, rfl⟩, ?_⟩
    rintro fr i H' ⟨rfl, rfl⟩
    simp only [cellH_mk, cellO_some, add_mk, size_upd, upd_upd, one_int, one_bool, one_string, one_pointer, one_slice, one_map, one_func, st1_some, stN_nil, stN_cons, StV_mk, StO_some, Ld_some, RtI_mk, RtB_mk, RtS_mk, RtP_mk, RtL_mk, RtM_mk, RtA_mk, RtT_mk, NilC_some, New_eq, At_eq, Ck_true, Rt0_mk, BrB_true, BrB_false, Nat.zero_add, List.length_cons, List.length_nil, List.getElem?_cons_zero, List.getElem?_cons_succ, List.set_cons_zero, List.set_cons_succ, List.getD_cons_zero, List.getD_cons_succ, Option.isNone_some, Option.isNone_none, Go.Disk.fsO, Go.Disk.fileO, Bool.false_eq_true, eq_self, Nat.reduceAdd, Nat.reduceSub, Nat.reduceMul, Nat.reduceLT, Nat.reduceLeDiff, Nat.reduceEqDiff, Int.reduceNeg, Int.reduceEq, Int.reduceNe, Int.reduceBEq, Int.reduceBNe, Int.reduceLT, Int.reduceLE, Int.reduceGT, Int.reduceAdd, reduceIte, Bool.not_true, Bool.not_false, decide_true, decide_false, ne_eq, not_false_eq_true, not_true_eq_false]
    refine BrB_i (fun h => ?_) (fun h => ?_)
    · have h := of_decide_eq_true h
      simp [slN] at h
    · exact hK _ (Ev.refl _ _ _)
  · rw [Nat.mul_one] at hcl
    by_cases hc0 : c = 0
    · subst hc0
      refine ⟨fun i H' => H' = H ∧ i = 0, fun _ _ => 0, ⟨rfl, rfl⟩, ?_⟩
      rintro fr i H' ⟨rfl, rfl⟩
      simp only [cellH_mk, cellO_some, add_mk, size_upd, upd_upd, one_int, one_bool, one_string, one_pointer, one_slice, one_map, one_func, st1_some, stN_nil, stN_cons, StV_mk, StO_some, Ld_some, RtI_mk, RtB_mk, RtS_mk, RtP_mk, RtL_mk, RtM_mk, RtA_mk, RtT_mk, NilC_some, New_eq, At_eq, Ck_true, Rt0_mk, BrB_true, BrB_false, Nat.zero_add, List.length_cons, List.length_nil, List.getElem?_cons_zero, List.getElem?_cons_succ, List.set_cons_zero, List.set_cons_succ, List.getD_cons_zero, List.getD_cons_succ, Option.isNone_some, Option.isNone_none, Go.Disk.fsO, Go.Disk.fileO, Bool.false_eq_true, eq_self, Nat.reduceAdd, Nat.reduceSub, Nat.reduceMul, Nat.reduceLT, Nat.reduceLeDiff, Nat.reduceEqDiff, Int.reduceNeg, Int.reduceEq, Int.reduceNe, Int.reduceBEq, Int.reduceBNe, Int.reduceLT, Int.reduceLE, Int.reduceGT, Int.reduceAdd, reduceIte, Bool.not_true, Bool.not_false, decide_true, decide_false, ne_eq, not_false_eq_true, not_true_eq_false]
      refine BrB_i (fun h => ?_) (fun h => ?_)
      · have h := of_decide_eq_true h
        simp [slN] at h
      · exact hK _ (Ev.refl _ _ _)
    have hu := hall b cs _ _ rfl hb
    have hs0 : slA (some ⟨b, 0, none⟩) 0 (c : Int) 1 = some ⟨b, 0, none⟩ := by
      have := slA_some (b := b) (off := 0) (lo := 0) (mx := c) (sz := 1) (by omega)
      simpa using this
    have hn0 : slN 0 (c : Int) = c := by have := slN_eq 0 c; simpa using this
    rw [hs0, hn0]
    refine ⟨fun i H' => ∃ m : Nat, i = (m : Int) ∧ m ≤ c ∧ (∃ cs' : List Value, H'[b]? = some (.cells ⟨cs'⟩ 5 (0, 0)) ∧ cs'.length = c ∧ ∀ v ∈ cs', isU8 v) ∧ Ev (at1 lab) H C H' C, fun i _ => c - i.toNat, ⟨0, rfl, by omega, ⟨cs, hb, hcl, hu⟩, Ev.refl _ _ _⟩, ?_⟩
    rintro fr i H' ⟨m, rfl, hm, ⟨cs', hb', hl', hu'⟩, hev⟩
    simp only [cellH_mk, cellO_some, add_mk, size_upd, upd_upd, one_int, one_bool, one_string, one_pointer, one_slice, one_map, one_func, st1_some, stN_nil, stN_cons, StV_mk, StO_some, Ld_some, RtI_mk, RtB_mk, RtS_mk, RtP_mk, RtL_mk, RtM_mk, RtA_mk, RtT_mk, NilC_some, New_eq, At_eq, Ck_true, Rt0_mk, BrB_true, BrB_false, Nat.zero_add, List.length_cons, List.length_nil, List.getElem?_cons_zero, List.getElem?_cons_succ, List.set_cons_zero, List.set_cons_succ, List.getD_cons_zero, List.getD_cons_succ, Option.isNone_some, Option.isNone_none, Go.Disk.fsO, Go.Disk.fileO, Bool.false_eq_true, eq_self, Nat.reduceAdd, Nat.reduceSub, Nat.reduceMul, Nat.reduceLT, Nat.reduceLeDiff, Nat.reduceEqDiff, Int.reduceNeg, Int.reduceEq, Int.reduceNe, Int.reduceBEq, Int.reduceBNe, Int.reduceLT, Int.reduceLE, Int.reduceGT, Int.reduceAdd, reduceIte, Bool.not_true, Bool.not_false, decide_true, decide_false, ne_eq, not_false_eq_true, not_true_eq_false]
    refine BrB_i (fun h => ?_) (fun h => ?_)
    · have h := of_decide_eq_true h
      have hx : cs'[m]? = some (cs'[m]'(by omega)) := List.getElem?_eq_getElem _
      have hxm : cs'[m]'(by omega) ∈ cs' := List.getElem_mem _
      generalize cs'[m]'(by omega) = x at hx hxm
      obtain ⟨n, rfl⟩ := hu' x hxm
      refine Idx_i (by omega) (by omega) ?_
      rw [Int.toNat_natCast, Nat.zero_add, Nat.mul_one]
      simp only [cellH_mk, cellO_some, add_mk, size_upd, upd_upd, one_int, one_bool, one_string, one_pointer, one_slice, one_map, one_func, st1_some, stN_nil, stN_cons, StV_mk, StO_some, Ld_some, RtI_mk, RtB_mk, RtS_mk, RtP_mk, RtL_mk, RtM_mk, RtA_mk, RtT_mk, NilC_some, New_eq, At_eq, Ck_true, Rt0_mk, BrB_true, BrB_false, Nat.zero_add, List.length_cons, List.length_nil, List.getElem?_cons_zero, List.getElem?_cons_succ, List.set_cons_zero, List.set_cons_succ, List.getD_cons_zero, List.getD_cons_succ, Option.isNone_some, Option.isNone_none, Go.Disk.fsO, Go.Disk.fileO, Bool.false_eq_true, eq_self, Nat.reduceAdd, Nat.reduceSub, Nat.reduceMul, Nat.reduceLT, Nat.reduceLeDiff, Nat.reduceEqDiff, Int.reduceNeg, Int.reduceEq, Int.reduceNe, Int.reduceBEq, Int.reduceBNe, Int.reduceLT, Int.reduceLE, Int.reduceGT, Int.reduceAdd, reduceIte, Bool.not_true, Bool.not_false, decide_true, decide_false, ne_eq, not_false_eq_true, not_true_eq_false, hb', hx]
      obtain ⟨y, hy⟩ := xor_rd (P := Try.prog) (t := 5) (x := .tmp 20) (y := .tmp 21) (k := .u8) (a := n) (b := by_) (H := H')
      refine ⟨_, hy, ?_⟩
      simp only [cellH_mk, cellO_some, add_mk, size_upd, upd_upd, one_int, one_bool, one_string, one_pointer, one_slice, one_map, one_func, st1_some, stN_nil, stN_cons, StV_mk, StO_some, Ld_some, RtI_mk, RtB_mk, RtS_mk, RtP_mk, RtL_mk, RtM_mk, RtA_mk, RtT_mk, NilC_some, New_eq, At_eq, Ck_true, Rt0_mk, BrB_true, BrB_false, Nat.zero_add, List.length_cons, List.length_nil, List.getElem?_cons_zero, List.getElem?_cons_succ, List.set_cons_zero, List.set_cons_succ, List.getD_cons_zero, List.getD_cons_succ, Option.isNone_some, Option.isNone_none, Go.Disk.fsO, Go.Disk.fileO, Bool.false_eq_true, eq_self, Nat.reduceAdd, Nat.reduceSub, Nat.reduceMul, Nat.reduceLT, Nat.reduceLeDiff, Nat.reduceEqDiff, Int.reduceNeg, Int.reduceEq, Int.reduceNe, Int.reduceBEq, Int.reduceBNe, Int.reduceLT, Int.reduceLE, Int.reduceGT, Int.reduceAdd, reduceIte, Bool.not_true, Bool.not_false, decide_true, decide_false, ne_eq, not_false_eq_true, not_true_eq_false]
      refine Idx_i (by omega) (by omega) ?_
      rw [Int.toNat_natCast, Nat.zero_add, Nat.mul_one]
      have hlt : m < cs'.length := by omega
      simp only [cellH_mk, cellO_some, add_mk, size_upd, upd_upd, one_int, one_bool, one_string, one_pointer, one_slice, one_map, one_func, st1_some, stN_nil, stN_cons, StV_mk, StO_some, Ld_some, RtI_mk, RtB_mk, RtS_mk, RtP_mk, RtL_mk, RtM_mk, RtA_mk, RtT_mk, NilC_some, New_eq, At_eq, Ck_true, Rt0_mk, BrB_true, BrB_false, Nat.zero_add, List.length_cons, List.length_nil, List.getElem?_cons_zero, List.getElem?_cons_succ, List.set_cons_zero, List.set_cons_succ, List.getD_cons_zero, List.getD_cons_succ, Option.isNone_some, Option.isNone_none, Go.Disk.fsO, Go.Disk.fileO, Bool.false_eq_true, eq_self, Nat.reduceAdd, Nat.reduceSub, Nat.reduceMul, Nat.reduceLT, Nat.reduceLeDiff, Nat.reduceEqDiff, Int.reduceNeg, Int.reduceEq, Int.reduceNe, Int.reduceBEq, Int.reduceBNe, Int.reduceLT, Int.reduceLE, Int.reduceGT, Int.reduceAdd, reduceIte, Bool.not_true, Bool.not_false, decide_true, decide_false, ne_eq, not_false_eq_true, not_true_eq_false, hb', hlt]
      rw [w64 (by omega) (by omega)]
      refine ⟨⟨m + 1, by omega, by omega, ⟨_, get_upd_of hb', by rw [List.length_set]; exact hl', fun v hv => ?_⟩, hev.trans (ev_upd hcb _)⟩, ?_⟩
      · rcases List.mem_or_eq_of_mem_set hv with h | h
        · exact hu' v h
        · exact ⟨_, h⟩
      · show c - ((m : Int) + 1).toNat < c - ((m : Nat) : Int).toNat
        omega
    · exact hK _ hev
end Go.Proofs

namespace Go.Fx
open Go Go.Disk
theorem SlI.rowK {H : Heap} {C : Col} {sz : Nat} {a : Option Addr} {l c : Nat} {cells : List Value} (h : SlI H C sz a l c cells) {i : Nat} (hi : i < l) {K : Addr → Prop}
    (hK : ∀ e, (∀ (S : Lab → Prop) H' C', Ev S H C H' C' → (∀ x, x.1 = 0 → ¬ S x) → rowV H' e sz = some (.agg ⟨(cells.drop (i * sz)).take sz⟩)) → K e) : Idx a l (i : Int) sz K := by
  obtain ⟨h1, h2, h3⟩ := h
  rcases h3 with h0 | ⟨b, off, cs, t, fz, rfl, hc, hb, hle, hcs⟩
  · omega
  · have hm : i * sz + sz ≤ l * sz := by
      have := Nat.mul_le_mul_right sz (show i + 1 ≤ l from hi)
      rw [Nat.add_mul, Nat.one_mul] at this
      exact this
    refine Idx_i (by omega) (by omega) ?_
    rw [Int.toNat_natCast]
    refine hK _ fun S H' C' he hS => ?_
    rw [rowV_mk H' b (off + i * sz) sz (he.get hb (hS _ hc)) (by omega)]
    congr 3
    rw [← hcs, List.drop_take, List.take_take, List.drop_drop]
    congr 1
    omega
theorem SlI.opRowK {H : Heap} {C : Col} {a : Option Addr} {l c : Nat} {os : List OpA} (h : OpsI H C a l c os) {i : Nat} {o : OpA} (hi : os[i]? = some o) {K : Addr → Prop}
    (hK : ∀ e s, ByI H C s o.b → o.Ok → (∀ (S : Lab → Prop) H' C', Ev S H C H' C' → (∀ x, x.1 = 0 → ¬ S x) → rowV H' e 5 = some (.agg ⟨opCells o s⟩)) → K e) : Idx a l (i : Int) 5 K := by
  obtain ⟨cells, h1, h2, h3⟩ := h
  obtain ⟨s, g1, g2, g3⟩ := h2.get hi
  have hil := (List.getElem?_eq_some_iff.1 hi).1
  refine h1.rowK (i := i) (by omega) fun e he => hK e s g2 g3 fun S H' C' h4 h5 => ?_
  rw [he S H' C' h4 h5, g1]
end Go.Fx
namespace Go.Proofs
open Go Go.Fx Go.Disk
set_option linter.unusedVariables false
set_option maxRecDepth 20000
theorem dRead_len' {name : Name} {off n : Int} {D : Disk} (hn : 0 ≤ n) : (((dRead name off n D).1.length : Nat) : Int) ≤ n := by
  unfold dRead
  split
  · exact hn
  · split
    · exact hn
    · split
      · exact hn
      · simp only [List.length_take]; omega
theorem encs_names2 (d : Dir) : (dNames d).map encStr = (d.map (·.1)).map Value.string := by
  unfold dNames
  rw [List.map_map, List.map_map]
  exact List.map_congr_left fun x _ => encStr_name x.1
theorem did_ok {H : Heap} {C : Col} {k p : Nat} {D : Disk} {o : OpA} {s : SlV} {K : Value → Heap → Prop} (hk : k ≠ 0) (h : IsRef H C k p D) (hD : DiskOk D) (ha : D.acts < 2 ^ 39) (hb : ByI H C s o.b) (ho : o.Ok)
    (hK : ∀ H' C', IsRef H' C' k p (dDo o D).2 → Ev (own k) H C H' C' → K (.int .i64 (dDo o D).1) H') :
    Fn 38 [.pointer (some ⟨p, 0, none⟩), .agg ⟨opCells o s⟩] H K := by
  unfold opCells
  refine F38_ok _ _ _ _ _ _ _ _ ?_
  unfold F38
  simp only [cellH_mk, cellO_some, add_mk, size_upd, upd_upd, one_int, one_bool, one_string, one_pointer, one_slice, one_map, one_func, st1_some, stN_nil, stN_cons, StV_mk, StO_some, Ld_some, RtI_mk, RtB_mk, RtS_mk, RtP_mk, RtL_mk, RtM_mk, RtA_mk, RtT_mk, NilC_some, New_eq, At_eq, Ck_true, Rt0_mk, BrB_true, BrB_false, Nat.zero_add, List.length_cons, List.length_nil, List.getElem?_cons_zero, List.getElem?_cons_succ, List.set_cons_zero, List.set_cons_succ, List.getD_cons_zero, List.getD_cons_succ, Option.isNone_some, Option.isNone_none, Go.Disk.fsO, Go.Disk.fileO, Bool.false_eq_true, eq_self, Nat.reduceAdd, Nat.reduceSub, Nat.reduceMul, Nat.reduceLT, Nat.reduceLeDiff, Nat.reduceEqDiff, Int.reduceNeg, Int.reduceEq, Int.reduceNe, Int.reduceBEq, Int.reduceBNe, Int.reduceLT, Int.reduceLE, Int.reduceGT, Int.reduceAdd, reduceIte, Bool.not_true, Bool.not_false, decide_true, decide_false, ne_eq, not_false_eq_true, not_true_eq_false, NewN_eq]
  have hev1 := ev_push no H C (.cells ⟨[.int .u8 (o.call : Int), .string o.name, .string o.dst, .int .i64 o.off, .slice s.1 s.2.1 s.2.2]⟩ 50) (0, 0)
  have hb1 : (H.push (.cells ⟨[.int .u8 (o.call : Int), .string o.name, .string o.dst, .int .i64 o.off, .slice s.1 s.2.1 s.2.2]⟩ 50))[H.size]? = some (.cells ⟨[.int .u8 (o.call : Int), .string o.name, .string o.dst, .int .i64 o.off, .slice s.1 s.2.1 s.2.2]⟩ 50) := get_push_self _ _
  have h1 := h.ev hev1 (fun _ _ h => h) fun _ h => h
  have g1 := hb.ev hev1 fun _ _ h => h
  have hev1 : Ev (own k) H C _ _ := hev1.mono fun _ h => h.elim
  have hK1 : ∀ {H2 C2 H' C'}, IsRef H' C' k p (dDo o D).2 → Ev (own k) H C H2 C2 → Ev (own k) H2 C2 H' C' → K (.int .i64 (dDo o D).1) H' := fun h2 e1 e2 => hK _ _ h2 (e1.trans e2)
  generalize H.push _ = H1 at *
  generalize setC C H.size (0, 0) = C1 at *
  generalize H.size = nb at *
  clear hK
  have hdn := ho.name
  have hdd := ho.dst
  have hdf := ho.off
  have hbl : o.b.length < 2 ^ 60 := by have := ho.b; omega
  unfold dDo at hK1
  simp only [cellH_mk, cellO_some, add_mk, size_upd, upd_upd, one_int, one_bool, one_string, one_pointer, one_slice, one_map, one_func, st1_some, stN_nil, stN_cons, StV_mk, StO_some, Ld_some, RtI_mk, RtB_mk, RtS_mk, RtP_mk, RtL_mk, RtM_mk, RtA_mk, RtT_mk, NilC_some, New_eq, At_eq, Ck_true, Rt0_mk, BrB_true, BrB_false, Nat.zero_add, List.length_cons, List.length_nil, List.getElem?_cons_zero, List.getElem?_cons_succ, List.set_cons_zero, List.set_cons_succ, List.getD_cons_zero, List.getD_cons_succ, Option.isNone_some, Option.isNone_none, Go.Disk.fsO, Go.Disk.fileO, Bool.false_eq_true, eq_self, Nat.reduceAdd, Nat.reduceSub, Nat.reduceMul, Nat.reduceLT, Nat.reduceLeDiff, Nat.reduceEqDiff, Int.reduceNeg, Int.reduceEq, Int.reduceNe, Int.reduceBEq, Int.reduceBNe, Int.reduceLT, Int.reduceLE, Int.reduceGT, Int.reduceAdd, reduceIte, Bool.not_true, Bool.not_false, decide_true, decide_false, ne_eq, not_false_eq_true, not_true_eq_false, hb1]
  have nx : ∀ {n : Nat}, ((o.call : Int) == (n : Int)) = false → o.call ≠ n := fun h e => by rw [e] at h; simp at h
  have px : ∀ {n : Nat}, ((o.call : Int) == (n : Int)) = true → o.call = n := fun h => by have := eq_of_beq h; omega
  refine BrB_i (fun e => ?_) (fun e0 => ?_)
  · have e := px (n := 0) e
    rw [if_pos e] at hK1
    simp only [cellH_mk, cellO_some, add_mk, size_upd, upd_upd, one_int, one_bool, one_string, one_pointer, one_slice, one_map, one_func, st1_some, stN_nil, stN_cons, StV_mk, StO_some, Ld_some, RtI_mk, RtB_mk, RtS_mk, RtP_mk, RtL_mk, RtM_mk, RtA_mk, RtT_mk, NilC_some, New_eq, At_eq, Ck_true, Rt0_mk, BrB_true, BrB_false, Nat.zero_add, List.length_cons, List.length_nil, List.getElem?_cons_zero, List.getElem?_cons_succ, List.set_cons_zero, List.set_cons_succ, List.getD_cons_zero, List.getD_cons_succ, Option.isNone_some, Option.isNone_none, Go.Disk.fsO, Go.Disk.fileO, Bool.false_eq_true, eq_self, Nat.reduceAdd, Nat.reduceSub, Nat.reduceMul, Nat.reduceLT, Nat.reduceLeDiff, Nat.reduceEqDiff, Int.reduceNeg, Int.reduceEq, Int.reduceNe, Int.reduceBEq, Int.reduceBNe, Int.reduceLT, Int.reduceLE, Int.reduceGT, Int.reduceAdd, reduceIte, Bool.not_true, Bool.not_false, decide_true, decide_false, ne_eq, not_false_eq_true, not_true_eq_false, hb1]
    refine rCreate_ok (name := o.name) hk h1 hD ha (by omega) fun H2 C2 h2 hev2 => ?_
    simp only [cellH_mk, cellO_some, add_mk, size_upd, upd_upd, one_int, one_bool, one_string, one_pointer, one_slice, one_map, one_func, st1_some, stN_nil, stN_cons, StV_mk, StO_some, Ld_some, RtI_mk, RtB_mk, RtS_mk, RtP_mk, RtL_mk, RtM_mk, RtA_mk, RtT_mk, NilC_some, New_eq, At_eq, Ck_true, Rt0_mk, BrB_true, BrB_false, Nat.zero_add, List.length_cons, List.length_nil, List.getElem?_cons_zero, List.getElem?_cons_succ, List.set_cons_zero, List.set_cons_succ, List.getD_cons_zero, List.getD_cons_succ, Option.isNone_some, Option.isNone_none, Go.Disk.fsO, Go.Disk.fileO, Bool.false_eq_true, eq_self, Nat.reduceAdd, Nat.reduceSub, Nat.reduceMul, Nat.reduceLT, Nat.reduceLeDiff, Nat.reduceEqDiff, Int.reduceNeg, Int.reduceEq, Int.reduceNe, Int.reduceBEq, Int.reduceBNe, Int.reduceLT, Int.reduceLE, Int.reduceGT, Int.reduceAdd, reduceIte, Bool.not_true, Bool.not_false, decide_true, decide_false, ne_eq, not_false_eq_true, not_true_eq_false]
    exact hK1 h2 hev1 hev2
  have e0 := nx (n := 0) e0
  rw [if_neg e0] at hK1
  refine BrB_i (fun e => ?_) (fun e0 => ?_)
  · have e := px (n := 1) e
    rw [if_pos e] at hK1
    simp only [cellH_mk, cellO_some, add_mk, size_upd, upd_upd, one_int, one_bool, one_string, one_pointer, one_slice, one_map, one_func, st1_some, stN_nil, stN_cons, StV_mk, StO_some, Ld_some, RtI_mk, RtB_mk, RtS_mk, RtP_mk, RtL_mk, RtM_mk, RtA_mk, RtT_mk, NilC_some, New_eq, At_eq, Ck_true, Rt0_mk, BrB_true, BrB_false, Nat.zero_add, List.length_cons, List.length_nil, List.getElem?_cons_zero, List.getElem?_cons_succ, List.set_cons_zero, List.set_cons_succ, List.getD_cons_zero, List.getD_cons_succ, Option.isNone_some, Option.isNone_none, Go.Disk.fsO, Go.Disk.fileO, Bool.false_eq_true, eq_self, Nat.reduceAdd, Nat.reduceSub, Nat.reduceMul, Nat.reduceLT, Nat.reduceLeDiff, Nat.reduceEqDiff, Int.reduceNeg, Int.reduceEq, Int.reduceNe, Int.reduceBEq, Int.reduceBNe, Int.reduceLT, Int.reduceLE, Int.reduceGT, Int.reduceAdd, reduceIte, Bool.not_true, Bool.not_false, decide_true, decide_false, ne_eq, not_false_eq_true, not_true_eq_false, hb1]
    refine rAppend_ok hk h1 hD ha g1 hbl fun H2 C2 h2 hev2 => ?_
    simp only [cellH_mk, cellO_some, add_mk, size_upd, upd_upd, one_int, one_bool, one_string, one_pointer, one_slice, one_map, one_func, st1_some, stN_nil, stN_cons, StV_mk, StO_some, Ld_some, RtI_mk, RtB_mk, RtS_mk, RtP_mk, RtL_mk, RtM_mk, RtA_mk, RtT_mk, NilC_some, New_eq, At_eq, Ck_true, Rt0_mk, BrB_true, BrB_false, Nat.zero_add, List.length_cons, List.length_nil, List.getElem?_cons_zero, List.getElem?_cons_succ, List.set_cons_zero, List.set_cons_succ, List.getD_cons_zero, List.getD_cons_succ, Option.isNone_some, Option.isNone_none, Go.Disk.fsO, Go.Disk.fileO, Bool.false_eq_true, eq_self, Nat.reduceAdd, Nat.reduceSub, Nat.reduceMul, Nat.reduceLT, Nat.reduceLeDiff, Nat.reduceEqDiff, Int.reduceNeg, Int.reduceEq, Int.reduceNe, Int.reduceBEq, Int.reduceBNe, Int.reduceLT, Int.reduceLE, Int.reduceGT, Int.reduceAdd, reduceIte, Bool.not_true, Bool.not_false, decide_true, decide_false, ne_eq, not_false_eq_true, not_true_eq_false]
    exact hK1 h2 hev1 hev2
  have e0 := nx (n := 1) e0
  rw [if_neg e0] at hK1
  refine BrB_i (fun e => ?_) (fun e0 => ?_)
  · have e := px (n := 2) e
    rw [if_pos e] at hK1
    simp only [cellH_mk, cellO_some, add_mk, size_upd, upd_upd, one_int, one_bool, one_string, one_pointer, one_slice, one_map, one_func, st1_some, stN_nil, stN_cons, StV_mk, StO_some, Ld_some, RtI_mk, RtB_mk, RtS_mk, RtP_mk, RtL_mk, RtM_mk, RtA_mk, RtT_mk, NilC_some, New_eq, At_eq, Ck_true, Rt0_mk, BrB_true, BrB_false, Nat.zero_add, List.length_cons, List.length_nil, List.getElem?_cons_zero, List.getElem?_cons_succ, List.set_cons_zero, List.set_cons_succ, List.getD_cons_zero, List.getD_cons_succ, Option.isNone_some, Option.isNone_none, Go.Disk.fsO, Go.Disk.fileO, Bool.false_eq_true, eq_self, Nat.reduceAdd, Nat.reduceSub, Nat.reduceMul, Nat.reduceLT, Nat.reduceLeDiff, Nat.reduceEqDiff, Int.reduceNeg, Int.reduceEq, Int.reduceNe, Int.reduceBEq, Int.reduceBNe, Int.reduceLT, Int.reduceLE, Int.reduceGT, Int.reduceAdd, reduceIte, Bool.not_true, Bool.not_false, decide_true, decide_false, ne_eq, not_false_eq_true, not_true_eq_false, hb1]
    refine rWrite_ok hk h1 hD ha g1 hbl ho.off fun H2 C2 h2 hev2 => ?_
    simp only [cellH_mk, cellO_some, add_mk, size_upd, upd_upd, one_int, one_bool, one_string, one_pointer, one_slice, one_map, one_func, st1_some, stN_nil, stN_cons, StV_mk, StO_some, Ld_some, RtI_mk, RtB_mk, RtS_mk, RtP_mk, RtL_mk, RtM_mk, RtA_mk, RtT_mk, NilC_some, New_eq, At_eq, Ck_true, Rt0_mk, BrB_true, BrB_false, Nat.zero_add, List.length_cons, List.length_nil, List.getElem?_cons_zero, List.getElem?_cons_succ, List.set_cons_zero, List.set_cons_succ, List.getD_cons_zero, List.getD_cons_succ, Option.isNone_some, Option.isNone_none, Go.Disk.fsO, Go.Disk.fileO, Bool.false_eq_true, eq_self, Nat.reduceAdd, Nat.reduceSub, Nat.reduceMul, Nat.reduceLT, Nat.reduceLeDiff, Nat.reduceEqDiff, Int.reduceNeg, Int.reduceEq, Int.reduceNe, Int.reduceBEq, Int.reduceBNe, Int.reduceLT, Int.reduceLE, Int.reduceGT, Int.reduceAdd, reduceIte, Bool.not_true, Bool.not_false, decide_true, decide_false, ne_eq, not_false_eq_true, not_true_eq_false]
    exact hK1 h2 hev1 hev2
  have e0 := nx (n := 2) e0
  rw [if_neg e0] at hK1
  refine BrB_i (fun e => ?_) (fun e0 => ?_)
  · have e := px (n := 3) e
    rw [if_pos e] at hK1
    simp only [cellH_mk, cellO_some, add_mk, size_upd, upd_upd, one_int, one_bool, one_string, one_pointer, one_slice, one_map, one_func, st1_some, stN_nil, stN_cons, StV_mk, StO_some, Ld_some, RtI_mk, RtB_mk, RtS_mk, RtP_mk, RtL_mk, RtM_mk, RtA_mk, RtT_mk, NilC_some, New_eq, At_eq, Ck_true, Rt0_mk, BrB_true, BrB_false, Nat.zero_add, List.length_cons, List.length_nil, List.getElem?_cons_zero, List.getElem?_cons_succ, List.set_cons_zero, List.set_cons_succ, List.getD_cons_zero, List.getD_cons_succ, Option.isNone_some, Option.isNone_none, Go.Disk.fsO, Go.Disk.fileO, Bool.false_eq_true, eq_self, Nat.reduceAdd, Nat.reduceSub, Nat.reduceMul, Nat.reduceLT, Nat.reduceLeDiff, Nat.reduceEqDiff, Int.reduceNeg, Int.reduceEq, Int.reduceNe, Int.reduceBEq, Int.reduceBNe, Int.reduceLT, Int.reduceLE, Int.reduceGT, Int.reduceAdd, reduceIte, Bool.not_true, Bool.not_false, decide_true, decide_false, ne_eq, not_false_eq_true, not_true_eq_false, hb1]
    refine rCut_ok hk h1 hD ha fun H2 C2 h2 hev2 => ?_
    simp only [cellH_mk, cellO_some, add_mk, size_upd, upd_upd, one_int, one_bool, one_string, one_pointer, one_slice, one_map, one_func, st1_some, stN_nil, stN_cons, StV_mk, StO_some, Ld_some, RtI_mk, RtB_mk, RtS_mk, RtP_mk, RtL_mk, RtM_mk, RtA_mk, RtT_mk, NilC_some, New_eq, At_eq, Ck_true, Rt0_mk, BrB_true, BrB_false, Nat.zero_add, List.length_cons, List.length_nil, List.getElem?_cons_zero, List.getElem?_cons_succ, List.set_cons_zero, List.set_cons_succ, List.getD_cons_zero, List.getD_cons_succ, Option.isNone_some, Option.isNone_none, Go.Disk.fsO, Go.Disk.fileO, Bool.false_eq_true, eq_self, Nat.reduceAdd, Nat.reduceSub, Nat.reduceMul, Nat.reduceLT, Nat.reduceLeDiff, Nat.reduceEqDiff, Int.reduceNeg, Int.reduceEq, Int.reduceNe, Int.reduceBEq, Int.reduceBNe, Int.reduceLT, Int.reduceLE, Int.reduceGT, Int.reduceAdd, reduceIte, Bool.not_true, Bool.not_false, decide_true, decide_false, ne_eq, not_false_eq_true, not_true_eq_false]
    exact hK1 h2 hev1 hev2
  have e0 := nx (n := 3) e0
  rw [if_neg e0] at hK1
  refine BrB_i (fun e => ?_) (fun e0 => ?_)
  · have e := px (n := 4) e
    rw [if_pos e] at hK1
    simp only [cellH_mk, cellO_some, add_mk, size_upd, upd_upd, one_int, one_bool, one_string, one_pointer, one_slice, one_map, one_func, st1_some, stN_nil, stN_cons, StV_mk, StO_some, Ld_some, RtI_mk, RtB_mk, RtS_mk, RtP_mk, RtL_mk, RtM_mk, RtA_mk, RtT_mk, NilC_some, New_eq, At_eq, Ck_true, Rt0_mk, BrB_true, BrB_false, Nat.zero_add, List.length_cons, List.length_nil, List.getElem?_cons_zero, List.getElem?_cons_succ, List.set_cons_zero, List.set_cons_succ, List.getD_cons_zero, List.getD_cons_succ, Option.isNone_some, Option.isNone_none, Go.Disk.fsO, Go.Disk.fileO, Bool.false_eq_true, eq_self, Nat.reduceAdd, Nat.reduceSub, Nat.reduceMul, Nat.reduceLT, Nat.reduceLeDiff, Nat.reduceEqDiff, Int.reduceNeg, Int.reduceEq, Int.reduceNe, Int.reduceBEq, Int.reduceBNe, Int.reduceLT, Int.reduceLE, Int.reduceGT, Int.reduceAdd, reduceIte, Bool.not_true, Bool.not_false, decide_true, decide_false, ne_eq, not_false_eq_true, not_true_eq_false, hb1]
    refine rRename_ok (dst := o.dst) hk h1 hD ha (by omega) fun H2 C2 h2 hev2 => ?_
    simp only [cellH_mk, cellO_some, add_mk, size_upd, upd_upd, one_int, one_bool, one_string, one_pointer, one_slice, one_map, one_func, st1_some, stN_nil, stN_cons, StV_mk, StO_some, Ld_some, RtI_mk, RtB_mk, RtS_mk, RtP_mk, RtL_mk, RtM_mk, RtA_mk, RtT_mk, NilC_some, New_eq, At_eq, Ck_true, Rt0_mk, BrB_true, BrB_false, Nat.zero_add, List.length_cons, List.length_nil, List.getElem?_cons_zero, List.getElem?_cons_succ, List.set_cons_zero, List.set_cons_succ, List.getD_cons_zero, List.getD_cons_succ, Option.isNone_some, Option.isNone_none, Go.Disk.fsO, Go.Disk.fileO, Bool.false_eq_true, eq_self, Nat.reduceAdd, Nat.reduceSub, Nat.reduceMul, Nat.reduceLT, Nat.reduceLeDiff, Nat.reduceEqDiff, Int.reduceNeg, Int.reduceEq, Int.reduceNe, Int.reduceBEq, Int.reduceBNe, Int.reduceLT, Int.reduceLE, Int.reduceGT, Int.reduceAdd, reduceIte, Bool.not_true, Bool.not_false, decide_true, decide_false, ne_eq, not_false_eq_true, not_true_eq_false]
    exact hK1 h2 hev1 hev2
  have e0 := nx (n := 4) e0
  rw [if_neg e0] at hK1
  refine BrB_i (fun e => ?_) (fun e0 => ?_)
  · have e := px (n := 5) e
    rw [if_pos e] at hK1
    simp only [cellH_mk, cellO_some, add_mk, size_upd, upd_upd, one_int, one_bool, one_string, one_pointer, one_slice, one_map, one_func, st1_some, stN_nil, stN_cons, StV_mk, StO_some, Ld_some, RtI_mk, RtB_mk, RtS_mk, RtP_mk, RtL_mk, RtM_mk, RtA_mk, RtT_mk, NilC_some, New_eq, At_eq, Ck_true, Rt0_mk, BrB_true, BrB_false, Nat.zero_add, List.length_cons, List.length_nil, List.getElem?_cons_zero, List.getElem?_cons_succ, List.set_cons_zero, List.set_cons_succ, List.getD_cons_zero, List.getD_cons_succ, Option.isNone_some, Option.isNone_none, Go.Disk.fsO, Go.Disk.fileO, Bool.false_eq_true, eq_self, Nat.reduceAdd, Nat.reduceSub, Nat.reduceMul, Nat.reduceLT, Nat.reduceLeDiff, Nat.reduceEqDiff, Int.reduceNeg, Int.reduceEq, Int.reduceNe, Int.reduceBEq, Int.reduceBNe, Int.reduceLT, Int.reduceLE, Int.reduceGT, Int.reduceAdd, reduceIte, Bool.not_true, Bool.not_false, decide_true, decide_false, ne_eq, not_false_eq_true, not_true_eq_false, hb1]
    refine rRemove_ok hk h1 hD ha fun H2 C2 h2 hev2 => ?_
    simp only [cellH_mk, cellO_some, add_mk, size_upd, upd_upd, one_int, one_bool, one_string, one_pointer, one_slice, one_map, one_func, st1_some, stN_nil, stN_cons, StV_mk, StO_some, Ld_some, RtI_mk, RtB_mk, RtS_mk, RtP_mk, RtL_mk, RtM_mk, RtA_mk, RtT_mk, NilC_some, New_eq, At_eq, Ck_true, Rt0_mk, BrB_true, BrB_false, Nat.zero_add, List.length_cons, List.length_nil, List.getElem?_cons_zero, List.getElem?_cons_succ, List.set_cons_zero, List.set_cons_succ, List.getD_cons_zero, List.getD_cons_succ, Option.isNone_some, Option.isNone_none, Go.Disk.fsO, Go.Disk.fileO, Bool.false_eq_true, eq_self, Nat.reduceAdd, Nat.reduceSub, Nat.reduceMul, Nat.reduceLT, Nat.reduceLeDiff, Nat.reduceEqDiff, Int.reduceNeg, Int.reduceEq, Int.reduceNe, Int.reduceBEq, Int.reduceBNe, Int.reduceLT, Int.reduceLE, Int.reduceGT, Int.reduceAdd, reduceIte, Bool.not_true, Bool.not_false, decide_true, decide_false, ne_eq, not_false_eq_true, not_true_eq_false]
    exact hK1 h2 hev1 hev2
  have e0 := nx (n := 5) e0
  rw [if_neg e0] at hK1
  refine BrB_i (fun e => ?_) (fun e0 => ?_)
  · have e := px (n := 6) e
    rw [if_pos e] at hK1
    simp only [cellH_mk, cellO_some, add_mk, size_upd, upd_upd, one_int, one_bool, one_string, one_pointer, one_slice, one_map, one_func, st1_some, stN_nil, stN_cons, StV_mk, StO_some, Ld_some, RtI_mk, RtB_mk, RtS_mk, RtP_mk, RtL_mk, RtM_mk, RtA_mk, RtT_mk, NilC_some, New_eq, At_eq, Ck_true, Rt0_mk, BrB_true, BrB_false, Nat.zero_add, List.length_cons, List.length_nil, List.getElem?_cons_zero, List.getElem?_cons_succ, List.set_cons_zero, List.set_cons_succ, List.getD_cons_zero, List.getD_cons_succ, Option.isNone_some, Option.isNone_none, Go.Disk.fsO, Go.Disk.fileO, Bool.false_eq_true, eq_self, Nat.reduceAdd, Nat.reduceSub, Nat.reduceMul, Nat.reduceLT, Nat.reduceLeDiff, Nat.reduceEqDiff, Int.reduceNeg, Int.reduceEq, Int.reduceNe, Int.reduceBEq, Int.reduceBNe, Int.reduceLT, Int.reduceLE, Int.reduceGT, Int.reduceAdd, reduceIte, Bool.not_true, Bool.not_false, decide_true, decide_false, ne_eq, not_false_eq_true, not_true_eq_false, hb1]
    refine rSync_ok hk h1 hD ha fun H2 C2 h2 hev2 => ?_
    simp only [cellH_mk, cellO_some, add_mk, size_upd, upd_upd, one_int, one_bool, one_string, one_pointer, one_slice, one_map, one_func, st1_some, stN_nil, stN_cons, StV_mk, StO_some, Ld_some, RtI_mk, RtB_mk, RtS_mk, RtP_mk, RtL_mk, RtM_mk, RtA_mk, RtT_mk, NilC_some, New_eq, At_eq, Ck_true, Rt0_mk, BrB_true, BrB_false, Nat.zero_add, List.length_cons, List.length_nil, List.getElem?_cons_zero, List.getElem?_cons_succ, List.set_cons_zero, List.set_cons_succ, List.getD_cons_zero, List.getD_cons_succ, Option.isNone_some, Option.isNone_none, Go.Disk.fsO, Go.Disk.fileO, Bool.false_eq_true, eq_self, Nat.reduceAdd, Nat.reduceSub, Nat.reduceMul, Nat.reduceLT, Nat.reduceLeDiff, Nat.reduceEqDiff, Int.reduceNeg, Int.reduceEq, Int.reduceNe, Int.reduceBEq, Int.reduceBNe, Int.reduceLT, Int.reduceLE, Int.reduceGT, Int.reduceAdd, reduceIte, Bool.not_true, Bool.not_false, decide_true, decide_false, ne_eq, not_false_eq_true, not_true_eq_false]
    exact hK1 h2 hev1 hev2
  have e0 := nx (n := 6) e0
  rw [if_neg e0] at hK1
  refine BrB_i (fun e => ?_) (fun e0 => ?_)
  · have e := px (n := 7) e
    rw [if_pos e] at hK1
    refine rSyncDir_ok hk h1 hD ha fun H2 C2 h2 hev2 => ?_
    simp only [cellH_mk, cellO_some, add_mk, size_upd, upd_upd, one_int, one_bool, one_string, one_pointer, one_slice, one_map, one_func, st1_some, stN_nil, stN_cons, StV_mk, StO_some, Ld_some, RtI_mk, RtB_mk, RtS_mk, RtP_mk, RtL_mk, RtM_mk, RtA_mk, RtT_mk, NilC_some, New_eq, At_eq, Ck_true, Rt0_mk, BrB_true, BrB_false, Nat.zero_add, List.length_cons, List.length_nil, List.getElem?_cons_zero, List.getElem?_cons_succ, List.set_cons_zero, List.set_cons_succ, List.getD_cons_zero, List.getD_cons_succ, Option.isNone_some, Option.isNone_none, Go.Disk.fsO, Go.Disk.fileO, Bool.false_eq_true, eq_self, Nat.reduceAdd, Nat.reduceSub, Nat.reduceMul, Nat.reduceLT, Nat.reduceLeDiff, Nat.reduceEqDiff, Int.reduceNeg, Int.reduceEq, Int.reduceNe, Int.reduceBEq, Int.reduceBNe, Int.reduceLT, Int.reduceLE, Int.reduceGT, Int.reduceAdd, reduceIte, Bool.not_true, Bool.not_false, decide_true, decide_false, ne_eq, not_false_eq_true, not_true_eq_false]
    exact hK1 h2 hev1 hev2
  have e0 := nx (n := 7) e0
  rw [if_neg e0] at hK1
  refine BrB_i (fun e => ?_) (fun e0 => ?_)
  · have e := px (n := 8) e
    rw [if_pos e] at hK1
    simp only [cellH_mk, cellO_some, add_mk, size_upd, upd_upd, one_int, one_bool, one_string, one_pointer, one_slice, one_map, one_func, st1_some, stN_nil, stN_cons, StV_mk, StO_some, Ld_some, RtI_mk, RtB_mk, RtS_mk, RtP_mk, RtL_mk, RtM_mk, RtA_mk, RtT_mk, NilC_some, New_eq, At_eq, Ck_true, Rt0_mk, BrB_true, BrB_false, Nat.zero_add, List.length_cons, List.length_nil, List.getElem?_cons_zero, List.getElem?_cons_succ, List.set_cons_zero, List.set_cons_succ, List.getD_cons_zero, List.getD_cons_succ, Option.isNone_some, Option.isNone_none, Go.Disk.fsO, Go.Disk.fileO, Bool.false_eq_true, eq_self, Nat.reduceAdd, Nat.reduceSub, Nat.reduceMul, Nat.reduceLT, Nat.reduceLeDiff, Nat.reduceEqDiff, Int.reduceNeg, Int.reduceEq, Int.reduceNe, Int.reduceBEq, Int.reduceBNe, Int.reduceLT, Int.reduceLE, Int.reduceGT, Int.reduceAdd, reduceIte, Bool.not_true, Bool.not_false, decide_true, decide_false, ne_eq, not_false_eq_true, not_true_eq_false, hb1]
    refine rArm_ok hk h1 fun H2 C2 h2 hev2 => ?_
    simp only [cellH_mk, cellO_some, add_mk, size_upd, upd_upd, one_int, one_bool, one_string, one_pointer, one_slice, one_map, one_func, st1_some, stN_nil, stN_cons, StV_mk, StO_some, Ld_some, RtI_mk, RtB_mk, RtS_mk, RtP_mk, RtL_mk, RtM_mk, RtA_mk, RtT_mk, NilC_some, New_eq, At_eq, Ck_true, Rt0_mk, BrB_true, BrB_false, Nat.zero_add, List.length_cons, List.length_nil, List.getElem?_cons_zero, List.getElem?_cons_succ, List.set_cons_zero, List.set_cons_succ, List.getD_cons_zero, List.getD_cons_succ, Option.isNone_some, Option.isNone_none, Go.Disk.fsO, Go.Disk.fileO, Bool.false_eq_true, eq_self, Nat.reduceAdd, Nat.reduceSub, Nat.reduceMul, Nat.reduceLT, Nat.reduceLeDiff, Nat.reduceEqDiff, Int.reduceNeg, Int.reduceEq, Int.reduceNe, Int.reduceBEq, Int.reduceBNe, Int.reduceLT, Int.reduceLE, Int.reduceGT, Int.reduceAdd, reduceIte, Bool.not_true, Bool.not_false, decide_true, decide_false, ne_eq, not_false_eq_true, not_true_eq_false]
    exact hK1 h2 hev1 hev2
  have e0 := nx (n := 8) e0
  rw [if_neg e0] at hK1
  exact hK1 h1 hev1 (Ev.refl _ _ _)

theorem files_ok {H : Heap} {C : Col} {k k' p q : Nat} {D : Disk} {a : Option Addr} {l c : Nat} {ns : List Name} {K : Value → Heap → Prop} (hf : IsFS H C k p D) (hg : IsRef H C k' q D) (hD : DiskOk D) (ha : D.acts < 2 ^ 39)
    (hs : SlI H C 1 a l c (ns.map Value.string)) (hl : l < 2 ^ 60) (hK : ∀ H' C', Ev no H C H' C' → K (.bool true) H') :
    Fn 76 [.pointer (some ⟨p, 0, none⟩), .pointer (some ⟨q, 0, none⟩), .slice a l c] H K := by
  refine F76_ok _ _ _ _ _ ?_
  unfold F76
  have hln : l = ns.length := by have := hs.1; simp at this; omega
  refine ⟨fun i H' => ∃ C', ∃ m : Nat, i = (m : Int) ∧ m ≤ l ∧ Ev no H C H' C', fun i _ => l - i.toNat, ⟨C, 0, rfl, by omega, Ev.refl _ _ _⟩, ?_⟩
  rintro fr i H1 ⟨C1, m, rfl, hm, hev1⟩
  simp only [cellH_mk, cellO_some, add_mk, size_upd, upd_upd, one_int, one_bool, one_string, one_pointer, one_slice, one_map, one_func, st1_some, stN_nil, stN_cons, StV_mk, StO_some, Ld_some, RtI_mk, RtB_mk, RtS_mk, RtP_mk, RtL_mk, RtM_mk, RtA_mk, RtT_mk, NilC_some, New_eq, At_eq, Ck_true, Rt0_mk, BrB_true, BrB_false, Nat.zero_add, List.length_cons, List.length_nil, List.getElem?_cons_zero, List.getElem?_cons_succ, List.set_cons_zero, List.set_cons_succ, List.getD_cons_zero, List.getD_cons_succ, Option.isNone_some, Option.isNone_none, Go.Disk.fsO, Go.Disk.fileO, Bool.false_eq_true, eq_self, Nat.reduceAdd, Nat.reduceSub, Nat.reduceMul, Nat.reduceLT, Nat.reduceLeDiff, Nat.reduceEqDiff, Int.reduceNeg, Int.reduceEq, Int.reduceNe, Int.reduceBEq, Int.reduceBNe, Int.reduceLT, Int.reduceLE, Int.reduceGT, Int.reduceAdd, reduceIte, Bool.not_true, Bool.not_false, decide_true, decide_false, ne_eq, not_false_eq_true, not_true_eq_false]
  refine BrB_i (fun hlt => ?_) (fun _ => hK H1 C1 hev1)
  have hlt := of_decide_eq_true hlt
  have hom : ns[m]? = some (ns[m]'(by omega)) := List.getElem?_eq_getElem _
  generalize ns[m]'(by omega) = nm at hom
  have hs1 := hs.ev hev1 fun _ _ h => h
  refine hs1.r.cell (i := m) (by omega) (v := .string nm) (by rw [List.getElem?_map, hom]; rfl) fun e he => ?_
  simp only [cellH_mk, cellO_some, add_mk, size_upd, upd_upd, one_int, one_bool, one_string, one_pointer, one_slice, one_map, one_func, st1_some, stN_nil, stN_cons, StV_mk, StO_some, Ld_some, RtI_mk, RtB_mk, RtS_mk, RtP_mk, RtL_mk, RtM_mk, RtA_mk, RtT_mk, NilC_some, New_eq, At_eq, Ck_true, Rt0_mk, BrB_true, BrB_false, Nat.zero_add, List.length_cons, List.length_nil, List.getElem?_cons_zero, List.getElem?_cons_succ, List.set_cons_zero, List.set_cons_succ, List.getD_cons_zero, List.getD_cons_succ, Option.isNone_some, Option.isNone_none, Go.Disk.fsO, Go.Disk.fileO, Bool.false_eq_true, eq_self, Nat.reduceAdd, Nat.reduceSub, Nat.reduceMul, Nat.reduceLT, Nat.reduceLeDiff, Nat.reduceEqDiff, Int.reduceNeg, Int.reduceEq, Int.reduceNe, Int.reduceBEq, Int.reduceBNe, Int.reduceLT, Int.reduceLE, Int.reduceGT, Int.reduceAdd, reduceIte, Bool.not_true, Bool.not_false, decide_true, decide_false, ne_eq, not_false_eq_true, not_true_eq_false, he]
  refine Read_ok (name := nm) (hf.ev hev1 (fun _ _ h => h) fun _ _ h => h) hD (by omega) (by omega) (0, 0) fun a1 l1 c1 H2 C2 g2 hev2 => ?_
  have g2 := g2.imm rfl
  have hev2 := hev1.trans hev2
  simp only [cellH_mk, cellO_some, add_mk, size_upd, upd_upd, one_int, one_bool, one_string, one_pointer, one_slice, one_map, one_func, st1_some, stN_nil, stN_cons, StV_mk, StO_some, Ld_some, RtI_mk, RtB_mk, RtS_mk, RtP_mk, RtL_mk, RtM_mk, RtA_mk, RtT_mk, NilC_some, New_eq, At_eq, Ck_true, Rt0_mk, BrB_true, BrB_false, Nat.zero_add, List.length_cons, List.length_nil, List.getElem?_cons_zero, List.getElem?_cons_succ, List.set_cons_zero, List.set_cons_succ, List.getD_cons_zero, List.getD_cons_succ, Option.isNone_some, Option.isNone_none, Go.Disk.fsO, Go.Disk.fileO, Bool.false_eq_true, eq_self, Nat.reduceAdd, Nat.reduceSub, Nat.reduceMul, Nat.reduceLT, Nat.reduceLeDiff, Nat.reduceEqDiff, Int.reduceNeg, Int.reduceEq, Int.reduceNe, Int.reduceBEq, Int.reduceBNe, Int.reduceLT, Int.reduceLE, Int.reduceGT, Int.reduceAdd, reduceIte, Bool.not_true, Bool.not_false, decide_true, decide_false, ne_eq, not_false_eq_true, not_true_eq_false]
  have hs2 := hs.ev hev2 fun _ _ h => h
  refine hs2.r.cell (i := m) (by omega) (v := .string nm) (by rw [List.getElem?_map, hom]; rfl) fun e he => ?_
  simp only [cellH_mk, cellO_some, add_mk, size_upd, upd_upd, one_int, one_bool, one_string, one_pointer, one_slice, one_map, one_func, st1_some, stN_nil, stN_cons, StV_mk, StO_some, Ld_some, RtI_mk, RtB_mk, RtS_mk, RtP_mk, RtL_mk, RtM_mk, RtA_mk, RtT_mk, NilC_some, New_eq, At_eq, Ck_true, Rt0_mk, BrB_true, BrB_false, Nat.zero_add, List.length_cons, List.length_nil, List.getElem?_cons_zero, List.getElem?_cons_succ, List.set_cons_zero, List.set_cons_succ, List.getD_cons_zero, List.getD_cons_succ, Option.isNone_some, Option.isNone_none, Go.Disk.fsO, Go.Disk.fileO, Bool.false_eq_true, eq_self, Nat.reduceAdd, Nat.reduceSub, Nat.reduceMul, Nat.reduceLT, Nat.reduceLeDiff, Nat.reduceEqDiff, Int.reduceNeg, Int.reduceEq, Int.reduceNe, Int.reduceBEq, Int.reduceBNe, Int.reduceLT, Int.reduceLE, Int.reduceGT, Int.reduceAdd, reduceIte, Bool.not_true, Bool.not_false, decide_true, decide_false, ne_eq, not_false_eq_true, not_true_eq_false, he]
  refine rRead_ok (name := nm) (hg.ev hev2 (fun _ _ h => h) fun _ h => h) hD ha (by omega) (by omega) (0, 0) fun a3 l3 c3 H3 C3 g3 hev3 => ?_
  have g23 := g2.ev hev3 fun _ _ h => h
  have hev3 := hev2.trans hev3
  simp only [cellH_mk, cellO_some, add_mk, size_upd, upd_upd, one_int, one_bool, one_string, one_pointer, one_slice, one_map, one_func, st1_some, stN_nil, stN_cons, StV_mk, StO_some, Ld_some, RtI_mk, RtB_mk, RtS_mk, RtP_mk, RtL_mk, RtM_mk, RtA_mk, RtT_mk, NilC_some, New_eq, At_eq, Ck_true, Rt0_mk, BrB_true, BrB_false, Nat.zero_add, List.length_cons, List.length_nil, List.getElem?_cons_zero, List.getElem?_cons_succ, List.set_cons_zero, List.set_cons_succ, List.getD_cons_zero, List.getD_cons_succ, Option.isNone_some, Option.isNone_none, Go.Disk.fsO, Go.Disk.fileO, Bool.false_eq_true, eq_self, Nat.reduceAdd, Nat.reduceSub, Nat.reduceMul, Nat.reduceLT, Nat.reduceLeDiff, Nat.reduceEqDiff, Int.reduceNeg, Int.reduceEq, Int.reduceNe, Int.reduceBEq, Int.reduceBNe, Int.reduceLT, Int.reduceLE, Int.reduceGT, Int.reduceAdd, reduceIte, Bool.not_true, Bool.not_false, decide_true, decide_false, ne_eq, not_false_eq_true, not_true_eq_false]
  refine BrB_i (fun h => by simp at h) (fun _ => ?_)
  have hrl := dRead_len' (name := nm) (off := 0) (n := 1048576) (D := D) (by omega)
  have hl16 := g23.bl
  refine Same_ok g23.r g3.r (by omega) ?_
  rw [decide_eq_true rfl]
  simp only [cellH_mk, cellO_some, add_mk, size_upd, upd_upd, one_int, one_bool, one_string, one_pointer, one_slice, one_map, one_func, st1_some, stN_nil, stN_cons, StV_mk, StO_some, Ld_some, RtI_mk, RtB_mk, RtS_mk, RtP_mk, RtL_mk, RtM_mk, RtA_mk, RtT_mk, NilC_some, New_eq, At_eq, Ck_true, Rt0_mk, BrB_true, BrB_false, Nat.zero_add, List.length_cons, List.length_nil, List.getElem?_cons_zero, List.getElem?_cons_succ, List.set_cons_zero, List.set_cons_succ, List.getD_cons_zero, List.getD_cons_succ, Option.isNone_some, Option.isNone_none, Go.Disk.fsO, Go.Disk.fileO, Bool.false_eq_true, eq_self, Nat.reduceAdd, Nat.reduceSub, Nat.reduceMul, Nat.reduceLT, Nat.reduceLeDiff, Nat.reduceEqDiff, Int.reduceNeg, Int.reduceEq, Int.reduceNe, Int.reduceBEq, Int.reduceBNe, Int.reduceLT, Int.reduceLE, Int.reduceGT, Int.reduceAdd, reduceIte, Bool.not_true, Bool.not_false, decide_true, decide_false, ne_eq, not_false_eq_true, not_true_eq_false]
  rw [w64 (by omega) (by omega)]
  refine ⟨⟨C3, m + 1, by omega, by omega, hev3⟩, ?_⟩
  show l - ((m : Int) + 1).toNat < l - ((m : Nat) : Int).toNat
  omega

theorem alike_ok {H : Heap} {C : Col} {k k' p q : Nat} {D : Disk} {o : OpA} {s : SlV} {K : Value → Heap → Prop} (hf : IsFS H C k p D) (hg : IsRef H C k' q D) (hD : DiskOk D) (ha : D.acts < 2 ^ 39) (hoff : -2 ^ 63 ≤ o.off ∧ o.off < 2 ^ 63)
    (hK : ∀ H' C', Ev no H C H' C' → K (.bool true) H') :
    Fn 39 [.pointer (some ⟨p, 0, none⟩), .pointer (some ⟨q, 0, none⟩), .agg ⟨opCells o s⟩] H K := by
  unfold opCells
  refine F39_ok _ _ _ _ _ _ _ _ _ ?_
  unfold F39
  simp only [cellH_mk, cellO_some, add_mk, size_upd, upd_upd, one_int, one_bool, one_string, one_pointer, one_slice, one_map, one_func, st1_some, stN_nil, stN_cons, StV_mk, StO_some, Ld_some, RtI_mk, RtB_mk, RtS_mk, RtP_mk, RtL_mk, RtM_mk, RtA_mk, RtT_mk, NilC_some, New_eq, At_eq, Ck_true, Rt0_mk, BrB_true, BrB_false, Nat.zero_add, List.length_cons, List.length_nil, List.getElem?_cons_zero, List.getElem?_cons_succ, List.set_cons_zero, List.set_cons_succ, List.getD_cons_zero, List.getD_cons_succ, Option.isNone_some, Option.isNone_none, Go.Disk.fsO, Go.Disk.fileO, Bool.false_eq_true, eq_self, Nat.reduceAdd, Nat.reduceSub, Nat.reduceMul, Nat.reduceLT, Nat.reduceLeDiff, Nat.reduceEqDiff, Int.reduceNeg, Int.reduceEq, Int.reduceNe, Int.reduceBEq, Int.reduceBNe, Int.reduceLT, Int.reduceLE, Int.reduceGT, Int.reduceAdd, reduceIte, Bool.not_true, Bool.not_false, decide_true, decide_false, ne_eq, not_false_eq_true, not_true_eq_false, NewN_eq]
  have hev1 := ev_push no H C (.cells ⟨[.int .u8 (o.call : Int), .string o.name, .string o.dst, .int .i64 o.off, .slice s.1 s.2.1 s.2.2]⟩ 50) (0, 0)
  have hb1 : (H.push (.cells ⟨[.int .u8 (o.call : Int), .string o.name, .string o.dst, .int .i64 o.off, .slice s.1 s.2.1 s.2.2]⟩ 50))[H.size]? = some (.cells ⟨[.int .u8 (o.call : Int), .string o.name, .string o.dst, .int .i64 o.off, .slice s.1 s.2.1 s.2.2]⟩ 50 (0, 0)) := get_push_self _ _
  generalize H.push _ = H1 at *
  generalize setC C H.size (0, 0) = C1 at *
  generalize H.size = nb at *
  have F : ∀ {H' C'}, Ev no H C H' C' → IsFS H' C' k p D := fun he => hf.ev he (fun _ _ h => h) fun _ _ h => h
  have G : ∀ {H' C'}, Ev no H C H' C' → IsRef H' C' k' q D := fun he => hg.ev he (fun _ _ h => h) fun _ h => h
  refine rNames_ok (G hev1) hD (0, 0) fun al ll cl H2 C2 g2 hev2 => ?_
  have hb2 := hev2.get hb1 fun h => h
  have hev2 := hev1.trans hev2
  have g2 := g2.imm rfl
  have hls := hD.seen.2.1
  have hll : ll ≤ 64 := by
    have := g2.1
    rw [List.length_map] at this
    split at this
    · simp at this; omega
    · rw [List.length_map] at this; omega
  simp only [cellH_mk, cellO_some, add_mk, size_upd, upd_upd, one_int, one_bool, one_string, one_pointer, one_slice, one_map, one_func, st1_some, stN_nil, stN_cons, StV_mk, StO_some, Ld_some, RtI_mk, RtB_mk, RtS_mk, RtP_mk, RtL_mk, RtM_mk, RtA_mk, RtT_mk, NilC_some, New_eq, At_eq, Ck_true, Rt0_mk, BrB_true, BrB_false, Nat.zero_add, List.length_cons, List.length_nil, List.getElem?_cons_zero, List.getElem?_cons_succ, List.set_cons_zero, List.set_cons_succ, List.getD_cons_zero, List.getD_cons_succ, Option.isNone_some, Option.isNone_none, Go.Disk.fsO, Go.Disk.fileO, Bool.false_eq_true, eq_self, Nat.reduceAdd, Nat.reduceSub, Nat.reduceMul, Nat.reduceLT, Nat.reduceLeDiff, Nat.reduceEqDiff, Int.reduceNeg, Int.reduceEq, Int.reduceNe, Int.reduceBEq, Int.reduceBNe, Int.reduceLT, Int.reduceLE, Int.reduceGT, Int.reduceAdd, reduceIte, Bool.not_true, Bool.not_false, decide_true, decide_false, ne_eq, not_false_eq_true, not_true_eq_false]
  refine Names_ok (F hev2) hD (0, 0) fun a3 c3 H3 C3 g3 hev3 => ?_
  have hb3 := hev3.get hb2 fun h => h
  have g23 := g2.ev hev3 fun _ _ h => h
  have hev3 := hev2.trans hev3
  have g3 := g3.imm rfl
  have en : (dNamesOf D).map encStr = (if D.dead then [] else D.seen.map (·.1)).map Value.string := by
    unfold dNamesOf
    split
    · rfl
    · exact encs_names2 _
  have el : (dNamesOf D).length ≤ 64 := by
    unfold dNamesOf
    split
    · simp
    · simp [dNames]; omega
  rw [en] at g3
  simp only [cellH_mk, cellO_some, add_mk, size_upd, upd_upd, one_int, one_bool, one_string, one_pointer, one_slice, one_map, one_func, st1_some, stN_nil, stN_cons, StV_mk, StO_some, Ld_some, RtI_mk, RtB_mk, RtS_mk, RtP_mk, RtL_mk, RtM_mk, RtA_mk, RtT_mk, NilC_some, New_eq, At_eq, Ck_true, Rt0_mk, BrB_true, BrB_false, Nat.zero_add, List.length_cons, List.length_nil, List.getElem?_cons_zero, List.getElem?_cons_succ, List.set_cons_zero, List.set_cons_succ, List.getD_cons_zero, List.getD_cons_succ, Option.isNone_some, Option.isNone_none, Go.Disk.fsO, Go.Disk.fileO, Bool.false_eq_true, eq_self, Nat.reduceAdd, Nat.reduceSub, Nat.reduceMul, Nat.reduceLT, Nat.reduceLeDiff, Nat.reduceEqDiff, Int.reduceNeg, Int.reduceEq, Int.reduceNe, Int.reduceBEq, Int.reduceBNe, Int.reduceLT, Int.reduceLE, Int.reduceGT, Int.reduceAdd, reduceIte, Bool.not_true, Bool.not_false, decide_true, decide_false, ne_eq, not_false_eq_true, not_true_eq_false]
  refine Texts_ok g3.r g23.r (by omega) ?_
  rw [decide_eq_true rfl]
  simp only [cellH_mk, cellO_some, add_mk, size_upd, upd_upd, one_int, one_bool, one_string, one_pointer, one_slice, one_map, one_func, st1_some, stN_nil, stN_cons, StV_mk, StO_some, Ld_some, RtI_mk, RtB_mk, RtS_mk, RtP_mk, RtL_mk, RtM_mk, RtA_mk, RtT_mk, NilC_some, New_eq, At_eq, Ck_true, Rt0_mk, BrB_true, BrB_false, Nat.zero_add, List.length_cons, List.length_nil, List.getElem?_cons_zero, List.getElem?_cons_succ, List.set_cons_zero, List.set_cons_succ, List.getD_cons_zero, List.getD_cons_succ, Option.isNone_some, Option.isNone_none, Go.Disk.fsO, Go.Disk.fileO, Bool.false_eq_true, eq_self, Nat.reduceAdd, Nat.reduceSub, Nat.reduceMul, Nat.reduceLT, Nat.reduceLeDiff, Nat.reduceEqDiff, Int.reduceNeg, Int.reduceEq, Int.reduceNe, Int.reduceBEq, Int.reduceBNe, Int.reduceLT, Int.reduceLE, Int.reduceGT, Int.reduceAdd, reduceIte, Bool.not_true, Bool.not_false, decide_true, decide_false, ne_eq, not_false_eq_true, not_true_eq_false]
  refine Used_ok (F hev3) ?_
  simp only [cellH_mk, cellO_some, add_mk, size_upd, upd_upd, one_int, one_bool, one_string, one_pointer, one_slice, one_map, one_func, st1_some, stN_nil, stN_cons, StV_mk, StO_some, Ld_some, RtI_mk, RtB_mk, RtS_mk, RtP_mk, RtL_mk, RtM_mk, RtA_mk, RtT_mk, NilC_some, New_eq, At_eq, Ck_true, Rt0_mk, BrB_true, BrB_false, Nat.zero_add, List.length_cons, List.length_nil, List.getElem?_cons_zero, List.getElem?_cons_succ, List.set_cons_zero, List.set_cons_succ, List.getD_cons_zero, List.getD_cons_succ, Option.isNone_some, Option.isNone_none, Go.Disk.fsO, Go.Disk.fileO, Bool.false_eq_true, eq_self, Nat.reduceAdd, Nat.reduceSub, Nat.reduceMul, Nat.reduceLT, Nat.reduceLeDiff, Nat.reduceEqDiff, Int.reduceNeg, Int.reduceEq, Int.reduceNe, Int.reduceBEq, Int.reduceBNe, Int.reduceLT, Int.reduceLE, Int.reduceGT, Int.reduceAdd, reduceIte, Bool.not_true, Bool.not_false, decide_true, decide_false, ne_eq, not_false_eq_true, not_true_eq_false]
  refine rUsed_ok (G hev3) hD ha fun H4 C4 hev4 => ?_
  have hb4 := hev4.get hb3 fun h => h
  have g24 := g23.ev hev4 fun _ _ h => h
  have hev4 := hev3.trans hev4
  simp only [cellH_mk, cellO_some, add_mk, size_upd, upd_upd, one_int, one_bool, one_string, one_pointer, one_slice, one_map, one_func, st1_some, stN_nil, stN_cons, StV_mk, StO_some, Ld_some, RtI_mk, RtB_mk, RtS_mk, RtP_mk, RtL_mk, RtM_mk, RtA_mk, RtT_mk, NilC_some, New_eq, At_eq, Ck_true, Rt0_mk, BrB_true, BrB_false, Nat.zero_add, List.length_cons, List.length_nil, List.getElem?_cons_zero, List.getElem?_cons_succ, List.set_cons_zero, List.set_cons_succ, List.getD_cons_zero, List.getD_cons_succ, Option.isNone_some, Option.isNone_none, Go.Disk.fsO, Go.Disk.fileO, Bool.false_eq_true, eq_self, Nat.reduceAdd, Nat.reduceSub, Nat.reduceMul, Nat.reduceLT, Nat.reduceLeDiff, Nat.reduceEqDiff, Int.reduceNeg, Int.reduceEq, Int.reduceNe, Int.reduceBEq, Int.reduceBNe, Int.reduceLT, Int.reduceLE, Int.reduceGT, Int.reduceAdd, reduceIte, Bool.not_true, Bool.not_false, decide_true, decide_false, ne_eq, not_false_eq_true, not_true_eq_false]
  refine BrB_i (fun h => by simp at h) (fun _ => ?_)
  refine Room_ok (F hev4) ?_
  simp only [cellH_mk, cellO_some, add_mk, size_upd, upd_upd, one_int, one_bool, one_string, one_pointer, one_slice, one_map, one_func, st1_some, stN_nil, stN_cons, StV_mk, StO_some, Ld_some, RtI_mk, RtB_mk, RtS_mk, RtP_mk, RtL_mk, RtM_mk, RtA_mk, RtT_mk, NilC_some, New_eq, At_eq, Ck_true, Rt0_mk, BrB_true, BrB_false, Nat.zero_add, List.length_cons, List.length_nil, List.getElem?_cons_zero, List.getElem?_cons_succ, List.set_cons_zero, List.set_cons_succ, List.getD_cons_zero, List.getD_cons_succ, Option.isNone_some, Option.isNone_none, Go.Disk.fsO, Go.Disk.fileO, Bool.false_eq_true, eq_self, Nat.reduceAdd, Nat.reduceSub, Nat.reduceMul, Nat.reduceLT, Nat.reduceLeDiff, Nat.reduceEqDiff, Int.reduceNeg, Int.reduceEq, Int.reduceNe, Int.reduceBEq, Int.reduceBNe, Int.reduceLT, Int.reduceLE, Int.reduceGT, Int.reduceAdd, reduceIte, Bool.not_true, Bool.not_false, decide_true, decide_false, ne_eq, not_false_eq_true, not_true_eq_false]
  refine rRoom_ok (G hev4) ?_
  simp only [cellH_mk, cellO_some, add_mk, size_upd, upd_upd, one_int, one_bool, one_string, one_pointer, one_slice, one_map, one_func, st1_some, stN_nil, stN_cons, StV_mk, StO_some, Ld_some, RtI_mk, RtB_mk, RtS_mk, RtP_mk, RtL_mk, RtM_mk, RtA_mk, RtT_mk, NilC_some, New_eq, At_eq, Ck_true, Rt0_mk, BrB_true, BrB_false, Nat.zero_add, List.length_cons, List.length_nil, List.getElem?_cons_zero, List.getElem?_cons_succ, List.set_cons_zero, List.set_cons_succ, List.getD_cons_zero, List.getD_cons_succ, Option.isNone_some, Option.isNone_none, Go.Disk.fsO, Go.Disk.fileO, Bool.false_eq_true, eq_self, Nat.reduceAdd, Nat.reduceSub, Nat.reduceMul, Nat.reduceLT, Nat.reduceLeDiff, Nat.reduceEqDiff, Int.reduceNeg, Int.reduceEq, Int.reduceNe, Int.reduceBEq, Int.reduceBNe, Int.reduceLT, Int.reduceLE, Int.reduceGT, Int.reduceAdd, reduceIte, Bool.not_true, Bool.not_false, decide_true, decide_false, ne_eq, not_false_eq_true, not_true_eq_false]
  refine BrB_i (fun h => by
    have e : (dRoom D != (if D.dead = true then (0 : Int) else (D.room : Int))) = false := by unfold dRoom; simp
    have h : (dRoom D != (if D.dead = true then (0 : Int) else (D.room : Int))) = true := h
    rw [e] at h; cases h) (fun _ => ?_)
  refine Acts_ok (F hev4) ?_
  simp only [cellH_mk, cellO_some, add_mk, size_upd, upd_upd, one_int, one_bool, one_string, one_pointer, one_slice, one_map, one_func, st1_some, stN_nil, stN_cons, StV_mk, StO_some, Ld_some, RtI_mk, RtB_mk, RtS_mk, RtP_mk, RtL_mk, RtM_mk, RtA_mk, RtT_mk, NilC_some, New_eq, At_eq, Ck_true, Rt0_mk, BrB_true, BrB_false, Nat.zero_add, List.length_cons, List.length_nil, List.getElem?_cons_zero, List.getElem?_cons_succ, List.set_cons_zero, List.set_cons_succ, List.getD_cons_zero, List.getD_cons_succ, Option.isNone_some, Option.isNone_none, Go.Disk.fsO, Go.Disk.fileO, Bool.false_eq_true, eq_self, Nat.reduceAdd, Nat.reduceSub, Nat.reduceMul, Nat.reduceLT, Nat.reduceLeDiff, Nat.reduceEqDiff, Int.reduceNeg, Int.reduceEq, Int.reduceNe, Int.reduceBEq, Int.reduceBNe, Int.reduceLT, Int.reduceLE, Int.reduceGT, Int.reduceAdd, reduceIte, Bool.not_true, Bool.not_false, decide_true, decide_false, ne_eq, not_false_eq_true, not_true_eq_false]
  refine rActs_ok (G hev4) ?_
  simp only [cellH_mk, cellO_some, add_mk, size_upd, upd_upd, one_int, one_bool, one_string, one_pointer, one_slice, one_map, one_func, st1_some, stN_nil, stN_cons, StV_mk, StO_some, Ld_some, RtI_mk, RtB_mk, RtS_mk, RtP_mk, RtL_mk, RtM_mk, RtA_mk, RtT_mk, NilC_some, New_eq, At_eq, Ck_true, Rt0_mk, BrB_true, BrB_false, Nat.zero_add, List.length_cons, List.length_nil, List.getElem?_cons_zero, List.getElem?_cons_succ, List.set_cons_zero, List.set_cons_succ, List.getD_cons_zero, List.getD_cons_succ, Option.isNone_some, Option.isNone_none, Go.Disk.fsO, Go.Disk.fileO, Bool.false_eq_true, eq_self, Nat.reduceAdd, Nat.reduceSub, Nat.reduceMul, Nat.reduceLT, Nat.reduceLeDiff, Nat.reduceEqDiff, Int.reduceNeg, Int.reduceEq, Int.reduceNe, Int.reduceBEq, Int.reduceBNe, Int.reduceLT, Int.reduceLE, Int.reduceGT, Int.reduceAdd, reduceIte, Bool.not_true, Bool.not_false, decide_true, decide_false, ne_eq, not_false_eq_true, not_true_eq_false]
  refine BrB_i (fun h => by simp at h) (fun _ => ?_)
  refine Dead_ok (F hev4) ?_
  simp only [cellH_mk, cellO_some, add_mk, size_upd, upd_upd, one_int, one_bool, one_string, one_pointer, one_slice, one_map, one_func, st1_some, stN_nil, stN_cons, StV_mk, StO_some, Ld_some, RtI_mk, RtB_mk, RtS_mk, RtP_mk, RtL_mk, RtM_mk, RtA_mk, RtT_mk, NilC_some, New_eq, At_eq, Ck_true, Rt0_mk, BrB_true, BrB_false, Nat.zero_add, List.length_cons, List.length_nil, List.getElem?_cons_zero, List.getElem?_cons_succ, List.set_cons_zero, List.set_cons_succ, List.getD_cons_zero, List.getD_cons_succ, Option.isNone_some, Option.isNone_none, Go.Disk.fsO, Go.Disk.fileO, Bool.false_eq_true, eq_self, Nat.reduceAdd, Nat.reduceSub, Nat.reduceMul, Nat.reduceLT, Nat.reduceLeDiff, Nat.reduceEqDiff, Int.reduceNeg, Int.reduceEq, Int.reduceNe, Int.reduceBEq, Int.reduceBNe, Int.reduceLT, Int.reduceLE, Int.reduceGT, Int.reduceAdd, reduceIte, Bool.not_true, Bool.not_false, decide_true, decide_false, ne_eq, not_false_eq_true, not_true_eq_false]
  refine rDead_ok (G hev4) ?_
  simp only [cellH_mk, cellO_some, add_mk, size_upd, upd_upd, one_int, one_bool, one_string, one_pointer, one_slice, one_map, one_func, st1_some, stN_nil, stN_cons, StV_mk, StO_some, Ld_some, RtI_mk, RtB_mk, RtS_mk, RtP_mk, RtL_mk, RtM_mk, RtA_mk, RtT_mk, NilC_some, New_eq, At_eq, Ck_true, Rt0_mk, BrB_true, BrB_false, Nat.zero_add, List.length_cons, List.length_nil, List.getElem?_cons_zero, List.getElem?_cons_succ, List.set_cons_zero, List.set_cons_succ, List.getD_cons_zero, List.getD_cons_succ, Option.isNone_some, Option.isNone_none, Go.Disk.fsO, Go.Disk.fileO, Bool.false_eq_true, eq_self, Nat.reduceAdd, Nat.reduceSub, Nat.reduceMul, Nat.reduceLT, Nat.reduceLeDiff, Nat.reduceEqDiff, Int.reduceNeg, Int.reduceEq, Int.reduceNe, Int.reduceBEq, Int.reduceBNe, Int.reduceLT, Int.reduceLE, Int.reduceGT, Int.reduceAdd, reduceIte, Bool.not_true, Bool.not_false, decide_true, decide_false, ne_eq, not_false_eq_true, not_true_eq_false]
  refine BrB_i (fun h => by simp at h) (fun _ => ?_)
  simp only [cellH_mk, cellO_some, add_mk, size_upd, upd_upd, one_int, one_bool, one_string, one_pointer, one_slice, one_map, one_func, st1_some, stN_nil, stN_cons, StV_mk, StO_some, Ld_some, RtI_mk, RtB_mk, RtS_mk, RtP_mk, RtL_mk, RtM_mk, RtA_mk, RtT_mk, NilC_some, New_eq, At_eq, Ck_true, Rt0_mk, BrB_true, BrB_false, Nat.zero_add, List.length_cons, List.length_nil, List.getElem?_cons_zero, List.getElem?_cons_succ, List.set_cons_zero, List.set_cons_succ, List.getD_cons_zero, List.getD_cons_succ, Option.isNone_some, Option.isNone_none, Go.Disk.fsO, Go.Disk.fileO, Bool.false_eq_true, eq_self, Nat.reduceAdd, Nat.reduceSub, Nat.reduceMul, Nat.reduceLT, Nat.reduceLeDiff, Nat.reduceEqDiff, Int.reduceNeg, Int.reduceEq, Int.reduceNe, Int.reduceBEq, Int.reduceBNe, Int.reduceLT, Int.reduceLE, Int.reduceGT, Int.reduceAdd, reduceIte, Bool.not_true, Bool.not_false, decide_true, decide_false, ne_eq, not_false_eq_true, not_true_eq_false, hb4]
  refine Read_ok (F hev4) hD hoff (by omega) (0, 0) fun a5 l5 c5 H5 C5 g5 hev5 => ?_
  have hb5 := hev5.get hb4 fun h => h
  have g25 := g24.ev hev5 fun _ _ h => h
  have hev5 := hev4.trans hev5
  have g5 := g5.imm rfl
  simp only [cellH_mk, cellO_some, add_mk, size_upd, upd_upd, one_int, one_bool, one_string, one_pointer, one_slice, one_map, one_func, st1_some, stN_nil, stN_cons, StV_mk, StO_some, Ld_some, RtI_mk, RtB_mk, RtS_mk, RtP_mk, RtL_mk, RtM_mk, RtA_mk, RtT_mk, NilC_some, New_eq, At_eq, Ck_true, Rt0_mk, BrB_true, BrB_false, Nat.zero_add, List.length_cons, List.length_nil, List.getElem?_cons_zero, List.getElem?_cons_succ, List.set_cons_zero, List.set_cons_succ, List.getD_cons_zero, List.getD_cons_succ, Option.isNone_some, Option.isNone_none, Go.Disk.fsO, Go.Disk.fileO, Bool.false_eq_true, eq_self, Nat.reduceAdd, Nat.reduceSub, Nat.reduceMul, Nat.reduceLT, Nat.reduceLeDiff, Nat.reduceEqDiff, Int.reduceNeg, Int.reduceEq, Int.reduceNe, Int.reduceBEq, Int.reduceBNe, Int.reduceLT, Int.reduceLE, Int.reduceGT, Int.reduceAdd, reduceIte, Bool.not_true, Bool.not_false, decide_true, decide_false, ne_eq, not_false_eq_true, not_true_eq_false, hb5]
  refine rRead_ok (G hev5) hD ha hoff (by omega) (0, 0) fun a6 l6 c6 H6 C6 g6 hev6 => ?_
  have hb6 := hev6.get hb5 fun h => h
  have g26 := g25.ev hev6 fun _ _ h => h
  have g56 := g5.ev hev6 fun _ _ h => h
  have hev6 := hev5.trans hev6
  have g6 := g6.imm rfl
  simp only [cellH_mk, cellO_some, add_mk, size_upd, upd_upd, one_int, one_bool, one_string, one_pointer, one_slice, one_map, one_func, st1_some, stN_nil, stN_cons, StV_mk, StO_some, Ld_some, RtI_mk, RtB_mk, RtS_mk, RtP_mk, RtL_mk, RtM_mk, RtA_mk, RtT_mk, NilC_some, New_eq, At_eq, Ck_true, Rt0_mk, BrB_true, BrB_false, Nat.zero_add, List.length_cons, List.length_nil, List.getElem?_cons_zero, List.getElem?_cons_succ, List.set_cons_zero, List.set_cons_succ, List.getD_cons_zero, List.getD_cons_succ, Option.isNone_some, Option.isNone_none, Go.Disk.fsO, Go.Disk.fileO, Bool.false_eq_true, eq_self, Nat.reduceAdd, Nat.reduceSub, Nat.reduceMul, Nat.reduceLT, Nat.reduceLeDiff, Nat.reduceEqDiff, Int.reduceNeg, Int.reduceEq, Int.reduceNe, Int.reduceBEq, Int.reduceBNe, Int.reduceLT, Int.reduceLE, Int.reduceGT, Int.reduceAdd, reduceIte, Bool.not_true, Bool.not_false, decide_true, decide_false, ne_eq, not_false_eq_true, not_true_eq_false, hb6]
  refine Size_ok (F hev6) hD ?_
  simp only [cellH_mk, cellO_some, add_mk, size_upd, upd_upd, one_int, one_bool, one_string, one_pointer, one_slice, one_map, one_func, st1_some, stN_nil, stN_cons, StV_mk, StO_some, Ld_some, RtI_mk, RtB_mk, RtS_mk, RtP_mk, RtL_mk, RtM_mk, RtA_mk, RtT_mk, NilC_some, New_eq, At_eq, Ck_true, Rt0_mk, BrB_true, BrB_false, Nat.zero_add, List.length_cons, List.length_nil, List.getElem?_cons_zero, List.getElem?_cons_succ, List.set_cons_zero, List.set_cons_succ, List.getD_cons_zero, List.getD_cons_succ, Option.isNone_some, Option.isNone_none, Go.Disk.fsO, Go.Disk.fileO, Bool.false_eq_true, eq_self, Nat.reduceAdd, Nat.reduceSub, Nat.reduceMul, Nat.reduceLT, Nat.reduceLeDiff, Nat.reduceEqDiff, Int.reduceNeg, Int.reduceEq, Int.reduceNe, Int.reduceBEq, Int.reduceBNe, Int.reduceLT, Int.reduceLE, Int.reduceGT, Int.reduceAdd, reduceIte, Bool.not_true, Bool.not_false, decide_true, decide_false, ne_eq, not_false_eq_true, not_true_eq_false, hb6]
  refine rSize_ok (G hev6) hD ha fun H7 C7 hev7 => ?_
  have g27 := g26.ev hev7 fun _ _ h => h
  have g57 := g56.ev hev7 fun _ _ h => h
  have g67 := g6.ev hev7 fun _ _ h => h
  have hev7 := hev6.trans hev7
  simp only [cellH_mk, cellO_some, add_mk, size_upd, upd_upd, one_int, one_bool, one_string, one_pointer, one_slice, one_map, one_func, st1_some, stN_nil, stN_cons, StV_mk, StO_some, Ld_some, RtI_mk, RtB_mk, RtS_mk, RtP_mk, RtL_mk, RtM_mk, RtA_mk, RtT_mk, NilC_some, New_eq, At_eq, Ck_true, Rt0_mk, BrB_true, BrB_false, Nat.zero_add, List.length_cons, List.length_nil, List.getElem?_cons_zero, List.getElem?_cons_succ, List.set_cons_zero, List.set_cons_succ, List.getD_cons_zero, List.getD_cons_succ, Option.isNone_some, Option.isNone_none, Go.Disk.fsO, Go.Disk.fileO, Bool.false_eq_true, eq_self, Nat.reduceAdd, Nat.reduceSub, Nat.reduceMul, Nat.reduceLT, Nat.reduceLeDiff, Nat.reduceEqDiff, Int.reduceNeg, Int.reduceEq, Int.reduceNe, Int.reduceBEq, Int.reduceBNe, Int.reduceLT, Int.reduceLE, Int.reduceGT, Int.reduceAdd, reduceIte, Bool.not_true, Bool.not_false, decide_true, decide_false, ne_eq, not_false_eq_true, not_true_eq_false]
  have hrl := dRead_len' (name := o.name) (off := o.off) (n := 5) (D := D) (by omega)
  have hl5 := g57.bl
  refine Same_ok g57.r g67.r (by omega) ?_
  rw [decide_eq_true rfl]
  simp only [cellH_mk, cellO_some, add_mk, size_upd, upd_upd, one_int, one_bool, one_string, one_pointer, one_slice, one_map, one_func, st1_some, stN_nil, stN_cons, StV_mk, StO_some, Ld_some, RtI_mk, RtB_mk, RtS_mk, RtP_mk, RtL_mk, RtM_mk, RtA_mk, RtT_mk, NilC_some, New_eq, At_eq, Ck_true, Rt0_mk, BrB_true, BrB_false, Nat.zero_add, List.length_cons, List.length_nil, List.getElem?_cons_zero, List.getElem?_cons_succ, List.set_cons_zero, List.set_cons_succ, List.getD_cons_zero, List.getD_cons_succ, Option.isNone_some, Option.isNone_none, Go.Disk.fsO, Go.Disk.fileO, Bool.false_eq_true, eq_self, Nat.reduceAdd, Nat.reduceSub, Nat.reduceMul, Nat.reduceLT, Nat.reduceLeDiff, Nat.reduceEqDiff, Int.reduceNeg, Int.reduceEq, Int.reduceNe, Int.reduceBEq, Int.reduceBNe, Int.reduceLT, Int.reduceLE, Int.reduceGT, Int.reduceAdd, reduceIte, Bool.not_true, Bool.not_false, decide_true, decide_false, ne_eq, not_false_eq_true, not_true_eq_false]
  refine BrB_i (fun h => by simp at h) (fun _ => ?_)
  refine BrB_i (fun h => by simp at h) (fun _ => ?_)
  refine BrB_i (fun h => by simp at h) (fun _ => ?_)
  refine files_ok (F hev7) (G hev7) hD ha g27 (by omega) fun H8 C8 hev8 => ?_
  simp only [cellH_mk, cellO_some, add_mk, size_upd, upd_upd, one_int, one_bool, one_string, one_pointer, one_slice, one_map, one_func, st1_some, stN_nil, stN_cons, StV_mk, StO_some, Ld_some, RtI_mk, RtB_mk, RtS_mk, RtP_mk, RtL_mk, RtM_mk, RtA_mk, RtT_mk, NilC_some, New_eq, At_eq, Ck_true, Rt0_mk, BrB_true, BrB_false, Nat.zero_add, List.length_cons, List.length_nil, List.getElem?_cons_zero, List.getElem?_cons_succ, List.set_cons_zero, List.set_cons_succ, List.getD_cons_zero, List.getD_cons_succ, Option.isNone_some, Option.isNone_none, Go.Disk.fsO, Go.Disk.fileO, Bool.false_eq_true, eq_self, Nat.reduceAdd, Nat.reduceSub, Nat.reduceMul, Nat.reduceLT, Nat.reduceLeDiff, Nat.reduceEqDiff, Int.reduceNeg, Int.reduceEq, Int.reduceNe, Int.reduceBEq, Int.reduceBNe, Int.reduceLT, Int.reduceLE, Int.reduceGT, Int.reduceAdd, reduceIte, Bool.not_true, Bool.not_false, decide_true, decide_false, ne_eq, not_false_eq_true, not_true_eq_false]
  exact hK H8 C8 (hev7.trans hev8)
end Go.Proofs

namespace Go.Proofs
open Go Go.Fx Go.Disk
set_option linter.unusedVariables false
set_option maxRecDepth 20000
theorem newD_is (R : Nat) : (⟨R, [], [], [], [], 0, 0, false⟩ : Disk) = newDisk R := rfl
/-- Both disks, side by side. -/
structure Both (H : Heap) (C : Col) (k k' p q : Nat) (D : Disk) : Prop where
  f : IsFS H C k p D
  g : IsRef H C k' q D
  ok : DiskOk D
theorem Both.ev {S : Lab → Prop} {H H' : Heap} {C C' : Col} {k k' p q : Nat} {D : Disk} (h : Both H C k k' p q D) (he : Ev S H C H' C') (h0 : ∀ x, x.1 = 0 → ¬ S x) (hk : ∀ j, ¬ S (k, j)) (hk' : ∀ j, ¬ S (k', j)) : Both H' C' k k' p q D :=
  ⟨h.f.ev he h0 fun j _ => hk j, h.g.ev he h0 hk', h.ok⟩
theorem own_ne {k k' : Nat} (h : k ≠ k') : ∀ j, ¬ own k (k', j) := fun j e => h e.symm
theorem own_0 {k : Nat} (hk : k ≠ 0) : ∀ x : Lab, x.1 = 0 → ¬ own k x := fun x hx e => hk (by unfold own at e; omega)

theorem SimfsPlays_ok {H : Heap} {C : Col} {room : Int} {al : Option Addr} {ll cl : Nat} {os : List OpA} {K : Value → Heap → Prop}
    (ho : OpsI H C al ll cl os) (hl2 : ll < 2 ^ 60) (hK : ∀ H' C', Ev no H C H' C' → K (.bool true) H') :
    Fn 9 [.int .i64 room, .slice al ll cl] H K := by
  refine F9_ok _ _ _ _ ?_
  unfold F9
  have fin : ∀ {H2 : Heap} {C2 : Col}, Ev no H C H2 C2 → Fn 13 [] H2 (fun v H => RtB v fun b => K (.bool b) H) := fun he => works_ok fun H1 C1 hev => by
    simp only [cellH_mk, cellO_some, add_mk, size_upd, upd_upd, one_int, one_bool, one_string, one_pointer, one_slice, one_map, one_func, st1_some, stN_nil, stN_cons, StV_mk, StO_some, Ld_some, RtI_mk, RtB_mk, RtS_mk, RtP_mk, RtL_mk, RtM_mk, RtA_mk, RtT_mk, NilC_some, New_eq, At_eq, Ck_true, Rt0_mk, BrB_true, BrB_false, Nat.zero_add, List.length_cons, List.length_nil, List.getElem?_cons_zero, List.getElem?_cons_succ, List.set_cons_zero, List.set_cons_succ, List.getD_cons_zero, List.getD_cons_succ, Option.isNone_some, Option.isNone_none, Go.Disk.fsO, Go.Disk.fileO, Bool.false_eq_true, eq_self, Nat.reduceAdd, Nat.reduceSub, Nat.reduceMul, Nat.reduceLT, Nat.reduceLeDiff, Nat.reduceEqDiff, Int.reduceNeg, Int.reduceEq, Int.reduceNe, Int.reduceBEq, Int.reduceBNe, Int.reduceLT, Int.reduceLE, Int.reduceGT, Int.reduceAdd, reduceIte, Bool.not_true, Bool.not_false, decide_true, decide_false, ne_eq, not_false_eq_true, not_true_eq_false]
    exact hK H1 C1 (he.trans hev)
  by_cases hbad : room < 0 ∨ 1048576 < room
  · refine New_bad hbad ?_
    simp only [cellH_mk, cellO_some, add_mk, size_upd, upd_upd, one_int, one_bool, one_string, one_pointer, one_slice, one_map, one_func, st1_some, stN_nil, stN_cons, StV_mk, StO_some, Ld_some, RtI_mk, RtB_mk, RtS_mk, RtP_mk, RtL_mk, RtM_mk, RtA_mk, RtT_mk, NilC_some, New_eq, At_eq, Ck_true, Rt0_mk, BrB_true, BrB_false, Nat.zero_add, List.length_cons, List.length_nil, List.getElem?_cons_zero, List.getElem?_cons_succ, List.set_cons_zero, List.set_cons_succ, List.getD_cons_zero, List.getD_cons_succ, Option.isNone_some, Option.isNone_none, Go.Disk.fsO, Go.Disk.fileO, Bool.false_eq_true, eq_self, Nat.reduceAdd, Nat.reduceSub, Nat.reduceMul, Nat.reduceLT, Nat.reduceLeDiff, Nat.reduceEqDiff, Int.reduceNeg, Int.reduceEq, Int.reduceNe, Int.reduceBEq, Int.reduceBNe, Int.reduceLT, Int.reduceLE, Int.reduceGT, Int.reduceAdd, reduceIte, Bool.not_true, Bool.not_false, decide_true, decide_false, ne_eq, not_false_eq_true, not_true_eq_false]
    refine rNew_bad hbad ?_
    simp only [cellH_mk, cellO_some, add_mk, size_upd, upd_upd, one_int, one_bool, one_string, one_pointer, one_slice, one_map, one_func, st1_some, stN_nil, stN_cons, StV_mk, StO_some, Ld_some, RtI_mk, RtB_mk, RtS_mk, RtP_mk, RtL_mk, RtM_mk, RtA_mk, RtT_mk, NilC_some, New_eq, At_eq, Ck_true, Rt0_mk, BrB_true, BrB_false, Nat.zero_add, List.length_cons, List.length_nil, List.getElem?_cons_zero, List.getElem?_cons_succ, List.set_cons_zero, List.set_cons_succ, List.getD_cons_zero, List.getD_cons_succ, Option.isNone_some, Option.isNone_none, Go.Disk.fsO, Go.Disk.fileO, Bool.false_eq_true, eq_self, Nat.reduceAdd, Nat.reduceSub, Nat.reduceMul, Nat.reduceLT, Nat.reduceLeDiff, Nat.reduceEqDiff, Int.reduceNeg, Int.reduceEq, Int.reduceNe, Int.reduceBEq, Int.reduceBNe, Int.reduceLT, Int.reduceLE, Int.reduceGT, Int.reduceAdd, reduceIte, Bool.not_true, Bool.not_false, decide_true, decide_false, ne_eq, not_false_eq_true, not_true_eq_false]
    exact fin (C2 := C) (Ev.refl _ _ _)
  obtain ⟨R, rfl⟩ := Int.eq_ofNat_of_zero_le (show 0 ≤ room by omega)
  have hlo : ll = os.length := ho.choose_spec.2.2
  obtain ⟨k, hk, hfr⟩ := fresh_own C H.size
  obtain ⟨k', hk', hkk, hfr'⟩ := fresh_two C H.size k
  have hok0 := new_dok (room := R) (by omega)
  have two0 := two_no0 hk hk'
  have toF : ∀ {H1 C1 H2 C2}, Ev (own k) H1 C1 H2 C2 → Ev (two k k') H1 C1 H2 C2 := fun h => h.mono fun _ h => .inl h
  have toG : ∀ {H1 C1 H2 C2}, Ev (own k') H1 C1 H2 C2 → Ev (two k k') H1 C1 H2 C2 := fun h => h.mono fun _ h => .inr h
  have toN : ∀ {H1 C1 H2 C2}, Ev no H1 C1 H2 C2 → Ev (two k k') H1 C1 H2 C2 := fun h => h.mono fun _ h => h.elim
  refine New_ok (C := C) (k := k) (room := R) hk (by omega) fun p H1 C1 h1 hev1 => ?_
  simp only [cellH_mk, cellO_some, add_mk, size_upd, upd_upd, one_int, one_bool, one_string, one_pointer, one_slice, one_map, one_func, st1_some, stN_nil, stN_cons, StV_mk, StO_some, Ld_some, RtI_mk, RtB_mk, RtS_mk, RtP_mk, RtL_mk, RtM_mk, RtA_mk, RtT_mk, NilC_some, New_eq, At_eq, Ck_true, Rt0_mk, BrB_true, BrB_false, Nat.zero_add, List.length_cons, List.length_nil, List.getElem?_cons_zero, List.getElem?_cons_succ, List.set_cons_zero, List.set_cons_succ, List.getD_cons_zero, List.getD_cons_succ, Option.isNone_some, Option.isNone_none, Go.Disk.fsO, Go.Disk.fileO, Bool.false_eq_true, eq_self, Nat.reduceAdd, Nat.reduceSub, Nat.reduceMul, Nat.reduceLT, Nat.reduceLeDiff, Nat.reduceEqDiff, Int.reduceNeg, Int.reduceEq, Int.reduceNe, Int.reduceBEq, Int.reduceBNe, Int.reduceLT, Int.reduceLE, Int.reduceGT, Int.reduceAdd, reduceIte, Bool.not_true, Bool.not_false, decide_true, decide_false, ne_eq, not_false_eq_true, not_true_eq_false]
  refine rNew_ok (C := C1) (k := k') (room := R) (by omega) fun q H2 C2 g2 hev2 => ?_
  have h2 := h1.ev hev2 (fun _ _ h => h) fun _ _ h => h
  rw [newD_is] at g2
  have hev2n := hev1.trans hev2
  have hev2 := toN hev2n
  simp only [cellH_mk, cellO_some, add_mk, size_upd, upd_upd, one_int, one_bool, one_string, one_pointer, one_slice, one_map, one_func, st1_some, stN_nil, stN_cons, StV_mk, StO_some, Ld_some, RtI_mk, RtB_mk, RtS_mk, RtP_mk, RtL_mk, RtM_mk, RtA_mk, RtT_mk, NilC_some, New_eq, At_eq, Ck_true, Rt0_mk, BrB_true, BrB_false, Nat.zero_add, List.length_cons, List.length_nil, List.getElem?_cons_zero, List.getElem?_cons_succ, List.set_cons_zero, List.set_cons_succ, List.getD_cons_zero, List.getD_cons_succ, Option.isNone_some, Option.isNone_none, Go.Disk.fsO, Go.Disk.fileO, Bool.false_eq_true, eq_self, Nat.reduceAdd, Nat.reduceSub, Nat.reduceMul, Nat.reduceLT, Nat.reduceLeDiff, Nat.reduceEqDiff, Int.reduceNeg, Int.reduceEq, Int.reduceNe, Int.reduceBEq, Int.reduceBNe, Int.reduceLT, Int.reduceLE, Int.reduceGT, Int.reduceAdd, reduceIte, Bool.not_true, Bool.not_false, decide_true, decide_false, ne_eq, not_false_eq_true, not_true_eq_false]
  refine great_ok (ho.ev hev2 two0) hl2 fun g hg => ?_
  simp only [cellH_mk, cellO_some, add_mk, size_upd, upd_upd, one_int, one_bool, one_string, one_pointer, one_slice, one_map, one_func, st1_some, stN_nil, stN_cons, StV_mk, StO_some, Ld_some, RtI_mk, RtB_mk, RtS_mk, RtP_mk, RtL_mk, RtM_mk, RtA_mk, RtT_mk, NilC_some, New_eq, At_eq, Ck_true, Rt0_mk, BrB_true, BrB_false, Nat.zero_add, List.length_cons, List.length_nil, List.getElem?_cons_zero, List.getElem?_cons_succ, List.set_cons_zero, List.set_cons_succ, List.getD_cons_zero, List.getD_cons_succ, Option.isNone_some, Option.isNone_none, Go.Disk.fsO, Go.Disk.fileO, Bool.false_eq_true, eq_self, Nat.reduceAdd, Nat.reduceSub, Nat.reduceMul, Nat.reduceLT, Nat.reduceLeDiff, Nat.reduceEqDiff, Int.reduceNeg, Int.reduceEq, Int.reduceNe, Int.reduceBEq, Int.reduceBNe, Int.reduceLT, Int.reduceLE, Int.reduceGT, Int.reduceAdd, reduceIte, Bool.not_true, Bool.not_false, decide_true, decide_false, ne_eq, not_false_eq_true, not_true_eq_false]
  refine BrB_i (fun h => fin hev2n) (fun hgf => ?_)
  obtain ⟨hlen, hbig⟩ := hg hgf
  refine ⟨fun i H' => ∃ C' D, ∃ m : Nat, i = (m : Int) ∧ m ≤ ll ∧ Both H' C' k k' p q D ∧ D.acts ≤ m ∧ Ev (two k k') H C H' C', fun i _ => ll - i.toNat, ⟨C2, newDisk R, 0, rfl, by omega, ⟨h2, g2, hok0⟩, by show (0 : Nat) ≤ _; omega, hev2⟩, ?_⟩
  rintro fr i H6 ⟨C6, D, m, rfl, hm, hB, hac, hev6⟩
  simp only [cellH_mk, cellO_some, add_mk, size_upd, upd_upd, one_int, one_bool, one_string, one_pointer, one_slice, one_map, one_func, st1_some, stN_nil, stN_cons, StV_mk, StO_some, Ld_some, RtI_mk, RtB_mk, RtS_mk, RtP_mk, RtL_mk, RtM_mk, RtA_mk, RtT_mk, NilC_some, New_eq, At_eq, Ck_true, Rt0_mk, BrB_true, BrB_false, Nat.zero_add, List.length_cons, List.length_nil, List.getElem?_cons_zero, List.getElem?_cons_succ, List.set_cons_zero, List.set_cons_succ, List.getD_cons_zero, List.getD_cons_succ, Option.isNone_some, Option.isNone_none, Go.Disk.fsO, Go.Disk.fileO, Bool.false_eq_true, eq_self, Nat.reduceAdd, Nat.reduceSub, Nat.reduceMul, Nat.reduceLT, Nat.reduceLeDiff, Nat.reduceEqDiff, Int.reduceNeg, Int.reduceEq, Int.reduceNe, Int.reduceBEq, Int.reduceBNe, Int.reduceLT, Int.reduceLE, Int.reduceGT, Int.reduceAdd, reduceIte, Bool.not_true, Bool.not_false, decide_true, decide_false, ne_eq, not_false_eq_true, not_true_eq_false]
  have ho6 := ho.ev hev6 two0
  refine BrB_i (fun hlt => ?_) (fun hlt => ?_)
  · have hlt := of_decide_eq_true hlt
    have hom : os[m]? = some (os[m]'(by omega)) := List.getElem?_eq_getElem _
    generalize os[m]'(by omega) = o at hom
    refine SlI.opRowK ho6 hom fun e s hs hok he => ?_
    have he0 := he no H6 C6 (Ev.refl _ _ _) fun _ _ h => h
    unfold opCells at he0
    simp only [cellH_mk, cellO_some, add_mk, size_upd, upd_upd, one_int, one_bool, one_string, one_pointer, one_slice, one_map, one_func, st1_some, stN_nil, stN_cons, StV_mk, StO_some, Ld_some, RtI_mk, RtB_mk, RtS_mk, RtP_mk, RtL_mk, RtM_mk, RtA_mk, RtT_mk, NilC_some, New_eq, At_eq, Ck_true, Rt0_mk, BrB_true, BrB_false, Nat.zero_add, List.length_cons, List.length_nil, List.getElem?_cons_zero, List.getElem?_cons_succ, List.set_cons_zero, List.set_cons_succ, List.getD_cons_zero, List.getD_cons_succ, Option.isNone_some, Option.isNone_none, Go.Disk.fsO, Go.Disk.fileO, Bool.false_eq_true, eq_self, Nat.reduceAdd, Nat.reduceSub, Nat.reduceMul, Nat.reduceLT, Nat.reduceLeDiff, Nat.reduceEqDiff, Int.reduceNeg, Int.reduceEq, Int.reduceNe, Int.reduceBEq, Int.reduceBNe, Int.reduceLT, Int.reduceLE, Int.reduceGT, Int.reduceAdd, reduceIte, Bool.not_true, Bool.not_false, decide_true, decide_false, ne_eq, not_false_eq_true, not_true_eq_false, he0]
    refine SlI.opRowK ho6 hom fun e2 s2 hs2 hok2 he2 => ?_
    have he20 := he2 no H6 C6 (Ev.refl _ _ _) fun _ _ h => h
    unfold opCells at he20
    simp only [cellH_mk, cellO_some, add_mk, size_upd, upd_upd, one_int, one_bool, one_string, one_pointer, one_slice, one_map, one_func, st1_some, stN_nil, stN_cons, StV_mk, StO_some, Ld_some, RtI_mk, RtB_mk, RtS_mk, RtP_mk, RtL_mk, RtM_mk, RtA_mk, RtT_mk, NilC_some, New_eq, At_eq, Ck_true, Rt0_mk, BrB_true, BrB_false, Nat.zero_add, List.length_cons, List.length_nil, List.getElem?_cons_zero, List.getElem?_cons_succ, List.set_cons_zero, List.set_cons_succ, List.getD_cons_zero, List.getD_cons_succ, Option.isNone_some, Option.isNone_none, Go.Disk.fsO, Go.Disk.fileO, Bool.false_eq_true, eq_self, Nat.reduceAdd, Nat.reduceSub, Nat.reduceMul, Nat.reduceLT, Nat.reduceLeDiff, Nat.reduceEqDiff, Int.reduceNeg, Int.reduceEq, Int.reduceNe, Int.reduceBEq, Int.reduceBNe, Int.reduceLT, Int.reduceLE, Int.reduceGT, Int.reduceAdd, reduceIte, Bool.not_true, Bool.not_false, decide_true, decide_false, ne_eq, not_false_eq_true, not_true_eq_false, he20]
    have hgd := dDo_good hok hB.ok
    refine do_ok (o := o) (s := s) hk hB.f hB.ok (by omega) hs hok fun H7 C7 h7 hev7 => ?_
    have g7 := hB.g.ev hev7 (own_0 hk) (own_ne hkk.symm)
    have he27 := he2 _ H7 C7 hev7 (own_0 hk)
    have hs27 := hs2.ev hev7 (own_0 hk)
    have hev7 := hev6.trans (toF hev7)
    unfold opCells at he27
    simp only [cellH_mk, cellO_some, add_mk, size_upd, upd_upd, one_int, one_bool, one_string, one_pointer, one_slice, one_map, one_func, st1_some, stN_nil, stN_cons, StV_mk, StO_some, Ld_some, RtI_mk, RtB_mk, RtS_mk, RtP_mk, RtL_mk, RtM_mk, RtA_mk, RtT_mk, NilC_some, New_eq, At_eq, Ck_true, Rt0_mk, BrB_true, BrB_false, Nat.zero_add, List.length_cons, List.length_nil, List.getElem?_cons_zero, List.getElem?_cons_succ, List.set_cons_zero, List.set_cons_succ, List.getD_cons_zero, List.getD_cons_succ, Option.isNone_some, Option.isNone_none, Go.Disk.fsO, Go.Disk.fileO, Bool.false_eq_true, eq_self, Nat.reduceAdd, Nat.reduceSub, Nat.reduceMul, Nat.reduceLT, Nat.reduceLeDiff, Nat.reduceEqDiff, Int.reduceNeg, Int.reduceEq, Int.reduceNe, Int.reduceBEq, Int.reduceBNe, Int.reduceLT, Int.reduceLE, Int.reduceGT, Int.reduceAdd, reduceIte, Bool.not_true, Bool.not_false, decide_true, decide_false, ne_eq, not_false_eq_true, not_true_eq_false, he27]
    refine did_ok (o := o) (s := s2) hk' g7 hB.ok (by omega) hs27 hok fun H8 C8 g8 hev8 => ?_
    have h8 := h7.ev hev8 (own_0 hk') fun j _ => own_ne hkk j
    have hev8 := hev7.trans (toG hev8)
    simp only [cellH_mk, cellO_some, add_mk, size_upd, upd_upd, one_int, one_bool, one_string, one_pointer, one_slice, one_map, one_func, st1_some, stN_nil, stN_cons, StV_mk, StO_some, Ld_some, RtI_mk, RtB_mk, RtS_mk, RtP_mk, RtL_mk, RtM_mk, RtA_mk, RtT_mk, NilC_some, New_eq, At_eq, Ck_true, Rt0_mk, BrB_true, BrB_false, Nat.zero_add, List.length_cons, List.length_nil, List.getElem?_cons_zero, List.getElem?_cons_succ, List.set_cons_zero, List.set_cons_succ, List.getD_cons_zero, List.getD_cons_succ, Option.isNone_some, Option.isNone_none, Go.Disk.fsO, Go.Disk.fileO, Bool.false_eq_true, eq_self, Nat.reduceAdd, Nat.reduceSub, Nat.reduceMul, Nat.reduceLT, Nat.reduceLeDiff, Nat.reduceEqDiff, Int.reduceNeg, Int.reduceEq, Int.reduceNe, Int.reduceBEq, Int.reduceBNe, Int.reduceLT, Int.reduceLE, Int.reduceGT, Int.reduceAdd, reduceIte, Bool.not_true, Bool.not_false, decide_true, decide_false, ne_eq, not_false_eq_true, not_true_eq_false]
    refine BrB_i (fun h => by simp at h) (fun _ => ?_)
    refine SlI.opRowK (ho.ev hev8 two0) hom fun e3 s3 hs3 hok3 he3 => ?_
    have he30 := he3 no H8 C8 (Ev.refl _ _ _) fun _ _ h => h
    unfold opCells at he30
    simp only [cellH_mk, cellO_some, add_mk, size_upd, upd_upd, one_int, one_bool, one_string, one_pointer, one_slice, one_map, one_func, st1_some, stN_nil, stN_cons, StV_mk, StO_some, Ld_some, RtI_mk, RtB_mk, RtS_mk, RtP_mk, RtL_mk, RtM_mk, RtA_mk, RtT_mk, NilC_some, New_eq, At_eq, Ck_true, Rt0_mk, BrB_true, BrB_false, Nat.zero_add, List.length_cons, List.length_nil, List.getElem?_cons_zero, List.getElem?_cons_succ, List.set_cons_zero, List.set_cons_succ, List.getD_cons_zero, List.getD_cons_succ, Option.isNone_some, Option.isNone_none, Go.Disk.fsO, Go.Disk.fileO, Bool.false_eq_true, eq_self, Nat.reduceAdd, Nat.reduceSub, Nat.reduceMul, Nat.reduceLT, Nat.reduceLeDiff, Nat.reduceEqDiff, Int.reduceNeg, Int.reduceEq, Int.reduceNe, Int.reduceBEq, Int.reduceBNe, Int.reduceLT, Int.reduceLE, Int.reduceGT, Int.reduceAdd, reduceIte, Bool.not_true, Bool.not_false, decide_true, decide_false, ne_eq, not_false_eq_true, not_true_eq_false, he30]
    refine alike_ok (o := o) (s := s3) h8 g8 hgd.1 (by have := hgd.2.1; omega) hok.off fun H9 C9 hev9 => ?_
    have hB9 : Both H9 C9 k k' p q (dDo o D).2 := (Both.mk h8 g8 hgd.1).ev hev9 (fun _ _ h => h) (fun _ h => h) fun _ h => h
    have hev9 := hev8.trans (toN hev9)
    simp only [cellH_mk, cellO_some, add_mk, size_upd, upd_upd, one_int, one_bool, one_string, one_pointer, one_slice, one_map, one_func, st1_some, stN_nil, stN_cons, StV_mk, StO_some, Ld_some, RtI_mk, RtB_mk, RtS_mk, RtP_mk, RtL_mk, RtM_mk, RtA_mk, RtT_mk, NilC_some, New_eq, At_eq, Ck_true, Rt0_mk, BrB_true, BrB_false, Nat.zero_add, List.length_cons, List.length_nil, List.getElem?_cons_zero, List.getElem?_cons_succ, List.set_cons_zero, List.set_cons_succ, List.getD_cons_zero, List.getD_cons_succ, Option.isNone_some, Option.isNone_none, Go.Disk.fsO, Go.Disk.fileO, Bool.false_eq_true, eq_self, Nat.reduceAdd, Nat.reduceSub, Nat.reduceMul, Nat.reduceLT, Nat.reduceLeDiff, Nat.reduceEqDiff, Int.reduceNeg, Int.reduceEq, Int.reduceNe, Int.reduceBEq, Int.reduceBNe, Int.reduceLT, Int.reduceLE, Int.reduceGT, Int.reduceAdd, reduceIte, Bool.not_true, Bool.not_false, decide_true, decide_false, ne_eq, not_false_eq_true, not_true_eq_false]
    rw [w64 (by omega) (by omega)]
    refine ⟨⟨C9, _, m + 1, by omega, by omega, hB9, by have := hgd.2.1; omega, hev9⟩, ?_⟩
    show ll - ((m : Int) + 1).toNat < ll - ((m : Nat) : Int).toNat
    omega
  · exact fin (hev6.none fun b hb hS => by
      rcases hS with e | e
      · exact hfr b hb e
      · exact hfr' b hb e)
end Go.Proofs
