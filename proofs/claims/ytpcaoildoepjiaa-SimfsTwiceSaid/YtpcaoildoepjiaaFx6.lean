/- A proof layer over heaps, and contracts of the printed functions; no statement of the seat is proved here. -/
import Derived.Test.YtpcaoildoepjiaaFx5
set_option linter.unusedVariables false
set_option linter.unusedSimpArgs false
set_option linter.unusedSectionVars false

namespace Go.Fx
open Go
def isU8 (v : Value) : Prop := ∃ n : Int, v = .int .u8 n
theorem byts_u8 {xs : List UInt8} : ∀ v ∈ byts xs, isU8 v := by
  intro v hv
  obtain ⟨b, _, rfl⟩ := List.mem_map.1 hv
  exact ⟨_, rfl⟩
theorem zero_u8 : ∀ v ∈ (Value.int .u8 0).cells, isU8 v := by
  intro v hv
  have : v ∈ [Value.int .u8 0] := by simpa [Value.cells] using hv
  simp only [List.mem_singleton] at this
  exact ⟨0, this⟩
theorem AllCells.nil (H : Heap) (Q : Value → Prop) : AllCells H none 0 Q := ⟨by omega, fun b cs t fz h => (nomatch h)⟩
end Go.Fx
namespace Go.Proofs
open Go Go.Fx Go.Disk
set_option linter.unusedVariables false
set_option maxRecDepth 20000
section
variable {H : Heap} {C : Col} {k p : Nat} {D : Disk} {K : Value → Heap → Prop}

theorem Read_okZ (h : IsFS H C k p D) (hD : DiskOk D) {name : Name} {off n : Int} (hoff : -2 ^ 63 ≤ off ∧ off < 2 ^ 63) (hn63 : n < 2 ^ 63) (lab : Lab)
    (hK : ∀ a l c H' C', SlO H' C' lab 5 1 a l c (byts (dRead name off n D).1) → AllCells H' a c isU8 → Ev no H C H' C' → K (.tuple ⟨[.slice a l c, .int .i64 (dRead name off n D).2]⟩) H') :
    Fn 21 [.pointer (some ⟨p, 0, none⟩), .string name, .int .i64 off, .int .i64 n] H K := by
  obtain ⟨x, rfl, h⟩ := h
  refine F21_ok _ _ _ _ ?_
  unfold F21
  unfold dRead at hK
  refine get_ok h hD.seen (fun hd => ?_) (fun hd hg => ?_) fun i fb f hd hg hfb hn => ?_
  · rw [if_pos hd] at hK
    simp only [cellH_mk, cellO_some, add_mk, size_upd, upd_upd, one_int, one_bool, one_string, one_pointer, one_slice, one_map, one_func, st1_some, stN_nil, stN_cons, StV_mk, StO_some, Ld_some, RtI_mk, RtB_mk, RtS_mk, RtP_mk, RtL_mk, RtM_mk, RtA_mk, RtT_mk, NilC_some, New_eq, At_eq, Ck_true, Rt0_mk, BrB_true, BrB_false, Nat.zero_add, List.length_cons, List.length_nil, List.getElem?_cons_zero, List.getElem?_cons_succ, List.set_cons_zero, List.set_cons_succ, List.getD_cons_zero, List.getD_cons_succ, Option.isNone_some, Option.isNone_none, Go.Disk.fsO, Go.Disk.fileO, Bool.false_eq_true, eq_self, Nat.reduceAdd, Nat.reduceSub, Nat.reduceMul, Nat.reduceLT, Nat.reduceLeDiff, Nat.reduceEqDiff, Int.reduceNeg, Int.reduceEq, Int.reduceNe, Int.reduceBEq, Int.reduceBNe, Int.reduceLT, Int.reduceLE, Int.reduceGT, Int.reduceAdd, reduceIte, Bool.not_true, Bool.not_false, decide_true, decide_false, ne_eq, not_false_eq_true, not_true_eq_false]
    exact hK none 0 0 H C (SlO.nil _ _ _ _ _) (AllCells.nil _ _) (Ev.refl _ _ _)
  · rw [if_neg (by rw [hd]; simp), hg] at hK
    simp only [cellH_mk, cellO_some, add_mk, size_upd, upd_upd, one_int, one_bool, one_string, one_pointer, one_slice, one_map, one_func, st1_some, stN_nil, stN_cons, StV_mk, StO_some, Ld_some, RtI_mk, RtB_mk, RtS_mk, RtP_mk, RtL_mk, RtM_mk, RtA_mk, RtT_mk, NilC_some, New_eq, At_eq, Ck_true, Rt0_mk, BrB_true, BrB_false, Nat.zero_add, List.length_cons, List.length_nil, List.getElem?_cons_zero, List.getElem?_cons_succ, List.set_cons_zero, List.set_cons_succ, List.getD_cons_zero, List.getD_cons_succ, Option.isNone_some, Option.isNone_none, Go.Disk.fsO, Go.Disk.fileO, Bool.false_eq_true, eq_self, Nat.reduceAdd, Nat.reduceSub, Nat.reduceMul, Nat.reduceLT, Nat.reduceLeDiff, Nat.reduceEqDiff, Int.reduceNeg, Int.reduceEq, Int.reduceNe, Int.reduceBEq, Int.reduceBNe, Int.reduceLT, Int.reduceLE, Int.reduceGT, Int.reduceAdd, reduceIte, Bool.not_true, Bool.not_false, decide_true, decide_false, ne_eq, not_false_eq_true, not_true_eq_false]
    exact hK none 0 0 H C (SlO.nil _ _ _ _ _) (AllCells.nil _ _) (Ev.refl _ _ _)
  · rw [if_neg (by rw [hd]; simp), hg] at hK
    obtain ⟨qc, s, nw, r, cells, hf, hs, hnw, hrow, hch, hrl⟩ := h.files.2.2.2 i fb f hfb hn
    have hnl := hnw.len
    have hcap := hnw.cap
    have hfl := flen_le hD i
    rw [flen_of hn] at hfl
    simp only [nowOf_of hn] at hK
    have bad : (off < 0 ∨ (f.now.length : Int) < off ∨ n < 0) → K (.tuple ⟨[.slice none 0 0, .int .i64 2]⟩) H := by
      intro hb
      rw [if_pos hb] at hK
      exact hK none 0 0 H C (SlO.nil _ _ _ _ _) (AllCells.nil _ _) (Ev.refl _ _ _)
    simp only [cellH_mk, cellO_some, add_mk, size_upd, upd_upd, one_int, one_bool, one_string, one_pointer, one_slice, one_map, one_func, st1_some, stN_nil, stN_cons, StV_mk, StO_some, Ld_some, RtI_mk, RtB_mk, RtS_mk, RtP_mk, RtL_mk, RtM_mk, RtA_mk, RtT_mk, NilC_some, New_eq, At_eq, Ck_true, Rt0_mk, BrB_true, BrB_false, Nat.zero_add, List.length_cons, List.length_nil, List.getElem?_cons_zero, List.getElem?_cons_succ, List.set_cons_zero, List.set_cons_succ, List.getD_cons_zero, List.getD_cons_succ, Option.isNone_some, Option.isNone_none, Go.Disk.fsO, Go.Disk.fileO, Bool.false_eq_true, eq_self, Nat.reduceAdd, Nat.reduceSub, Nat.reduceMul, Nat.reduceLT, Nat.reduceLeDiff, Nat.reduceEqDiff, Int.reduceNeg, Int.reduceEq, Int.reduceNe, Int.reduceBEq, Int.reduceBNe, Int.reduceLT, Int.reduceLE, Int.reduceGT, Int.reduceAdd, reduceIte, Bool.not_true, Bool.not_false, decide_true, decide_false, ne_eq, not_false_eq_true, not_true_eq_false]
    refine BrB_i (fun h0 => bad (.inl (of_decide_eq_true h0))) (fun h0 => ?_)
    have h0 := of_decide_eq_false h0
    simp only [cellH_mk, cellO_some, add_mk, size_upd, upd_upd, one_int, one_bool, one_string, one_pointer, one_slice, one_map, one_func, st1_some, stN_nil, stN_cons, StV_mk, StO_some, Ld_some, RtI_mk, RtB_mk, RtS_mk, RtP_mk, RtL_mk, RtM_mk, RtA_mk, RtT_mk, NilC_some, New_eq, At_eq, Ck_true, Rt0_mk, BrB_true, BrB_false, Nat.zero_add, List.length_cons, List.length_nil, List.getElem?_cons_zero, List.getElem?_cons_succ, List.set_cons_zero, List.set_cons_succ, List.getD_cons_zero, List.getD_cons_succ, Option.isNone_some, Option.isNone_none, Go.Disk.fsO, Go.Disk.fileO, Bool.false_eq_true, eq_self, Nat.reduceAdd, Nat.reduceSub, Nat.reduceMul, Nat.reduceLT, Nat.reduceLeDiff, Nat.reduceEqDiff, Int.reduceNeg, Int.reduceEq, Int.reduceNe, Int.reduceBEq, Int.reduceBNe, Int.reduceLT, Int.reduceLE, Int.reduceGT, Int.reduceAdd, reduceIte, Bool.not_true, Bool.not_false, decide_true, decide_false, ne_eq, not_false_eq_true, not_true_eq_false, hf]
    refine BrB_i (fun h1 => bad (.inr (.inl (by have := of_decide_eq_true h1; omega)))) (fun h1 => ?_)
    have h1 := of_decide_eq_false h1
    refine BrB_i (fun h2 => bad (.inr (.inr (of_decide_eq_true h2)))) (fun h2 => ?_)
    have h2 := of_decide_eq_false h2
    rw [if_neg (by omega)] at hK
    simp only [cellH_mk, cellO_some, add_mk, size_upd, upd_upd, one_int, one_bool, one_string, one_pointer, one_slice, one_map, one_func, st1_some, stN_nil, stN_cons, StV_mk, StO_some, Ld_some, RtI_mk, RtB_mk, RtS_mk, RtP_mk, RtL_mk, RtM_mk, RtA_mk, RtT_mk, NilC_some, New_eq, At_eq, Ck_true, Rt0_mk, BrB_true, BrB_false, Nat.zero_add, List.length_cons, List.length_nil, List.getElem?_cons_zero, List.getElem?_cons_succ, List.set_cons_zero, List.set_cons_succ, List.getD_cons_zero, List.getD_cons_succ, Option.isNone_some, Option.isNone_none, Go.Disk.fsO, Go.Disk.fileO, Bool.false_eq_true, eq_self, Nat.reduceAdd, Nat.reduceSub, Nat.reduceMul, Nat.reduceLT, Nat.reduceLeDiff, Nat.reduceEqDiff, Int.reduceNeg, Int.reduceEq, Int.reduceNe, Int.reduceBEq, Int.reduceBNe, Int.reduceLT, Int.reduceLE, Int.reduceGT, Int.reduceAdd, reduceIte, Bool.not_true, Bool.not_false, decide_true, decide_false, ne_eq, not_false_eq_true, not_true_eq_false, hf]
    have w1 : IntKind.wrap .i64 (((nw.2.1 : Nat) : Int) - off) = (((f.now.length - off.toNat : Nat)) : Int) := by rw [hnl, w64 (by omega) (by omega)]; omega
    rw [w1]
    have hm : imin n ((f.now.length - off.toNat : Nat) : Int) = ((Nat.min n.toNat (f.now.length - off.toNat) : Nat) : Int) := by
      unfold imin
      show _ = ((min _ _ : Nat) : Int)
      split <;> omega
    rw [hm]
    generalize hmm : Nat.min n.toNat (f.now.length - off.toNat) = m
    have hm1 : m ≤ f.now.length - off.toNat := by rw [← hmm]; exact Nat.min_le_right _ _
    have w2 : IntKind.wrap .i64 (off + (m : Int)) = ((off.toNat + m : Nat) : Int) := by rw [w64 (by omega) (by omega)]; omega
    have ho : off = ((off.toNat : Nat) : Int) := by omega
    rw [w2]
    rw [ho]
    simp only [Int.toNat_natCast]
    refine Ck_i ⟨by omega, by omega, by omega, by omega⟩ ?_
    rw [slN_eq, slN_eq]
    have hsub := SlI.sub hnw (lo := off.toNat) (hi := off.toNat + m) (mx := nw.2.2) (by omega) (by omega) (by omega)
    have e : List.take ((off.toNat + m - off.toNat) * 1) (List.drop (off.toNat * 1) (byts f.now)) = byts ((f.now.drop off.toNat).take n.toNat) := by
      rw [Nat.mul_one, Nat.mul_one, ← byts_drop, ← byts_take, Nat.add_sub_cancel_left]
      congr 1
      rw [← hmm]
      show List.take (min _ _) _ = _
      rw [← List.take_take, List.take_of_length_le (l := f.now.drop off.toNat) (by rw [List.length_drop]; omega)]
    rw [e] at hsub
    refine app_copyZ (C := C) (lab := lab) (Q := isU8) und22 und22 (.inl ⟨_, rfl⟩) tyf5 (by rfl) hsub.src hsub.1 (by omega) (by omega) byts_u8 zero_u8 fun a2 c2 H2 C2 ho2 hz2 hev2 => ?_
    simp only [cellH_mk, cellO_some, add_mk, size_upd, upd_upd, one_int, one_bool, one_string, one_pointer, one_slice, one_map, one_func, st1_some, stN_nil, stN_cons, StV_mk, StO_some, Ld_some, RtI_mk, RtB_mk, RtS_mk, RtP_mk, RtL_mk, RtM_mk, RtA_mk, RtT_mk, NilC_some, New_eq, At_eq, Ck_true, Rt0_mk, BrB_true, BrB_false, Nat.zero_add, List.length_cons, List.length_nil, List.getElem?_cons_zero, List.getElem?_cons_succ, List.set_cons_zero, List.set_cons_succ, List.getD_cons_zero, List.getD_cons_succ, Option.isNone_some, Option.isNone_none, Go.Disk.fsO, Go.Disk.fileO, Bool.false_eq_true, eq_self, Nat.reduceAdd, Nat.reduceSub, Nat.reduceMul, Nat.reduceLT, Nat.reduceLeDiff, Nat.reduceEqDiff, Int.reduceNeg, Int.reduceEq, Int.reduceNe, Int.reduceBEq, Int.reduceBNe, Int.reduceLT, Int.reduceLE, Int.reduceGT, Int.reduceAdd, reduceIte, Bool.not_true, Bool.not_false, decide_true, decide_false, ne_eq, not_false_eq_true, not_true_eq_false]
    exact hK a2 _ c2 H2 C2 ho2 hz2 hev2
end

theorem Texts_ok {H : Heap} {a b : Option Addr} {la ca lb cb : Nat} {xs ys : List Name} {K : Value → Heap → Prop} (ha : SlR H 1 a la ca (xs.map Value.string)) (hb : SlR H 1 b lb cb (ys.map Value.string)) (hl : la < 2 ^ 62)
    (hK : K (.bool (decide (xs = ys))) H) : Fn 29 [.slice a la ca, .slice b lb cb] H K := by
  refine F29_ok _ _ _ _ _ _ ?_
  unfold F29
  have hla : la = xs.length := by have := ha.1; simp at this; omega
  have hlb : lb = ys.length := by have := hb.1; simp at this; omega
  refine BrB_i (fun h => ?_) (fun h => ?_)
  · have : xs ≠ ys := by
      intro e
      rw [hla, hlb, e] at h
      simp at h
    rw [decide_eq_false this] at hK
    exact hK
  have hll : xs.length = ys.length := by
    have h2 : ((la : Int) == (lb : Int)) = true := by simpa [bne] using h
    have := eq_of_beq h2
    omega
  refine ⟨fun i H' => H' = H ∧ ∃ m : Nat, i = (m : Int) ∧ m ≤ la ∧ ∀ j, j < m → xs[j]? = ys[j]?, fun i _ => la - i.toNat, ⟨rfl, 0, rfl, by omega, fun j hj => absurd hj (by omega)⟩, ?_⟩
  rintro fr i H' ⟨hH, m, rfl, hm, hall⟩
  subst hH
  simp only [cellH_mk, cellO_some, add_mk, size_upd, upd_upd, one_int, one_bool, one_string, one_pointer, one_slice, one_map, one_func, st1_some, stN_nil, stN_cons, StV_mk, StO_some, Ld_some, RtI_mk, RtB_mk, RtS_mk, RtP_mk, RtL_mk, RtM_mk, RtA_mk, RtT_mk, NilC_some, New_eq, At_eq, Ck_true, Rt0_mk, BrB_true, BrB_false, Nat.zero_add, List.length_cons, List.length_nil, List.getElem?_cons_zero, List.getElem?_cons_succ, List.set_cons_zero, List.set_cons_succ, List.getD_cons_zero, List.getD_cons_succ, Option.isNone_some, Option.isNone_none, Go.Disk.fsO, Go.Disk.fileO, Bool.false_eq_true, eq_self, Nat.reduceAdd, Nat.reduceSub, Nat.reduceMul, Nat.reduceLT, Nat.reduceLeDiff, Nat.reduceEqDiff, Int.reduceNeg, Int.reduceEq, Int.reduceNe, Int.reduceBEq, Int.reduceBNe, Int.reduceLT, Int.reduceLE, Int.reduceGT, Int.reduceAdd, reduceIte, Bool.not_true, Bool.not_false, decide_true, decide_false, ne_eq, not_false_eq_true, not_true_eq_false]
  refine BrB_i (fun h => ?_) (fun h => ?_)
  · have h := of_decide_eq_true h
    have hx : xs[m]? = some (xs[m]'(by omega)) := List.getElem?_eq_getElem _
    have hy : ys[m]? = some (ys[m]'(by omega)) := List.getElem?_eq_getElem _
    generalize xs[m]'(by omega) = x at hx
    generalize ys[m]'(by omega) = y at hy
    refine ha.cell (i := m) (by omega) (v := .string x) (by rw [List.getElem?_map, hx]; rfl) fun e he => ?_
    simp only [cellH_mk, cellO_some, add_mk, size_upd, upd_upd, one_int, one_bool, one_string, one_pointer, one_slice, one_map, one_func, st1_some, stN_nil, stN_cons, StV_mk, StO_some, Ld_some, RtI_mk, RtB_mk, RtS_mk, RtP_mk, RtL_mk, RtM_mk, RtA_mk, RtT_mk, NilC_some, New_eq, At_eq, Ck_true, Rt0_mk, BrB_true, BrB_false, Nat.zero_add, List.length_cons, List.length_nil, List.getElem?_cons_zero, List.getElem?_cons_succ, List.set_cons_zero, List.set_cons_succ, List.getD_cons_zero, List.getD_cons_succ, Option.isNone_some, Option.isNone_none, Go.Disk.fsO, Go.Disk.fileO, Bool.false_eq_true, eq_self, Nat.reduceAdd, Nat.reduceSub, Nat.reduceMul, Nat.reduceLT, Nat.reduceLeDiff, Nat.reduceEqDiff, Int.reduceNeg, Int.reduceEq, Int.reduceNe, Int.reduceBEq, Int.reduceBNe, Int.reduceLT, Int.reduceLE, Int.reduceGT, Int.reduceAdd, reduceIte, Bool.not_true, Bool.not_false, decide_true, decide_false, ne_eq, not_false_eq_true, not_true_eq_false, he]
    refine hb.cell (i := m) (by omega) (v := .string y) (by rw [List.getElem?_map, hy]; rfl) fun e2 he2 => ?_
    simp only [cellH_mk, cellO_some, add_mk, size_upd, upd_upd, one_int, one_bool, one_string, one_pointer, one_slice, one_map, one_func, st1_some, stN_nil, stN_cons, StV_mk, StO_some, Ld_some, RtI_mk, RtB_mk, RtS_mk, RtP_mk, RtL_mk, RtM_mk, RtA_mk, RtT_mk, NilC_some, New_eq, At_eq, Ck_true, Rt0_mk, BrB_true, BrB_false, Nat.zero_add, List.length_cons, List.length_nil, List.getElem?_cons_zero, List.getElem?_cons_succ, List.set_cons_zero, List.set_cons_succ, List.getD_cons_zero, List.getD_cons_succ, Option.isNone_some, Option.isNone_none, Go.Disk.fsO, Go.Disk.fileO, Bool.false_eq_true, eq_self, Nat.reduceAdd, Nat.reduceSub, Nat.reduceMul, Nat.reduceLT, Nat.reduceLeDiff, Nat.reduceEqDiff, Int.reduceNeg, Int.reduceEq, Int.reduceNe, Int.reduceBEq, Int.reduceBNe, Int.reduceLT, Int.reduceLE, Int.reduceGT, Int.reduceAdd, reduceIte, Bool.not_true, Bool.not_false, decide_true, decide_false, ne_eq, not_false_eq_true, not_true_eq_false, he2]
    refine BrB_i (fun hne => ?_) (fun heq => ?_)
    · have : xs ≠ ys := by
        intro e
        rw [e, hy] at hx
        cases hx
        simp at hne
      rw [decide_eq_false this] at hK
      exact hK
    · have hxy : x = y := by
        refine nm_eq ?_
        simpa using heq
      subst hxy
      rw [w64 (by omega) (by omega)]
      refine ⟨⟨rfl, m + 1, by omega, by omega, fun j hj => ?_⟩, ?_⟩
      · by_cases e : j = m
        · subst e; rw [hx, hy]
        · exact hall j (by omega)
      · show la - ((m : Int) + 1).toNat < la - ((m : Nat) : Int).toNat
        omega
  · have h := of_decide_eq_false h
    have : xs = ys := by
      refine List.ext_getElem? fun j => ?_
      by_cases hj : j < m
      · exact hall j hj
      · rw [List.getElem?_eq_none (by omega), List.getElem?_eq_none (by omega)]
    rw [decide_eq_true this] at hK
    exact hK

theorem Spoil_ok {H : Heap} {C : Col} {lab : Lab} {a : Option Addr} {l c : Nat} {cells : List Value} {by_ : Int} {K : Value → Heap → Prop} (h : SlO H C lab 5 1 a l c cells) (hz : AllCells H a c isU8)
    (hK : ∀ H', Ev (at1 lab) H C H' C → K (.tuple ⟨[]⟩) H') : Fn 26 [.slice a l c, .int .u8 by_] H K := by
  refine F26_ok _ _ _ _ ?_
  unfold F26
  obtain ⟨hc63, hall⟩ := hz
  refine Ck_i ⟨by omega, by omega, by omega, by omega⟩ ?_
  obtain ⟨h1, h2, h3⟩ := h
  rcases h3 with ⟨rfl, rfl, rfl⟩ | ⟨b, cs, rfl, hcb, hb, hcl, hcs⟩
  · refine ⟨fun i H' => H' = H ∧ i = 0, fun _ _ => 0, ⟨rfl, rfl⟩, ?_⟩
    rintro fr i H' ⟨rfl, rfl⟩
    simp only [cellH_mk, cellO_some, add_mk, size_upd, upd_upd, one_int, one_bool, one_string, one_pointer, one_slice, one_map, one_func, st1_some, stN_nil, stN_cons, StV_mk, StO_some, Ld_some, RtI_mk, RtB_mk, RtS_mk, RtP_mk, RtL_mk, RtM_mk, RtA_mk, RtT_mk, NilC_some, New_eq, At_eq, Ck_true, Rt0_mk, BrB_true, BrB_false, Nat.zero_add, List.length_cons, List.length_nil, List.getElem?_cons_zero, List.getElem?_cons_succ, List.set_cons_zero, List.set_cons_succ, List.getD_cons_zero, List.getD_cons_succ, Option.isNone_some, Option.isNone_none, Go.Disk.fsO, Go.Disk.fileO, Bool.false_eq_true, eq_self, Nat.reduceAdd, Nat.reduceSub, Nat.reduceMul, Nat.reduceLT, Nat.reduceLeDiff, Nat.reduceEqDiff, Int.reduceNeg, Int.reduceEq, Int.reduceNe, Int.reduceBEq, Int.reduceBNe, Int.reduceLT, Int.reduceLE, Int.reduceGT, Int.reduceAdd, reduceIte, Bool.not_true, Bool.not_false, decide_true, decide_false, ne_eq, not_false_eq_true, not_true_eq_false]
    refine BrB_i (fun h => ?_) (fun h => ?_)
    · have h := of_decide_eq_true h
      simp [slN] at h
    · exact hK _ (Ev.refl _ _ _)
  · rw [Nat.mul_one] at hcl
    by_cases hc0 : c = 0
    · subst hc0
      refine ⟨fun i H' => H' = H ∧ i = 0, fun _ _ => 0, ⟨rfl, rfl⟩, ?_⟩
      rintro fr i H' ⟨rfl, rfl⟩
      simp only [cellH_mk, cellO_some, add_mk, size_upd, upd_upd, one_int, one_bool, one_string, one_pointer, one_slice, one_map, one_func, st1_some, stN_nil, stN_cons, StV_mk, StO_some, Ld_some, RtI_mk, RtB_mk, RtS_mk, RtP_mk, RtL_mk, RtM_mk, RtA_mk, RtT_mk, NilC_some, New_eq, At_eq, Ck_true, Rt0_mk, BrB_true, BrB_false, Nat.zero_add, List.length_cons, List.length_nil, List.getElem?_cons_zero, List.getElem?_cons_succ, List.set_cons_zero, List.set_cons_succ, List.getD_cons_zero, List.getD_cons_succ, Option.isNone_some, Option.isNone_none, Go.Disk.fsO, Go.Disk.fileO, Bool.false_eq_true, eq_self, Nat.reduceAdd, Nat.reduceSub, Nat.reduceMul, Nat.reduceLT, Nat.reduceLeDiff, Nat.reduceEqDiff, Int.reduceNeg, Int.reduceEq, Int.reduceNe, Int.reduceBEq, Int.reduceBNe, Int.reduceLT, Int.reduceLE, Int.reduceGT, Int.reduceAdd, reduceIte, Bool.not_true, Bool.not_false, decide_true, decide_false, ne_eq, not_false_eq_true, not_true_eq_false]
      refine BrB_i (fun h => ?_) (fun h => ?_)
      · have h := of_decide_eq_true h
        simp [slN] at h
      · exact hK _ (Ev.refl _ _ _)
    have hu := hall b cs _ _ rfl hb
    have hs0 : slA (some ⟨b, 0, none⟩) 0 (c : Int) 1 = some ⟨b, 0, none⟩ := by
      have := slA_some (b := b) (off := 0) (lo := 0) (mx := c) (sz := 1) (by omega)
      simpa using this
    have hn0 : slN 0 (c : Int) = c := by have := slN_eq 0 c; simpa using this
    rw [hs0, hn0]
    refine ⟨fun i H' => ∃ m : Nat, i = (m : Int) ∧ m ≤ c ∧ (∃ cs' : List Value, H'[b]? = some (.cells ⟨cs'⟩ 5 (0, 0)) ∧ cs'.length = c ∧ ∀ v ∈ cs', isU8 v) ∧ Ev (at1 lab) H C H' C, fun i _ => c - i.toNat, ⟨0, rfl, by omega, ⟨cs, hb, hcl, hu⟩, Ev.refl _ _ _⟩, ?_⟩
    rintro fr i H' ⟨m, rfl, hm, ⟨cs', hb', hl', hu'⟩, hev⟩
    simp only [cellH_mk, cellO_some, add_mk, size_upd, upd_upd, one_int, one_bool, one_string, one_pointer, one_slice, one_map, one_func, st1_some, stN_nil, stN_cons, StV_mk, StO_some, Ld_some, RtI_mk, RtB_mk, RtS_mk, RtP_mk, RtL_mk, RtM_mk, RtA_mk, RtT_mk, NilC_some, New_eq, At_eq, Ck_true, Rt0_mk, BrB_true, BrB_false, Nat.zero_add, List.length_cons, List.length_nil, List.getElem?_cons_zero, List.getElem?_cons_succ, List.set_cons_zero, List.set_cons_succ, List.getD_cons_zero, List.getD_cons_succ, Option.isNone_some, Option.isNone_none, Go.Disk.fsO, Go.Disk.fileO, Bool.false_eq_true, eq_self, Nat.reduceAdd, Nat.reduceSub, Nat.reduceMul, Nat.reduceLT, Nat.reduceLeDiff, Nat.reduceEqDiff, Int.reduceNeg, Int.reduceEq, Int.reduceNe, Int.reduceBEq, Int.reduceBNe, Int.reduceLT, Int.reduceLE, Int.reduceGT, Int.reduceAdd, reduceIte, Bool.not_true, Bool.not_false, decide_true, decide_false, ne_eq, not_false_eq_true, not_true_eq_false]
    refine BrB_i (fun h => ?_) (fun h => ?_)
    · have h := of_decide_eq_true h
      have hx : cs'[m]? = some (cs'[m]'(by omega)) := List.getElem?_eq_getElem _
      have hxm : cs'[m]'(by omega) ∈ cs' := List.getElem_mem _
      generalize cs'[m]'(by omega) = x at hx hxm
      obtain ⟨n, rfl⟩ := hu' x hxm
      refine Idx_i (by omega) (by omega) ?_
      rw [Int.toNat_natCast, Nat.zero_add, Nat.mul_one]
      simp only [cellH_mk, cellO_some, add_mk, size_upd, upd_upd, one_int, one_bool, one_string, one_pointer, one_slice, one_map, one_func, st1_some, stN_nil, stN_cons, StV_mk, StO_some, Ld_some, RtI_mk, RtB_mk, RtS_mk, RtP_mk, RtL_mk, RtM_mk, RtA_mk, RtT_mk, NilC_some, New_eq, At_eq, Ck_true, Rt0_mk, BrB_true, BrB_false, Nat.zero_add, List.length_cons, List.length_nil, List.getElem?_cons_zero, List.getElem?_cons_succ, List.set_cons_zero, List.set_cons_succ, List.getD_cons_zero, List.getD_cons_succ, Option.isNone_some, Option.isNone_none, Go.Disk.fsO, Go.Disk.fileO, Bool.false_eq_true, eq_self, Nat.reduceAdd, Nat.reduceSub, Nat.reduceMul, Nat.reduceLT, Nat.reduceLeDiff, Nat.reduceEqDiff, Int.reduceNeg, Int.reduceEq, Int.reduceNe, Int.reduceBEq, Int.reduceBNe, Int.reduceLT, Int.reduceLE, Int.reduceGT, Int.reduceAdd, reduceIte, Bool.not_true, Bool.not_false, decide_true, decide_false, ne_eq, not_false_eq_true, not_true_eq_false, hb', hx]
      obtain ⟨y, hy⟩ := xor_rd (P := Try.prog) (t := 5) (x := .tmp 20) (y := .tmp 21) (k := .u8) (a := n) (b := by_) (H := H')
      refine ⟨_, hy, ?_⟩
      simp only [cellH_mk, cellO_some, add_mk, size_upd, upd_upd, one_int, one_bool, one_string, one_pointer, one_slice, one_map, one_func, st1_some, stN_nil, stN_cons, StV_mk, StO_some, Ld_some, RtI_mk, RtB_mk, RtS_mk, RtP_mk, RtL_mk, RtM_mk, RtA_mk, RtT_mk, NilC_some, New_eq, At_eq, Ck_true, Rt0_mk, BrB_true, BrB_false, Nat.zero_add, List.length_cons, List.length_nil, List.getElem?_cons_zero, List.getElem?_cons_succ, List.set_cons_zero, List.set_cons_succ, List.getD_cons_zero, List.getD_cons_succ, Option.isNone_some, Option.isNone_none, Go.Disk.fsO, Go.Disk.fileO, Bool.false_eq_true, eq_self, Nat.reduceAdd, Nat.reduceSub, Nat.reduceMul, Nat.reduceLT, Nat.reduceLeDiff, Nat.reduceEqDiff, Int.reduceNeg, Int.reduceEq, Int.reduceNe, Int.reduceBEq, Int.reduceBNe, Int.reduceLT, Int.reduceLE, Int.reduceGT, Int.reduceAdd, reduceIte, Bool.not_true, Bool.not_false, decide_true, decide_false, ne_eq, not_false_eq_true, not_true_eq_false]
      refine Idx_i (by omega) (by omega) ?_
      rw [Int.toNat_natCast, Nat.zero_add, Nat.mul_one]
      have hlt : m < cs'.length := by omega
      simp only [cellH_mk, cellO_some, add_mk, size_upd, upd_upd, one_int, one_bool, one_string, one_pointer, one_slice, one_map, one_func, st1_some, stN_nil, stN_cons, StV_mk, StO_some, Ld_some, RtI_mk, RtB_mk, RtS_mk, RtP_mk, RtL_mk, RtM_mk, RtA_mk, RtT_mk, NilC_some, New_eq, At_eq, Ck_true, Rt0_mk, BrB_true, BrB_false, Nat.zero_add, List.length_cons, List.length_nil, List.getElem?_cons_zero, List.getElem?_cons_succ, List.set_cons_zero, List.set_cons_succ, List.getD_cons_zero, List.getD_cons_succ, Option.isNone_some, Option.isNone_none, Go.Disk.fsO, Go.Disk.fileO, Bool.false_eq_true, eq_self, Nat.reduceAdd, Nat.reduceSub, Nat.reduceMul, Nat.reduceLT, Nat.reduceLeDiff, Nat.reduceEqDiff, Int.reduceNeg, Int.reduceEq, Int.reduceNe, Int.reduceBEq, Int.reduceBNe, Int.reduceLT, Int.reduceLE, Int.reduceGT, Int.reduceAdd, reduceIte, Bool.not_true, Bool.not_false, decide_true, decide_false, ne_eq, not_false_eq_true, not_true_eq_false, hb', hlt]
      rw [w64 (by omega) (by omega)]
      refine ⟨⟨m + 1, by omega, by omega, ⟨_, get_upd_of hb', by rw [List.length_set]; exact hl', fun v hv => ?_⟩, hev.trans (ev_upd hcb _)⟩, ?_⟩
      · rcases List.mem_or_eq_of_mem_set hv with h | h
        · exact hu' v h
        · exact ⟨_, h⟩
      · show c - ((m : Int) + 1).toNat < c - ((m : Nat) : Int).toNat
        omega
    · exact hK _ hev
end Go.Proofs

namespace Go.Fx
open Go Go.Disk
theorem SlI.rowK {H : Heap} {C : Col} {sz : Nat} {a : Option Addr} {l c : Nat} {cells : List Value} (h : SlI H C sz a l c cells) {i : Nat} (hi : i < l) {K : Addr → Prop}
    (hK : ∀ e, (∀ (S : Lab → Prop) H' C', Ev S H C H' C' → (∀ x, x.1 = 0 → ¬ S x) → rowV H' e sz = some (.agg ⟨(cells.drop (i * sz)).take sz⟩)) → K e) : Idx a l (i : Int) sz K := by
  obtain ⟨h1, h2, h3⟩ := h
  rcases h3 with h0 | ⟨b, off, cs, t, fz, rfl, hc, hb, hle, hcs⟩
  · omega
  · have hm : i * sz + sz ≤ l * sz := by
      have := Nat.mul_le_mul_right sz (show i + 1 ≤ l from hi)
      rw [Nat.add_mul, Nat.one_mul] at this
      exact this
    refine Idx_i (by omega) (by omega) ?_
    rw [Int.toNat_natCast]
    refine hK _ fun S H' C' he hS => ?_
    rw [rowV_mk H' b (off + i * sz) sz (he.get hb (hS _ hc)) (by omega)]
    congr 3
    rw [← hcs, List.drop_take, List.take_take, List.drop_drop]
    congr 1
    omega
theorem SlI.opRowK {H : Heap} {C : Col} {a : Option Addr} {l c : Nat} {os : List OpA} (h : OpsI H C a l c os) {i : Nat} {o : OpA} (hi : os[i]? = some o) {K : Addr → Prop}
    (hK : ∀ e s, ByI H C s o.b → o.Ok → (∀ (S : Lab → Prop) H' C', Ev S H C H' C' → (∀ x, x.1 = 0 → ¬ S x) → rowV H' e 5 = some (.agg ⟨opCells o s⟩)) → K e) : Idx a l (i : Int) 5 K := by
  obtain ⟨cells, h1, h2, h3⟩ := h
  obtain ⟨s, g1, g2, g3⟩ := h2.get hi
  have hil := (List.getElem?_eq_some_iff.1 hi).1
  refine h1.rowK (i := i) (by omega) fun e he => hK e s g2 g3 fun S H' C' h4 h5 => ?_
  rw [he S H' C' h4 h5, g1]
end Go.Fx
namespace Go.Proofs
open Go Go.Fx Go.Disk
set_option linter.unusedVariables false
set_option maxRecDepth 20000
theorem dRead_len' {name : Name} {off n : Int} {D : Disk} (hn : 0 ≤ n) : (((dRead name off n D).1.length : Nat) : Int) ≤ n := by
  unfold dRead
  split
  · exact hn
  · split
    · exact hn
    · split
      · exact hn
      · simp only [List.length_take]; omega
theorem encs_names2 (d : Dir) : (dNames d).map encStr = (d.map (·.1)).map Value.string := by
  unfold dNames
  rw [List.map_map, List.map_map]
  exact List.map_congr_left fun x _ => encStr_name x.1
theorem did_ok {H : Heap} {C : Col} {k p : Nat} {D : Disk} {o : OpA} {s : SlV} {K : Value → Heap → Prop} (hk : k ≠ 0) (h : IsRef H C k p D) (hD : DiskOk D) (ha : D.acts < 2 ^ 39) (hb : ByI H C s o.b) (ho : o.Ok)
    (hK : ∀ H' C', IsRef H' C' k p (dDo o D).2 → Ev (own k) H C H' C' → K (.int .i64 (dDo o D).1) H') :
    Fn 38 [.pointer (some ⟨p, 0, none⟩), .agg ⟨opCells o s⟩] H K := by
  unfold opCells
  refine F38_ok _ _ _ _ _ _ _ _ ?_
  unfold F38
  simp only [cellH_mk, cellO_some, add_mk, size_upd, upd_upd, one_int, one_bool, one_string, one_pointer, one_slice, one_map, one_func, st1_some, stN_nil, stN_cons, StV_mk, StO_some, Ld_some, RtI_mk, RtB_mk, RtS_mk, RtP_mk, RtL_mk, RtM_mk, RtA_mk, RtT_mk, NilC_some, New_eq, At_eq, Ck_true, Rt0_mk, BrB_true, BrB_false, Nat.zero_add, List.length_cons, List.length_nil, List.getElem?_cons_zero, List.getElem?_cons_succ, List.set_cons_zero, List.set_cons_succ, List.getD_cons_zero, List.getD_cons_succ, Option.isNone_some, Option.isNone_none, Go.Disk.fsO, Go.Disk.fileO, Bool.false_eq_true, eq_self, Nat.reduceAdd, Nat.reduceSub, Nat.reduceMul, Nat.reduceLT, Nat.reduceLeDiff, Nat.reduceEqDiff, Int.reduceNeg, Int.reduceEq, Int.reduceNe, Int.reduceBEq, Int.reduceBNe, Int.reduceLT, Int.reduceLE, Int.reduceGT, Int.reduceAdd, reduceIte, Bool.not_true, Bool.not_false, decide_true, decide_false, ne_eq, not_false_eq_true, not_true_eq_false, NewN_eq]
  have hev1 := ev_push no H C (.cells ⟨[.int .u8 (o.call : Int), .string o.name, .string o.dst, .int .i64 o.off, .slice s.1 s.2.1 s.2.2]⟩ 50) (0, 0)
  have hb1 : (H.push (.cells ⟨[.int .u8 (o.call : Int), .string o.name, .string o.dst, .int .i64 o.off, .slice s.1 s.2.1 s.2.2]⟩ 50))[H.size]? = some (.cells ⟨[.int .u8 (o.call : Int), .string o.name, .string o.dst, .int .i64 o.off, .slice s.1 s.2.1 s.2.2]⟩ 50) := get_push_self _ _
  have h1 := h.ev hev1 (fun _ _ h => h) fun _ h => h
  have g1 := hb.ev hev1 fun _ _ h => h
  have hev1 : Ev (own k) H C _ _ := hev1.mono fun _ h => h.elim
  have hK1 : ∀ {H2 C2 H' C'}, IsRef H' C' k p (dDo o D).2 → Ev (own k) H C H2 C2 → Ev (own k) H2 C2 H' C' → K (.int .i64 (dDo o D).1) H' := fun h2 e1 e2 => hK _ _ h2 (e1.trans e2)
  generalize H.push _ = H1 at *
  generalize setC C H.size (0, 0) = C1 at *
  generalize H.size = nb at *
  clear hK
  have hdn := ho.name
  have hdd := ho.dst
  have hdf := ho.off
  have hbl : o.b.length < 2 ^ 60 := by have := ho.b; omega
  unfold dDo at hK1
  simp only [cellH_mk, cellO_some, add_mk, size_upd, upd_upd, one_int, one_bool, one_string, one_pointer, one_slice, one_map, one_func, st1_some, stN_nil, stN_cons, StV_mk, StO_some, Ld_some, RtI_mk, RtB_mk, RtS_mk, RtP_mk, RtL_mk, RtM_mk, RtA_mk, RtT_mk, NilC_some, New_eq, At_eq, Ck_true, Rt0_mk, BrB_true, BrB_false, Nat.zero_add, List.length_cons, List.length_nil, List.getElem?_cons_zero, List.getElem?_cons_succ, List.set_cons_zero, List.set_cons_succ, List.getD_cons_zero, List.getD_cons_succ, Option.isNone_some, Option.isNone_none, Go.Disk.fsO, Go.Disk.fileO, Bool.false_eq_true, eq_self, Nat.reduceAdd, Nat.reduceSub, Nat.reduceMul, Nat.reduceLT, Nat.reduceLeDiff, Nat.reduceEqDiff, Int.reduceNeg, Int.reduceEq, Int.reduceNe, Int.reduceBEq, Int.reduceBNe, Int.reduceLT, Int.reduceLE, Int.reduceGT, Int.reduceAdd, reduceIte, Bool.not_true, Bool.not_false, decide_true, decide_false, ne_eq, not_false_eq_true, not_true_eq_false, hb1]
  have nx : ∀ {n : Nat}, ((o.call : Int) == (n : Int)) = false → o.call ≠ n := fun h e => by rw [e] at h; simp at h
  have px : ∀ {n : Nat}, ((o.call : Int) == (n : Int)) = true → o.call = n := fun h => by have := eq_of_beq h; omega
  refine BrB_i (fun e => ?_) (fun e0 => ?_)
  · have e := px (n := 0) e
    rw [if_pos e] at hK1
    simp only [cellH_mk, cellO_some, add_mk, size_upd, upd_upd, one_int, one_bool, one_string, one_pointer, one_slice, one_map, one_func, st1_some, stN_nil, stN_cons, StV_mk, StO_some, Ld_some, RtI_mk, RtB_mk, RtS_mk, RtP_mk, RtL_mk, RtM_mk, RtA_mk, RtT_mk, NilC_some, New_eq, At_eq, Ck_true, Rt0_mk, BrB_true, BrB_false, Nat.zero_add, List.length_cons, List.length_nil, List.getElem?_cons_zero, List.getElem?_cons_succ, List.set_cons_zero, List.set_cons_succ, List.getD_cons_zero, List.getD_cons_succ, Option.isNone_some, Option.isNone_none, Go.Disk.fsO, Go.Disk.fileO, Bool.false_eq_true, eq_self, Nat.reduceAdd, Nat.reduceSub, Nat.reduceMul, Nat.reduceLT, Nat.reduceLeDiff, Nat.reduceEqDiff, Int.reduceNeg, Int.reduceEq, Int.reduceNe, Int.reduceBEq, Int.reduceBNe, Int.reduceLT, Int.reduceLE, Int.reduceGT, Int.reduceAdd, reduceIte, Bool.not_true, Bool.not_false, decide_true, decide_false, ne_eq, not_false_eq_true, not_true_eq_false, hb1]
    refine rCreate_ok (name := o.name) hk h1 hD ha (by omega) fun H2 C2 h2 hev2 => ?_
    simp only [cellH_mk, cellO_some, add_mk, size_upd, upd_upd, one_int, one_bool, one_string, one_pointer, one_slice, one_map, one_func, st1_some, stN_nil, stN_cons, StV_mk, StO_some, Ld_some, RtI_mk, RtB_mk, RtS_mk, RtP_mk, RtL_mk, RtM_mk, RtA_mk, RtT_mk, NilC_some, New_eq, At_eq, Ck_true, Rt0_mk, BrB_true, BrB_false, Nat.zero_add, List.length_cons, List.length_nil, List.getElem?_cons_zero, List.getElem?_cons_succ, List.set_cons_zero, List.set_cons_succ, List.getD_cons_zero, List.getD_cons_succ, Option.isNone_some, Option.isNone_none, Go.Disk.fsO, Go.Disk.fileO, Bool.false_eq_true, eq_self, Nat.reduceAdd, Nat.reduceSub, Nat.reduceMul, Nat.reduceLT, Nat.reduceLeDiff, Nat.reduceEqDiff, Int.reduceNeg, Int.reduceEq, Int.reduceNe, Int.reduceBEq, Int.reduceBNe, Int.reduceLT, Int.reduceLE, Int.reduceGT, Int.reduceAdd, reduceIte, Bool.not_true, Bool.not_false, decide_true, decide_false, ne_eq, not_false_eq_true, not_true_eq_false]
    exact hK1 h2 hev1 hev2
  have e0 := nx (n := 0) e0
  rw [if_neg e0] at hK1
  refine BrB_i (fun e => ?_) (fun e0 => ?_)
  · have e := px (n := 1) e
    rw [if_pos e] at hK1
    simp only [cellH_mk, cellO_some, add_mk, size_upd, upd_upd, one_int, one_bool, one_string, one_pointer, one_slice, one_map, one_func, st1_some, stN_nil, stN_cons, StV_mk, StO_some, Ld_some, RtI_mk, RtB_mk, RtS_mk, RtP_mk, RtL_mk, RtM_mk, RtA_mk, RtT_mk, NilC_some, New_eq, At_eq, Ck_true, Rt0_mk, BrB_true, BrB_false, Nat.zero_add, List.length_cons, List.length_nil, List.getElem?_cons_zero, List.getElem?_cons_succ, List.set_cons_zero, List.set_cons_succ, List.getD_cons_zero, List.getD_cons_succ, Option.isNone_some, Option.isNone_none, Go.Disk.fsO, Go.Disk.fileO, Bool.false_eq_true, eq_self, Nat.reduceAdd, Nat.reduceSub, Nat.reduceMul, Nat.reduceLT, Nat.reduceLeDiff, Nat.reduceEqDiff, Int.reduceNeg, Int.reduceEq, Int.reduceNe, Int.reduceBEq, Int.reduceBNe, Int.reduceLT, Int.reduceLE, Int.reduceGT, Int.reduceAdd, reduceIte, Bool.not_true, Bool.not_false, decide_true, decide_false, ne_eq, not_false_eq_true, not_true_eq_false, hb1]
    refine rAppend_ok hk h1 hD ha g1 hbl fun H2 C2 h2 hev2 => ?_
    simp only [cellH_mk, cellO_some, add_mk, size_upd, upd_upd, one_int, one_bool, one_string, one_pointer, one_slice, one_map, one_func, st1_some, stN_nil, stN_cons, StV_mk, StO_some, Ld_some, RtI_mk, RtB_mk, RtS_mk, RtP_mk, RtL_mk, RtM_mk, RtA_mk, RtT_mk, NilC_some, New_eq, At_eq, Ck_true, Rt0_mk, BrB_true, BrB_false, Nat.zero_add, List.length_cons, List.length_nil, List.getElem?_cons_zero, List.getElem?_cons_succ, List.set_cons_zero, List.set_cons_succ, List.getD_cons_zero, List.getD_cons_succ, Option.isNone_some, Option.isNone_none, Go.Disk.fsO, Go.Disk.fileO, Bool.false_eq_true, eq_self, Nat.reduceAdd, Nat.reduceSub, Nat.reduceMul, Nat.reduceLT, Nat.reduceLeDiff, Nat.reduceEqDiff, Int.reduceNeg, Int.reduceEq, Int.reduceNe, Int.reduceBEq, Int.reduceBNe, Int.reduceLT, Int.reduceLE, Int.reduceGT, Int.reduceAdd, reduceIte, Bool.not_true, Bool.not_false, decide_true, decide_false, ne_eq, not_false_eq_true, not_true_eq_false]
    exact hK1 h2 hev1 hev2
  have e0 := nx (n := 1) e0
  rw [if_neg e0] at hK1
  refine BrB_i (fun e => ?_) (fun e0 => ?_)
  · have e := px (n := 2) e
    rw [if_pos e] at hK1
    simp only [cellH_mk, cellO_some, add_mk, size_upd, upd_upd, one_int, one_bool, one_string, one_pointer, one_slice, one_map, one_func, st1_some, stN_nil, stN_cons, StV_mk, StO_some, Ld_some, RtI_mk, RtB_mk, RtS_mk, RtP_mk, RtL_mk, RtM_mk, RtA_mk, RtT_mk, NilC_some, New_eq, At_eq, Ck_true, Rt0_mk, BrB_true, BrB_false, Nat.zero_add, List.length_cons, List.length_nil, List.getElem?_cons_zero, List.getElem?_cons_succ, List.set_cons_zero, List.set_cons_succ, List.getD_cons_zero, List.getD_cons_succ, Option.isNone_some, Option.isNone_none, Go.Disk.fsO, Go.Disk.fileO, Bool.false_eq_true, eq_self, Nat.reduceAdd, Nat.reduceSub, Nat.reduceMul, Nat.reduceLT, Nat.reduceLeDiff, Nat.reduceEqDiff, Int.reduceNeg, Int.reduceEq, Int.reduceNe, Int.reduceBEq, Int.reduceBNe, Int.reduceLT, Int.reduceLE, Int.reduceGT, Int.reduceAdd, reduceIte, Bool.not_true, Bool.not_false, decide_true, decide_false, ne_eq, not_false_eq_true, not_true_eq_false, hb1]
    refine rWrite_ok hk h1 hD ha g1 hbl ho.off fun H2 C2 h2 hev2 => ?_
    simp only [cellH_mk, cellO_some, add_mk, size_upd, upd_upd, one_int, one_bool, one_string, one_pointer, one_slice, one_map, one_func, st1_some, stN_nil, stN_cons, StV_mk, StO_some, Ld_some, RtI_mk, RtB_mk, RtS_mk, RtP_mk, RtL_mk, RtM_mk, RtA_mk, RtT_mk, NilC_some, New_eq, At_eq, Ck_true, Rt0_mk, BrB_true, BrB_false, Nat.zero_add, List.length_cons, List.length_nil, List.getElem?_cons_zero, List.getElem?_cons_succ, List.set_cons_zero, List.set_cons_succ, List.getD_cons_zero, List.getD_cons_succ, Option.isNone_some, Option.isNone_none, Go.Disk.fsO, Go.Disk.fileO, Bool.false_eq_true, eq_self, Nat.reduceAdd, Nat.reduceSub, Nat.reduceMul, Nat.reduceLT, Nat.reduceLeDiff, Nat.reduceEqDiff, Int.reduceNeg, Int.reduceEq, Int.reduceNe, Int.reduceBEq, Int.reduceBNe, Int.reduceLT, Int.reduceLE, Int.reduceGT, Int.reduceAdd, reduceIte, Bool.not_true, Bool.not_false, decide_true, decide_false, ne_eq, not_false_eq_true, not_true_eq_false]
    exact hK1 h2 hev1 hev2
  have e0 := nx (n := 2) e0
  rw [if_neg e0] at hK1
  refine BrB_i (fun e => ?_) (fun e0 => ?_)
  · have e := px (n := 3) e
    rw [if_pos e] at hK1
    simp only [cellH_mk, cellO_some, add_mk, size_upd, upd_upd, one_int, one_bool, one_string, one_pointer, one_slice, one_map, one_func, st1_some, stN_nil, stN_cons, StV_mk, StO_some, Ld_some, RtI_mk, RtB_mk, RtS_mk, RtP_mk, RtL_mk, RtM_mk, RtA_mk, RtT_mk, NilC_some, New_eq, At_eq, Ck_true, Rt0_mk, BrB_true, BrB_false, Nat.zero_add, List.length_cons, List.length_nil, List.getElem?_cons_zero, List.getElem?_cons_succ, List.set_cons_zero, List.set_cons_succ, List.getD_cons_zero, List.getD_cons_succ, Option.isNone_some, Option.isNone_none, Go.Disk.fsO, Go.Disk.fileO, Bool.false_eq_true, eq_self, Nat.reduceAdd, Nat.reduceSub, Nat.reduceMul, Nat.reduceLT, Nat.reduceLeDiff, Nat.reduceEqDiff, Int.reduceNeg, Int.reduceEq, Int.reduceNe, Int.reduceBEq, Int.reduceBNe, Int.reduceLT, Int.reduceLE, Int.reduceGT, Int.reduceAdd, reduceIte, Bool.not_true, Bool.not_false, decide_true, decide_false, ne_eq, not_false_eq_true, not_true_eq_false, hb1]
    refine rCut_ok hk h1 hD ha fun H2 C2 h2 hev2 => ?_
    simp only [cellH_mk, cellO_some, add_mk, size_upd, upd_upd, one_int, one_bool, one_string, one_pointer, one_slice, one_map, one_func, st1_some, stN_nil, stN_cons, StV_mk, StO_some, Ld_some, RtI_mk, RtB_mk, RtS_mk, RtP_mk, RtL_mk, RtM_mk, RtA_mk, RtT_mk, NilC_some, New_eq, At_eq, Ck_true, Rt0_mk, BrB_true, BrB_false, Nat.zero_add, List.length_cons, List.length_nil, List.getElem?_cons_zero, List.getElem?_cons_succ, List.set_cons_zero, List.set_cons_succ, List.getD_cons_zero, List.getD_cons_succ, Option.isNone_some, Option.isNone_none, Go.Disk.fsO, Go.Disk.fileO, Bool.false_eq_true, eq_self, Nat.reduceAdd, Nat.reduceSub, Nat.reduceMul, Nat.reduceLT, Nat.reduceLeDiff, Nat.reduceEqDiff, Int.reduceNeg, Int.reduceEq, Int.reduceNe, Int.reduceBEq, Int.reduceBNe, Int.reduceLT, Int.reduceLE, Int.reduceGT, Int.reduceAdd, reduceIte, Bool.not_true, Bool.not_false, decide_true, decide_false, ne_eq, not_false_eq_true, not_true_eq_false]
    exact hK1 h2 hev1 hev2
  have e0 := nx (n := 3) e0
  rw [if_neg e0] at hK1
  refine BrB_i (fun e => ?_) (fun e0 => ?_)
  · have e := px (n := 4) e
    rw [if_pos e] at hK1
    simp only [cellH_mk, cellO_some, add_mk, size_upd, upd_upd, one_int, one_bool, one_string, one_pointer, one_slice, one_map, one_func, st1_some, stN_nil, stN_cons, StV_mk, StO_some, Ld_some, RtI_mk, RtB_mk, RtS_mk, RtP_mk, RtL_mk, RtM_mk, RtA_mk, RtT_mk, NilC_some, New_eq, At_eq, Ck_true, Rt0_mk, BrB_true, BrB_false, Nat.zero_add, List.length_cons, List.length_nil, List.getElem?_cons_zero, List.getElem?_cons_succ, List.set_cons_zero, List.set_cons_succ, List.getD_cons_zero, List.getD_cons_succ, Option.isNone_some, Option.isNone_none, Go.Disk.fsO, Go.Disk.fileO, Bool.false_eq_true, eq_self, Nat.reduceAdd, Nat.reduceSub, Nat.reduceMul, Nat.reduceLT, Nat.reduceLeDiff, Nat.reduceEqDiff, Int.reduceNeg, Int.reduceEq, Int.reduceNe, Int.reduceBEq, Int.reduceBNe, Int.reduceLT, Int.reduceLE, Int.reduceGT, Int.reduceAdd, reduceIte, Bool.not_true, Bool.not_false, decide_true, decide_false, ne_eq, not_false_eq_true, not_true_eq_false, hb1]
    refine rRename_ok (dst := o.dst) hk h1 hD ha (by omega) fun H2 C2 h2 hev2 => ?_
    simp only [cellH_mk, cellO_some, add_mk, size_upd, upd_upd, one_int, one_bool, one_string, one_pointer, one_slice, one_map, one_func, st1_some, stN_nil, stN_cons, StV_mk, StO_some, Ld_some, RtI_mk, RtB_mk, RtS_mk, RtP_mk, RtL_mk, RtM_mk, RtA_mk, RtT_mk, NilC_some, New_eq, At_eq, Ck_true, Rt0_mk, BrB_true, BrB_false, Nat.zero_add, List.length_cons, List.length_nil, List.getElem?_cons_zero, List.getElem?_cons_succ, List.set_cons_zero, List.set_cons_succ, List.getD_cons_zero, List.getD_cons_succ, Option.isNone_some, Option.isNone_none, Go.Disk.fsO, Go.Disk.fileO, Bool.false_eq_true, eq_self, Nat.reduceAdd, Nat.reduceSub, Nat.reduceMul, Nat.reduceLT, Nat.reduceLeDiff, Nat.reduceEqDiff, Int.reduceNeg, Int.reduceEq, Int.reduceNe, Int.reduceBEq, Int.reduceBNe, Int.reduceLT, Int.reduceLE, Int.reduceGT, Int.reduceAdd, reduceIte, Bool.not_true, Bool.not_false, decide_true, decide_false, ne_eq, not_false_eq_true, not_true_eq_false]
    exact hK1 h2 hev1 hev2
  have e0 := nx (n := 4) e0
  rw [if_neg e0] at hK1
  refine BrB_i (fun e => ?_) (fun e0 => ?_)
  · have e := px (n := 5) e
    rw [if_pos e] at hK1
    simp only [cellH_mk, cellO_some, add_mk, size_upd, upd_upd, one_int, one_bool, one_string, one_pointer, one_slice, one_map, one_func, st1_some, stN_nil, stN_cons, StV_mk, StO_some, Ld_some, RtI_mk, RtB_mk, RtS_mk, RtP_mk, RtL_mk, RtM_mk, RtA_mk, RtT_mk, NilC_some, New_eq, At_eq, Ck_true, Rt0_mk, BrB_true, BrB_false, Nat.zero_add, List.length_cons, List.length_nil, List.getElem?_cons_zero, List.getElem?_cons_succ, List.set_cons_zero, List.set_cons_succ, List.getD_cons_zero, List.getD_cons_succ, Option.isNone_some, Option.isNone_none, Go.Disk.fsO, Go.Disk.fileO, Bool.false_eq_true, eq_self, Nat.reduceAdd, Nat.reduceSub, Nat.reduceMul, Nat.reduceLT, Nat.reduceLeDiff, Nat.reduceEqDiff, Int.reduceNeg, Int.reduceEq, Int.reduceNe, Int.reduceBEq, Int.reduceBNe, Int.reduceLT, Int.reduceLE, Int.reduceGT, Int.reduceAdd, reduceIte, Bool.not_true, Bool.not_false, decide_true, decide_false, ne_eq, not_false_eq_true, not_true_eq_false, hb1]
    refine rRemove_ok hk h1 hD ha fun H2 C2 h2 hev2 => ?_
    simp only [cellH_mk, cellO_some, add_mk, size_upd, upd_upd, one_int, one_bool, one_string, one_pointer, one_slice, one_map, one_func, st1_some, stN_nil, stN_cons, StV_mk, StO_some, Ld_some, RtI_mk, RtB_mk, RtS_mk, RtP_mk, RtL_mk, RtM_mk, RtA_mk, RtT_mk, NilC_some, New_eq, At_eq, Ck_true, Rt0_mk, BrB_true, BrB_false, Nat.zero_add, List.length_cons, List.length_nil, List.getElem?_cons_zero, List.getElem?_cons_succ, List.set_cons_zero, List.set_cons_succ, List.getD_cons_zero, List.getD_cons_succ, Option.isNone_some, Option.isNone_none, Go.Disk.fsO, Go.Disk.fileO, Bool.false_eq_true, eq_self, Nat.reduceAdd, Nat.reduceSub, Nat.reduceMul, Nat.reduceLT, Nat.reduceLeDiff, Nat.reduceEqDiff, Int.reduceNeg, Int.reduceEq, Int.reduceNe, Int.reduceBEq, Int.reduceBNe, Int.reduceLT, Int.reduceLE, Int.reduceGT, Int.reduceAdd, reduceIte, Bool.not_true, Bool.not_false, decide_true, decide_false, ne_eq, not_false_eq_true, not_true_eq_false]
    exact hK1 h2 hev1 hev2
  have e0 := nx (n := 5) e0
  rw [if_neg e0] at hK1
  refine BrB_i (fun e => ?_) (fun e0 => ?_)
  · have e := px (n := 6) e
    rw [if_pos e] at hK1
    simp only [cellH_mk, cellO_some, add_mk, size_upd, upd_upd, one_int, one_bool, one_string, one_pointer, one_slice, one_map, one_func, st1_some, stN_nil, stN_cons, StV_mk, StO_some, Ld_some, RtI_mk, RtB_mk, RtS_mk, RtP_mk, RtL_mk, RtM_mk, RtA_mk, RtT_mk, NilC_some, New_eq, At_eq, Ck_true, Rt0_mk, BrB_true, BrB_false, Nat.zero_add, List.length_cons, List.length_nil, List.getElem?_cons_zero, List.getElem?_cons_succ, List.set_cons_zero, List.set_cons_succ, List.getD_cons_zero, List.getD_cons_succ, Option.isNone_some, Option.isNone_none, Go.Disk.fsO, Go.Disk.fileO, Bool.false_eq_true, eq_self, Nat.reduceAdd, Nat.reduceSub, Nat.reduceMul, Nat.reduceLT, Nat.reduceLeDiff, Nat.reduceEqDiff, Int.reduceNeg, Int.reduceEq, Int.reduceNe, Int.reduceBEq, Int.reduceBNe, Int.reduceLT, Int.reduceLE, Int.reduceGT, Int.reduceAdd, reduceIte, Bool.not_true, Bool.not_false, decide_true, decide_false, ne_eq, not_false_eq_true, not_true_eq_false, hb1]
    refine rSync_ok hk h1 hD ha fun H2 C2 h2 hev2 => ?_
    simp only [cellH_mk, cellO_some, add_mk, size_upd, upd_upd, one_int, one_bool, one_string, one_pointer, one_slice, one_map, one_func, st1_some, stN_nil, stN_cons, StV_mk, StO_some, Ld_some, RtI_mk, RtB_mk, RtS_mk, RtP_mk, RtL_mk, RtM_mk, RtA_mk, RtT_mk, NilC_some, New_eq, At_eq, Ck_true, Rt0_mk, BrB_true, BrB_false, Nat.zero_add, List.length_cons, List.length_nil, List.getElem?_cons_zero, List.getElem?_cons_succ, List.set_cons_zero, List.set_cons_succ, List.getD_cons_zero, List.getD_cons_succ, Option.isNone_some, Option.isNone_none, Go.Disk.fsO, Go.Disk.fileO, Bool.false_eq_true, eq_self, Nat.reduceAdd, Nat.reduceSub, Nat.reduceMul, Nat.reduceLT, Nat.reduceLeDiff, Nat.reduceEqDiff, Int.reduceNeg, Int.reduceEq, Int.reduceNe, Int.reduceBEq, Int.reduceBNe, Int.reduceLT, Int.reduceLE, Int.reduceGT, Int.reduceAdd, reduceIte, Bool.not_true, Bool.not_false, decide_true, decide_false, ne_eq, not_false_eq_true, not_true_eq_false]
    exact hK1 h2 hev1 hev2
  have e0 := nx (n := 6) e0
  rw [if_neg e0] at hK1
  refine BrB_i (fun e => ?_) (fun e0 => ?_)
  · have e := px (n := 7) e
    rw [if_pos e] at hK1
    refine rSyncDir_ok hk h1 hD ha fun H2 C2 h2 hev2 => ?_
    simp only [cellH_mk, cellO_some, add_mk, size_upd, upd_upd, one_int, one_bool, one_string, one_pointer, one_slice, one_map, one_func, st1_some, stN_nil, stN_cons, StV_mk, StO_some, Ld_some, RtI_mk, RtB_mk, RtS_mk, RtP_mk, RtL_mk, RtM_mk, RtA_mk, RtT_mk, NilC_some, New_eq, At_eq, Ck_true, Rt0_mk, BrB_true, BrB_false, Nat.zero_add, List.length_cons, List.length_nil, List.getElem?_cons_zero, List.getElem?_cons_succ, List.set_cons_zero, List.set_cons_succ, List.getD_cons_zero, List.getD_cons_succ, Option.isNone_some, Option.isNone_none, Go.Disk.fsO, Go.Disk.fileO, Bool.false_eq_true, eq_self, Nat.reduceAdd, Nat.reduceSub, Nat.reduceMul, Nat.reduceLT, Nat.reduceLeDiff, Nat.reduceEqDiff, Int.reduceNeg, Int.reduceEq, Int.reduceNe, Int.reduceBEq, Int.reduceBNe, Int.reduceLT, Int.reduceLE, Int.reduceGT, Int.reduceAdd, reduceIte, Bool.not_true, Bool.not_false, decide_true, decide_false, ne_eq, not_false_eq_true, not_true_eq_false]
    exact hK1 h2 hev1 hev2
  have e0 := nx (n := 7) e0
  rw [if_neg e0] at hK1
  refine BrB_i (fun e => ?_) (fun e0 => ?_)
  · have e := px (n := 8) e
    rw [if_pos e] at hK1
    simp only [cellH_mk, cellO_some, add_mk, size_upd, upd_upd, one_int, one_bool, one_string, one_pointer, one_slice, one_map, one_func, st1_some, stN_nil, stN_cons, StV_mk, StO_some, Ld_some, RtI_mk, RtB_mk, RtS_mk, RtP_mk, RtL_mk, RtM_mk, RtA_mk, RtT_mk, NilC_some, New_eq, At_eq, Ck_true, Rt0_mk, BrB_true, BrB_false, Nat.zero_add, List.length_cons, List.length_nil, List.getElem?_cons_zero, List.getElem?_cons_succ, List.set_cons_zero, List.set_cons_succ, List.getD_cons_zero, List.getD_cons_succ, Option.isNone_some, Option.isNone_none, Go.Disk.fsO, Go.Disk.fileO, Bool.false_eq_true, eq_self, Nat.reduceAdd, Nat.reduceSub, Nat.reduceMul, Nat.reduceLT, Nat.reduceLeDiff, Nat.reduceEqDiff, Int.reduceNeg, Int.reduceEq, Int.reduceNe, Int.reduceBEq, Int.reduceBNe, Int.reduceLT, Int.reduceLE, Int.reduceGT, Int.reduceAdd, reduceIte, Bool.not_true, Bool.not_false, decide_true, decide_false, ne_eq, not_false_eq_true, not_true_eq_false, hb1]
    refine rArm_ok hk h1 fun H2 C2 h2 hev2 => ?_
    simp only [cellH_mk, cellO_some, add_mk, size_upd, upd_upd, one_int, one_bool, one_string, one_pointer, one_slice, one_map, one_func, st1_some, stN_nil, stN_cons, StV_mk, StO_some, Ld_some, RtI_mk, RtB_mk, RtS_mk, RtP_mk, RtL_mk, RtM_mk, RtA_mk, RtT_mk, NilC_some, New_eq, At_eq, Ck_true, Rt0_mk, BrB_true, BrB_false, Nat.zero_add, List.length_cons, List.length_nil, List.getElem?_cons_zero, List.getElem?_cons_succ, List.set_cons_zero, List.set_cons_succ, List.getD_cons_zero, List.getD_cons_succ, Option.isNone_some, Option.isNone_none, Go.Disk.fsO, Go.Disk.fileO, Bool.false_eq_true, eq_self, Nat.reduceAdd, Nat.reduceSub, Nat.reduceMul, Nat.reduceLT, Nat.reduceLeDiff, Nat.reduceEqDiff, Int.reduceNeg, Int.reduceEq, Int.reduceNe, Int.reduceBEq, Int.reduceBNe, Int.reduceLT, Int.reduceLE, Int.reduceGT, Int.reduceAdd, reduceIte, Bool.not_true, Bool.not_false, decide_true, decide_false, ne_eq, not_false_eq_true, not_true_eq_false]
    exact hK1 h2 hev1 hev2
  have e0 := nx (n := 8) e0
  rw [if_neg e0] at hK1
  exact hK1 h1 hev1 (Ev.refl _ _ _)

theorem files_ok {H : Heap} {C : Col} {k k' p q : Nat} {D : Disk} {a : Option Addr} {l c : Nat} {ns : List Name} {K : Value → Heap → Prop} (hf : IsFS H C k p D) (hg : IsRef H C k' q D) (hD : DiskOk D) (ha : D.acts < 2 ^ 39)
    (hs : SlI H C 1 a l c (ns.map Value.string)) (hl : l < 2 ^ 60) (hK : ∀ H' C', Ev no H C H' C' → K (.bool true) H') :
    Fn 76 [.pointer (some ⟨p, 0, none⟩), .pointer (some ⟨q, 0, none⟩), .slice a l c] H K := by
  refine F76_ok _ _ _ _ _ ?_
  unfold F76
  have hln : l = ns.length := by have := hs.1; simp at this; omega
  refine ⟨fun i H' => ∃ C', ∃ m : Nat, i = (m : Int) ∧ m ≤ l ∧ Ev no H C H' C', fun i _ => l - i.toNat, ⟨C, 0, rfl, by omega, Ev.refl _ _ _⟩, ?_⟩
  rintro fr i H1 ⟨C1, m, rfl, hm, hev1⟩
  simp only [cellH_mk, cellO_some, add_mk, size_upd, upd_upd, one_int, one_bool, one_string, one_pointer, one_slice, one_map, one_func, st1_some, stN_nil, stN_cons, StV_mk, StO_some, Ld_some, RtI_mk, RtB_mk, RtS_mk, RtP_mk, RtL_mk, RtM_mk, RtA_mk, RtT_mk, NilC_some, New_eq, At_eq, Ck_true, Rt0_mk, BrB_true, BrB_false, Nat.zero_add, List.length_cons, List.length_nil, List.getElem?_cons_zero, List.getElem?_cons_succ, List.set_cons_zero, List.set_cons_succ, List.getD_cons_zero, List.getD_cons_succ, Option.isNone_some, Option.isNone_none, Go.Disk.fsO, Go.Disk.fileO, Bool.false_eq_true, eq_self, Nat.reduceAdd, Nat.reduceSub, Nat.reduceMul, Nat.reduceLT, Nat.reduceLeDiff, Nat.reduceEqDiff, Int.reduceNeg, Int.reduceEq, Int.reduceNe, Int.reduceBEq, Int.reduceBNe, Int.reduceLT, Int.reduceLE, Int.reduceGT, Int.reduceAdd, reduceIte, Bool.not_true, Bool.not_false, decide_true, decide_false, ne_eq, not_false_eq_true, not_true_eq_false]
  refine BrB_i (fun hlt => ?_) (fun _ => hK H1 C1 hev1)
  have hlt := of_decide_eq_true hlt
  have hom : ns[m]? = some (ns[m]'(by omega)) := List.getElem?_eq_getElem _
  generalize ns[m]'(by omega) = nm at hom
  have hs1 := hs.ev hev1 fun _ _ h => h
  refine hs1.r.cell (i := m) (by omega) (v := .string nm) (by rw [List.getElem?_map, hom]; rfl) fun e he => ?_
  simp only [cellH_mk, cellO_some, add_mk, size_upd, upd_upd, one_int, one_bool, one_string, one_pointer, one_slice, one_map, one_func, st1_some, stN_nil, stN_cons, StV_mk, StO_some, Ld_some, RtI_mk, RtB_mk, RtS_mk, RtP_mk, RtL_mk, RtM_mk, RtA_mk, RtT_mk, NilC_some, New_eq, At_eq, Ck_true, Rt0_mk, BrB_true, BrB_false, Nat.zero_add, List.length_cons, List.length_nil, List.getElem?_cons_zero, List.getElem?_cons_succ, List.set_cons_zero, List.set_cons_succ, List.getD_cons_zero, List.getD_cons_succ, Option.isNone_some, Option.isNone_none, Go.Disk.fsO, Go.Disk.fileO, Bool.false_eq_true, eq_self, Nat.reduceAdd, Nat.reduceSub, Nat.reduceMul, Nat.reduceLT, Nat.reduceLeDiff, Nat.reduceEqDiff, Int.reduceNeg, Int.reduceEq, Int.reduceNe, Int.reduceBEq, Int.reduceBNe, Int.reduceLT, Int.reduceLE, Int.reduceGT, Int.reduceAdd, reduceIte, Bool.not_true, Bool.not_false, decide_true, decide_false, ne_eq, not_false_eq_true, not_true_eq_false, he]
  refine Read_ok (name := nm) (hf.ev hev1 (fun _ _ h => h) fun _ _ h => h) hD (by omega) (by omega) (0, 0) fun a1 l1 c1 H2 C2 g2 hev2 => ?_
  have g2 := g2.imm rfl
  have hev2 := hev1.trans hev2
  simp only [cellH_mk, cellO_some, add_mk, size_upd, upd_upd, one_int, one_bool, one_string, one_pointer, one_slice, one_map, one_func, st1_some, stN_nil, stN_cons, StV_mk, StO_some, Ld_some, RtI_mk, RtB_mk, RtS_mk, RtP_mk, RtL_mk, RtM_mk, RtA_mk, RtT_mk, NilC_some, New_eq, At_eq, Ck_true, Rt0_mk, BrB_true, BrB_false, Nat.zero_add, List.length_cons, List.length_nil, List.getElem?_cons_zero, List.getElem?_cons_succ, List.set_cons_zero, List.set_cons_succ, List.getD_cons_zero, List.getD_cons_succ, Option.isNone_some, Option.isNone_none, Go.Disk.fsO, Go.Disk.fileO, Bool.false_eq_true, eq_self, Nat.reduceAdd, Nat.reduceSub, Nat.reduceMul, Nat.reduceLT, Nat.reduceLeDiff, Nat.reduceEqDiff, Int.reduceNeg, Int.reduceEq, Int.reduceNe, Int.reduceBEq, Int.reduceBNe, Int.reduceLT, Int.reduceLE, Int.reduceGT, Int.reduceAdd, reduceIte, Bool.not_true, Bool.not_false, decide_true, decide_false, ne_eq, not_false_eq_true, not_true_eq_false]
  have hs2 := hs.ev hev2 fun _ _ h => h
  refine hs2.r.cell (i := m) (by omega) (v := .string nm) (by rw [List.getElem?_map, hom]; rfl) fun e he => ?_
  simp only [cellH_mk, cellO_some, add_mk, size_upd, upd_upd, one_int, one_bool, one_string, one_pointer, one_slice, one_map, one_func, st1_some, stN_nil, stN_cons, StV_mk, StO_some, Ld_some, RtI_mk, RtB_mk, RtS_mk, RtP_mk, RtL_mk, RtM_mk, RtA_mk, RtT_mk, NilC_some, New_eq, At_eq, Ck_true, Rt0_mk, BrB_true, BrB_false, Nat.zero_add, List.length_cons, List.length_nil, List.getElem?_cons_zero, List.getElem?_cons_succ, List.set_cons_zero, List.set_cons_succ, List.getD_cons_zero, List.getD_cons_succ, Option.isNone_some, Option.isNone_none, Go.Disk.fsO, Go.Disk.fileO, Bool.false_eq_true, eq_self, Nat.reduceAdd, Nat.reduceSub, Nat.reduceMul, Nat.reduceLT, Nat.reduceLeDiff, Nat.reduceEqDiff, Int.reduceNeg, Int.reduceEq, Int.reduceNe, Int.reduceBEq, Int.reduceBNe, Int.reduceLT, Int.reduceLE, Int.reduceGT, Int.reduceAdd, reduceIte, Bool.not_true, Bool.not_false, decide_true, decide_false, ne_eq, not_false_eq_true, not_true_eq_false, he]
  refine rRead_ok (name := nm) (hg.ev hev2 (fun _ _ h => h) fun _ h => h) hD ha (by omega) (by omega) (0, 0) fun a3 l3 c3 H3 C3 g3 hev3 => ?_
  have g23 := g2.ev hev3 fun _ _ h => h
  have hev3 := hev2.trans hev3
  simp only [cellH_mk, cellO_some, add_mk, size_upd, upd_upd, one_int, one_bool, one_string, one_pointer, one_slice, one_map, one_func, st1_some, stN_nil, stN_cons, StV_mk, StO_some, Ld_some, RtI_mk, RtB_mk, RtS_mk, RtP_mk, RtL_mk, RtM_mk, RtA_mk, RtT_mk, NilC_some, New_eq, At_eq, Ck_true, Rt0_mk, BrB_true, BrB_false, Nat.zero_add, List.length_cons, List.length_nil, List.getElem?_cons_zero, List.getElem?_cons_succ, List.set_cons_zero, List.set_cons_succ, List.getD_cons_zero, List.getD_cons_succ, Option.isNone_some, Option.isNone_none, Go.Disk.fsO, Go.Disk.fileO, Bool.false_eq_true, eq_self, Nat.reduceAdd, Nat.reduceSub, Nat.reduceMul, Nat.reduceLT, Nat.reduceLeDiff, Nat.reduceEqDiff, Int.reduceNeg, Int.reduceEq, Int.reduceNe, Int.reduceBEq, Int.reduceBNe, Int.reduceLT, Int.reduceLE, Int.reduceGT, Int.reduceAdd, reduceIte, Bool.not_true, Bool.not_false, decide_true, decide_false, ne_eq, not_false_eq_true, not_true_eq_false]
  refine BrB_i (fun h => by simp at h) (fun _ => ?_)
  have hrl := dRead_len' (name := nm) (off := 0) (n := 1048576) (D := D) (by omega)
  have hl16 := g23.bl
  refine Same_ok g23.r g3.r (by omega) ?_
  rw [decide_eq_true rfl]
  simp only [cellH_mk, cellO_some, add_mk, size_upd, upd_upd, one_int, one_bool, one_string, one_pointer, one_slice, one_map, one_func, st1_some, stN_nil, stN_cons, StV_mk, StO_some, Ld_some, RtI_mk, RtB_mk, RtS_mk, RtP_mk, RtL_mk, RtM_mk, RtA_mk, RtT_mk, NilC_some, New_eq, At_eq, Ck_true, Rt0_mk, BrB_true, BrB_false, Nat.zero_add, List.length_cons, List.length_nil, List.getElem?_cons_zero, List.getElem?_cons_succ, List.set_cons_zero, List.set_cons_succ, List.getD_cons_zero, List.getD_cons_succ, Option.isNone_some, Option.isNone_none, Go.Disk.fsO, Go.Disk.fileO, Bool.false_eq_true, eq_self, Nat.reduceAdd, Nat.reduceSub, Nat.reduceMul, Nat.reduceLT, Nat.reduceLeDiff, Nat.reduceEqDiff, Int.reduceNeg, Int.reduceEq, Int.reduceNe, Int.reduceBEq, Int.reduceBNe, Int.reduceLT, Int.reduceLE, Int.reduceGT, Int.reduceAdd, reduceIte, Bool.not_true, Bool.not_false, decide_true, decide_false, ne_eq, not_false_eq_true, not_true_eq_false]
  rw [w64 (by omega) (by omega)]
  refine ⟨⟨C3, m + 1, by omega, by omega, hev3⟩, ?_⟩
  show l - ((m : Int) + 1).toNat < l - ((m : Nat) : Int).toNat
  omega

theorem alike_ok {H : Heap} {C : Col} {k k' p q : Nat} {D : Disk} {o : OpA} {s : SlV} {K : Value → Heap → Prop} (hf : IsFS H C k p D) (hg : IsRef H C k' q D) (hD : DiskOk D) (ha : D.acts < 2 ^ 39) (hoff : -2 ^ 63 ≤ o.off ∧ o.off < 2 ^ 63)
    (hK : ∀ H' C', Ev no H C H' C' → K (.bool true) H') :
    Fn 39 [.pointer (some ⟨p, 0, none⟩), .pointer (some ⟨q, 0, none⟩), .agg ⟨opCells o s⟩] H K := by
  unfold opCells
  refine F39_ok _ _ _ _ _ _ _ _ _ ?_
  unfold F39
  simp only [cellH_mk, cellO_some, add_mk, size_upd, upd_upd, one_int, one_bool, one_string, one_pointer, one_slice, one_map, one_func, st1_some, stN_nil, stN_cons, StV_mk, StO_some, Ld_some, RtI_mk, RtB_mk, RtS_mk, RtP_mk, RtL_mk, RtM_mk, RtA_mk, RtT_mk, NilC_some, New_eq, At_eq, Ck_true, Rt0_mk, BrB_true, BrB_false, Nat.zero_add, List.length_cons, List.length_nil, List.getElem?_cons_zero, List.getElem?_cons_succ, List.set_cons_zero, List.set_cons_succ, List.getD_cons_zero, List.getD_cons_succ, Option.isNone_some, Option.isNone_none, Go.Disk.fsO, Go.Disk.fileO, Bool.false_eq_true, eq_self, Nat.reduceAdd, Nat.reduceSub, Nat.reduceMul, Nat.reduceLT, Nat.reduceLeDiff, Nat.reduceEqDiff, Int.reduceNeg, Int.reduceEq, Int.reduceNe, Int.reduceBEq, Int.reduceBNe, Int.reduceLT, Int.reduceLE, Int.reduceGT, Int.reduceAdd, reduceIte, Bool.not_true, Bool.not_false, decide_true, decide_false, ne_eq, not_false_eq_true, not_true_eq_false, NewN_eq]
  have hev1 := ev_push no H C (.cells ⟨[.int .u8 (o.call : Int), .string o.name, .string o.dst, .int .i64 o.off, .slice s.1 s.2.1 s.2.2]⟩ 50) (0, 0)
  have hb1 : (H.push (.cells ⟨[.int .u8 (o.call : Int), .string o.name, .string o.dst, .int .i64 o.off, .slice s.1 s.2.1 s.2.2]⟩ 50))[H.size]? = some (.cells ⟨[.int .u8 (o.call : Int), .string o.name, .string o.dst, .int .i64 o.off, .slice s.1 s.2.1 s.2.2]⟩ 50 (0, 0)) := get_push_self _ _
  generalize H.push _ = H1 at *
  generalize setC C H.size (0, 0) = C1 at *
  generalize H.size = nb at *
  have F : ∀ {H' C'}, Ev no H C H' C' → IsFS H' C' k p D := fun he => hf.ev he (fun _ _ h => h) fun _ _ h => h
  have G : ∀ {H' C'}, Ev no H C H' C' → IsRef H' C' k' q D := fun he => hg.ev he (fun _ _ h => h) fun _ h => h
  refine rNames_ok (G hev1) hD (0, 0) fun al ll cl H2 C2 g2 hev2 => ?_
  have hb2 := hev2.get hb1 fun h => h
  have hev2 := hev1.trans hev2
  have g2 := g2.imm rfl
  have hls := hD.seen.2.1
  have hll : ll ≤ 64 := by
    have := g2.1
    rw [List.length_map] at this
    split at this
    · simp at this; omega
    · rw [List.length_map] at this; omega
  simp only [cellH_mk, cellO_some, add_mk, size_upd, upd_upd, one_int, one_bool, one_string, one_pointer, one_slice, one_map, one_func, st1_some, stN_nil, stN_cons, StV_mk, StO_some, Ld_some, RtI_mk, RtB_mk, RtS_mk, RtP_mk, RtL_mk, RtM_mk, RtA_mk, RtT_mk, NilC_some, New_eq, At_eq, Ck_true, Rt0_mk, BrB_true, BrB_false, Nat.zero_add, List.length_cons, List.length_nil, List.getElem?_cons_zero, List.getElem?_cons_succ, List.set_cons_zero, List.set_cons_succ, List.getD_cons_zero, List.getD_cons_succ, Option.isNone_some, Option.isNone_none, Go.Disk.fsO, Go.Disk.fileO, Bool.false_eq_true, eq_self, Nat.reduceAdd, Nat.reduceSub, Nat.reduceMul, Nat.reduceLT, Nat.reduceLeDiff, Nat.reduceEqDiff, Int.reduceNeg, Int.reduceEq, Int.reduceNe, Int.reduceBEq, Int.reduceBNe, Int.reduceLT, Int.reduceLE, Int.reduceGT, Int.reduceAdd, reduceIte, Bool.not_true, Bool.not_false, decide_true, decide_false, ne_eq, not_false_eq_true, not_true_eq_false]
  refine Names_ok (F hev2) hD (0, 0) fun a3 c3 H3 C3 g3 hev3 => ?_
  have hb3 := hev3.get hb2 fun h => h
  have g23 := g2.ev hev3 fun _ _ h => h
  have hev3 := hev2.trans hev3
  have g3 := g3.imm rfl
  have en : (dNamesOf D).map encStr = (if D.dead then [] else D.seen.map (·.1)).map Value.string := by
    unfold dNamesOf
    split
    · rfl
    · exact encs_names2 _
  have el : (dNamesOf D).length ≤ 64 := by
    unfold dNamesOf
    split
    · simp
    · simp [dNames]; omega
  rw [en] at g3
  simp only [cellH_mk, cellO_some, add_mk, size_upd, upd_upd, one_int, one_bool, one_string, one_pointer, one_slice, one_map, one_func, st1_some, stN_nil, stN_cons, StV_mk, StO_some, Ld_some, RtI_mk, RtB_mk, RtS_mk, RtP_mk, RtL_mk, RtM_mk, RtA_mk, RtT_mk, NilC_some, New_eq, At_eq, Ck_true, Rt0_mk, BrB_true, BrB_false, Nat.zero_add, List.length_cons, List.length_nil, List.getElem?_cons_zero, List.getElem?_cons_succ, List.set_cons_zero, List.set_cons_succ, List.getD_cons_zero, List.getD_cons_succ, Option.isNone_some, Option.isNone_none, Go.Disk.fsO, Go.Disk.fileO, Bool.false_eq_true, eq_self, Nat.reduceAdd, Nat.reduceSub, Nat.reduceMul, Nat.reduceLT, Nat.reduceLeDiff, Nat.reduceEqDiff, Int.reduceNeg, Int.reduceEq, Int.reduceNe, Int.reduceBEq, Int.reduceBNe, Int.reduceLT, Int.reduceLE, Int.reduceGT, Int.reduceAdd, reduceIte, Bool.not_true, Bool.not_false, decide_true, decide_false, ne_eq, not_false_eq_true, not_true_eq_false]
  refine Texts_ok g3.r g23.r (by omega) ?_
  rw [decide_eq_true rfl]
  simp only [cellH_mk, cellO_some, add_mk, size_upd, upd_upd, one_int, one_bool, one_string, one_pointer, one_slice, one_map, one_func, st1_some, stN_nil, stN_cons, StV_mk, StO_some, Ld_some, RtI_mk, RtB_mk, RtS_mk, RtP_mk, RtL_mk, RtM_mk, RtA_mk, RtT_mk, NilC_some, New_eq, At_eq, Ck_true, Rt0_mk, BrB_true, BrB_false, Nat.zero_add, List.length_cons, List.length_nil, List.getElem?_cons_zero, List.getElem?_cons_succ, List.set_cons_zero, List.set_cons_succ, List.getD_cons_zero, List.getD_cons_succ, Option.isNone_some, Option.isNone_none, Go.Disk.fsO, Go.Disk.fileO, Bool.false_eq_true, eq_self, Nat.reduceAdd, Nat.reduceSub, Nat.reduceMul, Nat.reduceLT, Nat.reduceLeDiff, Nat.reduceEqDiff, Int.reduceNeg, Int.reduceEq, Int.reduceNe, Int.reduceBEq, Int.reduceBNe, Int.reduceLT, Int.reduceLE, Int.reduceGT, Int.reduceAdd, reduceIte, Bool.not_true, Bool.not_false, decide_true, decide_false, ne_eq, not_false_eq_true, not_true_eq_false]
  refine Used_ok (F hev3) ?_
  simp only [cellH_mk, cellO_some, add_mk, size_upd, upd_upd, one_int, one_bool, one_string, one_pointer, one_slice, one_map, one_func, st1_some, stN_nil, stN_cons, StV_mk, StO_some, Ld_some, RtI_mk, RtB_mk, RtS_mk, RtP_mk, RtL_mk, RtM_mk, RtA_mk, RtT_mk, NilC_some, New_eq, At_eq, Ck_true, Rt0_mk, BrB_true, BrB_false, Nat.zero_add, List.length_cons, List.length_nil, List.getElem?_cons_zero, List.getElem?_cons_succ, List.set_cons_zero, List.set_cons_succ, List.getD_cons_zero, List.getD_cons_succ, Option.isNone_some, Option.isNone_none, Go.Disk.fsO, Go.Disk.fileO, Bool.false_eq_true, eq_self, Nat.reduceAdd, Nat.reduceSub, Nat.reduceMul, Nat.reduceLT, Nat.reduceLeDiff, Nat.reduceEqDiff, Int.reduceNeg, Int.reduceEq, Int.reduceNe, Int.reduceBEq, Int.reduceBNe, Int.reduceLT, Int.reduceLE, Int.reduceGT, Int.reduceAdd, reduceIte, Bool.not_true, Bool.not_false, decide_true, decide_false, ne_eq, not_false_eq_true, not_true_eq_false]
  refine rUsed_ok (G hev3) hD ha fun H4 C4 hev4 => ?_
  have hb4 := hev4.get hb3 fun h => h
  have g24 := g23.ev hev4 fun _ _ h => h
  have hev4 := hev3.trans hev4
  simp only [cellH_mk, cellO_some, add_mk, size_upd, upd_upd, one_int, one_bool, one_string, one_pointer, one_slice, one_map, one_func, st1_some, stN_nil, stN_cons, StV_mk, StO_some, Ld_some, RtI_mk, RtB_mk, RtS_mk, RtP_mk, RtL_mk, RtM_mk, RtA_mk, RtT_mk, NilC_some, New_eq, At_eq, Ck_true, Rt0_mk, BrB_true, BrB_false, Nat.zero_add, List.length_cons, List.length_nil, List.getElem?_cons_zero, List.getElem?_cons_succ, List.set_cons_zero, List.set_cons_succ, List.getD_cons_zero, List.getD_cons_succ, Option.isNone_some, Option.isNone_none, Go.Disk.fsO, Go.Disk.fileO, Bool.false_eq_true, eq_self, Nat.reduceAdd, Nat.reduceSub, Nat.reduceMul, Nat.reduceLT, Nat.reduceLeDiff, Nat.reduceEqDiff, Int.reduceNeg, Int.reduceEq, Int.reduceNe, Int.reduceBEq, Int.reduceBNe, Int.reduceLT, Int.reduceLE, Int.reduceGT, Int.reduceAdd, reduceIte, Bool.not_true, Bool.not_false, decide_true, decide_false, ne_eq, not_false_eq_true, not_true_eq_false]
  refine BrB_i (fun h => by simp at h) (fun _ => ?_)
  refine Room_ok (F hev4) ?_
  simp only [cellH_mk, cellO_some, add_mk, size_upd, upd_upd, one_int, one_bool, one_string, one_pointer, one_slice, one_map, one_func, st1_some, stN_nil, stN_cons, StV_mk, StO_some, Ld_some, RtI_mk, RtB_mk, RtS_mk, RtP_mk, RtL_mk, RtM_mk, RtA_mk, RtT_mk, NilC_some, New_eq, At_eq, Ck_true, Rt0_mk, BrB_true, BrB_false, Nat.zero_add, List.length_cons, List.length_nil, List.getElem?_cons_zero, List.getElem?_cons_succ, List.set_cons_zero, List.set_cons_succ, List.getD_cons_zero, List.getD_cons_succ, Option.isNone_some, Option.isNone_none, Go.Disk.fsO, Go.Disk.fileO, Bool.false_eq_true, eq_self, Nat.reduceAdd, Nat.reduceSub, Nat.reduceMul, Nat.reduceLT, Nat.reduceLeDiff, Nat.reduceEqDiff, Int.reduceNeg, Int.reduceEq, Int.reduceNe, Int.reduceBEq, Int.reduceBNe, Int.reduceLT, Int.reduceLE, Int.reduceGT, Int.reduceAdd, reduceIte, Bool.not_true, Bool.not_false, decide_true, decide_false, ne_eq, not_false_eq_true, not_true_eq_false]
  refine rRoom_ok (G hev4) ?_
  simp only [cellH_mk, cellO_some, add_mk, size_upd, upd_upd, one_int, one_bool, one_string, one_pointer, one_slice, one_map, one_func, st1_some, stN_nil, stN_cons, StV_mk, StO_some, Ld_some, RtI_mk, RtB_mk, RtS_mk, RtP_mk, RtL_mk, RtM_mk, RtA_mk, RtT_mk, NilC_some, New_eq, At_eq, Ck_true, Rt0_mk, BrB_true, BrB_false, Nat.zero_add, List.length_cons, List.length_nil, List.getElem?_cons_zero, List.getElem?_cons_succ, List.set_cons_zero, List.set_cons_succ, List.getD_cons_zero, List.getD_cons_succ, Option.isNone_some, Option.isNone_none, Go.Disk.fsO, Go.Disk.fileO, Bool.false_eq_true, eq_self, Nat.reduceAdd, Nat.reduceSub, Nat.reduceMul, Nat.reduceLT, Nat.reduceLeDiff, Nat.reduceEqDiff, Int.reduceNeg, Int.reduceEq, Int.reduceNe, Int.reduceBEq, Int.reduceBNe, Int.reduceLT, Int.reduceLE, Int.reduceGT, Int.reduceAdd, reduceIte, Bool.not_true, Bool.not_false, decide_true, decide_false, ne_eq, not_false_eq_true, not_true_eq_false]
  refine BrB_i (fun h => by
    have e : (dRoom D != (if D.dead = true then (0 : Int) else (D.room : Int))) = false := by unfold dRoom; simp
    have h : (dRoom D != (if D.dead = true then (0 : Int) else (D.room : Int))) = true := h
    rw [e] at h; cases h) (fun _ => ?_)
  refine Acts_ok (F hev4) ?_
  simp only [cellH_mk, cellO_some, add_mk, size_upd, upd_upd, one_int, one_bool, one_string, one_pointer, one_slice, one_map, one_func, st1_some, stN_nil, stN_cons, StV_mk, StO_some, Ld_some, RtI_mk, RtB_mk, RtS_mk, RtP_mk, RtL_mk, RtM_mk, RtA_mk, RtT_mk, NilC_some, New_eq, At_eq, Ck_true, Rt0_mk, BrB_true, BrB_false, Nat.zero_add, List.length_cons, List.length_nil, List.getElem?_cons_zero, List.getElem?_cons_succ, List.set_cons_zero, List.set_cons_succ, List.getD_cons_zero, List.getD_cons_succ, Option.isNone_some, Option.isNone_none, Go.Disk.fsO, Go.Disk.fileO, Bool.false_eq_true, eq_self, Nat.reduceAdd, Nat.reduceSub, Nat.reduceMul, Nat.reduceLT, Nat.reduceLeDiff, Nat.reduceEqDiff, Int.reduceNeg, Int.reduceEq, Int.reduceNe, Int.reduceBEq, Int.reduceBNe, Int.reduceLT, Int.reduceLE, Int.reduceGT, Int.reduceAdd, reduceIte, Bool.not_true, Bool.not_false, decide_true, decide_false, ne_eq, not_false_eq_true, not_true_eq_false]
  refine rActs_ok (G hev4) ?_
  simp only [cellH_mk, cellO_some, add_mk, size_upd, upd_upd, one_int, one_bool, one_string, one_pointer, one_slice, one_map, one_func, st1_some, stN_nil, stN_cons, StV_mk, StO_some, Ld_some, RtI_mk, RtB_mk, RtS_mk, RtP_mk, RtL_mk, RtM_mk, RtA_mk, RtT_mk, NilC_some, New_eq, At_eq, Ck_true, Rt0_mk, BrB_true, BrB_false, Nat.zero_add, List.length_cons, List.length_nil, List.getElem?_cons_zero, List.getElem?_cons_succ, List.set_cons_zero, List.set_cons_succ, List.getD_cons_zero, List.getD_cons_succ, Option.isNone_some, Option.isNone_none, Go.Disk.fsO, Go.Disk.fileO, Bool.false_eq_true, eq_self, Nat.reduceAdd, Nat.reduceSub, Nat.reduceMul, Nat.reduceLT, Nat.reduceLeDiff, Nat.reduceEqDiff, Int.reduceNeg, Int.reduceEq, Int.reduceNe, Int.reduceBEq, Int.reduceBNe, Int.reduceLT, Int.reduceLE, Int.reduceGT, Int.reduceAdd, reduceIte, Bool.not_true, Bool.not_false, decide_true, decide_false, ne_eq, not_false_eq_true, not_true_eq_false]
  refine BrB_i (fun h => by simp at h) (fun _ => ?_)
  refine Dead_ok (F hev4) ?_
  simp only [cellH_mk, cellO_some, add_mk, size_upd, upd_upd, one_int, one_bool, one_string, one_pointer, one_slice, one_map, one_func, st1_some, stN_nil, stN_cons, StV_mk, StO_some, Ld_some, RtI_mk, RtB_mk, RtS_mk, RtP_mk, RtL_mk, RtM_mk, RtA_mk, RtT_mk, NilC_some, New_eq, At_eq, Ck_true, Rt0_mk, BrB_true, BrB_false, Nat.zero_add, List.length_cons, List.length_nil, List.getElem?_cons_zero, List.getElem?_cons_succ, List.set_cons_zero, List.set_cons_succ, List.getD_cons_zero, List.getD_cons_succ, Option.isNone_some, Option.isNone_none, Go.Disk.fsO, Go.Disk.fileO, Bool.false_eq_true, eq_self, Nat.reduceAdd, Nat.reduceSub, Nat.reduceMul, Nat.reduceLT, Nat.reduceLeDiff, Nat.reduceEqDiff, Int.reduceNeg, Int.reduceEq, Int.reduceNe, Int.reduceBEq, Int.reduceBNe, Int.reduceLT, Int.reduceLE, Int.reduceGT, Int.reduceAdd, reduceIte, Bool.not_true, Bool.not_false, decide_true, decide_false, ne_eq, not_false_eq_true, not_true_eq_false]
  refine rDead_ok (G hev4) ?_
  simp only [cellH_mk, cellO_some, add_mk, size_upd, upd_upd, one_int, one_bool, one_string, one_pointer, one_slice, one_map, one_func, st1_some, stN_nil, stN_cons, StV_mk, StO_some, Ld_some, RtI_mk, RtB_mk, RtS_mk, RtP_mk, RtL_mk, RtM_mk, RtA_mk, RtT_mk, NilC_some, New_eq, At_eq, Ck_true, Rt0_mk, BrB_true, BrB_false, Nat.zero_add, List.length_cons, List.length_nil, List.getElem?_cons_zero, List.getElem?_cons_succ, List.set_cons_zero, List.set_cons_succ, List.getD_cons_zero, List.getD_cons_succ, Option.isNone_some, Option.isNone_none, Go.Disk.fsO, Go.Disk.fileO, Bool.false_eq_true, eq_self, Nat.reduceAdd, Nat.reduceSub, Nat.reduceMul, Nat.reduceLT, Nat.reduceLeDiff, Nat.reduceEqDiff, Int.reduceNeg, Int.reduceEq, Int.reduceNe, Int.reduceBEq, Int.reduceBNe, Int.reduceLT, Int.reduceLE, Int.reduceGT, Int.reduceAdd, reduceIte, Bool.not_true, Bool.not_false, decide_true, decide_false, ne_eq, not_false_eq_true, not_true_eq_false]
  refine BrB_i (fun h => by simp at h) (fun _ => ?_)
  simp only [cellH_mk, cellO_some, add_mk, size_upd, upd_upd, one_int, one_bool, one_string, one_pointer, one_slice, one_map, one_func, st1_some, stN_nil, stN_cons, StV_mk, StO_some, Ld_some, RtI_mk, RtB_mk, RtS_mk, RtP_mk, RtL_mk, RtM_mk, RtA_mk, RtT_mk, NilC_some, New_eq, At_eq, Ck_true, Rt0_mk, BrB_true, BrB_false, Nat.zero_add, List.length_cons, List.length_nil, List.getElem?_cons_zero, List.getElem?_cons_succ, List.set_cons_zero, List.set_cons_succ, List.getD_cons_zero, List.getD_cons_succ, Option.isNone_some, Option.isNone_none, Go.Disk.fsO, Go.Disk.fileO, Bool.false_eq_true, eq_self, Nat.reduceAdd, Nat.reduceSub, Nat.reduceMul, Nat.reduceLT, Nat.reduceLeDiff, Nat.reduceEqDiff, Int.reduceNeg, Int.reduceEq, Int.reduceNe, Int.reduceBEq, Int.reduceBNe, Int.reduceLT, Int.reduceLE, Int.reduceGT, Int.reduceAdd, reduceIte, Bool.not_true, Bool.not_false, decide_true, decide_false, ne_eq, not_false_eq_true, not_true_eq_false, hb4]
  refine Read_ok (F hev4) hD hoff (by omega) (0, 0) fun a5 l5 c5 H5 C5 g5 hev5 => ?_
  have hb5 := hev5.get hb4 fun h => h
  have g25 := g24.ev hev5 fun _ _ h => h
  have hev5 := hev4.trans hev5
  have g5 := g5.imm rfl
  simp only [cellH_mk, cellO_some, add_mk, size_upd, upd_upd, one_int, one_bool, one_string, one_pointer, one_slice, one_map, one_func, st1_some, stN_nil, stN_cons, StV_mk, StO_some, Ld_some, RtI_mk, RtB_mk, RtS_mk, RtP_mk, RtL_mk, RtM_mk, RtA_mk, RtT_mk, NilC_some, New_eq, At_eq, Ck_true, Rt0_mk, BrB_true, BrB_false, Nat.zero_add, List.length_cons, List.length_nil, List.getElem?_cons_zero, List.getElem?_cons_succ, List.set_cons_zero, List.set_cons_succ, List.getD_cons_zero, List.getD_cons_succ, Option.isNone_some, Option.isNone_none, Go.Disk.fsO, Go.Disk.fileO, Bool.false_eq_true, eq_self, Nat.reduceAdd, Nat.reduceSub, Nat.reduceMul, Nat.reduceLT, Nat.reduceLeDiff, Nat.reduceEqDiff, Int.reduceNeg, Int.reduceEq, Int.reduceNe, Int.reduceBEq, Int.reduceBNe, Int.reduceLT, Int.reduceLE, Int.reduceGT, Int.reduceAdd, reduceIte, Bool.not_true, Bool.not_false, decide_true, decide_false, ne_eq, not_false_eq_true, not_true_eq_false, hb5]
  refine rRead_ok (G hev5) hD ha hoff (by omega) (0, 0) fun a6 l6 c6 H6 C6 g6 hev6 => ?_
  have hb6 := hev6.get hb5 fun h => h
  have g26 := g25.ev hev6 fun _ _ h => h
  have g56 := g5.ev hev6 fun _ _ h => h
  have hev6 := hev5.trans hev6
  have g6 := g6.imm rfl
  simp only [cellH_mk, cellO_some, add_mk, size_upd, upd_upd, one_int, one_bool, one_string, one_pointer, one_slice, one_map, one_func, st1_some, stN_nil, stN_cons, StV_mk, StO_some, Ld_some, RtI_mk, RtB_mk, RtS_mk, RtP_mk, RtL_mk, RtM_mk, RtA_mk, RtT_mk, NilC_some, New_eq, At_eq, Ck_true, Rt0_mk, BrB_true, BrB_false, Nat.zero_add, List.length_cons, List.length_nil, List.getElem?_cons_zero, List.getElem?_cons_succ, List.set_cons_zero, List.set_cons_succ, List.getD_cons_zero, List.getD_cons_succ, Option.isNone_some, Option.isNone_none, Go.Disk.fsO, Go.Disk.fileO, Bool.false_eq_true, eq_self, Nat.reduceAdd, Nat.reduceSub, Nat.reduceMul, Nat.reduceLT, Nat.reduceLeDiff, Nat.reduceEqDiff, Int.reduceNeg, Int.reduceEq, Int.reduceNe, Int.reduceBEq, Int.reduceBNe, Int.reduceLT, Int.reduceLE, Int.reduceGT, Int.reduceAdd, reduceIte, Bool.not_true, Bool.not_false, decide_true, decide_false, ne_eq, not_false_eq_true, not_true_eq_false, hb6]
  refine Size_ok (F hev6) hD ?_
  simp only [cellH_mk, cellO_some, add_mk, size_upd, upd_upd, one_int, one_bool, one_string, one_pointer, one_slice, one_map, one_func, st1_some, stN_nil, stN_cons, StV_mk, StO_some, Ld_some, RtI_mk, RtB_mk, RtS_mk, RtP_mk, RtL_mk, RtM_mk, RtA_mk, RtT_mk, NilC_some, New_eq, At_eq, Ck_true, Rt0_mk, BrB_true, BrB_false, Nat.zero_add, List.length_cons, List.length_nil, List.getElem?_cons_zero, List.getElem?_cons_succ, List.set_cons_zero, List.set_cons_succ, List.getD_cons_zero, List.getD_cons_succ, Option.isNone_some, Option.isNone_none, Go.Disk.fsO, Go.Disk.fileO, Bool.false_eq_true, eq_self, Nat.reduceAdd, Nat.reduceSub, Nat.reduceMul, Nat.reduceLT, Nat.reduceLeDiff, Nat.reduceEqDiff, Int.reduceNeg, Int.reduceEq, Int.reduceNe, Int.reduceBEq, Int.reduceBNe, Int.reduceLT, Int.reduceLE, Int.reduceGT, Int.reduceAdd, reduceIte, Bool.not_true, Bool.not_false, decide_true, decide_false, ne_eq, not_false_eq_true, not_true_eq_false, hb6]
  refine rSize_ok (G hev6) hD ha fun H7 C7 hev7 => ?_
  have g27 := g26.ev hev7 fun _ _ h => h
  have g57 := g56.ev hev7 fun _ _ h => h
  have g67 := g6.ev hev7 fun _ _ h => h
  have hev7 := hev6.trans hev7
  simp only [cellH_mk, cellO_some, add_mk, size_upd, upd_upd, one_int, one_bool, one_string, one_pointer, one_slice, one_map, one_func, st1_some, stN_nil, stN_cons, StV_mk, StO_some, Ld_some, RtI_mk, RtB_mk, RtS_mk, RtP_mk, RtL_mk, RtM_mk, RtA_mk, RtT_mk, NilC_some, New_eq, At_eq, Ck_true, Rt0_mk, BrB_true, BrB_false, Nat.zero_add, List.length_cons, List.length_nil, List.getElem?_cons_zero, List.getElem?_cons_succ, List.set_cons_zero, List.set_cons_succ, List.getD_cons_zero, List.getD_cons_succ, Option.isNone_some, Option.isNone_none, Go.Disk.fsO, Go.Disk.fileO, Bool.false_eq_true, eq_self, Nat.reduceAdd, Nat.reduceSub, Nat.reduceMul, Nat.reduceLT, Nat.reduceLeDiff, Nat.reduceEqDiff, Int.reduceNeg, Int.reduceEq, Int.reduceNe, Int.reduceBEq, Int.reduceBNe, Int.reduceLT, Int.reduceLE, Int.reduceGT, Int.reduceAdd, reduceIte, Bool.not_true, Bool.not_false, decide_true, decide_false, ne_eq, not_false_eq_true, not_true_eq_false]
  have hrl := dRead_len' (name := o.name) (off := o.off) (n := 5) (D := D) (by omega)
  have hl5 := g57.bl
  refine Same_ok g57.r g67.r (by omega) ?_
  rw [decide_eq_true rfl]
  simp only [cellH_mk, cellO_some, add_mk, size_upd, upd_upd, one_int, one_bool, one_string, one_pointer, one_slice, one_map, one_func, st1_some, stN_nil, stN_cons, StV_mk, StO_some, Ld_some, RtI_mk, RtB_mk, RtS_mk, RtP_mk, RtL_mk, RtM_mk, RtA_mk, RtT_mk, NilC_some, New_eq, At_eq, Ck_true, Rt0_mk, BrB_true, BrB_false, Nat.zero_add, List.length_cons, List.length_nil, List.getElem?_cons_zero, List.getElem?_cons_succ, List.set_cons_zero, List.set_cons_succ, List.getD_cons_zero, List.getD_cons_succ, Option.isNone_some, Option.isNone_none, Go.Disk.fsO, Go.Disk.fileO, Bool.false_eq_true, eq_self, Nat.reduceAdd, Nat.reduceSub, Nat.reduceMul, Nat.reduceLT, Nat.reduceLeDiff, Nat.reduceEqDiff, Int.reduceNeg, Int.reduceEq, Int.reduceNe, Int.reduceBEq, Int.reduceBNe, Int.reduceLT, Int.reduceLE, Int.reduceGT, Int.reduceAdd, reduceIte, Bool.not_true, Bool.not_false, decide_true, decide_false, ne_eq, not_false_eq_true, not_true_eq_false]
  refine BrB_i (fun h => by simp at h) (fun _ => ?_)
  refine BrB_i (fun h => by simp at h) (fun _ => ?_)
  refine BrB_i (fun h => by simp at h) (fun _ => ?_)
  refine files_ok (F hev7) (G hev7) hD ha g27 (by omega) fun H8 C8 hev8 => ?_
  simp only [cellH_mk, cellO_some, add_mk, size_upd, upd_upd, one_int, one_bool, one_string, one_pointer, one_slice, one_map, one_func, st1_some, stN_nil, stN_cons, StV_mk, StO_some, Ld_some, RtI_mk, RtB_mk, RtS_mk, RtP_mk, RtL_mk, RtM_mk, RtA_mk, RtT_mk, NilC_some, New_eq, At_eq, Ck_true, Rt0_mk, BrB_true, BrB_false, Nat.zero_add, List.length_cons, List.length_nil, List.getElem?_cons_zero, List.getElem?_cons_succ, List.set_cons_zero, List.set_cons_succ, List.getD_cons_zero, List.getD_cons_succ, Option.isNone_some, Option.isNone_none, Go.Disk.fsO, Go.Disk.fileO, Bool.false_eq_true, eq_self, Nat.reduceAdd, Nat.reduceSub, Nat.reduceMul, Nat.reduceLT, Nat.reduceLeDiff, Nat.reduceEqDiff, Int.reduceNeg, Int.reduceEq, Int.reduceNe, Int.reduceBEq, Int.reduceBNe, Int.reduceLT, Int.reduceLE, Int.reduceGT, Int.reduceAdd, reduceIte, Bool.not_true, Bool.not_false, decide_true, decide_false, ne_eq, not_false_eq_true, not_true_eq_false]
  exact hK H8 C8 (hev7.trans hev8)
end Go.Proofs

namespace Go.Disk
open Go Go.Fx
set_option linter.unusedVariables false
/-! ## Colours that change where nothing of a disk is -/
structure Rc (k : Nat) (C C' : Col) : Prop where
  zero : ∀ b, (C b).1 = 0 → (C' b).1 = 0
  own : ∀ b, (C b).1 = k → C' b = C b
section
variable {k : Nat} {C C' : Col} {H : Heap}
theorem SlI.rc (hr : Rc k C C') {sz : Nat} {a : Option Addr} {l c : Nat} {cells : List Value} (h : SlI H C sz a l c cells) : SlI H C' sz a l c cells := by
  obtain ⟨h1, h2, h3⟩ := h
  refine ⟨h1, h2, h3.imp id ?_⟩
  rintro ⟨b, off, cs, t, fz, e, hc, r⟩
  exact ⟨b, off, cs, t, fz, e, hr.zero _ hc, r⟩
theorem SlO.rc (hr : Rc k C C') {j : Nat} {t : TypeId} {sz : Nat} {a : Option Addr} {l c : Nat} {cells : List Value} (h : SlO H C (k, j) t sz a l c cells) : SlO H C' (k, j) t sz a l c cells := by
  obtain ⟨h1, h2, h3⟩ := h
  refine ⟨h1, h2, h3.imp id ?_⟩
  rintro ⟨b, cs, e, hc, r⟩
  exact ⟨b, cs, e, (hr.own _ (by rw [hc])).trans hc, r⟩
theorem ByI.rc (hr : Rc k C C') {s : SlV} {xs : List UInt8} (h : ByI H C s xs) : ByI H C' s xs := SlI.rc hr h
theorem ChgsAt.rc (hr : Rc k C C') : ∀ {cs : List Chg} {vs : List Value}, ChgsAt H C cs vs → ChgsAt H C' cs vs
  | [], _, h => h
  | c :: cs, vs, ⟨s, r, h1, h2, h3⟩ => ⟨s, r, h1, ByI.rc hr h2, ChgsAt.rc hr h3⟩
theorem RFiles.rc (hr : Rc k C C') : ∀ {fs : List FileA} {i : Nat} {vs : List Value}, RFiles H C k i fs vs → RFiles H C' k i fs vs
  | [], i, _, h => h
  | f :: fs, i, vs, ⟨s, r, rc, rest, h1, h2, h3, h4, h5, h6⟩ => ⟨s, r, rc, rest, h1, ByI.rc hr h2, SlO.rc hr h3, ChgsAt.rc hr h4, h5, RFiles.rc hr h6⟩
theorem RFilesAt.rc (hr : Rc k C C') {s : SlV} {fs : List FileA} (h : RFilesAt H C k s fs) : RFilesAt H C' k s fs := by
  obtain ⟨cells, a, b, c⟩ := h
  exact ⟨cells, SlO.rc hr a, RFiles.rc hr b, c⟩
theorem Rc.recol {q : Nat} (hqk : q ≠ k) (hq : q ≠ 0) (f : Nat → Lab) : Rc k C (recol C q f) :=
  ⟨fun b hb => by rw [recol_ne (by omega)]; exact hb, fun b hb => by rw [recol_ne (by omega)]⟩
end
end Go.Disk
namespace Go.Proofs
open Go Go.Fx Go.Disk
set_option linter.unusedVariables false
set_option maxRecDepth 20000
theorem rtorn_ok {H : Heap} {C : Col} {c : Chg} {sl s : SlV} {xs : List UInt8} {t : Nat} {K : Value → Heap → Prop} (hb : ByI H C sl c.b) (hs : ByI H C s xs) (ho : c.off ≤ xs.length) (hl : xs.length ≤ 2 ^ 20) (hbl : c.b.length ≤ 2 ^ 20) (ht : t ≤ c.b.length)
    (hK : ∀ (s' : SlV) H' C', ByI H' C' s' (if c.off < tornEnd c.off t xs.length then Chg.app ⟨false, c.off, c.b.take (tornEnd c.off t xs.length - c.off)⟩ xs else xs) → Ev no H C H' C' → K (.slice s'.1 s'.2.1 s'.2.2) H') :
    Fn 79 [.slice s.1 s.2.1 s.2.2, .agg ⟨[.bool c.cut, .int .i64 (c.off : Int), .slice sl.1 sl.2.1 sl.2.2]⟩, .int .i64 (t : Int)] H K := by
  refine F79_ok _ _ _ _ _ _ _ _ _ ?_
  unfold F79
  have hsl := hs.len
  have hbl2 := hb.len
  have hbc := hb.cap
  simp only [cellH_mk, cellO_some, add_mk, size_upd, upd_upd, one_int, one_bool, one_string, one_pointer, one_slice, one_map, one_func, st1_some, stN_nil, stN_cons, StV_mk, StO_some, Ld_some, RtI_mk, RtB_mk, RtS_mk, RtP_mk, RtL_mk, RtM_mk, RtA_mk, RtT_mk, NilC_some, New_eq, At_eq, Ck_true, Rt0_mk, BrB_true, BrB_false, Nat.zero_add, List.length_cons, List.length_nil, List.getElem?_cons_zero, List.getElem?_cons_succ, List.set_cons_zero, List.set_cons_succ, List.getD_cons_zero, List.getD_cons_succ, Option.isNone_some, Option.isNone_none, Go.Disk.fsO, Go.Disk.fileO, Bool.false_eq_true, eq_self, Nat.reduceAdd, Nat.reduceSub, Nat.reduceMul, Nat.reduceLT, Nat.reduceLeDiff, Nat.reduceEqDiff, Int.reduceNeg, Int.reduceEq, Int.reduceNe, Int.reduceBEq, Int.reduceBNe, Int.reduceLT, Int.reduceLE, Int.reduceGT, Int.reduceAdd, reduceIte, Bool.not_true, Bool.not_false, decide_true, decide_false, ne_eq, not_false_eq_true, not_true_eq_false, NewN_eq]
  have hev1 := ev_push no H C (.cells ⟨[.bool c.cut, .int .i64 (c.off : Int), .slice sl.1 sl.2.1 sl.2.2]⟩ 115) (0, 0)
  have hn1 : (H.push (.cells ⟨[.bool c.cut, .int .i64 (c.off : Int), .slice sl.1 sl.2.1 sl.2.2]⟩ 115))[H.size]? = some (.cells ⟨[.bool c.cut, .int .i64 (c.off : Int), .slice sl.1 sl.2.1 sl.2.2]⟩ 115 (0, 0)) := get_push_self _ _
  have hs1 := hs.ev hev1 fun _ _ h => h
  have hb1 := hb.ev hev1 fun _ _ h => h
  generalize H.push _ = H1 at *
  generalize setC C H.size (0, 0) = C1 at *
  generalize H.size = nb at *
  simp only [cellH_mk, cellO_some, add_mk, size_upd, upd_upd, one_int, one_bool, one_string, one_pointer, one_slice, one_map, one_func, st1_some, stN_nil, stN_cons, StV_mk, StO_some, Ld_some, RtI_mk, RtB_mk, RtS_mk, RtP_mk, RtL_mk, RtM_mk, RtA_mk, RtT_mk, NilC_some, New_eq, At_eq, Ck_true, Rt0_mk, BrB_true, BrB_false, Nat.zero_add, List.length_cons, List.length_nil, List.getElem?_cons_zero, List.getElem?_cons_succ, List.set_cons_zero, List.set_cons_succ, List.getD_cons_zero, List.getD_cons_succ, Option.isNone_some, Option.isNone_none, Go.Disk.fsO, Go.Disk.fileO, Bool.false_eq_true, eq_self, Nat.reduceAdd, Nat.reduceSub, Nat.reduceMul, Nat.reduceLT, Nat.reduceLeDiff, Nat.reduceEqDiff, Int.reduceNeg, Int.reduceEq, Int.reduceNe, Int.reduceBEq, Int.reduceBNe, Int.reduceLT, Int.reduceLE, Int.reduceGT, Int.reduceAdd, reduceIte, Bool.not_true, Bool.not_false, decide_true, decide_false, ne_eq, not_false_eq_true, not_true_eq_false, hn1]
  have w1 : IntKind.wrap .i64 ((c.off : Int) + (t : Int)) = ((c.off + t : Nat) : Int) := by rw [w64 (by omega) (by omega)]; omega
  rw [w1]
  have hte := tornEnd_le c.off t xs.length
  refine ⟨fun en H' => H' = H1 ∧ en = ((tornEnd c.off t xs.length : Nat) : Int), ?_, ?_⟩
  · rintro fr en H' ⟨rfl, rfl⟩
    generalize tornEnd c.off t xs.length = e at *
    simp only [cellH_mk, cellO_some, add_mk, size_upd, upd_upd, one_int, one_bool, one_string, one_pointer, one_slice, one_map, one_func, st1_some, stN_nil, stN_cons, StV_mk, StO_some, Ld_some, RtI_mk, RtB_mk, RtS_mk, RtP_mk, RtL_mk, RtM_mk, RtA_mk, RtT_mk, NilC_some, New_eq, At_eq, Ck_true, Rt0_mk, BrB_true, BrB_false, Nat.zero_add, List.length_cons, List.length_nil, List.getElem?_cons_zero, List.getElem?_cons_succ, List.set_cons_zero, List.set_cons_succ, List.getD_cons_zero, List.getD_cons_succ, Option.isNone_some, Option.isNone_none, Go.Disk.fsO, Go.Disk.fileO, Bool.false_eq_true, eq_self, Nat.reduceAdd, Nat.reduceSub, Nat.reduceMul, Nat.reduceLT, Nat.reduceLeDiff, Nat.reduceEqDiff, Int.reduceNeg, Int.reduceEq, Int.reduceNe, Int.reduceBEq, Int.reduceBNe, Int.reduceLT, Int.reduceLE, Int.reduceGT, Int.reduceAdd, reduceIte, Bool.not_true, Bool.not_false, decide_true, decide_false, ne_eq, not_false_eq_true, not_true_eq_false, hn1]
    refine BrB_i (fun h => ?_) (fun h => ?_)
    · have h := of_decide_eq_true h
      rw [if_neg (by omega)] at hK
      exact hK s H' C1 hs1 hev1
    · have h := of_decide_eq_false h
      rw [if_pos (by omega)] at hK
      simp only [cellH_mk, cellO_some, add_mk, size_upd, upd_upd, one_int, one_bool, one_string, one_pointer, one_slice, one_map, one_func, st1_some, stN_nil, stN_cons, StV_mk, StO_some, Ld_some, RtI_mk, RtB_mk, RtS_mk, RtP_mk, RtL_mk, RtM_mk, RtA_mk, RtT_mk, NilC_some, New_eq, At_eq, Ck_true, Rt0_mk, BrB_true, BrB_false, Nat.zero_add, List.length_cons, List.length_nil, List.getElem?_cons_zero, List.getElem?_cons_succ, List.set_cons_zero, List.set_cons_succ, List.getD_cons_zero, List.getD_cons_succ, Option.isNone_some, Option.isNone_none, Go.Disk.fsO, Go.Disk.fileO, Bool.false_eq_true, eq_self, Nat.reduceAdd, Nat.reduceSub, Nat.reduceMul, Nat.reduceLT, Nat.reduceLeDiff, Nat.reduceEqDiff, Int.reduceNeg, Int.reduceEq, Int.reduceNe, Int.reduceBEq, Int.reduceBNe, Int.reduceLT, Int.reduceLE, Int.reduceGT, Int.reduceAdd, reduceIte, Bool.not_true, Bool.not_false, decide_true, decide_false, ne_eq, not_false_eq_true, not_true_eq_false, hn1]
      have w2 : IntKind.wrap .i64 ((e : Int) - (c.off : Int)) = ((e - c.off : Nat) : Int) := by rw [w64 (by omega) (by omega)]; omega
      rw [w2]
      refine Ck_i ⟨by first | trivial | omega, by omega, by omega, by omega⟩ ?_
      have hsub := SlI.sub hb1 (lo := 0) (hi := e - c.off) (mx := sl.2.2) (by omega) (by omega) (by omega)
      have e5 : List.take ((e - c.off - 0) * 1) (List.drop (0 * 1) (byts c.b)) = byts (c.b.take (e - c.off)) := by
        rw [byts_take]; simp
      rw [e5] at hsub
      rw [show slN 0 ((e - c.off : Nat) : Int) = e - c.off - 0 from slN_eq 0 _, show slN 0 ((sl.2.2 : Nat) : Int) = sl.2.2 - 0 from slN_eq 0 _]
      refine rdone_ok (c := ⟨false, c.off, c.b.take (e - c.off)⟩) (sl := (slA sl.1 0 ((sl.2.2 : Nat) : Int) 1, e - c.off - 0, sl.2.2 - 0)) (s := s) hsub hs1 ho (by omega) (by show (c.b.take _).length ≤ _; rw [List.length_take]; omega) fun s' H2 C2 hs2 hev2 => ?_
      simp only [cellH_mk, cellO_some, add_mk, size_upd, upd_upd, one_int, one_bool, one_string, one_pointer, one_slice, one_map, one_func, st1_some, stN_nil, stN_cons, StV_mk, StO_some, Ld_some, RtI_mk, RtB_mk, RtS_mk, RtP_mk, RtL_mk, RtM_mk, RtA_mk, RtT_mk, NilC_some, New_eq, At_eq, Ck_true, Rt0_mk, BrB_true, BrB_false, Nat.zero_add, List.length_cons, List.length_nil, List.getElem?_cons_zero, List.getElem?_cons_succ, List.set_cons_zero, List.set_cons_succ, List.getD_cons_zero, List.getD_cons_succ, Option.isNone_some, Option.isNone_none, Go.Disk.fsO, Go.Disk.fileO, Bool.false_eq_true, eq_self, Nat.reduceAdd, Nat.reduceSub, Nat.reduceMul, Nat.reduceLT, Nat.reduceLeDiff, Nat.reduceEqDiff, Int.reduceNeg, Int.reduceEq, Int.reduceNe, Int.reduceBEq, Int.reduceBNe, Int.reduceLT, Int.reduceLE, Int.reduceGT, Int.reduceAdd, reduceIte, Bool.not_true, Bool.not_false, decide_true, decide_false, ne_eq, not_false_eq_true, not_true_eq_false]
      exact hK s' H2 C2 hs2 (hev1.trans hev2)
  · refine BrB_i (fun h => ?_) (fun h => ?_)
    · have h := of_decide_eq_true h
      refine Ck_i (by simp) ⟨rfl, ?_⟩
      have e6 : Int.tdiv ((c.off + t : Nat) : Int) 512 = (((c.off + t) / 512 : Nat) : Int) := by
        rw [Int.tdiv_eq_ediv_of_nonneg (by omega)]; omega
      rw [e6, w64 (n := (((c.off + t) / 512 : Nat) : Int)) (by omega) (by omega), w64 (by omega) (by omega)]
      unfold tornEnd
      rw [if_pos (by omega)]
      omega
    · have h := of_decide_eq_false h
      refine ⟨rfl, ?_⟩
      unfold tornEnd
      rw [if_neg (by omega)]
theorem CopyInts_ok {H : Heap} {C : Col} {a : Option Addr} {l c : Nat} {zs : List Int} {K : Value → Heap → Prop} (h : SlI H C 1 a l c (ints zs)) (hl : c * 8 ≤ reachBytes) (lab : Lab)
    (hK : ∀ a' c' H' C', SlO H' C' lab 3 1 a' l c' (ints zs) → Ev no H C H' C' → c' < 2 ^ 63 → K (.slice a' l c') H') : Fn 40 [.slice a l c] H K := by
  refine F40_ok _ _ _ ?_
  unfold F40
  have hlc := h.2.1
  have hr : reachBytes + 4096 = 2 ^ 47 := by decide
  refine app_copyZ (C := C) (lab := lab) (Q := fun _ => True) und23 und23 (.inl ⟨_, rfl⟩) tyf3 (by rfl) h.src h.1 (by omega) (by omega) (fun _ _ => trivial) (fun _ _ => trivial) fun a2 c2 H2 C2 ho2 hz2 hev2 => ?_
  simp only [cellH_mk, cellO_some, add_mk, size_upd, upd_upd, one_int, one_bool, one_string, one_pointer, one_slice, one_map, one_func, st1_some, stN_nil, stN_cons, StV_mk, StO_some, Ld_some, RtI_mk, RtB_mk, RtS_mk, RtP_mk, RtL_mk, RtM_mk, RtA_mk, RtT_mk, NilC_some, New_eq, At_eq, Ck_true, Rt0_mk, BrB_true, BrB_false, Nat.zero_add, List.length_cons, List.length_nil, List.getElem?_cons_zero, List.getElem?_cons_succ, List.set_cons_zero, List.set_cons_succ, List.getD_cons_zero, List.getD_cons_succ, Option.isNone_some, Option.isNone_none, Go.Disk.fsO, Go.Disk.fileO, Bool.false_eq_true, eq_self, Nat.reduceAdd, Nat.reduceSub, Nat.reduceMul, Nat.reduceLT, Nat.reduceLeDiff, Nat.reduceEqDiff, Int.reduceNeg, Int.reduceEq, Int.reduceNe, Int.reduceBEq, Int.reduceBNe, Int.reduceLT, Int.reduceLE, Int.reduceGT, Int.reduceAdd, reduceIte, Bool.not_true, Bool.not_false, decide_true, decide_false, ne_eq, not_false_eq_true, not_true_eq_false]
  exact hK a2 c2 H2 C2 ho2 hev2 hz2.1
theorem Ints_ok {H : Heap} {a b : Option Addr} {la ca lb cb : Nat} {xs ys : List Int} {K : Value → Heap → Prop} (ha : SlR H 1 a la ca (ints xs)) (hb : SlR H 1 b lb cb (ints ys)) (hl : la < 2 ^ 62)
    (hK : K (.bool (decide (xs = ys))) H) : Fn 42 [.slice a la ca, .slice b lb cb] H K := by
  refine F42_ok _ _ _ _ _ _ ?_
  unfold F42
  have hla : la = xs.length := by have := ha.1; simp [ints] at this; omega
  have hlb : lb = ys.length := by have := hb.1; simp [ints] at this; omega
  refine BrB_i (fun h => ?_) (fun h => ?_)
  · have : xs ≠ ys := by
      intro e
      rw [hla, hlb, e] at h
      simp at h
    rw [decide_eq_false this] at hK
    exact hK
  have hll : xs.length = ys.length := by
    have h2 : ((la : Int) == (lb : Int)) = true := by simpa [bne] using h
    have := eq_of_beq h2
    omega
  refine ⟨fun i H' => H' = H ∧ ∃ m : Nat, i = (m : Int) ∧ m ≤ la ∧ ∀ j, j < m → xs[j]? = ys[j]?, fun i _ => la - i.toNat, ⟨rfl, 0, rfl, by omega, fun j hj => absurd hj (by omega)⟩, ?_⟩
  rintro fr i H' ⟨hH, m, rfl, hm, hall⟩
  subst hH
  simp only [cellH_mk, cellO_some, add_mk, size_upd, upd_upd, one_int, one_bool, one_string, one_pointer, one_slice, one_map, one_func, st1_some, stN_nil, stN_cons, StV_mk, StO_some, Ld_some, RtI_mk, RtB_mk, RtS_mk, RtP_mk, RtL_mk, RtM_mk, RtA_mk, RtT_mk, NilC_some, New_eq, At_eq, Ck_true, Rt0_mk, BrB_true, BrB_false, Nat.zero_add, List.length_cons, List.length_nil, List.getElem?_cons_zero, List.getElem?_cons_succ, List.set_cons_zero, List.set_cons_succ, List.getD_cons_zero, List.getD_cons_succ, Option.isNone_some, Option.isNone_none, Go.Disk.fsO, Go.Disk.fileO, Bool.false_eq_true, eq_self, Nat.reduceAdd, Nat.reduceSub, Nat.reduceMul, Nat.reduceLT, Nat.reduceLeDiff, Nat.reduceEqDiff, Int.reduceNeg, Int.reduceEq, Int.reduceNe, Int.reduceBEq, Int.reduceBNe, Int.reduceLT, Int.reduceLE, Int.reduceGT, Int.reduceAdd, reduceIte, Bool.not_true, Bool.not_false, decide_true, decide_false, ne_eq, not_false_eq_true, not_true_eq_false]
  refine BrB_i (fun h => ?_) (fun h => ?_)
  · have h := of_decide_eq_true h
    have hx : xs[m]? = some (xs[m]'(by omega)) := List.getElem?_eq_getElem _
    have hy : ys[m]? = some (ys[m]'(by omega)) := List.getElem?_eq_getElem _
    generalize xs[m]'(by omega) = x at hx
    generalize ys[m]'(by omega) = y at hy
    refine ha.cell (i := m) (by omega) (v := .int .i64 x) (by unfold ints; rw [List.getElem?_map, hx]; rfl) fun e he => ?_
    simp only [cellH_mk, cellO_some, add_mk, size_upd, upd_upd, one_int, one_bool, one_string, one_pointer, one_slice, one_map, one_func, st1_some, stN_nil, stN_cons, StV_mk, StO_some, Ld_some, RtI_mk, RtB_mk, RtS_mk, RtP_mk, RtL_mk, RtM_mk, RtA_mk, RtT_mk, NilC_some, New_eq, At_eq, Ck_true, Rt0_mk, BrB_true, BrB_false, Nat.zero_add, List.length_cons, List.length_nil, List.getElem?_cons_zero, List.getElem?_cons_succ, List.set_cons_zero, List.set_cons_succ, List.getD_cons_zero, List.getD_cons_succ, Option.isNone_some, Option.isNone_none, Go.Disk.fsO, Go.Disk.fileO, Bool.false_eq_true, eq_self, Nat.reduceAdd, Nat.reduceSub, Nat.reduceMul, Nat.reduceLT, Nat.reduceLeDiff, Nat.reduceEqDiff, Int.reduceNeg, Int.reduceEq, Int.reduceNe, Int.reduceBEq, Int.reduceBNe, Int.reduceLT, Int.reduceLE, Int.reduceGT, Int.reduceAdd, reduceIte, Bool.not_true, Bool.not_false, decide_true, decide_false, ne_eq, not_false_eq_true, not_true_eq_false, he]
    refine hb.cell (i := m) (by omega) (v := .int .i64 y) (by unfold ints; rw [List.getElem?_map, hy]; rfl) fun e2 he2 => ?_
    simp only [cellH_mk, cellO_some, add_mk, size_upd, upd_upd, one_int, one_bool, one_string, one_pointer, one_slice, one_map, one_func, st1_some, stN_nil, stN_cons, StV_mk, StO_some, Ld_some, RtI_mk, RtB_mk, RtS_mk, RtP_mk, RtL_mk, RtM_mk, RtA_mk, RtT_mk, NilC_some, New_eq, At_eq, Ck_true, Rt0_mk, BrB_true, BrB_false, Nat.zero_add, List.length_cons, List.length_nil, List.getElem?_cons_zero, List.getElem?_cons_succ, List.set_cons_zero, List.set_cons_succ, List.getD_cons_zero, List.getD_cons_succ, Option.isNone_some, Option.isNone_none, Go.Disk.fsO, Go.Disk.fileO, Bool.false_eq_true, eq_self, Nat.reduceAdd, Nat.reduceSub, Nat.reduceMul, Nat.reduceLT, Nat.reduceLeDiff, Nat.reduceEqDiff, Int.reduceNeg, Int.reduceEq, Int.reduceNe, Int.reduceBEq, Int.reduceBNe, Int.reduceLT, Int.reduceLE, Int.reduceGT, Int.reduceAdd, reduceIte, Bool.not_true, Bool.not_false, decide_true, decide_false, ne_eq, not_false_eq_true, not_true_eq_false, he2]
    refine BrB_i (fun hne => ?_) (fun heq => ?_)
    · have : xs ≠ ys := by
        intro e
        rw [e, hy] at hx
        cases hx
        simp at hne
      rw [decide_eq_false this] at hK
      exact hK
    · have hxy : x = y := by simpa using heq
      subst hxy
      rw [w64 (by omega) (by omega)]
      refine ⟨⟨rfl, m + 1, by omega, by omega, fun j hj => ?_⟩, ?_⟩
      · by_cases e : j = m
        · subst e; rw [hx, hy]
        · exact hall j (by omega)
      · show la - ((m : Int) + 1).toNat < la - ((m : Nat) : Int).toNat
        omega
  · have h := of_decide_eq_false h
    have : xs = ys := by
      refine List.ext_getElem? fun j => ?_
      by_cases hj : j < m
      · exact hall j hj
      · rw [List.getElem?_eq_none (by omega), List.getElem?_eq_none (by omega)]
    rw [decide_eq_true this] at hK
    exact hK
end Go.Proofs

namespace Go.Proofs
open Go Go.Fx Go.Disk
set_option linter.unusedVariables false
set_option maxRecDepth 20000
theorem SlR.chgRow {H : Heap} {C : Col} {a : Option Addr} {l c : Nat} {rc : List Value} {row : List Chg} {i : Nat} {cg : Chg} (h : SlR H 3 a l c rc) (hc : ChgsAt H C row rc) (hi : row[i]? = some cg) (hl : i < l) {K : Addr → Prop}
    (hK : ∀ e s, rowV H e 3 = some (.agg ⟨chgCells cg s⟩) → ByI H C s cg.b → (∀ j, j < 3 → cellH H (e.add j) = (chgCells cg s)[j]?) → K e) : Idx a l (i : Int) 3 K := by
  obtain ⟨s, g1, g2⟩ := hc.get hi
  refine h.row (i := i) hl fun e he ⟨b, off, hee, hec⟩ => hK e s (by rw [he, g1]) g2 fun j hj => ?_
  rw [hee, add_mk, hec j hj, ← g1, List.getElem?_take, if_pos hj, List.getElem?_drop]
theorem rFail_ok {H : Heap} {C : Col} {k k' p : Nat} {D : Disk} {a : Option Addr} {l c : Nat} {zs : List Int} {K : Value → Heap → Prop} (hk : k ≠ 0) (hk' : k' ≠ 0) (hfr : ∀ b, b < H.size → (C b).1 ≠ k') (h : IsRef H C k p D) (hD : DiskOk D) (ha : D.acts < 2 ^ 39)
    (hz : SlI H C 1 a l c (ints zs)) (hc : c < 2 ^ 62)
    (hK : ∀ p' H' C', IsRef H' C' k' p' (dFail D zs) → Ev no H C H' C' → K (.pointer (some ⟨p', 0, none⟩)) H') :
    Fn 41 [.pointer (some ⟨p, 0, none⟩), .slice a l c] H K := by
  obtain ⟨x, rfl, h⟩ := h
  refine F41_ok _ _ _ _ ?_
  unfold F41
  obtain ⟨q, hq, hqk, hfq⟩ := fresh_two C H.size k'
  have hkk' : k ≠ k' := by have := hfr x.p (lt_of_get h.hp); rw [h.cp] at this; exact this
  have hkq : k ≠ q := by have := hfq x.p (lt_of_get h.hp); rw [h.cp] at this; exact this
  have two0 := two_no0 hk' hq
  have twok : ∀ j, ¬ two k' q (k, j) := fun j e => by
    rcases e with e | e
    · exact hkk' e
    · exact hkq e
  have hlz : l = zs.length := by have := hz.1; simp [ints] at this; omega
  simp only [cellH_mk, cellO_some, add_mk, size_upd, upd_upd, one_int, one_bool, one_string, one_pointer, one_slice, one_map, one_func, st1_some, stN_nil, stN_cons, StV_mk, StO_some, Ld_some, RtI_mk, RtB_mk, RtS_mk, RtP_mk, RtL_mk, RtM_mk, RtA_mk, RtT_mk, NilC_some, New_eq, At_eq, Ck_true, Rt0_mk, BrB_true, BrB_false, Nat.zero_add, List.length_cons, List.length_nil, List.getElem?_cons_zero, List.getElem?_cons_succ, List.set_cons_zero, List.set_cons_succ, List.getD_cons_zero, List.getD_cons_succ, Option.isNone_some, Option.isNone_none, Go.Disk.fsO, Go.Disk.fileO, Bool.false_eq_true, eq_self, Nat.reduceAdd, Nat.reduceSub, Nat.reduceMul, Nat.reduceLT, Nat.reduceLeDiff, Nat.reduceEqDiff, Int.reduceNeg, Int.reduceEq, Int.reduceNe, Int.reduceBEq, Int.reduceBNe, Int.reduceLT, Int.reduceLE, Int.reduceGT, Int.reduceAdd, reduceIte, Bool.not_true, Bool.not_false, decide_true, decide_false, ne_eq, not_false_eq_true, not_true_eq_false, NewN_eq]
  have hev1 : Ev (two k' q) H C (H.push (.cells ⟨[.slice a l c, .int .i64 0]⟩ 106)) (setC C H.size (q, 0)) := ev_push _ _ _ _ _
  have hz1 : RCutsAt (H.push (.cells ⟨[.slice a l c, .int .i64 0]⟩ 106)) (setC C H.size (q, 0)) (q, 0) H.size zs :=
    ⟨setC_self _ _ _, a, l, c, zs, 0, get_push_self _ _, hz.ev hev1 two0, hc, by omega, rfl⟩
  have h1 := h.ev hev1 two0 twok
  generalize H.push _ = H1 at *
  generalize setC C H.size (q, 0) = C1 at *
  generalize hnbe : H.size = nb at *
  have hp1 := h1.hp
  rw [refX] at hp1
  have hrl := hD.row
  have hrlen := h1.row.choose_spec.2.2
  rw [dirsOf_len] at hrlen
  simp only [cellH_mk, cellO_some, add_mk, size_upd, upd_upd, one_int, one_bool, one_string, one_pointer, one_slice, one_map, one_func, st1_some, stN_nil, stN_cons, StV_mk, StO_some, Ld_some, RtI_mk, RtB_mk, RtS_mk, RtP_mk, RtL_mk, RtM_mk, RtA_mk, RtT_mk, NilC_some, New_eq, At_eq, Ck_true, Rt0_mk, BrB_true, BrB_false, Nat.zero_add, List.length_cons, List.length_nil, List.getElem?_cons_zero, List.getElem?_cons_succ, List.set_cons_zero, List.set_cons_succ, List.getD_cons_zero, List.getD_cons_succ, Option.isNone_some, Option.isNone_none, Go.Disk.fsO, Go.Disk.fileO, Bool.false_eq_true, eq_self, Nat.reduceAdd, Nat.reduceSub, Nat.reduceMul, Nat.reduceLT, Nat.reduceLeDiff, Nat.reduceEqDiff, Int.reduceNeg, Int.reduceEq, Int.reduceNe, Int.reduceBEq, Int.reduceBNe, Int.reduceLT, Int.reduceLE, Int.reduceGT, Int.reduceAdd, reduceIte, Bool.not_true, Bool.not_false, decide_true, decide_false, ne_eq, not_false_eq_true, not_true_eq_false, hp1]
  have w1 : IntKind.wrap .i64 (((x.row.2.1 : Nat) : Int) + 1) = ((D.row.length + 1 : Nat) : Int) := by rw [hrlen, w64 (by omega) (by omega)]; omega
  rw [w1]
  have htk := tk_le (cuts := zs) (many := D.row.length + 1) (by omega)
  have hfail : dFail D zs = leftD D.room D.files (dirAfter D zs) (tk zs (D.row.length + 1)).2 := rfl
  have hafter : dirAfter D zs = (D.row.take (tk zs (D.row.length + 1)).1).foldl (fun d m => m.app d) D.sure := rfl
  refine rtake_ok hz1 hq (by omega) (by omega) fun H2 hz2 hev2 => ?_
  generalize (tk zs (D.row.length + 1)).1 = kk at *
  generalize (tk zs (D.row.length + 1)).2 = r0 at *
  have h2 := h1.ev hev2 (at1_no0 hq) fun j => at1_o hkq.symm
  have hev2 : Ev (two k' q) H C H2 C1 := hev1.trans (hev2.mono fun _ => two_2)
  have hp2 := h2.hp
  rw [refX] at hp2
  have hpa := hD.path.at kk
  rw [← hafter] at hpa
  have hdok : DirOk D.files.length (dirAfter D zs) := hpa.ok1
  simp only [cellH_mk, cellO_some, add_mk, size_upd, upd_upd, one_int, one_bool, one_string, one_pointer, one_slice, one_map, one_func, st1_some, stN_nil, stN_cons, StV_mk, StO_some, Ld_some, RtI_mk, RtB_mk, RtS_mk, RtP_mk, RtL_mk, RtM_mk, RtA_mk, RtT_mk, NilC_some, New_eq, At_eq, Ck_true, Rt0_mk, BrB_true, BrB_false, Nat.zero_add, List.length_cons, List.length_nil, List.getElem?_cons_zero, List.getElem?_cons_succ, List.set_cons_zero, List.set_cons_succ, List.getD_cons_zero, List.getD_cons_succ, Option.isNone_some, Option.isNone_none, Go.Disk.fsO, Go.Disk.fileO, Bool.false_eq_true, eq_self, Nat.reduceAdd, Nat.reduceSub, Nat.reduceMul, Nat.reduceLT, Nat.reduceLeDiff, Nat.reduceEqDiff, Int.reduceNeg, Int.reduceEq, Int.reduceNe, Int.reduceBEq, Int.reduceBNe, Int.reduceLT, Int.reduceLE, Int.reduceGT, Int.reduceAdd, reduceIte, Bool.not_true, Bool.not_false, decide_true, decide_false, ne_eq, not_false_eq_true, not_true_eq_false]
  refine ⟨fun ad ld cd H' => H' = H2 ∧ EntsI H2 C1 (ad, ld, cd) (dirAfter D zs), ?_, ?_⟩
  rotate_left
  · refine BrB_i (fun h0 => ?_) (fun h0 => ?_)
    · have h0 := of_decide_eq_true h0
      simp only [cellH_mk, cellO_some, add_mk, size_upd, upd_upd, one_int, one_bool, one_string, one_pointer, one_slice, one_map, one_func, st1_some, stN_nil, stN_cons, StV_mk, StO_some, Ld_some, RtI_mk, RtB_mk, RtS_mk, RtP_mk, RtL_mk, RtM_mk, RtA_mk, RtT_mk, NilC_some, New_eq, At_eq, Ck_true, Rt0_mk, BrB_true, BrB_false, Nat.zero_add, List.length_cons, List.length_nil, List.getElem?_cons_zero, List.getElem?_cons_succ, List.set_cons_zero, List.set_cons_succ, List.getD_cons_zero, List.getD_cons_succ, Option.isNone_some, Option.isNone_none, Go.Disk.fsO, Go.Disk.fileO, Bool.false_eq_true, eq_self, Nat.reduceAdd, Nat.reduceSub, Nat.reduceMul, Nat.reduceLT, Nat.reduceLeDiff, Nat.reduceEqDiff, Int.reduceNeg, Int.reduceEq, Int.reduceNe, Int.reduceBEq, Int.reduceBNe, Int.reduceLT, Int.reduceLE, Int.reduceGT, Int.reduceAdd, reduceIte, Bool.not_true, Bool.not_false, decide_true, decide_false, ne_eq, not_false_eq_true, not_true_eq_false, hp2]
      obtain ⟨rc, q1, q2, q3⟩ := h2.row
      have hget := dirsOf_get (ms := D.row) (d := D.sure) (k := kk - 1) (by omega)
      rw [show kk - 1 + 1 = kk from by omega, ← hafter] at hget
      obtain ⟨sd, g1, g2⟩ := q2.get hget
      have w2 : IntKind.wrap .i64 ((kk : Int) - 1) = ((kk - 1 : Nat) : Int) := by rw [w64 (by omega) (by omega)]; omega
      rw [w2]
      refine q1.r.cell (i := kk - 1) (by omega) g1 fun e he => ?_
      simp only [cellH_mk, cellO_some, add_mk, size_upd, upd_upd, one_int, one_bool, one_string, one_pointer, one_slice, one_map, one_func, st1_some, stN_nil, stN_cons, StV_mk, StO_some, Ld_some, RtI_mk, RtB_mk, RtS_mk, RtP_mk, RtL_mk, RtM_mk, RtA_mk, RtT_mk, NilC_some, New_eq, At_eq, Ck_true, Rt0_mk, BrB_true, BrB_false, Nat.zero_add, List.length_cons, List.length_nil, List.getElem?_cons_zero, List.getElem?_cons_succ, List.set_cons_zero, List.set_cons_succ, List.getD_cons_zero, List.getD_cons_succ, Option.isNone_some, Option.isNone_none, Go.Disk.fsO, Go.Disk.fileO, Bool.false_eq_true, eq_self, Nat.reduceAdd, Nat.reduceSub, Nat.reduceMul, Nat.reduceLT, Nat.reduceLeDiff, Nat.reduceEqDiff, Int.reduceNeg, Int.reduceEq, Int.reduceNe, Int.reduceBEq, Int.reduceBNe, Int.reduceLT, Int.reduceLE, Int.reduceGT, Int.reduceAdd, reduceIte, Bool.not_true, Bool.not_false, decide_true, decide_false, ne_eq, not_false_eq_true, not_true_eq_false, he]
      exact ⟨by first | rfl | trivial, g2⟩
    · have h0 := of_decide_eq_false h0
      have : kk = 0 := by omega
      subst this
      refine ⟨rfl, ?_⟩
      rw [hafter]
      exact h2.sure
  rintro fr ad ld cd H' ⟨rfl, hdir⟩
  clear hafter hpa
  generalize dirAfter D zs = d at *
  have hld : ld = d.length := hdir.len
  have hdl := hdok.2.1
  simp only [cellH_mk, cellO_some, add_mk, size_upd, upd_upd, one_int, one_bool, one_string, one_pointer, one_slice, one_map, one_func, st1_some, stN_nil, stN_cons, StV_mk, StO_some, Ld_some, RtI_mk, RtB_mk, RtS_mk, RtP_mk, RtL_mk, RtM_mk, RtA_mk, RtT_mk, NilC_some, New_eq, At_eq, Ck_true, Rt0_mk, BrB_true, BrB_false, Nat.zero_add, List.length_cons, List.length_nil, List.getElem?_cons_zero, List.getElem?_cons_succ, List.set_cons_zero, List.set_cons_succ, List.getD_cons_zero, List.getD_cons_succ, Option.isNone_some, Option.isNone_none, Go.Disk.fsO, Go.Disk.fileO, Bool.false_eq_true, eq_self, Nat.reduceAdd, Nat.reduceSub, Nat.reduceMul, Nat.reduceLT, Nat.reduceLeDiff, Nat.reduceEqDiff, Int.reduceNeg, Int.reduceEq, Int.reduceNe, Int.reduceBEq, Int.reduceBNe, Int.reduceLT, Int.reduceLE, Int.reduceGT, Int.reduceAdd, reduceIte, Bool.not_true, Bool.not_false, decide_true, decide_false, ne_eq, not_false_eq_true, not_true_eq_false, hp2, NewN_eq]
  have hev3 := ev_push no H' C1 (.cells ⟨[.int .i64 (D.room : Int), .slice none 0 0, .slice none 0 0, .slice none 0 0, .slice none 0 0, .int .i64 0, .int .i64 0, .bool false]⟩ 102) (k', 0)
  have hn3 : (H'.push (.cells ⟨[.int .i64 (D.room : Int), .slice none 0 0, .slice none 0 0, .slice none 0 0, .slice none 0 0, .int .i64 0, .int .i64 0, .bool false]⟩ 102))[H'.size]? = some (.cells ⟨[.int .i64 (D.room : Int), .slice none 0 0, .slice none 0 0, .slice none 0 0, .slice none 0 0, .int .i64 0, .int .i64 0, .bool false]⟩ 102 (0, 0)) := get_push_self _ _
  have hcn3 : setC C1 H'.size (k', 0) H'.size = (k', 0) := setC_self _ _ _
  have h3 := h2.ev hev3 (fun _ _ h => h) fun _ h => h
  have hz3 := hz2.ev hev3 (fun _ _ h => h) fun h => h
  have hd3 := hdir.ev hev3 fun _ _ h => h
  have hev3 : Ev (two k' q) H C _ _ := hev2.trans (hev3.mono fun _ h => h.elim)
  clear hp1 hp2 h1 h2 hz1 hz2 hev1 hdir hev2
  generalize hpn : H'.size = pn at *
  generalize H'.push _ = H3 at *
  generalize setC C1 pn (k', 0) = C3 at *
  refine ⟨fun i H' => ∃ C', ∃ m : Nat, i = (m : Int) ∧ m ≤ d.length ∧ RefAt H' C' k x D ∧ EntsI H' C' (ad, ld, cd) d ∧ RCutsAt H' C' (q, 0) nb (remAll D.files (d.take m) r0).2 ∧
      (∃ fs ss : SlV, C' pn = (k', 0) ∧ H'[pn]? = some (.cells ⟨[.int .i64 (D.room : Int), .slice fs.1 fs.2.1 fs.2.2, .slice ss.1 ss.2.1 ss.2.2, .slice none 0 0, .slice none 0 0, .int .i64 0, .int .i64 0, .bool false]⟩ 102 (0, 0)) ∧
        RFilesAt H' C' k' fs (leftD D.room D.files (d.take m) r0).files ∧ SlO H' C' (q, 1) 112 2 ss.1 ss.2.1 ss.2.2 (entCells (leftD D.room D.files (d.take m) r0).sure) ∧ ss.2.1 = m) ∧ Ev (two k' q) H C H' C',
    fun i _ => d.length - i.toNat, ⟨C3, 0, rfl, Nat.zero_le _, h3, hd3, hz3, ⟨(none, 0, 0), (none, 0, 0), hcn3, hn3, ⟨[], SlO.nil _ _ _ _ _, rfl, rfl⟩, SlO.nil _ _ _ _ _, rfl⟩, hev3⟩, ?_⟩
  rintro fr2 i H4 ⟨C4, m, rfl, hm, h4, hd4, hz4, ⟨fs, ss, hcn4, hn4, hfs4, hss4, hsl4⟩, hev4⟩
  simp only [cellH_mk, cellO_some, add_mk, size_upd, upd_upd, one_int, one_bool, one_string, one_pointer, one_slice, one_map, one_func, st1_some, stN_nil, stN_cons, StV_mk, StO_some, Ld_some, RtI_mk, RtB_mk, RtS_mk, RtP_mk, RtL_mk, RtM_mk, RtA_mk, RtT_mk, NilC_some, New_eq, At_eq, Ck_true, Rt0_mk, BrB_true, BrB_false, Nat.zero_add, List.length_cons, List.length_nil, List.getElem?_cons_zero, List.getElem?_cons_succ, List.set_cons_zero, List.set_cons_succ, List.getD_cons_zero, List.getD_cons_succ, Option.isNone_some, Option.isNone_none, Go.Disk.fsO, Go.Disk.fileO, Bool.false_eq_true, eq_self, Nat.reduceAdd, Nat.reduceSub, Nat.reduceMul, Nat.reduceLT, Nat.reduceLeDiff, Nat.reduceEqDiff, Int.reduceNeg, Int.reduceEq, Int.reduceNe, Int.reduceBEq, Int.reduceBNe, Int.reduceLT, Int.reduceLE, Int.reduceGT, Int.reduceAdd, reduceIte, Bool.not_true, Bool.not_false, decide_true, decide_false, ne_eq, not_false_eq_true, not_true_eq_false]
  refine BrB_i (fun hlt => ?_) (fun hlt => ?_)
  · have hlt := of_decide_eq_true hlt
    have hdm : d[m]? = some (d[m]'(by omega)) := List.getElem?_eq_getElem _
    generalize d[m]'(by omega) = pr at hdm
    obtain ⟨s, fi⟩ := pr
    have hmem : (s, fi) ∈ d := List.mem_of_getElem? hdm
    have hfi : fi < D.files.length := hdok.2.2 _ hmem
    have hff : D.files[fi]? = some D.files[fi] := List.getElem?_eq_getElem hfi
    generalize D.files[fi] = f at hff
    have hfok := hD.files f (List.mem_of_getElem? hff)
    have hdt : d.take (m + 1) = d.take m ++ [(s, fi)] := by rw [List.take_add_one, hdm]; rfl
    have hra := remAll_snoc D.files (s, fi) (d.take m) r0
    simp only [hff, Option.getD_some] at hra
    have hLn := leftD_snoc D.room D.files (s, fi) (d.take m) r0
    rw [← hdt] at hLn
    simp only [hff, Option.getD_some] at hLn
    have hr2 : (remAll D.files (d.take (m + 1)) r0).2 = (remOf f (remAll D.files (d.take m) r0).2).2 := by rw [hdt, hra]
    have hll : (leftD D.room D.files (d.take m) r0).files.length = m := by rw [leftD_len, List.length_take]; omega
    have hp4 := h4.hp
    rw [refX] at hp4
    simp only [cellH_mk, cellO_some, add_mk, size_upd, upd_upd, one_int, one_bool, one_string, one_pointer, one_slice, one_map, one_func, st1_some, stN_nil, stN_cons, StV_mk, StO_some, Ld_some, RtI_mk, RtB_mk, RtS_mk, RtP_mk, RtL_mk, RtM_mk, RtA_mk, RtT_mk, NilC_some, New_eq, At_eq, Ck_true, Rt0_mk, BrB_true, BrB_false, Nat.zero_add, List.length_cons, List.length_nil, List.getElem?_cons_zero, List.getElem?_cons_succ, List.set_cons_zero, List.set_cons_succ, List.getD_cons_zero, List.getD_cons_succ, Option.isNone_some, Option.isNone_none, Go.Disk.fsO, Go.Disk.fileO, Bool.false_eq_true, eq_self, Nat.reduceAdd, Nat.reduceSub, Nat.reduceMul, Nat.reduceLT, Nat.reduceLeDiff, Nat.reduceEqDiff, Int.reduceNeg, Int.reduceEq, Int.reduceNe, Int.reduceBEq, Int.reduceBNe, Int.reduceLT, Int.reduceLE, Int.reduceGT, Int.reduceAdd, reduceIte, Bool.not_true, Bool.not_false, decide_true, decide_false, ne_eq, not_false_eq_true, not_true_eq_false, hp4]
    refine hd4.row hdm fun e he h0 h1 => ?_
    simp only [cellH_mk, cellO_some, add_mk, size_upd, upd_upd, one_int, one_bool, one_string, one_pointer, one_slice, one_map, one_func, st1_some, stN_nil, stN_cons, StV_mk, StO_some, Ld_some, RtI_mk, RtB_mk, RtS_mk, RtP_mk, RtL_mk, RtM_mk, RtA_mk, RtT_mk, NilC_some, New_eq, At_eq, Ck_true, Rt0_mk, BrB_true, BrB_false, Nat.zero_add, List.length_cons, List.length_nil, List.getElem?_cons_zero, List.getElem?_cons_succ, List.set_cons_zero, List.set_cons_succ, List.getD_cons_zero, List.getD_cons_succ, Option.isNone_some, Option.isNone_none, Go.Disk.fsO, Go.Disk.fileO, Bool.false_eq_true, eq_self, Nat.reduceAdd, Nat.reduceSub, Nat.reduceMul, Nat.reduceLT, Nat.reduceLeDiff, Nat.reduceEqDiff, Int.reduceNeg, Int.reduceEq, Int.reduceNe, Int.reduceBEq, Int.reduceBNe, Int.reduceLT, Int.reduceLE, Int.reduceGT, Int.reduceAdd, reduceIte, Bool.not_true, Bool.not_false, decide_true, decide_false, ne_eq, not_false_eq_true, not_true_eq_false, h1]
    obtain ⟨b, cs, e1, e2, e3, e4, e5, e6, e7⟩ := RFilesAt.open h4.files hff
    obtain ⟨t, r, rc, g1, g2, g3, g4, g5, g6⟩ := e7.get hff
    rw [Nat.zero_add] at g4
    have hcg : ∀ j v, (cs.take (x.files.2.1 * 2))[j]? = some v → cs[j]? = some v := fun j v hv => by
      rw [List.getElem?_take] at hv
      split at hv
      · exact hv
      · cases hv
    have c1 := hcg _ _ g1
    have c2 := hcg _ _ g2
    rw [e1]
    refine Idx_i (by omega) (by omega) ?_
    rw [Int.toNat_natCast, Nat.zero_add]
    simp only [cellH_mk, cellO_some, add_mk, size_upd, upd_upd, one_int, one_bool, one_string, one_pointer, one_slice, one_map, one_func, st1_some, stN_nil, stN_cons, StV_mk, StO_some, Ld_some, RtI_mk, RtB_mk, RtS_mk, RtP_mk, RtL_mk, RtM_mk, RtA_mk, RtT_mk, NilC_some, New_eq, At_eq, Ck_true, Rt0_mk, BrB_true, BrB_false, Nat.zero_add, List.length_cons, List.length_nil, List.getElem?_cons_zero, List.getElem?_cons_succ, List.set_cons_zero, List.set_cons_succ, List.getD_cons_zero, List.getD_cons_succ, Option.isNone_some, Option.isNone_none, Go.Disk.fsO, Go.Disk.fileO, Bool.false_eq_true, eq_self, Nat.reduceAdd, Nat.reduceSub, Nat.reduceMul, Nat.reduceLT, Nat.reduceLeDiff, Nat.reduceEqDiff, Int.reduceNeg, Int.reduceEq, Int.reduceNe, Int.reduceBEq, Int.reduceBNe, Int.reduceLT, Int.reduceLE, Int.reduceGT, Int.reduceAdd, reduceIte, Bool.not_true, Bool.not_false, decide_true, decide_false, ne_eq, not_false_eq_true, not_true_eq_false, e3, c2]
    have w4 : IntKind.wrap .i64 (((r.2.1 : Nat) : Int) + 1) = ((f.row.length + 1 : Nat) : Int) := by rw [g6, w64 (by omega) (by omega)]; omega
    rw [w4]
    have htk4 := tk_le (cuts := (remAll D.files (d.take m) r0).2) (many := f.row.length + 1) (by omega)
    generalize hL : remOf f (remAll D.files (d.take m) r0).2 = L at *
    have hLlen : L.1.length ≤ 2 ^ 20 := by rw [← hL]; exact remOf_len hfok.1 _
    unfold remOf at hL
    generalize (remAll D.files (d.take m) r0).2 = zz at *
    refine rtake_ok hz4 hq (by omega) (by omega) fun H5 hz5 hev5 => ?_
    generalize (tk zz (f.row.length + 1)).1 = k5 at *
    generalize (tk zz (f.row.length + 1)).2 = r5 at *
    have qk : ∀ j, ¬ at1 (q, 0) (k, j) := fun j => at1_o hkq.symm
    have e35 := hev5.get e3 (by rw [e2]; exact qk _)
    simp only [cellH_mk, cellO_some, add_mk, size_upd, upd_upd, one_int, one_bool, one_string, one_pointer, one_slice, one_map, one_func, st1_some, stN_nil, stN_cons, StV_mk, StO_some, Ld_some, RtI_mk, RtB_mk, RtS_mk, RtP_mk, RtL_mk, RtM_mk, RtA_mk, RtT_mk, NilC_some, New_eq, At_eq, Ck_true, Rt0_mk, BrB_true, BrB_false, Nat.zero_add, List.length_cons, List.length_nil, List.getElem?_cons_zero, List.getElem?_cons_succ, List.set_cons_zero, List.set_cons_succ, List.getD_cons_zero, List.getD_cons_succ, Option.isNone_some, Option.isNone_none, Go.Disk.fsO, Go.Disk.fileO, Bool.false_eq_true, eq_self, Nat.reduceAdd, Nat.reduceSub, Nat.reduceMul, Nat.reduceLT, Nat.reduceLeDiff, Nat.reduceEqDiff, Int.reduceNeg, Int.reduceEq, Int.reduceNe, Int.reduceBEq, Int.reduceBNe, Int.reduceLT, Int.reduceLE, Int.reduceGT, Int.reduceAdd, reduceIte, Bool.not_true, Bool.not_false, decide_true, decide_false, ne_eq, not_false_eq_true, not_true_eq_false]
    refine rbytes_ok (fb := b) (fo := fi * 2) ⟨cs, _, _, t, r, rc, e35, c1, c2, g3.ev hev5 (at1_no0 hq), (g4.ev hev5 (qk _)).r, g5.ev hev5 (at1_no0 hq), g6⟩ hfok.1 (by omega) (by have := hfok.2; omega) fun s6 H6 C6 hs6 hev6 => ?_
    have hz6 := hz5.ev hev6 (fun _ _ h => h) fun h => h
    have hev46 : Ev (at1 (q, 0)) H4 C4 H6 C6 := hev5.trans (hev6.mono fun _ h => h.elim)
    have e36 := hev46.get e3 (by rw [e2]; exact qk _)
    have g46 := g4.ev hev46 (qk _)
    have g56 := g5.ev hev46 (at1_no0 hq)
    have hB := (hfok.1.at k5).len1
    have hnext : ∀ cg, f.row[k5]? = some cg → ChOk cg ((f.row.take k5).foldl (fun b c => c.app b) f.sure) := fun cg h => hfok.1.next h
    generalize hBe : (f.row.take k5).foldl (fun b c => c.app b) f.sure = B at *
    have hs6l := hs6.len
    simp only [cellH_mk, cellO_some, add_mk, size_upd, upd_upd, one_int, one_bool, one_string, one_pointer, one_slice, one_map, one_func, st1_some, stN_nil, stN_cons, StV_mk, StO_some, Ld_some, RtI_mk, RtB_mk, RtS_mk, RtP_mk, RtL_mk, RtM_mk, RtA_mk, RtT_mk, NilC_some, New_eq, At_eq, Ck_true, Rt0_mk, BrB_true, BrB_false, Nat.zero_add, List.length_cons, List.length_nil, List.getElem?_cons_zero, List.getElem?_cons_succ, List.set_cons_zero, List.set_cons_succ, List.getD_cons_zero, List.getD_cons_succ, Option.isNone_some, Option.isNone_none, Go.Disk.fsO, Go.Disk.fileO, Bool.false_eq_true, eq_self, Nat.reduceAdd, Nat.reduceSub, Nat.reduceMul, Nat.reduceLT, Nat.reduceLeDiff, Nat.reduceEqDiff, Int.reduceNeg, Int.reduceEq, Int.reduceNe, Int.reduceBEq, Int.reduceBNe, Int.reduceLT, Int.reduceLE, Int.reduceGT, Int.reduceAdd, reduceIte, Bool.not_true, Bool.not_false, decide_true, decide_false, ne_eq, not_false_eq_true, not_true_eq_false]
    refine ⟨fun a l c H' => ∃ C', ByI H' C' (a, l, c) L.1 ∧ RCutsAt H' C' (q, 0) nb L.2 ∧ Ev (at1 (q, 0)) H4 C4 H' C', ?_, ?_⟩
    rotate_left
    · simp only [cellH_mk, cellO_some, add_mk, size_upd, upd_upd, one_int, one_bool, one_string, one_pointer, one_slice, one_map, one_func, st1_some, stN_nil, stN_cons, StV_mk, StO_some, Ld_some, RtI_mk, RtB_mk, RtS_mk, RtP_mk, RtL_mk, RtM_mk, RtA_mk, RtT_mk, NilC_some, New_eq, At_eq, Ck_true, Rt0_mk, BrB_true, BrB_false, Nat.zero_add, List.length_cons, List.length_nil, List.getElem?_cons_zero, List.getElem?_cons_succ, List.set_cons_zero, List.set_cons_succ, List.getD_cons_zero, List.getD_cons_succ, Option.isNone_some, Option.isNone_none, Go.Disk.fsO, Go.Disk.fileO, Bool.false_eq_true, eq_self, Nat.reduceAdd, Nat.reduceSub, Nat.reduceMul, Nat.reduceLT, Nat.reduceLeDiff, Nat.reduceEqDiff, Int.reduceNeg, Int.reduceEq, Int.reduceNe, Int.reduceBEq, Int.reduceBNe, Int.reduceLT, Int.reduceLE, Int.reduceGT, Int.reduceAdd, reduceIte, Bool.not_true, Bool.not_false, decide_true, decide_false, ne_eq, not_false_eq_true, not_true_eq_false, e36, c2]
      refine BrB_i (fun h5 => ?_) (fun h5 => ?_)
      · have h5 := of_decide_eq_true h5
        have hcg : f.row[k5]? = some (f.row[k5]'(by omega)) := List.getElem?_eq_getElem _
        generalize f.row[k5]'(by omega) = cg at hcg
        have hck := hnext cg hcg
        simp only [hcg, hBe] at hL
        simp only [cellH_mk, cellO_some, add_mk, size_upd, upd_upd, one_int, one_bool, one_string, one_pointer, one_slice, one_map, one_func, st1_some, stN_nil, stN_cons, StV_mk, StO_some, Ld_some, RtI_mk, RtB_mk, RtS_mk, RtP_mk, RtL_mk, RtM_mk, RtA_mk, RtT_mk, NilC_some, New_eq, At_eq, Ck_true, Rt0_mk, BrB_true, BrB_false, Nat.zero_add, List.length_cons, List.length_nil, List.getElem?_cons_zero, List.getElem?_cons_succ, List.set_cons_zero, List.set_cons_succ, List.getD_cons_zero, List.getD_cons_succ, Option.isNone_some, Option.isNone_none, Go.Disk.fsO, Go.Disk.fileO, Bool.false_eq_true, eq_self, Nat.reduceAdd, Nat.reduceSub, Nat.reduceMul, Nat.reduceLT, Nat.reduceLeDiff, Nat.reduceEqDiff, Int.reduceNeg, Int.reduceEq, Int.reduceNe, Int.reduceBEq, Int.reduceBNe, Int.reduceLT, Int.reduceLE, Int.reduceGT, Int.reduceAdd, reduceIte, Bool.not_true, Bool.not_false, decide_true, decide_false, ne_eq, not_false_eq_true, not_true_eq_false, e36, c2]
        refine SlR.chgRow g46.r g56 hcg (by omega) fun e1' s1 he1 hb1 hc1 => ?_
        have hc10 : cellH H6 (e1'.add 0) = some (.bool cg.cut) := hc1 0 (by omega)
        simp only [cellH_mk, cellO_some, add_mk, size_upd, upd_upd, one_int, one_bool, one_string, one_pointer, one_slice, one_map, one_func, st1_some, stN_nil, stN_cons, StV_mk, StO_some, Ld_some, RtI_mk, RtB_mk, RtS_mk, RtP_mk, RtL_mk, RtM_mk, RtA_mk, RtT_mk, NilC_some, New_eq, At_eq, Ck_true, Rt0_mk, BrB_true, BrB_false, Nat.zero_add, List.length_cons, List.length_nil, List.getElem?_cons_zero, List.getElem?_cons_succ, List.set_cons_zero, List.set_cons_succ, List.getD_cons_zero, List.getD_cons_succ, Option.isNone_some, Option.isNone_none, Go.Disk.fsO, Go.Disk.fileO, Bool.false_eq_true, eq_self, Nat.reduceAdd, Nat.reduceSub, Nat.reduceMul, Nat.reduceLT, Nat.reduceLeDiff, Nat.reduceEqDiff, Int.reduceNeg, Int.reduceEq, Int.reduceNe, Int.reduceBEq, Int.reduceBNe, Int.reduceLT, Int.reduceLE, Int.reduceGT, Int.reduceAdd, reduceIte, Bool.not_true, Bool.not_false, decide_true, decide_false, ne_eq, not_false_eq_true, not_true_eq_false, hc10]
        cases hcut : cg.cut with
        | true =>
          rw [hcut, if_pos rfl] at hL
          subst hL
          simp only [cellH_mk, cellO_some, add_mk, size_upd, upd_upd, one_int, one_bool, one_string, one_pointer, one_slice, one_map, one_func, st1_some, stN_nil, stN_cons, StV_mk, StO_some, Ld_some, RtI_mk, RtB_mk, RtS_mk, RtP_mk, RtL_mk, RtM_mk, RtA_mk, RtT_mk, NilC_some, New_eq, At_eq, Ck_true, Rt0_mk, BrB_true, BrB_false, Nat.zero_add, List.length_cons, List.length_nil, List.getElem?_cons_zero, List.getElem?_cons_succ, List.set_cons_zero, List.set_cons_succ, List.getD_cons_zero, List.getD_cons_succ, Option.isNone_some, Option.isNone_none, Go.Disk.fsO, Go.Disk.fileO, Bool.false_eq_true, eq_self, Nat.reduceAdd, Nat.reduceSub, Nat.reduceMul, Nat.reduceLT, Nat.reduceLeDiff, Nat.reduceEqDiff, Int.reduceNeg, Int.reduceEq, Int.reduceNe, Int.reduceBEq, Int.reduceBNe, Int.reduceLT, Int.reduceLE, Int.reduceGT, Int.reduceAdd, reduceIte, Bool.not_true, Bool.not_false, decide_true, decide_false, ne_eq, not_false_eq_true, not_true_eq_false]
          exact ⟨C6, hs6, hz6, hev46⟩
        | false =>
          rw [hcut, if_neg (by simp)] at hL
          simp only [cellH_mk, cellO_some, add_mk, size_upd, upd_upd, one_int, one_bool, one_string, one_pointer, one_slice, one_map, one_func, st1_some, stN_nil, stN_cons, StV_mk, StO_some, Ld_some, RtI_mk, RtB_mk, RtS_mk, RtP_mk, RtL_mk, RtM_mk, RtA_mk, RtT_mk, NilC_some, New_eq, At_eq, Ck_true, Rt0_mk, BrB_true, BrB_false, Nat.zero_add, List.length_cons, List.length_nil, List.getElem?_cons_zero, List.getElem?_cons_succ, List.set_cons_zero, List.set_cons_succ, List.getD_cons_zero, List.getD_cons_succ, Option.isNone_some, Option.isNone_none, Go.Disk.fsO, Go.Disk.fileO, Bool.false_eq_true, eq_self, Nat.reduceAdd, Nat.reduceSub, Nat.reduceMul, Nat.reduceLT, Nat.reduceLeDiff, Nat.reduceEqDiff, Int.reduceNeg, Int.reduceEq, Int.reduceNe, Int.reduceBEq, Int.reduceBNe, Int.reduceLT, Int.reduceLE, Int.reduceGT, Int.reduceAdd, reduceIte, Bool.not_true, Bool.not_false, decide_true, decide_false, ne_eq, not_false_eq_true, not_true_eq_false, e36, c2]
          refine SlR.chgRow g46.r g56 hcg (by omega) fun e2' s2 he2 hb2 hc2 => ?_
          have hc22 : cellH H6 (e2'.add 2) = some (.slice s2.1 s2.2.1 s2.2.2) := hc2 2 (by omega)
          simp only [cellH_mk, cellO_some, add_mk, size_upd, upd_upd, one_int, one_bool, one_string, one_pointer, one_slice, one_map, one_func, st1_some, stN_nil, stN_cons, StV_mk, StO_some, Ld_some, RtI_mk, RtB_mk, RtS_mk, RtP_mk, RtL_mk, RtM_mk, RtA_mk, RtT_mk, NilC_some, New_eq, At_eq, Ck_true, Rt0_mk, BrB_true, BrB_false, Nat.zero_add, List.length_cons, List.length_nil, List.getElem?_cons_zero, List.getElem?_cons_succ, List.set_cons_zero, List.set_cons_succ, List.getD_cons_zero, List.getD_cons_succ, Option.isNone_some, Option.isNone_none, Go.Disk.fsO, Go.Disk.fileO, Bool.false_eq_true, eq_self, Nat.reduceAdd, Nat.reduceSub, Nat.reduceMul, Nat.reduceLT, Nat.reduceLeDiff, Nat.reduceEqDiff, Int.reduceNeg, Int.reduceEq, Int.reduceNe, Int.reduceBEq, Int.reduceBNe, Int.reduceLT, Int.reduceLE, Int.reduceGT, Int.reduceAdd, reduceIte, Bool.not_true, Bool.not_false, decide_true, decide_false, ne_eq, not_false_eq_true, not_true_eq_false, hc22]
          have hb2l := hb2.len
          have hcbl := hck.2
          have w5 : IntKind.wrap .i64 (((s2.2.1 : Nat) : Int) + 1) = ((cg.b.length + 1 : Nat) : Int) := by rw [hb2l, w64 (by omega) (by omega)]; omega
          rw [w5]
          have htk6 := tk_le (cuts := r5) (many := cg.b.length + 1) (by omega)
          refine rtake_ok hz6 hq (by omega) (by omega) fun H7 hz7 hev7 => ?_
          generalize (tk r5 (cg.b.length + 1)).1 = tt at *
          generalize (tk r5 (cg.b.length + 1)).2 = r7 at *
          have ecb6 := (hev46.colOf e3).trans e2
          have e37 := hev7.get e36 (by rw [ecb6]; exact qk _)
          have g47 := g46.ev hev7 (qk _)
          have g57 := g56.ev hev7 (at1_no0 hq)
          have hs7 := hs6.ev hev7 (at1_no0 hq)
          have hev47 := hev46.trans hev7
          simp only [cellH_mk, cellO_some, add_mk, size_upd, upd_upd, one_int, one_bool, one_string, one_pointer, one_slice, one_map, one_func, st1_some, stN_nil, stN_cons, StV_mk, StO_some, Ld_some, RtI_mk, RtB_mk, RtS_mk, RtP_mk, RtL_mk, RtM_mk, RtA_mk, RtT_mk, NilC_some, New_eq, At_eq, Ck_true, Rt0_mk, BrB_true, BrB_false, Nat.zero_add, List.length_cons, List.length_nil, List.getElem?_cons_zero, List.getElem?_cons_succ, List.set_cons_zero, List.set_cons_succ, List.getD_cons_zero, List.getD_cons_succ, Option.isNone_some, Option.isNone_none, Go.Disk.fsO, Go.Disk.fileO, Bool.false_eq_true, eq_self, Nat.reduceAdd, Nat.reduceSub, Nat.reduceMul, Nat.reduceLT, Nat.reduceLeDiff, Nat.reduceEqDiff, Int.reduceNeg, Int.reduceEq, Int.reduceNe, Int.reduceBEq, Int.reduceBNe, Int.reduceLT, Int.reduceLE, Int.reduceGT, Int.reduceAdd, reduceIte, Bool.not_true, Bool.not_false, decide_true, decide_false, ne_eq, not_false_eq_true, not_true_eq_false, e37, c2]
          refine SlR.chgRow g47.r g57 hcg (by omega) fun e3' s3 he3 hb3 hc3 => ?_
          unfold chgCells at he3
          simp only [cellH_mk, cellO_some, add_mk, size_upd, upd_upd, one_int, one_bool, one_string, one_pointer, one_slice, one_map, one_func, st1_some, stN_nil, stN_cons, StV_mk, StO_some, Ld_some, RtI_mk, RtB_mk, RtS_mk, RtP_mk, RtL_mk, RtM_mk, RtA_mk, RtT_mk, NilC_some, New_eq, At_eq, Ck_true, Rt0_mk, BrB_true, BrB_false, Nat.zero_add, List.length_cons, List.length_nil, List.getElem?_cons_zero, List.getElem?_cons_succ, List.set_cons_zero, List.set_cons_succ, List.getD_cons_zero, List.getD_cons_succ, Option.isNone_some, Option.isNone_none, Go.Disk.fsO, Go.Disk.fileO, Bool.false_eq_true, eq_self, Nat.reduceAdd, Nat.reduceSub, Nat.reduceMul, Nat.reduceLT, Nat.reduceLeDiff, Nat.reduceEqDiff, Int.reduceNeg, Int.reduceEq, Int.reduceNe, Int.reduceBEq, Int.reduceBNe, Int.reduceLT, Int.reduceLE, Int.reduceGT, Int.reduceAdd, reduceIte, Bool.not_true, Bool.not_false, decide_true, decide_false, ne_eq, not_false_eq_true, not_true_eq_false, he3]
          refine rtorn_ok (c := cg) (sl := s3) (s := s6) hb3 hs7 hck.1 hB hck.2 (by omega) fun s8 H8 C8 hs8 hev8 => ?_
          simp only [cellH_mk, cellO_some, add_mk, size_upd, upd_upd, one_int, one_bool, one_string, one_pointer, one_slice, one_map, one_func, st1_some, stN_nil, stN_cons, StV_mk, StO_some, Ld_some, RtI_mk, RtB_mk, RtS_mk, RtP_mk, RtL_mk, RtM_mk, RtA_mk, RtT_mk, NilC_some, New_eq, At_eq, Ck_true, Rt0_mk, BrB_true, BrB_false, Nat.zero_add, List.length_cons, List.length_nil, List.getElem?_cons_zero, List.getElem?_cons_succ, List.set_cons_zero, List.set_cons_succ, List.getD_cons_zero, List.getD_cons_succ, Option.isNone_some, Option.isNone_none, Go.Disk.fsO, Go.Disk.fileO, Bool.false_eq_true, eq_self, Nat.reduceAdd, Nat.reduceSub, Nat.reduceMul, Nat.reduceLT, Nat.reduceLeDiff, Nat.reduceEqDiff, Int.reduceNeg, Int.reduceEq, Int.reduceNe, Int.reduceBEq, Int.reduceBNe, Int.reduceLT, Int.reduceLE, Int.reduceGT, Int.reduceAdd, reduceIte, Bool.not_true, Bool.not_false, decide_true, decide_false, ne_eq, not_false_eq_true, not_true_eq_false]
          subst hL
          exact ⟨C8, hs8, hz7.ev hev8 (fun _ _ h => h) fun h => h, hev47.trans (hev8.mono fun _ h => h.elim)⟩
      · have h5 := of_decide_eq_false h5
        have hnone : f.row[k5]? = none := List.getElem?_eq_none (by omega)
        simp only [hnone, hBe] at hL
        subst hL
        exact ⟨C6, hs6, hz6, hev46⟩
    rintro fr3 ab lb cb H9 ⟨C9, hb9, hz9, hev9⟩
    clear hL hnext hs6 hz6 hz5 e35 e36 g46 g56 hev46 hev5 hev6
    have h9 := h4.ev hev9 (at1_no0 hq) qk
    have hd9 := hd4.ev hev9 (at1_no0 hq)
    have hn9 := hev9.get hn4 (by rw [hcn4]; exact at1_o hqk)
    have hcn9 := (hev9.colOf hn4).trans hcn4
    have hfs9 := hfs4.ev hev9 (at1_no0 hq) (at1_o hqk) fun j => at1_o hqk
    have hss9 := hss4.ev hev9 (at1_ne (by omega))
    have hev9 := hev4.trans (hev9.mono fun _ => two_2)
    rw [← hr2] at hz9
    clear h4 hd4 hn4 hcn4 hfs4 hss4 hev4 hz4 hp4 e3 e4 e5 e6 e7 g1 g2 g3 g4 g5 g6 hra hr2 c1 c2 hcg
    generalize leftD D.room D.files (d.take m) r0 = LL at *
    obtain ⟨fcs, q1, q2, q3⟩ := hfs9
    simp only [cellH_mk, cellO_some, add_mk, size_upd, upd_upd, one_int, one_bool, one_string, one_pointer, one_slice, one_map, one_func, st1_some, stN_nil, stN_cons, StV_mk, StO_some, Ld_some, RtI_mk, RtB_mk, RtS_mk, RtP_mk, RtL_mk, RtM_mk, RtA_mk, RtT_mk, NilC_some, New_eq, At_eq, Ck_true, Rt0_mk, BrB_true, BrB_false, Nat.zero_add, List.length_cons, List.length_nil, List.getElem?_cons_zero, List.getElem?_cons_succ, List.set_cons_zero, List.set_cons_succ, List.getD_cons_zero, List.getD_cons_succ, Option.isNone_some, Option.isNone_none, Go.Disk.fsO, Go.Disk.fileO, Bool.false_eq_true, eq_self, Nat.reduceAdd, Nat.reduceSub, Nat.reduceMul, Nat.reduceLT, Nat.reduceLeDiff, Nat.reduceEqDiff, Int.reduceNeg, Int.reduceEq, Int.reduceNe, Int.reduceBEq, Int.reduceBNe, Int.reduceLT, Int.reduceLE, Int.reduceGT, Int.reduceAdd, reduceIte, Bool.not_true, Bool.not_false, decide_true, decide_false, ne_eq, not_false_eq_true, not_true_eq_false, hn9]
    refine build_oneK und98 tyf110 (by rfl) (by rfl) (by omega) (by omega) ?_
    have hevA := ev_push no H9 C9 (.cells (Value.cells (.agg ⟨[.slice ab lb cb, .slice none 0 0]⟩)) 110) (0, 0)
    have hsrc := SrcH_one (s := 2) (get_push_self H9 (.cells (Value.cells (.agg ⟨[.slice ab lb cb, .slice none 0 0]⟩)) 110)) rfl
    have hA := h9.ev hevA (fun _ _ h => h) fun _ h => h
    have hdA := hd9.ev hevA fun _ _ h => h
    have hzA := hz9.ev hevA (fun _ _ h => h) fun h => h
    have hnA := hevA.get hn9 fun h => h
    have hcnA := (hevA.colOf hn9).trans hcn9
    have q1A := q1.ev hevA fun h => h
    have q2A := RFiles.ev hevA (fun _ _ h => h) (fun _ _ _ h => h) q2
    have hssA := hss9.ev hevA fun h => h
    have hbA := hb9.ev hevA fun _ _ h => h
    have hevA := hev9.trans (hevA.mono fun _ h => h.elim)
    generalize H9.size = nbA at *
    generalize H9.push _ = HA at *
    generalize setC C9 nbA (0, 0) = CA at *
    simp only [cellH_mk, cellO_some, add_mk, size_upd, upd_upd, one_int, one_bool, one_string, one_pointer, one_slice, one_map, one_func, st1_some, stN_nil, stN_cons, StV_mk, StO_some, Ld_some, RtI_mk, RtB_mk, RtS_mk, RtP_mk, RtL_mk, RtM_mk, RtA_mk, RtT_mk, NilC_some, New_eq, At_eq, Ck_true, Rt0_mk, BrB_true, BrB_false, Nat.zero_add, List.length_cons, List.length_nil, List.getElem?_cons_zero, List.getElem?_cons_succ, List.set_cons_zero, List.set_cons_succ, List.getD_cons_zero, List.getD_cons_succ, Option.isNone_some, Option.isNone_none, Go.Disk.fsO, Go.Disk.fileO, Bool.false_eq_true, eq_self, Nat.reduceAdd, Nat.reduceSub, Nat.reduceMul, Nat.reduceLT, Nat.reduceLeDiff, Nat.reduceEqDiff, Int.reduceNeg, Int.reduceEq, Int.reduceNe, Int.reduceBEq, Int.reduceBNe, Int.reduceLT, Int.reduceLE, Int.reduceGT, Int.reduceAdd, reduceIte, Bool.not_true, Bool.not_false, decide_true, decide_false, ne_eq, not_false_eq_true, not_true_eq_false]
    refine app_ownK (lab := (k', 1)) (new := [.slice ab lb cb, .slice none 0 0]) und98 und98 (.inl ⟨_, rfl⟩) tyf110 (by rfl) hsrc (by rfl) (by intro v hv; simp at hv; rcases hv with rfl | rfl <;> rfl) q1A (by omega) (by omega) fun aB cB HB CB hsB hevB _ => ?_
    have k'k : ∀ j, ¬ at1 (k', 1) (k, j) := fun j => at1_o hkk'.symm
    have hB' := hA.ev hevB (at1_no0 hk') k'k
    have hdB := hdA.ev hevB (at1_no0 hk')
    have hzB := hzA.ev hevB (at1_no0 hk') (at1_o hqk.symm)
    have hnB := hevB.get hnA (by rw [hcnA]; exact at1_ne (by omega))
    have hcnB := (hevB.colOf hnA).trans hcnA
    have hssB := hssA.ev hevB (at1_o hqk.symm)
    have q2B := RFiles.snoc (f := ⟨L.1, L.1, []⟩) (s := (ab, lb, cb)) (r := (none, 0, 0)) (rc := []) (RFiles.ev hevB (at1_no0 hk') (fun j _ _ => at1_ne (by omega)) q2A) (hbA.ev hevB (at1_no0 hk')) (SlO.nil _ _ _ _ _) rfl rfl
    have hevB' := hevA.trans (hevB.mono fun _ => two_1)
    have hlB := lt_of_get hnB
    simp only [cellH_mk, cellO_some, add_mk, size_upd, upd_upd, one_int, one_bool, one_string, one_pointer, one_slice, one_map, one_func, st1_some, stN_nil, stN_cons, StV_mk, StO_some, Ld_some, RtI_mk, RtB_mk, RtS_mk, RtP_mk, RtL_mk, RtM_mk, RtA_mk, RtT_mk, NilC_some, New_eq, At_eq, Ck_true, Rt0_mk, BrB_true, BrB_false, Nat.zero_add, List.length_cons, List.length_nil, List.getElem?_cons_zero, List.getElem?_cons_succ, List.set_cons_zero, List.set_cons_succ, List.getD_cons_zero, List.getD_cons_succ, Option.isNone_some, Option.isNone_none, Go.Disk.fsO, Go.Disk.fileO, Bool.false_eq_true, eq_self, Nat.reduceAdd, Nat.reduceSub, Nat.reduceMul, Nat.reduceLT, Nat.reduceLeDiff, Nat.reduceEqDiff, Int.reduceNeg, Int.reduceEq, Int.reduceNe, Int.reduceBEq, Int.reduceBNe, Int.reduceLT, Int.reduceLE, Int.reduceGT, Int.reduceAdd, reduceIte, Bool.not_true, Bool.not_false, decide_true, decide_false, ne_eq, not_false_eq_true, not_true_eq_false, hnB, get_upd_self, hlB]
    have hevC : Ev (at1 (k', 0)) HB CB (upd HB pn (.cells ⟨[.int .i64 (D.room : Int), .slice aB (fs.2.1 + 1) cB, .slice ss.1 ss.2.1 ss.2.2, .slice none 0 0, .slice none 0 0, .int .i64 0, .int .i64 0, .bool false]⟩ 102 (0, 0))) CB := ev_upd hcnB _
    have hnC := get_upd_of (o' := .cells ⟨[.int .i64 (D.room : Int), .slice aB (fs.2.1 + 1) cB, .slice ss.1 ss.2.1 ss.2.2, .slice none 0 0, .slice none 0 0, .int .i64 0, .int .i64 0, .bool false]⟩ 102 (0, 0)) hnB
    have hC := hB'.ev hevC (at1_no0 hk') fun j => at1_o hkk'.symm
    have hdC := hdB.ev hevC (at1_no0 hk')
    have hzC := hzB.ev hevC (at1_no0 hk') (at1_o hqk.symm)
    have hssC := hssB.ev hevC (at1_o hqk.symm)
    have hsC := hsB.ev hevC (at1_ne (by omega))
    have q2C := RFiles.ev hevC (at1_no0 hk') (fun j _ _ => at1_ne (by omega)) q2B
    have hevC' := hevB'.trans (hevC.mono fun _ => two_1)
    generalize upd HB pn _ = HC at *
    refine hdC.row hdm fun e' he' h0' h1' => ?_
    simp only [cellH_mk, cellO_some, add_mk, size_upd, upd_upd, one_int, one_bool, one_string, one_pointer, one_slice, one_map, one_func, st1_some, stN_nil, stN_cons, StV_mk, StO_some, Ld_some, RtI_mk, RtB_mk, RtS_mk, RtP_mk, RtL_mk, RtM_mk, RtA_mk, RtT_mk, NilC_some, New_eq, At_eq, Ck_true, Rt0_mk, BrB_true, BrB_false, Nat.zero_add, List.length_cons, List.length_nil, List.getElem?_cons_zero, List.getElem?_cons_succ, List.set_cons_zero, List.set_cons_succ, List.getD_cons_zero, List.getD_cons_succ, Option.isNone_some, Option.isNone_none, Go.Disk.fsO, Go.Disk.fileO, Bool.false_eq_true, eq_self, Nat.reduceAdd, Nat.reduceSub, Nat.reduceMul, Nat.reduceLT, Nat.reduceLeDiff, Nat.reduceEqDiff, Int.reduceNeg, Int.reduceEq, Int.reduceNe, Int.reduceBEq, Int.reduceBNe, Int.reduceLT, Int.reduceLE, Int.reduceGT, Int.reduceAdd, reduceIte, Bool.not_true, Bool.not_false, decide_true, decide_false, ne_eq, not_false_eq_true, not_true_eq_false, h0']
    refine build_oneK und99 tyf112 (by rfl) (by rfl) (by omega) (by omega) ?_
    have hevD := ev_push no HC CB (.cells (Value.cells (.agg ⟨[.string s, .int .i64 (m : Int)]⟩)) 112) (0, 0)
    have hsrc2 := SrcH_one (s := 2) (get_push_self HC (.cells (Value.cells (.agg ⟨[.string s, .int .i64 (m : Int)]⟩)) 112)) rfl
    have hD' := hC.ev hevD (fun _ _ h => h) fun _ h => h
    have hdD := hdC.ev hevD fun _ _ h => h
    have hzD := hzC.ev hevD (fun _ _ h => h) fun h => h
    have hnD := hevD.get hnC fun h => h
    have hcnD := (hevD.colOf hnC).trans hcnB
    have hssD := hssC.ev hevD fun h => h
    have hsD := hsC.ev hevD fun h => h
    have q2D := RFiles.ev hevD (fun _ _ h => h) (fun _ _ _ h => h) q2C
    have hevD := hevC'.trans (hevD.mono fun _ h => h.elim)
    generalize HC.size = nbD at *
    generalize HC.push _ = HD at *
    generalize setC CB nbD (0, 0) = CD at *
    simp only [cellH_mk, cellO_some, add_mk, size_upd, upd_upd, one_int, one_bool, one_string, one_pointer, one_slice, one_map, one_func, st1_some, stN_nil, stN_cons, StV_mk, StO_some, Ld_some, RtI_mk, RtB_mk, RtS_mk, RtP_mk, RtL_mk, RtM_mk, RtA_mk, RtT_mk, NilC_some, New_eq, At_eq, Ck_true, Rt0_mk, BrB_true, BrB_false, Nat.zero_add, List.length_cons, List.length_nil, List.getElem?_cons_zero, List.getElem?_cons_succ, List.set_cons_zero, List.set_cons_succ, List.getD_cons_zero, List.getD_cons_succ, Option.isNone_some, Option.isNone_none, Go.Disk.fsO, Go.Disk.fileO, Bool.false_eq_true, eq_self, Nat.reduceAdd, Nat.reduceSub, Nat.reduceMul, Nat.reduceLT, Nat.reduceLeDiff, Nat.reduceEqDiff, Int.reduceNeg, Int.reduceEq, Int.reduceNe, Int.reduceBEq, Int.reduceBNe, Int.reduceLT, Int.reduceLE, Int.reduceGT, Int.reduceAdd, reduceIte, Bool.not_true, Bool.not_false, decide_true, decide_false, ne_eq, not_false_eq_true, not_true_eq_false, hnD]
    refine app_ownK (lab := (q, 1)) (new := [.string s, .int .i64 (m : Int)]) und99 und99 (.inl ⟨_, rfl⟩) tyf112 (by rfl) hsrc2 (by rfl) (by intro v hv; simp at hv; rcases hv with rfl | rfl <;> rfl) hssD (by omega) (by omega) fun aE cE HE CE hsE hevE _ => ?_
    have hE := hD'.ev hevE (at1_no0 hq) fun j => at1_o hkq.symm
    have hdE := hdD.ev hevE (at1_no0 hq)
    have hzE := hzD.ev hevE (at1_no0 hq) (at1_ne (by omega))
    have hnE := hevE.get hnD (by rw [hcnD]; exact at1_o hqk)
    have hcnE := (hevE.colOf hnD).trans hcnD
    have hsE' := hsD.ev hevE (at1_o hqk)
    have q2E := RFiles.ev hevE (at1_no0 hq) (fun j _ _ => at1_o hqk) q2D
    have hevE := hevD.trans (hevE.mono fun _ => two_2)
    have hlE := lt_of_get hnE
    simp only [cellH_mk, cellO_some, add_mk, size_upd, upd_upd, one_int, one_bool, one_string, one_pointer, one_slice, one_map, one_func, st1_some, stN_nil, stN_cons, StV_mk, StO_some, Ld_some, RtI_mk, RtB_mk, RtS_mk, RtP_mk, RtL_mk, RtM_mk, RtA_mk, RtT_mk, NilC_some, New_eq, At_eq, Ck_true, Rt0_mk, BrB_true, BrB_false, Nat.zero_add, List.length_cons, List.length_nil, List.getElem?_cons_zero, List.getElem?_cons_succ, List.set_cons_zero, List.set_cons_succ, List.getD_cons_zero, List.getD_cons_succ, Option.isNone_some, Option.isNone_none, Go.Disk.fsO, Go.Disk.fileO, Bool.false_eq_true, eq_self, Nat.reduceAdd, Nat.reduceSub, Nat.reduceMul, Nat.reduceLT, Nat.reduceLeDiff, Nat.reduceEqDiff, Int.reduceNeg, Int.reduceEq, Int.reduceNe, Int.reduceBEq, Int.reduceBNe, Int.reduceLT, Int.reduceLE, Int.reduceGT, Int.reduceAdd, reduceIte, Bool.not_true, Bool.not_false, decide_true, decide_false, ne_eq, not_false_eq_true, not_true_eq_false, hnE, get_upd_self, hlE]
    rw [w64 (by omega) (by omega)]
    have hevF : Ev (at1 (k', 0)) HE CE (upd HE pn (.cells ⟨[.int .i64 (D.room : Int), .slice aB (fs.2.1 + 1) cB, .slice aE (ss.2.1 + 1) cE, .slice none 0 0, .slice none 0 0, .int .i64 0, .int .i64 0, .bool false]⟩ 102 (0, 0))) CE := ev_upd hcnE _
    refine ⟨⟨CE, m + 1, by omega, by omega, hE.ev hevF (at1_no0 hk') fun j => at1_o hkk'.symm, hdE.ev hevF (at1_no0 hk'), hzE.ev hevF (at1_no0 hk') (at1_o hqk.symm),
      ⟨(aB, fs.2.1 + 1, cB), (aE, ss.2.1 + 1, cE), hcnE, by first | rfl | exact get_upd_of hnE, ?_, ?_, by show ss.2.1 + 1 = _; omega⟩, hevE.trans (hevF.mono fun _ => two_1)⟩, ?_⟩
    · rw [hLn]
      exact ⟨_, hsE'.ev hevF (at1_ne (by omega)), RFiles.ev hevF (at1_no0 hk') (fun j _ _ => at1_ne (by omega)) q2E, by show fs.2.1 + 1 = (LL.files ++ [_]).length; simp; omega⟩
    · rw [hLn]
      show SlO _ _ _ _ _ _ _ _ (entCells (LL.sure ++ [(s, LL.files.length)]))
      rw [entCells_append, hll]
      exact hsE.ev hevF (at1_o hqk.symm)
    · show d.length - ((m : Int) + 1).toNat < d.length - ((m : Nat) : Int).toNat
      omega
  · have hlt := of_decide_eq_false hlt
    have hmd : m = d.length := by omega
    subst hmd
    rw [List.take_length, ← hfail] at hfs4 hss4
    have hlF := lt_of_get hn4
    simp only [cellH_mk, cellO_some, add_mk, size_upd, upd_upd, one_int, one_bool, one_string, one_pointer, one_slice, one_map, one_func, st1_some, stN_nil, stN_cons, StV_mk, StO_some, Ld_some, RtI_mk, RtB_mk, RtS_mk, RtP_mk, RtL_mk, RtM_mk, RtA_mk, RtT_mk, NilC_some, New_eq, At_eq, Ck_true, Rt0_mk, BrB_true, BrB_false, Nat.zero_add, List.length_cons, List.length_nil, List.getElem?_cons_zero, List.getElem?_cons_succ, List.set_cons_zero, List.set_cons_succ, List.getD_cons_zero, List.getD_cons_succ, Option.isNone_some, Option.isNone_none, Go.Disk.fsO, Go.Disk.fileO, Bool.false_eq_true, eq_self, Nat.reduceAdd, Nat.reduceSub, Nat.reduceMul, Nat.reduceLT, Nat.reduceLeDiff, Nat.reduceEqDiff, Int.reduceNeg, Int.reduceEq, Int.reduceNe, Int.reduceBEq, Int.reduceBNe, Int.reduceLT, Int.reduceLE, Int.reduceGT, Int.reduceAdd, reduceIte, Bool.not_true, Bool.not_false, decide_true, decide_false, ne_eq, not_false_eq_true, not_true_eq_false, hn4, get_upd_self, hlF]
    have hevF : Ev (at1 (k', 0)) H4 C4 (upd H4 pn (.cells ⟨[.int .i64 (D.room : Int), .slice fs.1 fs.2.1 fs.2.2, .slice ss.1 ss.2.1 ss.2.2, .slice none 0 0, .slice ss.1 ss.2.1 ss.2.2, .int .i64 0, .int .i64 0, .bool false]⟩ 102 (0, 0))) C4 := ev_upd hcn4 _
    have hrc := Rc.recol (k := k') (C := C4) hqk hq fun _ => (0, 0)
    have hsu := ((hss4.ev hevF (at1_o hqk.symm)).recol fun _ => (0, 0)).imm rfl
    have hevG := hev4.trans (hevF.mono fun _ => two_1)
    refine hK pn _ (recol C4 q fun _ => (0, 0)) ⟨⟨pn, fs, ss, (none, 0, 0), ss⟩, rfl, ⟨(hrc.own _ (by rw [hcn4])).trans hcn4, get_upd_of hn4, RFilesAt.rc hrc (hfs4.ev hevF (at1_no0 hk') (at1_ne (by omega)) fun j => at1_ne (by omega)), hsu, ⟨[], SlO.nil _ _ _ _ _, rfl, rfl⟩, hsu⟩⟩ ⟨hevG.size, fun b hb => ?_, fun b hb _ => ?_⟩
    · rw [recol_ne (by rw [hevG.col b hb]; exact hfq b (by rw [← hnbe]; exact hb))]
      exact hevG.col b hb
    · refine hevG.keep b hb fun hS => ?_
      rcases hS with e | e
      · exact hfr b (by rw [← hnbe]; exact hb) e
      · exact hfq b (by rw [← hnbe]; exact hb) e
end Go.Proofs

namespace Go.Disk
open Go Go.Fx
set_option linter.unusedVariables false
theorem mvsCells_one (ms : List Mv) : ∀ v ∈ mvsCells ms, v.oneCell = true := by
  intro v hv
  obtain ⟨m, _, h⟩ := List.mem_flatMap.1 hv
  exact mvCells_one v h
theorem ChgsAt.one {H : Heap} {C : Col} : ∀ {cs : List Chg} {vs : List Value}, ChgsAt H C cs vs → ∀ v ∈ vs, v.oneCell = true
  | [], vs, h, v, hv => by rw [show vs = [] from h] at hv; cases hv
  | c :: cs, vs, ⟨s, r, h1, h2, h3⟩, v, hv => by
    rw [h1] at hv
    rcases List.mem_cons.1 hv with rfl | hv
    · rfl
    rcases List.mem_cons.1 hv with rfl | hv
    · rfl
    rcases List.mem_cons.1 hv with rfl | hv
    · rfl
    exact h3.one v hv
theorem filK_map (g : Nat → Nat) : ∀ (fbs : List Nat) (i : Nat), ((filK i fbs).map (·.1)).map (fun a => (a, (Value.pointer (some ⟨g (a - 1).toNat, 0, none⟩)))) = filK i ((List.range' i fbs.length).map g)
  | [], i => rfl
  | b :: bs, i => by
    show (((i : Nat) : Int) + 1, Value.pointer (some ⟨g ((((i : Nat) : Int) + 1) - 1).toNat, 0, none⟩)) :: _ = _
    rw [show ((((i : Nat) : Int) + 1) - 1).toNat = i by omega]
    show _ :: ((filK (i + 1) bs).map (·.1)).map _ = filK i ((List.range' i (bs.length + 1)).map g)
    rw [filK_map g bs (i + 1)]
    rfl
def Done (H : Heap) (C : Col) (k : Nat) (fs : List FileA) (g : Nat → Nat) (kvs : List (Int × Value)) : Prop :=
  ∀ a v, (a, v) ∈ kvs → ∃ (i : Nat) (f : FileA), a = (i : Int) + 1 ∧ v = .pointer (some ⟨g i, 0, none⟩) ∧ fs[i]? = some f ∧ FileAt H C k i (g i) f
theorem Done.ev {S : Lab → Prop} {H H' : Heap} {C C' : Col} {k : Nat} {fs : List FileA} {g : Nat → Nat} {kvs : List (Int × Value)} (h : Done H C k fs g kvs) (he : Ev S H C H' C') (h0 : ∀ x, x.1 = 0 → ¬ S x)
    (hS : ∀ i : Nat, (i : Int) + 1 ∈ kvs.map (·.1) → ¬ S (k, 6 + 2 * i) ∧ ¬ S (k, 7 + 2 * i)) : Done H' C' k fs g kvs := by
  intro a v hm
  obtain ⟨i, f, rfl, rfl, hf, h1⟩ := h a v hm
  have := hS i (List.mem_map.2 ⟨_, hm, rfl⟩)
  exact ⟨i, f, rfl, rfl, hf, h1.ev he h0 this.1 this.2⟩
theorem Done.all {H : Heap} {C : Col} {k nb : Nat} {fs : List FileA} {g : Nat → Nat} {kvs : List (Int × Value)} {fbs : List Nat} {o : Obj} (h : Done H C k fs g kvs) (hc : C nb = (k, 1)) (hb : H[nb]? = some o) (hm : MapIs (Value.int .i64) o kvs)
    (hl : fbs.length = fs.length) (hp : (kvs.map (·.1)).Perm ((filK 0 fbs).map (·.1))) : FilesAt H C k nb ((List.range' 0 fbs.length).map g) fs := by
  have hkv : kvs = (kvs.map (·.1)).map (fun a => (a, (Value.pointer (some ⟨g (a - 1).toNat, 0, none⟩)))) := by
    rw [List.map_map]
    conv => lhs; rw [← List.map_id kvs]
    apply List.map_congr_left
    rintro ⟨a, v⟩ hav
    obtain ⟨i, f, rfl, rfl, _⟩ := h a v hav
    show _ = ((i : Int) + 1, Value.pointer (some ⟨g (((i : Int) + 1) - 1).toNat, 0, none⟩))
    rw [show (((i : Int) + 1) - 1).toNat = i by omega]
    rfl
  refine ⟨hc, ⟨o, kvs, hb, hm, ?_⟩, by simp [hl], fun i fb f q1 q2 => ?_⟩
  · rw [hkv, ← filK_map]
    exact hp.map _
  · have hi := (List.getElem?_eq_some_iff.1 q2).1
    rw [List.getElem?_map, List.getElem?_range' (by omega)] at q1
    simp only [Option.map_some, Option.some.injEq, Nat.zero_add, Nat.one_mul] at q1
    subst q1
    have hmem : (i : Int) + 1 ∈ kvs.map (·.1) := hp.mem_iff.2 (List.mem_map.2 ⟨_, filK_mem.2 ⟨i, fbs[i]'(by omega), List.getElem?_eq_getElem _, by simp, rfl⟩, rfl⟩)
    obtain ⟨⟨a, v⟩, hav, ha⟩ := List.mem_map.1 hmem
    obtain ⟨j, f', rfl, rfl, hf', hF⟩ := h a v hav
    have : j = i := by have : (j : Int) + 1 = (i : Int) + 1 := ha; omega
    subst this
    rw [q2] at hf'
    cases hf'
    exact hF
end Go.Disk
namespace Go.Proofs
open Go Go.Fx Go.Disk
set_option linter.unusedVariables false
set_option maxRecDepth 20000

theorem Copy_none {H : Heap} {K : Value → Heap → Prop} (hK : K (.pointer none) H) : Fn 43 [.pointer none] H K := by
  refine F43_ok _ ?_
  unfold F43
  simp only [cellH_mk, cellO_some, add_mk, size_upd, upd_upd, one_int, one_bool, one_string, one_pointer, one_slice, one_map, one_func, st1_some, stN_nil, stN_cons, StV_mk, StO_some, Ld_some, RtI_mk, RtB_mk, RtS_mk, RtP_mk, RtL_mk, RtM_mk, RtA_mk, RtT_mk, NilC_some, New_eq, At_eq, Ck_true, Rt0_mk, BrB_true, BrB_false, Nat.zero_add, List.length_cons, List.length_nil, List.getElem?_cons_zero, List.getElem?_cons_succ, List.set_cons_zero, List.set_cons_succ, List.getD_cons_zero, List.getD_cons_succ, Option.isNone_some, Option.isNone_none, Go.Disk.fsO, Go.Disk.fileO, Bool.false_eq_true, eq_self, Nat.reduceAdd, Nat.reduceSub, Nat.reduceMul, Nat.reduceLT, Nat.reduceLeDiff, Nat.reduceEqDiff, Int.reduceNeg, Int.reduceEq, Int.reduceNe, Int.reduceBEq, Int.reduceBNe, Int.reduceLT, Int.reduceLE, Int.reduceGT, Int.reduceAdd, reduceIte, Bool.not_true, Bool.not_false, decide_true, decide_false, ne_eq, not_false_eq_true, not_true_eq_false]
  exact hK
theorem Copy_ok {H : Heap} {C : Col} {k k' p : Nat} {D : Disk} {K : Value → Heap → Prop} (hk' : k' ≠ 0) (hfr : ∀ b, b < H.size → (C b).1 ≠ k') (h : IsFS H C k p D) (hD : DiskOk D) (ha : D.acts < 2 ^ 39)
    (hK : ∀ p' H' C', IsFS H' C' k' p' D → Ev no H C H' C' → K (.pointer (some ⟨p', 0, none⟩)) H') :
    Fn 43 [.pointer (some ⟨p, 0, none⟩)] H K := by
  obtain ⟨x, rfl, h⟩ := h
  refine F43_ok _ ?_
  unfold F43
  obtain ⟨q, hq, hqk, hfq⟩ := fresh_two C H.size k'
  have hkk' : k ≠ k' := by have := hfr x.p (lt_of_get h.hp); rw [h.cp] at this; exact this
  have hkq : k ≠ q := by have := hfq x.p (lt_of_get h.hp); rw [h.cp] at this; exact this
  have hnone : ∀ {H' : Heap} {C' : Col}, Ev (two k' q) H C H' C' → Ev no H C H' C' := fun he => he.none fun b hb hS => by
    rcases hS with e | e
    · exact hfr b hb e
    · exact hfq b hb e
  have two0 := two_no0 hk' hq
  have twok : ∀ j, ¬ two k' q (k, j) := fun j e => by
    rcases e with e | e
    · exact hkk' e
    · exact hkq e
  have hp := h.hp
  rw [fsX] at hp
  simp only [cellH_mk, cellO_some, add_mk, size_upd, upd_upd, one_int, one_bool, one_string, one_pointer, one_slice, one_map, one_func, st1_some, stN_nil, stN_cons, StV_mk, StO_some, Ld_some, RtI_mk, RtB_mk, RtS_mk, RtP_mk, RtL_mk, RtM_mk, RtA_mk, RtT_mk, NilC_some, New_eq, At_eq, Ck_true, Rt0_mk, BrB_true, BrB_false, Nat.zero_add, List.length_cons, List.length_nil, List.getElem?_cons_zero, List.getElem?_cons_succ, List.set_cons_zero, List.set_cons_succ, List.getD_cons_zero, List.getD_cons_succ, Option.isNone_some, Option.isNone_none, Go.Disk.fsO, Go.Disk.fileO, Bool.false_eq_true, eq_self, Nat.reduceAdd, Nat.reduceSub, Nat.reduceMul, Nat.reduceLT, Nat.reduceLeDiff, Nat.reduceEqDiff, Int.reduceNeg, Int.reduceEq, Int.reduceNe, Int.reduceBEq, Int.reduceBNe, Int.reduceLT, Int.reduceLE, Int.reduceGT, Int.reduceAdd, reduceIte, Bool.not_true, Bool.not_false, decide_true, decide_false, ne_eq, not_false_eq_true, not_true_eq_false, hp]
  rw [rowV_mk _ _ 0 11 hp (by simp)]
  simp only [List.drop_zero, List.take_succ_cons, List.take_zero]
  simp only [cellH_mk, cellO_some, add_mk, size_upd, upd_upd, one_int, one_bool, one_string, one_pointer, one_slice, one_map, one_func, st1_some, stN_nil, stN_cons, StV_mk, StO_some, Ld_some, RtI_mk, RtB_mk, RtS_mk, RtP_mk, RtL_mk, RtM_mk, RtA_mk, RtT_mk, NilC_some, New_eq, At_eq, Ck_true, Rt0_mk, BrB_true, BrB_false, Nat.zero_add, List.length_cons, List.length_nil, List.getElem?_cons_zero, List.getElem?_cons_succ, List.set_cons_zero, List.set_cons_succ, List.getD_cons_zero, List.getD_cons_succ, Option.isNone_some, Option.isNone_none, Go.Disk.fsO, Go.Disk.fileO, Bool.false_eq_true, eq_self, Nat.reduceAdd, Nat.reduceSub, Nat.reduceMul, Nat.reduceLT, Nat.reduceLeDiff, Nat.reduceEqDiff, Int.reduceNeg, Int.reduceEq, Int.reduceNe, Int.reduceBEq, Int.reduceBNe, Int.reduceLT, Int.reduceLE, Int.reduceGT, Int.reduceAdd, reduceIte, Bool.not_true, Bool.not_false, decide_true, decide_false, ne_eq, not_false_eq_true, not_true_eq_false, NewN_eq, get_push_self, upd_push_self]
  rw [upd_push_self]
  obtain ⟨hcf, ⟨of, kvf, hof, hmf, hpf⟩, hfl, hfs⟩ := id h.files
  generalize hO1 : Obj.cells _ _ _ = o1
  have hev1 : Ev (two k' q) H C (H.push o1) (setC C H.size (k', 0)) := ev_push _ _ _ _ _
  have hpo1 : (H.push o1)[H.size]? = some o1 := get_push_self _ _
  have hcp1 : setC C H.size (k', 0) H.size = (k', 0) := setC_self _ _ _
  generalize H.push o1 = H1 at *
  generalize setC C H.size (k', 0) = C1 at *
  generalize H.size = pb at *
  have h1 := h.ev hev1 two0 fun j _ => twok j
  have hp1 := h1.hp
  rw [fsX] at hp1
  have hof1 := hev1.get hof (by rw [hcf]; exact twok _)
  simp only [cellH_mk, cellO_some, add_mk, size_upd, upd_upd, one_int, one_bool, one_string, one_pointer, one_slice, one_map, one_func, st1_some, stN_nil, stN_cons, StV_mk, StO_some, Ld_some, RtI_mk, RtB_mk, RtS_mk, RtP_mk, RtL_mk, RtM_mk, RtA_mk, RtT_mk, NilC_some, New_eq, At_eq, Ck_true, Rt0_mk, BrB_true, BrB_false, Nat.zero_add, List.length_cons, List.length_nil, List.getElem?_cons_zero, List.getElem?_cons_succ, List.set_cons_zero, List.set_cons_succ, List.getD_cons_zero, List.getD_cons_succ, Option.isNone_some, Option.isNone_none, Go.Disk.fsO, Go.Disk.fileO, Bool.false_eq_true, eq_self, Nat.reduceAdd, Nat.reduceSub, Nat.reduceMul, Nat.reduceLT, Nat.reduceLeDiff, Nat.reduceEqDiff, Int.reduceNeg, Int.reduceEq, Int.reduceNe, Int.reduceBEq, Int.reduceBNe, Int.reduceLT, Int.reduceLE, Int.reduceGT, Int.reduceAdd, reduceIte, Bool.not_true, Bool.not_false, decide_true, decide_false, ne_eq, not_false_eq_true, not_true_eq_false, hp1]
  refine ⟨_, mapLen_rd und69 hof1 hmf, ?_⟩
  rw [← hO1] at hpo1
  have hpb1 := lt_of_get hpo1
  have hnd := MapIs.nodup hmf
  simp only [cellH_mk, cellO_some, add_mk, size_upd, upd_upd, one_int, one_bool, one_string, one_pointer, one_slice, one_map, one_func, st1_some, stN_nil, stN_cons, StV_mk, StO_some, Ld_some, RtI_mk, RtB_mk, RtS_mk, RtP_mk, RtL_mk, RtM_mk, RtA_mk, RtT_mk, NilC_some, New_eq, At_eq, Ck_true, Rt0_mk, BrB_true, BrB_false, Nat.zero_add, List.length_cons, List.length_nil, List.getElem?_cons_zero, List.getElem?_cons_succ, List.set_cons_zero, List.set_cons_succ, List.getD_cons_zero, List.getD_cons_succ, Option.isNone_some, Option.isNone_none, Go.Disk.fsO, Go.Disk.fileO, Bool.false_eq_true, eq_self, Nat.reduceAdd, Nat.reduceSub, Nat.reduceMul, Nat.reduceLT, Nat.reduceLeDiff, Nat.reduceEqDiff, Int.reduceNeg, Int.reduceEq, Int.reduceNe, Int.reduceBEq, Int.reduceBNe, Int.reduceLT, Int.reduceLE, Int.reduceGT, Int.reduceAdd, reduceIte, Bool.not_true, Bool.not_false, decide_true, decide_false, ne_eq, not_false_eq_true, not_true_eq_false, hpo1]
  have hev2 : Ev (two k' q) H1 C1 (H1.push (.map ⟨[]⟩ 0)) (setC C1 H1.size (k', 1)) := ev_push _ _ _ _ _
  have hpo2 : (H1.push (.map ⟨[]⟩ 0))[pb]? = _ := get_push_of hpo1
  have hnb2 : (H1.push (.map ⟨[]⟩ 0))[H1.size]? = some (.map ⟨[]⟩ 0) := get_push_self _ _
  have hcn2 : setC C1 H1.size (k', 1) H1.size = (k', 1) := setC_self _ _ _
  have hcp2 : setC C1 H1.size (k', 1) pb = (k', 0) := by rw [setC_ne (by omega)]; exact hcp1
  generalize H1.push (.map ⟨[]⟩ 0) = H2 at *
  generalize setC C1 H1.size (k', 1) = C2 at *
  have hnpb : H1.size ≠ pb := by omega
  generalize H1.size = nb at *
  simp only [cellH_mk, cellO_some, add_mk, size_upd, upd_upd, one_int, one_bool, one_string, one_pointer, one_slice, one_map, one_func, st1_some, stN_nil, stN_cons, StV_mk, StO_some, Ld_some, RtI_mk, RtB_mk, RtS_mk, RtP_mk, RtL_mk, RtM_mk, RtA_mk, RtT_mk, NilC_some, New_eq, At_eq, Ck_true, Rt0_mk, BrB_true, BrB_false, Nat.zero_add, List.length_cons, List.length_nil, List.getElem?_cons_zero, List.getElem?_cons_succ, List.set_cons_zero, List.set_cons_succ, List.getD_cons_zero, List.getD_cons_succ, Option.isNone_some, Option.isNone_none, Go.Disk.fsO, Go.Disk.fileO, Bool.false_eq_true, eq_self, Nat.reduceAdd, Nat.reduceSub, Nat.reduceMul, Nat.reduceLT, Nat.reduceLeDiff, Nat.reduceEqDiff, Int.reduceNeg, Int.reduceEq, Int.reduceNe, Int.reduceBEq, Int.reduceBNe, Int.reduceLT, Int.reduceLE, Int.reduceGT, Int.reduceAdd, reduceIte, Bool.not_true, Bool.not_false, decide_true, decide_false, ne_eq, not_false_eq_true, not_true_eq_false, hpo2]
  generalize hO3 : Obj.cells _ _ _ = o3
  have hev3 : Ev (at1 (k', 0)) H2 C2 (upd H2 pb o3) C2 := ev_upd hcp2 _
  have hpo3 : (upd H2 pb o3)[pb]? = some o3 := get_upd_of hpo2
  have hnb3 := hev3.get hnb2 (by rw [hcn2]; exact at1_ne (by omega))
  have hev13 : Ev (two k' q) H C (upd H2 pb o3) C2 := hev1.trans (hev2.trans (hev3.mono fun _ => two_1))
  generalize upd H2 pb o3 = H3 at *
  rw [← hO3] at hpo3
  have h3 := h.ev hev13 two0 fun j _ => twok j
  have hp3 := h3.hp
  rw [fsX] at hp3
  simp only [cellH_mk, cellO_some, add_mk, size_upd, upd_upd, one_int, one_bool, one_string, one_pointer, one_slice, one_map, one_func, st1_some, stN_nil, stN_cons, StV_mk, StO_some, Ld_some, RtI_mk, RtB_mk, RtS_mk, RtP_mk, RtL_mk, RtM_mk, RtA_mk, RtT_mk, NilC_some, New_eq, At_eq, Ck_true, Rt0_mk, BrB_true, BrB_false, Nat.zero_add, List.length_cons, List.length_nil, List.getElem?_cons_zero, List.getElem?_cons_succ, List.set_cons_zero, List.set_cons_succ, List.getD_cons_zero, List.getD_cons_succ, Option.isNone_some, Option.isNone_none, Go.Disk.fsO, Go.Disk.fileO, Bool.false_eq_true, eq_self, Nat.reduceAdd, Nat.reduceSub, Nat.reduceMul, Nat.reduceLT, Nat.reduceLeDiff, Nat.reduceEqDiff, Int.reduceNeg, Int.reduceEq, Int.reduceNe, Int.reduceBEq, Int.reduceBNe, Int.reduceLT, Int.reduceLE, Int.reduceGT, Int.reduceAdd, reduceIte, Bool.not_true, Bool.not_false, decide_true, decide_false, ne_eq, not_false_eq_true, not_true_eq_false, hp3]
  have hof3 := hev13.get hof (by rw [hcf]; exact twok _)
  refine rangeK und69 hof3 hmf fun o' hit => ?_
  refine ⟨_, rfl, ?_⟩
  have hev4 : Ev (two k' q) H3 C2 (H3.push o') (setC C2 H3.size (q, 0)) := ev_push _ _ _ _ _
  have hci4 : setC C2 H3.size (q, 0) H3.size = (q, 0) := setC_self _ _ _
  have hpo4 : (H3.push o')[pb]? = _ := get_push_of hpo3
  have hnb4 : (H3.push o')[nb]? = _ := get_push_of hnb3
  have hcp4 : setC C2 H3.size (q, 0) pb = (k', 0) := by rw [setC_ne (by have := lt_of_get hpo3; omega)]; exact hcp2
  have hcn4 : setC C2 H3.size (q, 0) nb = (k', 1) := by rw [setC_ne (by have := lt_of_get hnb3; omega)]; exact hcn2
  have hev14 := hev13.trans hev4
  have hnit : nb ≠ H3.size := by have := lt_of_get hnb3; omega
  generalize H3.push o' = H4 at *
  generalize setC C2 H3.size (q, 0) = C4 at *
  generalize H3.size = it at *
  refine ⟨fun H' => ∃ todo kvs g C', IterAt (Value.int .i64) H' it x.mf kvf todo ∧ C' it = (q, 0) ∧ C' pb = (k', 0) ∧ C' nb = (k', 1) ∧ H'[pb]? = some (.cells ⟨[.bool true, .int .i64 (D.room : Int), .int .i64 (D.used : Int), .map (some nb), .int .i64 (D.files.length : Int), .map (some x.ms), .map (some x.mv), .slice x.row.1 x.row.2.1 x.row.2.2, .int .i64 (D.acts : Int), .int .i64 (D.fuse : Int), .bool D.dead]⟩ 73) ∧
      (∃ o', H'[nb]? = some o' ∧ MapIs (Value.int .i64) o' kvs) ∧ (kvs.map (·.1) ++ todo.map (·.1)).Perm (kvf.map (·.1)) ∧ Done H' C' k' D.files g kvs ∧ Ev (two k' q) H C H' C',
    fun H' => iterLeft H' it, ⟨kvf, [], fun _ => 0, C4, hit, hci4, hcp4, hcn4, hpo4, ⟨_, hnb4, MapIs.made _⟩, List.Perm.refl _, fun a v h => (nomatch h), hev14⟩, ?_⟩
  rintro fr H' ⟨todo, kvs, g, C', hI, hci, hcp, hcn, hpo, ⟨on, hon, hmn⟩, hperm, hdone, hE⟩
  simp only [cellH_mk, cellO_some, add_mk, size_upd, upd_upd, one_int, one_bool, one_string, one_pointer, one_slice, one_map, one_func, st1_some, stN_nil, stN_cons, StV_mk, StO_some, Ld_some, RtI_mk, RtB_mk, RtS_mk, RtP_mk, RtL_mk, RtM_mk, RtA_mk, RtT_mk, NilC_some, New_eq, At_eq, Ck_true, Rt0_mk, BrB_true, BrB_false, Nat.zero_add, List.length_cons, List.length_nil, List.getElem?_cons_zero, List.getElem?_cons_succ, List.set_cons_zero, List.set_cons_succ, List.getD_cons_zero, List.getD_cons_succ, Option.isNone_some, Option.isNone_none, Go.Disk.fsO, Go.Disk.fileO, Bool.false_eq_true, eq_self, Nat.reduceAdd, Nat.reduceSub, Nat.reduceMul, Nat.reduceLT, Nat.reduceLeDiff, Nat.reduceEqDiff, Int.reduceNeg, Int.reduceEq, Int.reduceNe, Int.reduceBEq, Int.reduceBNe, Int.reduceLT, Int.reduceLE, Int.reduceGT, Int.reduceAdd, reduceIte, Bool.not_true, Bool.not_false, decide_true, decide_false, ne_eq, not_false_eq_true, not_true_eq_false]
  have hx := h.ev hE two0 fun j _ => twok j
  have hpx := hx.hp
  rw [fsX] at hpx
  refine next_wp hI (fun ht => ?_) fun n v l1 l2 o2 ht hI2 hent => ?_
  · subst ht
    rw [List.map_nil, List.append_nil] at hperm
    have hfiles := hdone.all hcn hon hmn hfl (hperm.trans (hpf.map _))
    have hrow := hx.row
    have hrl := hD.row
    have hrlen := hrow.2
    simp only [cellH_mk, cellO_some, add_mk, size_upd, upd_upd, one_int, one_bool, one_string, one_pointer, one_slice, one_map, one_func, st1_some, stN_nil, stN_cons, StV_mk, StO_some, Ld_some, RtI_mk, RtB_mk, RtS_mk, RtP_mk, RtL_mk, RtM_mk, RtA_mk, RtT_mk, NilC_some, New_eq, At_eq, Ck_true, Rt0_mk, BrB_true, BrB_false, Nat.zero_add, List.length_cons, List.length_nil, List.getElem?_cons_zero, List.getElem?_cons_succ, List.set_cons_zero, List.set_cons_succ, List.getD_cons_zero, List.getD_cons_succ, Option.isNone_some, Option.isNone_none, Go.Disk.fsO, Go.Disk.fileO, Bool.false_eq_true, eq_self, Nat.reduceAdd, Nat.reduceSub, Nat.reduceMul, Nat.reduceLT, Nat.reduceLeDiff, Nat.reduceEqDiff, Int.reduceNeg, Int.reduceEq, Int.reduceNe, Int.reduceBEq, Int.reduceBNe, Int.reduceLT, Int.reduceLE, Int.reduceGT, Int.reduceAdd, reduceIte, Bool.not_true, Bool.not_false, decide_true, decide_false, ne_eq, not_false_eq_true, not_true_eq_false, hpx]
    refine twin_ok (lab' := (k', 2)) hx.sure fun ms' H5 C5 hms5 hev5 => ?_
    have hx5 := hx.ev hev5 (fun _ _ h => h) fun _ _ h => h
    have hpx5 := hev5.get hpx fun h => h
    simp only [cellH_mk, cellO_some, add_mk, size_upd, upd_upd, one_int, one_bool, one_string, one_pointer, one_slice, one_map, one_func, st1_some, stN_nil, stN_cons, StV_mk, StO_some, Ld_some, RtI_mk, RtB_mk, RtS_mk, RtP_mk, RtL_mk, RtM_mk, RtA_mk, RtT_mk, NilC_some, New_eq, At_eq, Ck_true, Rt0_mk, BrB_true, BrB_false, Nat.zero_add, List.length_cons, List.length_nil, List.getElem?_cons_zero, List.getElem?_cons_succ, List.set_cons_zero, List.set_cons_succ, List.getD_cons_zero, List.getD_cons_succ, Option.isNone_some, Option.isNone_none, Go.Disk.fsO, Go.Disk.fileO, Bool.false_eq_true, eq_self, Nat.reduceAdd, Nat.reduceSub, Nat.reduceMul, Nat.reduceLT, Nat.reduceLeDiff, Nat.reduceEqDiff, Int.reduceNeg, Int.reduceEq, Int.reduceNe, Int.reduceBEq, Int.reduceBNe, Int.reduceLT, Int.reduceLE, Int.reduceGT, Int.reduceAdd, reduceIte, Bool.not_true, Bool.not_false, decide_true, decide_false, ne_eq, not_false_eq_true, not_true_eq_false, hpx5]
    refine twin_ok (lab' := (k', 3)) hx5.seen fun mv' H6 C6 hmv6 hev6 => ?_
    have hx6 := hx5.ev hev6 (fun _ _ h => h) fun _ _ h => h
    have hms6 := hms5.ev hev6 fun h => h
    have hev46 := hev5.trans hev6
    have hfiles6 := hfiles.ev hev46 (fun _ _ h => h) (fun h => h) fun _ _ h => h
    have hpo6 := hev46.get hpo fun h => h
    have hcp6 := (hev46.colOf hpo).trans hcp
    have hpx6 := hev6.get hpx5 fun h => h
    have hpl6 := lt_of_get hpo6
    have hpne : pb ≠ x.p := fun e => by
      have := hx6.cp
      rw [← e, hcp6] at this
      exact hkk' (Prod.mk.inj this).1.symm
    simp only [cellH_mk, cellO_some, add_mk, size_upd, upd_upd, one_int, one_bool, one_string, one_pointer, one_slice, one_map, one_func, st1_some, stN_nil, stN_cons, StV_mk, StO_some, Ld_some, RtI_mk, RtB_mk, RtS_mk, RtP_mk, RtL_mk, RtM_mk, RtA_mk, RtT_mk, NilC_some, New_eq, At_eq, Ck_true, Rt0_mk, BrB_true, BrB_false, Nat.zero_add, List.length_cons, List.length_nil, List.getElem?_cons_zero, List.getElem?_cons_succ, List.set_cons_zero, List.set_cons_succ, List.getD_cons_zero, List.getD_cons_succ, Option.isNone_some, Option.isNone_none, Go.Disk.fsO, Go.Disk.fileO, Bool.false_eq_true, eq_self, Nat.reduceAdd, Nat.reduceSub, Nat.reduceMul, Nat.reduceLT, Nat.reduceLeDiff, Nat.reduceEqDiff, Int.reduceNeg, Int.reduceEq, Int.reduceNe, Int.reduceBEq, Int.reduceBNe, Int.reduceLT, Int.reduceLE, Int.reduceGT, Int.reduceAdd, reduceIte, Bool.not_true, Bool.not_false, decide_true, decide_false, ne_eq, not_false_eq_true, not_true_eq_false, hpo6, get_upd_self, hpl6]
    rw [upd_upd]
    have hev7 : Ev (at1 (k', 0)) H6 C6 (upd H6 pb (.cells ⟨[.bool true, .int .i64 (D.room : Int), .int .i64 (D.used : Int), .map (some nb), .int .i64 (D.files.length : Int), .map (some ms'), .map (some mv'), .slice x.row.1 x.row.2.1 x.row.2.2, .int .i64 (D.acts : Int), .int .i64 (D.fuse : Int), .bool D.dead]⟩ 73)) C6 := ev_upd hcp6 _
    have hpo7 : (upd H6 pb (.cells ⟨[.bool true, .int .i64 (D.room : Int), .int .i64 (D.used : Int), .map (some nb), .int .i64 (D.files.length : Int), .map (some ms'), .map (some mv'), .slice x.row.1 x.row.2.1 x.row.2.2, .int .i64 (D.acts : Int), .int .i64 (D.fuse : Int), .bool D.dead]⟩ 73))[pb]? = _ := get_upd_of hpo6
    have hpx7 := hev7.get hpx6 (by rw [hx6.cp]; exact at1_o hkk'.symm)
    generalize upd H6 pb _ = H7 at *
    have h7f := hfiles6.ev hev7 (at1_no0 hk') (at1_ne (by omega)) fun j hj => at1_ne (by omega)
    have h7s := hms6.ev hev7 (at1_ne (by omega))
    have h7v := hmv6.ev hev7 (at1_ne (by omega))
    have h7r := hx6.row.1.ev hev7 (at1_o hkk'.symm)
    simp only [cellH_mk, cellO_some, add_mk, size_upd, upd_upd, one_int, one_bool, one_string, one_pointer, one_slice, one_map, one_func, st1_some, stN_nil, stN_cons, StV_mk, StO_some, Ld_some, RtI_mk, RtB_mk, RtS_mk, RtP_mk, RtL_mk, RtM_mk, RtA_mk, RtT_mk, NilC_some, New_eq, At_eq, Ck_true, Rt0_mk, BrB_true, BrB_false, Nat.zero_add, List.length_cons, List.length_nil, List.getElem?_cons_zero, List.getElem?_cons_succ, List.set_cons_zero, List.set_cons_succ, List.getD_cons_zero, List.getD_cons_succ, Option.isNone_some, Option.isNone_none, Go.Disk.fsO, Go.Disk.fileO, Bool.false_eq_true, eq_self, Nat.reduceAdd, Nat.reduceSub, Nat.reduceMul, Nat.reduceLT, Nat.reduceLeDiff, Nat.reduceEqDiff, Int.reduceNeg, Int.reduceEq, Int.reduceNe, Int.reduceBEq, Int.reduceBNe, Int.reduceLT, Int.reduceLE, Int.reduceGT, Int.reduceAdd, reduceIte, Bool.not_true, Bool.not_false, decide_true, decide_false, ne_eq, not_false_eq_true, not_true_eq_false, hpx7]
    refine app_copyK (C := C6) (lab := (k', 5)) und71 und71 (.inl ⟨_, rfl⟩) tyf85 (by rfl) h7r.src h7r.1 (mvsCells_one _) (by omega) (by omega) fun a8 c8 H8 C8 hr8 hev8 => ?_
    have hpo8 := hev8.get hpo7 fun h => h
    have hcp8 := (hev8.colOf hpo7).trans hcp6
    have h8f := h7f.ev hev8 (fun _ _ h => h) (fun h => h) fun _ _ h => h
    have h8s := h7s.ev hev8 fun h => h
    have h8v := h7v.ev hev8 fun h => h
    have hl8 := lt_of_get hpo8
    simp only [cellH_mk, cellO_some, add_mk, size_upd, upd_upd, one_int, one_bool, one_string, one_pointer, one_slice, one_map, one_func, st1_some, stN_nil, stN_cons, StV_mk, StO_some, Ld_some, RtI_mk, RtB_mk, RtS_mk, RtP_mk, RtL_mk, RtM_mk, RtA_mk, RtT_mk, NilC_some, New_eq, At_eq, Ck_true, Rt0_mk, BrB_true, BrB_false, Nat.zero_add, List.length_cons, List.length_nil, List.getElem?_cons_zero, List.getElem?_cons_succ, List.set_cons_zero, List.set_cons_succ, List.getD_cons_zero, List.getD_cons_succ, Option.isNone_some, Option.isNone_none, Go.Disk.fsO, Go.Disk.fileO, Bool.false_eq_true, eq_self, Nat.reduceAdd, Nat.reduceSub, Nat.reduceMul, Nat.reduceLT, Nat.reduceLeDiff, Nat.reduceEqDiff, Int.reduceNeg, Int.reduceEq, Int.reduceNe, Int.reduceBEq, Int.reduceBNe, Int.reduceLT, Int.reduceLE, Int.reduceGT, Int.reduceAdd, reduceIte, Bool.not_true, Bool.not_false, decide_true, decide_false, ne_eq, not_false_eq_true, not_true_eq_false, hpo8]
    have hev9 : Ev (at1 (k', 0)) H8 C8 (upd H8 pb (fsO ((⟨pb, nb, ms', mv', (a8, x.row.2.1, c8), (List.range' 0 x.fbs.length).map g⟩ : FsX).r D D.used))) C8 := ev_upd hcp8 _
    refine hK pb _ C8 ⟨⟨pb, nb, ms', mv', (a8, x.row.2.1, c8), (List.range' 0 x.fbs.length).map g⟩, rfl, ⟨hcp8, get_upd_of hpo8, h8f.ev hev9 (at1_no0 hk') (at1_ne (by omega)) fun j hj => at1_ne (by omega), h8s.ev hev9 (at1_ne (by omega)), h8v.ev hev9 (at1_ne (by omega)), ⟨hr8.ev hev9 (at1_ne (by omega)), hrlen⟩⟩⟩
      (hnone (hE.trans ((hev46.mono fun _ h => h.elim).trans ((hev7.mono fun _ => two_1).trans ((hev8.mono fun _ h => h.elim).trans (hev9.mono fun _ => two_1))))))
  · have hne := hI.ne
    have hsub : (n, v) ∈ kvf := by
      obtain ⟨_, _, _, _, _, _, _, hs⟩ := hI
      exact hs.subset (by rw [ht]; simp)
    obtain ⟨i, fb, hfb, rfl, rfl⟩ := filK_mem.1 (hpf.mem_iff.1 hsub)
    rw [Nat.zero_add] at *
    have hil := (List.getElem?_eq_some_iff.1 hfb).1
    have hff : D.files[i]? = some (D.files[i]'(by omega)) := List.getElem?_eq_getElem _
    generalize D.files[i]'(by omega) = f at hff
    refine ⟨_, hent _ (get_upd_of hI.has.choose_spec) (get_upd_ne _ hne), ?_⟩
    have hev5 : Ev (at1 (q, 0)) H' C' (upd H' it o2) C' := ev_upd hci _
    generalize upd H' it o2 = H5 at *
    let S : Lab → Prop := fun l => l = (k', 6 + 2 * i) ∨ l = (k', 7 + 2 * i)
    have S0 : ∀ x : Lab, x.1 = 0 → ¬ S x := by
      rintro x hx0 (e | e) <;> (rw [e] at hx0; exact hk' hx0)
    have Sk : ∀ j, ¬ S (k, j) := by
      rintro j (e | e) <;> exact hkk' (Prod.mk.inj e).1
    have Sq : ¬ S (q, 0) := by
      rintro (e | e) <;> exact hqk (Prod.mk.inj e).1
    have Sj : ∀ j, j ≠ 6 + 2 * i → j ≠ 7 + 2 * i → ¬ S (k', j) := by
      rintro j h1 h2 (e | e)
      · exact h1 (Prod.mk.inj e).2
      · exact h2 (Prod.mk.inj e).2
    have hx := hx.ev hev5 (at1_no0 hq) fun j _ => at1_o hkq.symm
    have hpo := hev5.get hpo (by rw [hcp]; exact at1_o hqk)
    have hon := hev5.get hon (by rw [hcn]; exact at1_o hqk)
    have hdone := hdone.ev hev5 (at1_no0 hq) fun j _ => ⟨at1_o hqk, at1_o hqk⟩
    have hE := hE.trans (hev5.mono fun _ => two_2)
    have hevA : Ev S H5 C' H5 C' := Ev.refl _ _ _
    have hFs := hx.files
    obtain ⟨qc, s, nw, r, cells, hf, hs, hnw, hrw, hch, hrl⟩ := hFs.2.2.2 i fb f hfb hff
    have hfok := hD.files f (List.mem_of_getElem? hff)
    have hsl := hs.len
    have hnl := hnw.len
    have hs20 := hfok.1.len0
    have hn20 := hfok.1.len1
    have hr20 := hfok.2
    have hf5 := hevA.get hf (by rw [qc]; exact Sk _)
    simp only [cellH_mk, cellO_some, add_mk, size_upd, upd_upd, one_int, one_bool, one_string, one_pointer, one_slice, one_map, one_func, st1_some, stN_nil, stN_cons, StV_mk, StO_some, Ld_some, RtI_mk, RtB_mk, RtS_mk, RtP_mk, RtL_mk, RtM_mk, RtA_mk, RtT_mk, NilC_some, New_eq, At_eq, Ck_true, Rt0_mk, BrB_true, BrB_false, Nat.zero_add, List.length_cons, List.length_nil, List.getElem?_cons_zero, List.getElem?_cons_succ, List.set_cons_zero, List.set_cons_succ, List.getD_cons_zero, List.getD_cons_succ, Option.isNone_some, Option.isNone_none, Go.Disk.fsO, Go.Disk.fileO, Bool.false_eq_true, eq_self, Nat.reduceAdd, Nat.reduceSub, Nat.reduceMul, Nat.reduceLT, Nat.reduceLeDiff, Nat.reduceEqDiff, Int.reduceNeg, Int.reduceEq, Int.reduceNe, Int.reduceBEq, Int.reduceBNe, Int.reduceLT, Int.reduceLE, Int.reduceGT, Int.reduceAdd, reduceIte, Bool.not_true, Bool.not_false, decide_true, decide_false, ne_eq, not_false_eq_true, not_true_eq_false, hf5]
    refine app_copyK (C := C') (lab := (0, 0)) und22 und22 (.inl ⟨_, rfl⟩) tyf5 (by rfl) (hs.ev hevA S0).src (by rw [byts_len, hsl]; omega) byts_one (by omega) (by omega) fun a6 c6 H6 C6 hs6 hev6 => ?_
    have hevA := hevA.trans (hev6.mono fun _ h => h.elim)
    have hf6 := hevA.get hf (by rw [qc]; exact Sk _)
    simp only [cellH_mk, cellO_some, add_mk, size_upd, upd_upd, one_int, one_bool, one_string, one_pointer, one_slice, one_map, one_func, st1_some, stN_nil, stN_cons, StV_mk, StO_some, Ld_some, RtI_mk, RtB_mk, RtS_mk, RtP_mk, RtL_mk, RtM_mk, RtA_mk, RtT_mk, NilC_some, New_eq, At_eq, Ck_true, Rt0_mk, BrB_true, BrB_false, Nat.zero_add, List.length_cons, List.length_nil, List.getElem?_cons_zero, List.getElem?_cons_succ, List.set_cons_zero, List.set_cons_succ, List.getD_cons_zero, List.getD_cons_succ, Option.isNone_some, Option.isNone_none, Go.Disk.fsO, Go.Disk.fileO, Bool.false_eq_true, eq_self, Nat.reduceAdd, Nat.reduceSub, Nat.reduceMul, Nat.reduceLT, Nat.reduceLeDiff, Nat.reduceEqDiff, Int.reduceNeg, Int.reduceEq, Int.reduceNe, Int.reduceBEq, Int.reduceBNe, Int.reduceLT, Int.reduceLE, Int.reduceGT, Int.reduceAdd, reduceIte, Bool.not_true, Bool.not_false, decide_true, decide_false, ne_eq, not_false_eq_true, not_true_eq_false, hf6]
    refine app_copyK (C := C6) (lab := (0, 0)) und22 und22 (.inl ⟨_, rfl⟩) tyf5 (by rfl) (hnw.ev hevA S0).src (by rw [byts_len, hnl]; omega) byts_one (by omega) (by omega) fun a7 c7 H7 C7 hn7 hev7 => ?_
    have hevA := hevA.trans (hev7.mono fun _ h => h.elim)
    have hs7 := (hs6.imm rfl).ev hev7 fun _ _ h => h
    have hn7 := hn7.imm rfl
    simp only [cellH_mk, cellO_some, add_mk, size_upd, upd_upd, one_int, one_bool, one_string, one_pointer, one_slice, one_map, one_func, st1_some, stN_nil, stN_cons, StV_mk, StO_some, Ld_some, RtI_mk, RtB_mk, RtS_mk, RtP_mk, RtL_mk, RtM_mk, RtA_mk, RtT_mk, NilC_some, New_eq, At_eq, Ck_true, Rt0_mk, BrB_true, BrB_false, Nat.zero_add, List.length_cons, List.length_nil, List.getElem?_cons_zero, List.getElem?_cons_succ, List.set_cons_zero, List.set_cons_succ, List.getD_cons_zero, List.getD_cons_succ, Option.isNone_some, Option.isNone_none, Go.Disk.fsO, Go.Disk.fileO, Bool.false_eq_true, eq_self, Nat.reduceAdd, Nat.reduceSub, Nat.reduceMul, Nat.reduceLT, Nat.reduceLeDiff, Nat.reduceEqDiff, Int.reduceNeg, Int.reduceEq, Int.reduceNe, Int.reduceBEq, Int.reduceBNe, Int.reduceLT, Int.reduceLE, Int.reduceGT, Int.reduceAdd, reduceIte, Bool.not_true, Bool.not_false, decide_true, decide_false, ne_eq, not_false_eq_true, not_true_eq_false]
    have hev8 : Ev S H7 C7 (H7.push (.cells ⟨[.slice a6 s.2.1 c6, .slice a7 nw.2.1 c7, .slice none 0 0]⟩ 82)) (setC C7 H7.size (k', 6 + 2 * i)) := ev_push _ _ _ _ _
    have hnb8 : (H7.push (.cells ⟨[.slice a6 s.2.1 c6, .slice a7 nw.2.1 c7, .slice none 0 0]⟩ 82))[H7.size]? = _ := get_push_self _ _
    have hc8 : setC C7 H7.size (k', 6 + 2 * i) H7.size = (k', 6 + 2 * i) := setC_self _ _ _
    have hs8 := hs7.ev hev8 S0
    have hn8 := hn7.ev hev8 S0
    have hevA := hevA.trans hev8
    generalize H7.push _ = H8 at *
    generalize setC C7 H7.size _ = C8 at *
    generalize H7.size = fnew at *
    have hf8 := hevA.get hf (by rw [qc]; exact Sk _)
    have hrw8 := hrw.ev hevA (Sk _)
    have hch8 := hch.ev hevA S0
    simp only [cellH_mk, cellO_some, add_mk, size_upd, upd_upd, one_int, one_bool, one_string, one_pointer, one_slice, one_map, one_func, st1_some, stN_nil, stN_cons, StV_mk, StO_some, Ld_some, RtI_mk, RtB_mk, RtS_mk, RtP_mk, RtL_mk, RtM_mk, RtA_mk, RtT_mk, NilC_some, New_eq, At_eq, Ck_true, Rt0_mk, BrB_true, BrB_false, Nat.zero_add, List.length_cons, List.length_nil, List.getElem?_cons_zero, List.getElem?_cons_succ, List.set_cons_zero, List.set_cons_succ, List.getD_cons_zero, List.getD_cons_succ, Option.isNone_some, Option.isNone_none, Go.Disk.fsO, Go.Disk.fileO, Bool.false_eq_true, eq_self, Nat.reduceAdd, Nat.reduceSub, Nat.reduceMul, Nat.reduceLT, Nat.reduceLeDiff, Nat.reduceEqDiff, Int.reduceNeg, Int.reduceEq, Int.reduceNe, Int.reduceBEq, Int.reduceBNe, Int.reduceLT, Int.reduceLE, Int.reduceGT, Int.reduceAdd, reduceIte, Bool.not_true, Bool.not_false, decide_true, decide_false, ne_eq, not_false_eq_true, not_true_eq_false, hnb8, hf8]
    refine app_copyK (C := C8) (lab := (k', 7 + 2 * i)) und80 und80 (.inl ⟨_, rfl⟩) tyf90 (by rfl) hrw8.src hrw8.1 hch8.one (by omega) (by omega) fun a9 c9 H9 C9 hr9 hev9 => ?_
    have hevA := hevA.trans (hev9.mono fun _ h => h.elim)
    have hnb9 := hev9.get hnb8 fun h => h
    have hc9 := (hev9.colOf hnb8).trans hc8
    have hs9 := hs8.ev hev9 fun _ _ h => h
    have hn9 := hn8.ev hev9 fun _ _ h => h
    have hch9 := hch8.ev hev9 fun _ _ h => h
    have hl9 := lt_of_get hnb9
    have hpo9 := hevA.get hpo (by rw [hcp]; exact Sj _ (by omega) (by omega))
    have hcpb9 := (hevA.colOf hpo).trans hcp
    have hfpb : fnew ≠ pb := fun e => by
      rw [e, hcpb9] at hc9
      have := (Prod.mk.inj hc9).2; omega
    simp only [cellH_mk, cellO_some, add_mk, size_upd, upd_upd, one_int, one_bool, one_string, one_pointer, one_slice, one_map, one_func, st1_some, stN_nil, stN_cons, StV_mk, StO_some, Ld_some, RtI_mk, RtB_mk, RtS_mk, RtP_mk, RtL_mk, RtM_mk, RtA_mk, RtT_mk, NilC_some, New_eq, At_eq, Ck_true, Rt0_mk, BrB_true, BrB_false, Nat.zero_add, List.length_cons, List.length_nil, List.getElem?_cons_zero, List.getElem?_cons_succ, List.set_cons_zero, List.set_cons_succ, List.getD_cons_zero, List.getD_cons_succ, Option.isNone_some, Option.isNone_none, Go.Disk.fsO, Go.Disk.fileO, Bool.false_eq_true, eq_self, Nat.reduceAdd, Nat.reduceSub, Nat.reduceMul, Nat.reduceLT, Nat.reduceLeDiff, Nat.reduceEqDiff, Int.reduceNeg, Int.reduceEq, Int.reduceNe, Int.reduceBEq, Int.reduceBNe, Int.reduceLT, Int.reduceLE, Int.reduceGT, Int.reduceAdd, reduceIte, Bool.not_true, Bool.not_false, decide_true, decide_false, ne_eq, not_false_eq_true, not_true_eq_false, hnb9, hl9, get_upd_ne _ hfpb, hpo9]
    have hev10 : Ev (at1 (k', 6 + 2 * i)) H9 C9 (upd H9 fnew (fileO (a6, s.2.1, c6) (a7, nw.2.1, c7) (a9, r.2.1, c9))) C9 := ev_upd hc9 _
    unfold fileO at hev10
    generalize hO10 : Obj.cells (⟨[.slice a6 s.2.1 c6, .slice a7 nw.2.1 c7, .slice a9 r.2.1 c9]⟩ : Array Value) 82 _ = o10 at *
    have hnb10 : (upd H9 fnew o10)[fnew]? = some o10 := get_upd_of hnb9
    have hevA := hevA.trans (hev10.mono fun _ h => .inl h)
    have hs10 := hs9.ev hev10 (at1_no0 hk')
    have hn10 := hn9.ev hev10 (at1_no0 hk')
    have hr10 := hr9.ev hev10 (at1_ne (by omega))
    have hch10 := hch9.ev hev10 (at1_no0 hk')
    generalize upd H9 fnew o10 = H10 at *
    have hF : FileAt H10 C9 k' i fnew f := ⟨hc9, (a6, s.2.1, c6), (a7, nw.2.1, c7), (a9, r.2.1, c9), cells, by rw [hnb10, ← hO10]; rfl, hs10, hn10, hr10, hch10, hrl⟩
    have hkeys : ((i : Int) + 1) ∉ kvs.map (·.1) := by
      have h1 : (kvs.map (·.1) ++ todo.map (·.1)).Nodup := hperm.nodup_iff.2 hnd
      rw [ht, List.nodup_append] at h1
      intro hm
      exact h1.2.2 _ hm _ (by simp) rfl
    have hd10 := hdone.ev hevA S0 fun j hj => by
      have : j ≠ i := fun e => hkeys (by rw [← e]; exact hj)
      exact ⟨Sj _ (by omega) (by omega), Sj _ (by omega) (by omega)⟩
    have hon10 := hevA.get hon (by rw [hcn]; exact Sj _ (by omega) (by omega))
    have hpo10 := hevA.get hpo (by rw [hcp]; exact Sj _ (by omega) (by omega))
    have hcn10 := (hevA.colOf hon).trans hcn
    have hcp10 := (hevA.colOf hpo).trans hcp
    refine mapUpdateK keyInt und69 und3 hon10 hmn ((i : Int) + 1) _ fun o11 ho11 => ?_
    rw [ins_new hkeys] at ho11
    obtain ⟨oi, hoi⟩ := hI2.has
    have hci5 : C' it = (q, 0) := hci
    have hoi10 := hevA.get hoi (by rw [hci]; exact Sq)
    have hci10 := (hevA.colOf hoi).trans hci
    have hof5 := hx.files.2.1
    have hmf5 := hx.files.1
    have hmf10 : H10[x.mf]? = H5[x.mf]? := by
      obtain ⟨o, _, ho, _⟩ := hof5
      rw [ho]; exact hevA.get ho (by rw [hmf5]; exact Sk _)
    have hmfn : nb ≠ x.mf := fun e => by
      rw [← e, hcn] at hmf5; exact hkk' (Prod.mk.inj hmf5).1.symm
    have hpnb : nb ≠ pb := hnpb
    have hI11 : IterAt (Value.int .i64) (upd H10 nb o11) it x.mf kvf (l1 ++ l2) := hI2.keep (by rw [get_upd_ne _ hnit, hoi10, hoi]) (by rw [get_upd_ne _ hmfn, hmf10])
    have hev11 : Ev (at1 (k', 1)) H10 C9 (upd H10 nb o11) C9 := ev_upd hcn10 _
    have hd11 := hd10.ev hev11 (at1_no0 hk') fun j _ => ⟨at1_ne (by omega), at1_ne (by omega)⟩
    have hF11 := hF.ev hev11 (at1_no0 hk') (at1_ne (by omega)) (at1_ne (by omega))
    refine ⟨⟨l1 ++ l2, _, fun j => if j = i then fnew else g j, C9, hI11, hci10, hcp10, hcn10, by rw [get_upd_ne _ hpnb]; exact hpo10, ⟨o11, get_upd_of hon10, ho11⟩, ?_, ?_, hE.trans ((hevA.mono fun l hl => .inl (by rcases hl with rfl | rfl <;> rfl)).trans (hev11.mono fun _ => two_1))⟩, ?_⟩
    · refine List.Perm.trans ?_ hperm
      rw [ht]
      simp only [List.map_append, List.map_cons, List.map_nil, List.append_assoc]
      refine List.Perm.append_left _ ?_
      rw [List.singleton_append]
      exact List.perm_middle.symm
    · intro a v hav
      rcases List.mem_append.1 hav with hm | hm
      · obtain ⟨j, f', rfl, rfl, hf', hF'⟩ := hd11 a v hm
        have hji : j ≠ i := fun e => hkeys (by rw [← e]; exact List.mem_map.2 ⟨_, hm, rfl⟩)
        exact ⟨j, f', rfl, by simp only [if_neg hji], hf', by simp only [if_neg hji]; exact hF'⟩
      · simp only [List.mem_singleton, Prod.mk.injEq] at hm
        obtain ⟨rfl, rfl⟩ := hm
        exact ⟨i, f, rfl, by simp only [if_true], hff, by simp only [if_true]; exact hF11⟩
    · show iterLeft _ _ < iterLeft _ _
      rw [hI11.left, hI.left, ht]
      simp
end Go.Proofs

namespace Go.Proofs
open Go Go.Fx Go.Disk
set_option linter.unusedVariables false
set_option maxRecDepth 20000
theorem newD_is (R : Nat) : (⟨R, [], [], [], [], 0, 0, false⟩ : Disk) = newDisk R := rfl
/-- Both disks, side by side. -/
structure Both (H : Heap) (C : Col) (k k' p q : Nat) (D : Disk) : Prop where
  f : IsFS H C k p D
  g : IsRef H C k' q D
  ok : DiskOk D
theorem Both.ev {S : Lab → Prop} {H H' : Heap} {C C' : Col} {k k' p q : Nat} {D : Disk} (h : Both H C k k' p q D) (he : Ev S H C H' C') (h0 : ∀ x, x.1 = 0 → ¬ S x) (hk : ∀ j, ¬ S (k, j)) (hk' : ∀ j, ¬ S (k', j)) : Both H' C' k k' p q D :=
  ⟨h.f.ev he h0 fun j _ => hk j, h.g.ev he h0 hk', h.ok⟩
theorem own_ne {k k' : Nat} (h : k ≠ k') : ∀ j, ¬ own k (k', j) := fun j e => h e.symm
theorem own_0 {k : Nat} (hk : k ≠ 0) : ∀ x : Lab, x.1 = 0 → ¬ own k x := fun x hx e => hk (by unfold own at e; omega)

theorem SimfsPlays_ok {H : Heap} {C : Col} {room : Int} {al : Option Addr} {ll cl : Nat} {os : List OpA} {K : Value → Heap → Prop}
    (ho : OpsI H C al ll cl os) (hl2 : ll < 2 ^ 60) (hK : ∀ H' C', Ev no H C H' C' → K (.bool true) H') :
    Fn 9 [.int .i64 room, .slice al ll cl] H K := by
  refine F9_ok _ _ _ _ ?_
  unfold F9
  have fin : ∀ {H2 : Heap} {C2 : Col}, Ev no H C H2 C2 → Fn 13 [] H2 (fun v H => RtB v fun b => K (.bool b) H) := fun he => works_ok fun H1 C1 hev => by
    simp only [cellH_mk, cellO_some, add_mk, size_upd, upd_upd, one_int, one_bool, one_string, one_pointer, one_slice, one_map, one_func, st1_some, stN_nil, stN_cons, StV_mk, StO_some, Ld_some, RtI_mk, RtB_mk, RtS_mk, RtP_mk, RtL_mk, RtM_mk, RtA_mk, RtT_mk, NilC_some, New_eq, At_eq, Ck_true, Rt0_mk, BrB_true, BrB_false, Nat.zero_add, List.length_cons, List.length_nil, List.getElem?_cons_zero, List.getElem?_cons_succ, List.set_cons_zero, List.set_cons_succ, List.getD_cons_zero, List.getD_cons_succ, Option.isNone_some, Option.isNone_none, Go.Disk.fsO, Go.Disk.fileO, Bool.false_eq_true, eq_self, Nat.reduceAdd, Nat.reduceSub, Nat.reduceMul, Nat.reduceLT, Nat.reduceLeDiff, Nat.reduceEqDiff, Int.reduceNeg, Int.reduceEq, Int.reduceNe, Int.reduceBEq, Int.reduceBNe, Int.reduceLT, Int.reduceLE, Int.reduceGT, Int.reduceAdd, reduceIte, Bool.not_true, Bool.not_false, decide_true, decide_false, ne_eq, not_false_eq_true, not_true_eq_false]
    exact hK H1 C1 (he.trans hev)
  by_cases hbad : room < 0 ∨ 1048576 < room
  · refine New_bad hbad ?_
    simp only [cellH_mk, cellO_some, add_mk, size_upd, upd_upd, one_int, one_bool, one_string, one_pointer, one_slice, one_map, one_func, st1_some, stN_nil, stN_cons, StV_mk, StO_some, Ld_some, RtI_mk, RtB_mk, RtS_mk, RtP_mk, RtL_mk, RtM_mk, RtA_mk, RtT_mk, NilC_some, New_eq, At_eq, Ck_true, Rt0_mk, BrB_true, BrB_false, Nat.zero_add, List.length_cons, List.length_nil, List.getElem?_cons_zero, List.getElem?_cons_succ, List.set_cons_zero, List.set_cons_succ, List.getD_cons_zero, List.getD_cons_succ, Option.isNone_some, Option.isNone_none, Go.Disk.fsO, Go.Disk.fileO, Bool.false_eq_true, eq_self, Nat.reduceAdd, Nat.reduceSub, Nat.reduceMul, Nat.reduceLT, Nat.reduceLeDiff, Nat.reduceEqDiff, Int.reduceNeg, Int.reduceEq, Int.reduceNe, Int.reduceBEq, Int.reduceBNe, Int.reduceLT, Int.reduceLE, Int.reduceGT, Int.reduceAdd, reduceIte, Bool.not_true, Bool.not_false, decide_true, decide_false, ne_eq, not_false_eq_true, not_true_eq_false]
    refine rNew_bad hbad ?_
    simp only [cellH_mk, cellO_some, add_mk, size_upd, upd_upd, one_int, one_bool, one_string, one_pointer, one_slice, one_map, one_func, st1_some, stN_nil, stN_cons, StV_mk, StO_some, Ld_some, RtI_mk, RtB_mk, RtS_mk, RtP_mk, RtL_mk, RtM_mk, RtA_mk, RtT_mk, NilC_some, New_eq, At_eq, Ck_true, Rt0_mk, BrB_true, BrB_false, Nat.zero_add, List.length_cons, List.length_nil, List.getElem?_cons_zero, List.getElem?_cons_succ, List.set_cons_zero, List.set_cons_succ, List.getD_cons_zero, List.getD_cons_succ, Option.isNone_some, Option.isNone_none, Go.Disk.fsO, Go.Disk.fileO, Bool.false_eq_true, eq_self, Nat.reduceAdd, Nat.reduceSub, Nat.reduceMul, Nat.reduceLT, Nat.reduceLeDiff, Nat.reduceEqDiff, Int.reduceNeg, Int.reduceEq, Int.reduceNe, Int.reduceBEq, Int.reduceBNe, Int.reduceLT, Int.reduceLE, Int.reduceGT, Int.reduceAdd, reduceIte, Bool.not_true, Bool.not_false, decide_true, decide_false, ne_eq, not_false_eq_true, not_true_eq_false]
    exact fin (C2 := C) (Ev.refl _ _ _)
  obtain ⟨R, rfl⟩ := Int.eq_ofNat_of_zero_le (show 0 ≤ room by omega)
  have hlo : ll = os.length := ho.choose_spec.2.2
  obtain ⟨k, hk, hfr⟩ := fresh_own C H.size
  obtain ⟨k', hk', hkk, hfr'⟩ := fresh_two C H.size k
  have hok0 := new_dok (room := R) (by omega)
  have two0 := two_no0 hk hk'
  have toF : ∀ {H1 C1 H2 C2}, Ev (own k) H1 C1 H2 C2 → Ev (two k k') H1 C1 H2 C2 := fun h => h.mono fun _ h => .inl h
  have toG : ∀ {H1 C1 H2 C2}, Ev (own k') H1 C1 H2 C2 → Ev (two k k') H1 C1 H2 C2 := fun h => h.mono fun _ h => .inr h
  have toN : ∀ {H1 C1 H2 C2}, Ev no H1 C1 H2 C2 → Ev (two k k') H1 C1 H2 C2 := fun h => h.mono fun _ h => h.elim
  refine New_ok (C := C) (k := k) (room := R) hk (by omega) fun p H1 C1 h1 hev1 => ?_
  simp only [cellH_mk, cellO_some, add_mk, size_upd, upd_upd, one_int, one_bool, one_string, one_pointer, one_slice, one_map, one_func, st1_some, stN_nil, stN_cons, StV_mk, StO_some, Ld_some, RtI_mk, RtB_mk, RtS_mk, RtP_mk, RtL_mk, RtM_mk, RtA_mk, RtT_mk, NilC_some, New_eq, At_eq, Ck_true, Rt0_mk, BrB_true, BrB_false, Nat.zero_add, List.length_cons, List.length_nil, List.getElem?_cons_zero, List.getElem?_cons_succ, List.set_cons_zero, List.set_cons_succ, List.getD_cons_zero, List.getD_cons_succ, Option.isNone_some, Option.isNone_none, Go.Disk.fsO, Go.Disk.fileO, Bool.false_eq_true, eq_self, Nat.reduceAdd, Nat.reduceSub, Nat.reduceMul, Nat.reduceLT, Nat.reduceLeDiff, Nat.reduceEqDiff, Int.reduceNeg, Int.reduceEq, Int.reduceNe, Int.reduceBEq, Int.reduceBNe, Int.reduceLT, Int.reduceLE, Int.reduceGT, Int.reduceAdd, reduceIte, Bool.not_true, Bool.not_false, decide_true, decide_false, ne_eq, not_false_eq_true, not_true_eq_false]
  refine rNew_ok (C := C1) (k := k') (room := R) (by omega) fun q H2 C2 g2 hev2 => ?_
  have h2 := h1.ev hev2 (fun _ _ h => h) fun _ _ h => h
  rw [newD_is] at g2
  have hev2n := hev1.trans hev2
  have hev2 := toN hev2n
  simp only [cellH_mk, cellO_some, add_mk, size_upd, upd_upd, one_int, one_bool, one_string, one_pointer, one_slice, one_map, one_func, st1_some, stN_nil, stN_cons, StV_mk, StO_some, Ld_some, RtI_mk, RtB_mk, RtS_mk, RtP_mk, RtL_mk, RtM_mk, RtA_mk, RtT_mk, NilC_some, New_eq, At_eq, Ck_true, Rt0_mk, BrB_true, BrB_false, Nat.zero_add, List.length_cons, List.length_nil, List.getElem?_cons_zero, List.getElem?_cons_succ, List.set_cons_zero, List.set_cons_succ, List.getD_cons_zero, List.getD_cons_succ, Option.isNone_some, Option.isNone_none, Go.Disk.fsO, Go.Disk.fileO, Bool.false_eq_true, eq_self, Nat.reduceAdd, Nat.reduceSub, Nat.reduceMul, Nat.reduceLT, Nat.reduceLeDiff, Nat.reduceEqDiff, Int.reduceNeg, Int.reduceEq, Int.reduceNe, Int.reduceBEq, Int.reduceBNe, Int.reduceLT, Int.reduceLE, Int.reduceGT, Int.reduceAdd, reduceIte, Bool.not_true, Bool.not_false, decide_true, decide_false, ne_eq, not_false_eq_true, not_true_eq_false]
  refine great_ok (ho.ev hev2 two0) hl2 fun g hg => ?_
  simp only [cellH_mk, cellO_some, add_mk, size_upd, upd_upd, one_int, one_bool, one_string, one_pointer, one_slice, one_map, one_func, st1_some, stN_nil, stN_cons, StV_mk, StO_some, Ld_some, RtI_mk, RtB_mk, RtS_mk, RtP_mk, RtL_mk, RtM_mk, RtA_mk, RtT_mk, NilC_some, New_eq, At_eq, Ck_true, Rt0_mk, BrB_true, BrB_false, Nat.zero_add, List.length_cons, List.length_nil, List.getElem?_cons_zero, List.getElem?_cons_succ, List.set_cons_zero, List.set_cons_succ, List.getD_cons_zero, List.getD_cons_succ, Option.isNone_some, Option.isNone_none, Go.Disk.fsO, Go.Disk.fileO, Bool.false_eq_true, eq_self, Nat.reduceAdd, Nat.reduceSub, Nat.reduceMul, Nat.reduceLT, Nat.reduceLeDiff, Nat.reduceEqDiff, Int.reduceNeg, Int.reduceEq, Int.reduceNe, Int.reduceBEq, Int.reduceBNe, Int.reduceLT, Int.reduceLE, Int.reduceGT, Int.reduceAdd, reduceIte, Bool.not_true, Bool.not_false, decide_true, decide_false, ne_eq, not_false_eq_true, not_true_eq_false]
  refine BrB_i (fun h => fin hev2n) (fun hgf => ?_)
  obtain ⟨hlen, hbig⟩ := hg hgf
  refine ⟨fun i H' => ∃ C' D, ∃ m : Nat, i = (m : Int) ∧ m ≤ ll ∧ Both H' C' k k' p q D ∧ D.acts ≤ m ∧ Ev (two k k') H C H' C', fun i _ => ll - i.toNat, ⟨C2, newDisk R, 0, rfl, by omega, ⟨h2, g2, hok0⟩, by show (0 : Nat) ≤ _; omega, hev2⟩, ?_⟩
  rintro fr i H6 ⟨C6, D, m, rfl, hm, hB, hac, hev6⟩
  simp only [cellH_mk, cellO_some, add_mk, size_upd, upd_upd, one_int, one_bool, one_string, one_pointer, one_slice, one_map, one_func, st1_some, stN_nil, stN_cons, StV_mk, StO_some, Ld_some, RtI_mk, RtB_mk, RtS_mk, RtP_mk, RtL_mk, RtM_mk, RtA_mk, RtT_mk, NilC_some, New_eq, At_eq, Ck_true, Rt0_mk, BrB_true, BrB_false, Nat.zero_add, List.length_cons, List.length_nil, List.getElem?_cons_zero, List.getElem?_cons_succ, List.set_cons_zero, List.set_cons_succ, List.getD_cons_zero, List.getD_cons_succ, Option.isNone_some, Option.isNone_none, Go.Disk.fsO, Go.Disk.fileO, Bool.false_eq_true, eq_self, Nat.reduceAdd, Nat.reduceSub, Nat.reduceMul, Nat.reduceLT, Nat.reduceLeDiff, Nat.reduceEqDiff, Int.reduceNeg, Int.reduceEq, Int.reduceNe, Int.reduceBEq, Int.reduceBNe, Int.reduceLT, Int.reduceLE, Int.reduceGT, Int.reduceAdd, reduceIte, Bool.not_true, Bool.not_false, decide_true, decide_false, ne_eq, not_false_eq_true, not_true_eq_false]
  have ho6 := ho.ev hev6 two0
  refine BrB_i (fun hlt => ?_) (fun hlt => ?_)
  · have hlt := of_decide_eq_true hlt
    have hom : os[m]? = some (os[m]'(by omega)) := List.getElem?_eq_getElem _
    generalize os[m]'(by omega) = o at hom
    refine SlI.opRowK ho6 hom fun e s hs hok he => ?_
    have he0 := he no H6 C6 (Ev.refl _ _ _) fun _ _ h => h
    unfold opCells at he0
    simp only [cellH_mk, cellO_some, add_mk, size_upd, upd_upd, one_int, one_bool, one_string, one_pointer, one_slice, one_map, one_func, st1_some, stN_nil, stN_cons, StV_mk, StO_some, Ld_some, RtI_mk, RtB_mk, RtS_mk, RtP_mk, RtL_mk, RtM_mk, RtA_mk, RtT_mk, NilC_some, New_eq, At_eq, Ck_true, Rt0_mk, BrB_true, BrB_false, Nat.zero_add, List.length_cons, List.length_nil, List.getElem?_cons_zero, List.getElem?_cons_succ, List.set_cons_zero, List.set_cons_succ, List.getD_cons_zero, List.getD_cons_succ, Option.isNone_some, Option.isNone_none, Go.Disk.fsO, Go.Disk.fileO, Bool.false_eq_true, eq_self, Nat.reduceAdd, Nat.reduceSub, Nat.reduceMul, Nat.reduceLT, Nat.reduceLeDiff, Nat.reduceEqDiff, Int.reduceNeg, Int.reduceEq, Int.reduceNe, Int.reduceBEq, Int.reduceBNe, Int.reduceLT, Int.reduceLE, Int.reduceGT, Int.reduceAdd, reduceIte, Bool.not_true, Bool.not_false, decide_true, decide_false, ne_eq, not_false_eq_true, not_true_eq_false, he0]
    refine SlI.opRowK ho6 hom fun e2 s2 hs2 hok2 he2 => ?_
    have he20 := he2 no H6 C6 (Ev.refl _ _ _) fun _ _ h => h
    unfold opCells at he20
    simp only [cellH_mk, cellO_some, add_mk, size_upd, upd_upd, one_int, one_bool, one_string, one_pointer, one_slice, one_map, one_func, st1_some, stN_nil, stN_cons, StV_mk, StO_some, Ld_some, RtI_mk, RtB_mk, RtS_mk, RtP_mk, RtL_mk, RtM_mk, RtA_mk, RtT_mk, NilC_some, New_eq, At_eq, Ck_true, Rt0_mk, BrB_true, BrB_false, Nat.zero_add, List.length_cons, List.length_nil, List.getElem?_cons_zero, List.getElem?_cons_succ, List.set_cons_zero, List.set_cons_succ, List.getD_cons_zero, List.getD_cons_succ, Option.isNone_some, Option.isNone_none, Go.Disk.fsO, Go.Disk.fileO, Bool.false_eq_true, eq_self, Nat.reduceAdd, Nat.reduceSub, Nat.reduceMul, Nat.reduceLT, Nat.reduceLeDiff, Nat.reduceEqDiff, Int.reduceNeg, Int.reduceEq, Int.reduceNe, Int.reduceBEq, Int.reduceBNe, Int.reduceLT, Int.reduceLE, Int.reduceGT, Int.reduceAdd, reduceIte, Bool.not_true, Bool.not_false, decide_true, decide_false, ne_eq, not_false_eq_true, not_true_eq_false, he20]
    have hgd := dDo_good hok hB.ok
    refine do_ok (o := o) (s := s) hk hB.f hB.ok (by omega) hs hok fun H7 C7 h7 hev7 => ?_
    have g7 := hB.g.ev hev7 (own_0 hk) (own_ne hkk.symm)
    have he27 := he2 _ H7 C7 hev7 (own_0 hk)
    have hs27 := hs2.ev hev7 (own_0 hk)
    have hev7 := hev6.trans (toF hev7)
    unfold opCells at he27
    simp only [cellH_mk, cellO_some, add_mk, size_upd, upd_upd, one_int, one_bool, one_string, one_pointer, one_slice, one_map, one_func, st1_some, stN_nil, stN_cons, StV_mk, StO_some, Ld_some, RtI_mk, RtB_mk, RtS_mk, RtP_mk, RtL_mk, RtM_mk, RtA_mk, RtT_mk, NilC_some, New_eq, At_eq, Ck_true, Rt0_mk, BrB_true, BrB_false, Nat.zero_add, List.length_cons, List.length_nil, List.getElem?_cons_zero, List.getElem?_cons_succ, List.set_cons_zero, List.set_cons_succ, List.getD_cons_zero, List.getD_cons_succ, Option.isNone_some, Option.isNone_none, Go.Disk.fsO, Go.Disk.fileO, Bool.false_eq_true, eq_self, Nat.reduceAdd, Nat.reduceSub, Nat.reduceMul, Nat.reduceLT, Nat.reduceLeDiff, Nat.reduceEqDiff, Int.reduceNeg, Int.reduceEq, Int.reduceNe, Int.reduceBEq, Int.reduceBNe, Int.reduceLT, Int.reduceLE, Int.reduceGT, Int.reduceAdd, reduceIte, Bool.not_true, Bool.not_false, decide_true, decide_false, ne_eq, not_false_eq_true, not_true_eq_false, he27]
    refine did_ok (o := o) (s := s2) hk' g7 hB.ok (by omega) hs27 hok fun H8 C8 g8 hev8 => ?_
    have h8 := h7.ev hev8 (own_0 hk') fun j _ => own_ne hkk j
    have hev8 := hev7.trans (toG hev8)
    simp only [cellH_mk, cellO_some, add_mk, size_upd, upd_upd, one_int, one_bool, one_string, one_pointer, one_slice, one_map, one_func, st1_some, stN_nil, stN_cons, StV_mk, StO_some, Ld_some, RtI_mk, RtB_mk, RtS_mk, RtP_mk, RtL_mk, RtM_mk, RtA_mk, RtT_mk, NilC_some, New_eq, At_eq, Ck_true, Rt0_mk, BrB_true, BrB_false, Nat.zero_add, List.length_cons, List.length_nil, List.getElem?_cons_zero, List.getElem?_cons_succ, List.set_cons_zero, List.set_cons_succ, List.getD_cons_zero, List.getD_cons_succ, Option.isNone_some, Option.isNone_none, Go.Disk.fsO, Go.Disk.fileO, Bool.false_eq_true, eq_self, Nat.reduceAdd, Nat.reduceSub, Nat.reduceMul, Nat.reduceLT, Nat.reduceLeDiff, Nat.reduceEqDiff, Int.reduceNeg, Int.reduceEq, Int.reduceNe, Int.reduceBEq, Int.reduceBNe, Int.reduceLT, Int.reduceLE, Int.reduceGT, Int.reduceAdd, reduceIte, Bool.not_true, Bool.not_false, decide_true, decide_false, ne_eq, not_false_eq_true, not_true_eq_false]
    refine BrB_i (fun h => by simp at h) (fun _ => ?_)
    refine SlI.opRowK (ho.ev hev8 two0) hom fun e3 s3 hs3 hok3 he3 => ?_
    have he30 := he3 no H8 C8 (Ev.refl _ _ _) fun _ _ h => h
    unfold opCells at he30
    simp only [cellH_mk, cellO_some, add_mk, size_upd, upd_upd, one_int, one_bool, one_string, one_pointer, one_slice, one_map, one_func, st1_some, stN_nil, stN_cons, StV_mk, StO_some, Ld_some, RtI_mk, RtB_mk, RtS_mk, RtP_mk, RtL_mk, RtM_mk, RtA_mk, RtT_mk, NilC_some, New_eq, At_eq, Ck_true, Rt0_mk, BrB_true, BrB_false, Nat.zero_add, List.length_cons, List.length_nil, List.getElem?_cons_zero, List.getElem?_cons_succ, List.set_cons_zero, List.set_cons_succ, List.getD_cons_zero, List.getD_cons_succ, Option.isNone_some, Option.isNone_none, Go.Disk.fsO, Go.Disk.fileO, Bool.false_eq_true, eq_self, Nat.reduceAdd, Nat.reduceSub, Nat.reduceMul, Nat.reduceLT, Nat.reduceLeDiff, Nat.reduceEqDiff, Int.reduceNeg, Int.reduceEq, Int.reduceNe, Int.reduceBEq, Int.reduceBNe, Int.reduceLT, Int.reduceLE, Int.reduceGT, Int.reduceAdd, reduceIte, Bool.not_true, Bool.not_false, decide_true, decide_false, ne_eq, not_false_eq_true, not_true_eq_false, he30]
    refine alike_ok (o := o) (s := s3) h8 g8 hgd.1 (by have := hgd.2.1; omega) hok.off fun H9 C9 hev9 => ?_
    have hB9 : Both H9 C9 k k' p q (dDo o D).2 := (Both.mk h8 g8 hgd.1).ev hev9 (fun _ _ h => h) (fun _ h => h) fun _ h => h
    have hev9 := hev8.trans (toN hev9)
    simp only [cellH_mk, cellO_some, add_mk, size_upd, upd_upd, one_int, one_bool, one_string, one_pointer, one_slice, one_map, one_func, st1_some, stN_nil, stN_cons, StV_mk, StO_some, Ld_some, RtI_mk, RtB_mk, RtS_mk, RtP_mk, RtL_mk, RtM_mk, RtA_mk, RtT_mk, NilC_some, New_eq, At_eq, Ck_true, Rt0_mk, BrB_true, BrB_false, Nat.zero_add, List.length_cons, List.length_nil, List.getElem?_cons_zero, List.getElem?_cons_succ, List.set_cons_zero, List.set_cons_succ, List.getD_cons_zero, List.getD_cons_succ, Option.isNone_some, Option.isNone_none, Go.Disk.fsO, Go.Disk.fileO, Bool.false_eq_true, eq_self, Nat.reduceAdd, Nat.reduceSub, Nat.reduceMul, Nat.reduceLT, Nat.reduceLeDiff, Nat.reduceEqDiff, Int.reduceNeg, Int.reduceEq, Int.reduceNe, Int.reduceBEq, Int.reduceBNe, Int.reduceLT, Int.reduceLE, Int.reduceGT, Int.reduceAdd, reduceIte, Bool.not_true, Bool.not_false, decide_true, decide_false, ne_eq, not_false_eq_true, not_true_eq_false]
    rw [w64 (by omega) (by omega)]
    refine ⟨⟨C9, _, m + 1, by omega, by omega, hB9, by have := hgd.2.1; omega, hev9⟩, ?_⟩
    show ll - ((m : Int) + 1).toNat < ll - ((m : Nat) : Int).toNat
    omega
  · exact fin (hev6.none fun b hb hS => by
      rcases hS with e | e
      · exact hfr b hb e
      · exact hfr' b hb e)
end Go.Proofs

namespace Go.Proofs
open Go Go.Fx Go.Disk
set_option linter.unusedVariables false
set_option maxRecDepth 20000

theorem rCopy_ok {H : Heap} {C : Col} {k k' p : Nat} {D : Disk} {K : Value → Heap → Prop} (hk' : k' ≠ 0) (hfr : ∀ b, b < H.size → (C b).1 ≠ k') (h : IsRef H C k p D) (hD : DiskOk D) (ha : D.acts < 2 ^ 39)
    (hK : ∀ p' H' C', IsRef H' C' k' p' D → Ev no H C H' C' → K (.pointer (some ⟨p', 0, none⟩)) H') :
    Fn 44 [.pointer (some ⟨p, 0, none⟩)] H K := by
  obtain ⟨x, rfl, h⟩ := h
  refine F44_ok _ ?_
  unfold F44
  have hkk' : k ≠ k' := by have := hfr x.p (lt_of_get h.hp); rw [h.cp] at this; exact this
  have hnone : ∀ {H' : Heap} {C' : Col}, Ev (own k') H C H' C' → Ev no H C H' C' := fun he => he.none fun b hb hS => hfr b hb hS
  have own0 := own_0 hk'
  have ownk : ∀ j, ¬ own k' (k, j) := own_ne hkk'.symm
  have hp := h.hp
  rw [refX] at hp
  simp only [cellH_mk, cellO_some, add_mk, size_upd, upd_upd, one_int, one_bool, one_string, one_pointer, one_slice, one_map, one_func, st1_some, stN_nil, stN_cons, StV_mk, StO_some, Ld_some, RtI_mk, RtB_mk, RtS_mk, RtP_mk, RtL_mk, RtM_mk, RtA_mk, RtT_mk, NilC_some, New_eq, At_eq, Ck_true, Rt0_mk, BrB_true, BrB_false, Nat.zero_add, List.length_cons, List.length_nil, List.getElem?_cons_zero, List.getElem?_cons_succ, List.set_cons_zero, List.set_cons_succ, List.getD_cons_zero, List.getD_cons_succ, Option.isNone_some, Option.isNone_none, Go.Disk.fsO, Go.Disk.fileO, Bool.false_eq_true, eq_self, Nat.reduceAdd, Nat.reduceSub, Nat.reduceMul, Nat.reduceLT, Nat.reduceLeDiff, Nat.reduceEqDiff, Int.reduceNeg, Int.reduceEq, Int.reduceNe, Int.reduceBEq, Int.reduceBNe, Int.reduceLT, Int.reduceLE, Int.reduceGT, Int.reduceAdd, reduceIte, Bool.not_true, Bool.not_false, decide_true, decide_false, ne_eq, not_false_eq_true, not_true_eq_false, hp, NewN_eq]
  have hev1 : Ev (own k') H C (H.push (.cells ⟨[.int .i64 (D.room : Int), .slice none 0 0, .slice x.sure.1 x.sure.2.1 x.sure.2.2, .slice none 0 0, .slice x.seen.1 x.seen.2.1 x.seen.2.2, .int .i64 (D.acts : Int), .int .i64 (D.fuse : Int), .bool D.dead]⟩ 102)) (setC C H.size (k', 0)) := ev_push _ _ _ _ _
  have hpo1 : (H.push (.cells ⟨[.int .i64 (D.room : Int), .slice none 0 0, .slice x.sure.1 x.sure.2.1 x.sure.2.2, .slice none 0 0, .slice x.seen.1 x.seen.2.1 x.seen.2.2, .int .i64 (D.acts : Int), .int .i64 (D.fuse : Int), .bool D.dead]⟩ 102))[H.size]? = _ := get_push_self _ _
  have hcp1 : setC C H.size (k', 0) H.size = (k', 0) := setC_self _ _ _
  generalize H.push _ = H1 at *
  generalize setC C H.size (k', 0) = C1 at *
  generalize H.size = pb at *
  have h1 := h.ev hev1 own0 ownk
  have hp1 := h1.hp
  rw [refX] at hp1
  simp only [cellH_mk, cellO_some, add_mk, size_upd, upd_upd, one_int, one_bool, one_string, one_pointer, one_slice, one_map, one_func, st1_some, stN_nil, stN_cons, StV_mk, StO_some, Ld_some, RtI_mk, RtB_mk, RtS_mk, RtP_mk, RtL_mk, RtM_mk, RtA_mk, RtT_mk, NilC_some, New_eq, At_eq, Ck_true, Rt0_mk, BrB_true, BrB_false, Nat.zero_add, List.length_cons, List.length_nil, List.getElem?_cons_zero, List.getElem?_cons_succ, List.set_cons_zero, List.set_cons_succ, List.getD_cons_zero, List.getD_cons_succ, Option.isNone_some, Option.isNone_none, Go.Disk.fsO, Go.Disk.fileO, Bool.false_eq_true, eq_self, Nat.reduceAdd, Nat.reduceSub, Nat.reduceMul, Nat.reduceLT, Nat.reduceLeDiff, Nat.reduceEqDiff, Int.reduceNeg, Int.reduceEq, Int.reduceNe, Int.reduceBEq, Int.reduceBNe, Int.reduceLT, Int.reduceLE, Int.reduceGT, Int.reduceAdd, reduceIte, Bool.not_true, Bool.not_false, decide_true, decide_false, ne_eq, not_false_eq_true, not_true_eq_false, hpo1, hp1]
  have hrl := hD.row
  have hfl := hD.nfiles
  obtain ⟨rc, r1, r2, r3⟩ := h1.row
  have hdl := dirsOf_len D.row D.sure
  refine app_copyK (C := C1) (lab := (k', 2)) und100 und100 (.inl ⟨_, rfl⟩) tyf99 (by rfl) r1.src r1.1 r2.one (by omega) (by omega) fun a2 c2 H2 C2 hr2 hev2 => ?_
  have hpo2 := hev2.get hpo1 fun h => h
  have hcp2 := (hev2.colOf hpo1).trans hcp1
  have hl2 := lt_of_get hpo2
  have r22 := RRow.ev hev2 (fun _ _ h => h) r2
  simp only [cellH_mk, cellO_some, add_mk, size_upd, upd_upd, one_int, one_bool, one_string, one_pointer, one_slice, one_map, one_func, st1_some, stN_nil, stN_cons, StV_mk, StO_some, Ld_some, RtI_mk, RtB_mk, RtS_mk, RtP_mk, RtL_mk, RtM_mk, RtA_mk, RtT_mk, NilC_some, New_eq, At_eq, Ck_true, Rt0_mk, BrB_true, BrB_false, Nat.zero_add, List.length_cons, List.length_nil, List.getElem?_cons_zero, List.getElem?_cons_succ, List.set_cons_zero, List.set_cons_succ, List.getD_cons_zero, List.getD_cons_succ, Option.isNone_some, Option.isNone_none, Go.Disk.fsO, Go.Disk.fileO, Bool.false_eq_true, eq_self, Nat.reduceAdd, Nat.reduceSub, Nat.reduceMul, Nat.reduceLT, Nat.reduceLeDiff, Nat.reduceEqDiff, Int.reduceNeg, Int.reduceEq, Int.reduceNe, Int.reduceBEq, Int.reduceBNe, Int.reduceLT, Int.reduceLE, Int.reduceGT, Int.reduceAdd, reduceIte, Bool.not_true, Bool.not_false, decide_true, decide_false, ne_eq, not_false_eq_true, not_true_eq_false, hpo2]
  have hev3 : Ev (at1 (k', 0)) H2 C2 (upd H2 pb (.cells ⟨[.int .i64 (D.room : Int), .slice none 0 0, .slice x.sure.1 x.sure.2.1 x.sure.2.2, .slice a2 x.row.2.1 c2, .slice x.seen.1 x.seen.2.1 x.seen.2.2, .int .i64 (D.acts : Int), .int .i64 (D.fuse : Int), .bool D.dead]⟩ 102)) C2 := ev_upd hcp2 _
  have hpo3 : (upd H2 pb (.cells ⟨[.int .i64 (D.room : Int), .slice none 0 0, .slice x.sure.1 x.sure.2.1 x.sure.2.2, .slice a2 x.row.2.1 c2, .slice x.seen.1 x.seen.2.1 x.seen.2.2, .int .i64 (D.acts : Int), .int .i64 (D.fuse : Int), .bool D.dead]⟩ 102))[pb]? = _ := get_upd_of hpo2
  have hr3 := hr2.ev hev3 (at1_ne (by omega))
  have r23 := RRow.ev hev3 (at1_no0 hk') r22
  have hev13 : Ev (own k') H C _ _ := hev1.trans ((hev2.mono fun _ h => h.elim).trans (hev3.mono fun _ => own_of_at1))
  generalize upd H2 pb _ = H3 at *
  have hrow3 : RRowAt H3 C2 k' (a2, x.row.2.1, c2) (dirsOf D.sure D.row) := ⟨rc, hr3, r23, r3⟩
  clear r1 r2 hr2 r22 hr3 r23
  obtain ⟨_, _, _, hfn⟩ := id h.files
  refine ⟨fun i H' => ∃ C', ∃ m : Nat, ∃ fs : SlV, i = (m : Int) ∧ m ≤ D.files.length ∧ C' pb = (k', 0) ∧
      H'[pb]? = some (.cells ⟨[.int .i64 (D.room : Int), .slice fs.1 fs.2.1 fs.2.2, .slice x.sure.1 x.sure.2.1 x.sure.2.2, .slice a2 x.row.2.1 c2, .slice x.seen.1 x.seen.2.1 x.seen.2.2, .int .i64 (D.acts : Int), .int .i64 (D.fuse : Int), .bool D.dead]⟩ 102 (0, 0)) ∧
      RFilesAt H' C' k' fs (D.files.take m) ∧ RRowAt H' C' k' (a2, x.row.2.1, c2) (dirsOf D.sure D.row) ∧ Ev (own k') H C H' C', fun i _ => D.files.length - i.toNat, ⟨C2, 0, (none, 0, 0), rfl, by omega, hcp2, hpo3, ⟨[], SlO.nil _ _ _ _ _, rfl, rfl⟩, hrow3, hev13⟩, ?_⟩
  rintro fr i H4 ⟨C4, m, fs, rfl, hm, hcp4, hpo4, ⟨fcs, q1, q2, q3⟩, hrow4, hev4⟩
  have h4 := h.ev hev4 own0 ownk
  have hp4 := h4.hp
  rw [refX] at hp4
  simp only [cellH_mk, cellO_some, add_mk, size_upd, upd_upd, one_int, one_bool, one_string, one_pointer, one_slice, one_map, one_func, st1_some, stN_nil, stN_cons, StV_mk, StO_some, Ld_some, RtI_mk, RtB_mk, RtS_mk, RtP_mk, RtL_mk, RtM_mk, RtA_mk, RtT_mk, NilC_some, New_eq, At_eq, Ck_true, Rt0_mk, BrB_true, BrB_false, Nat.zero_add, List.length_cons, List.length_nil, List.getElem?_cons_zero, List.getElem?_cons_succ, List.set_cons_zero, List.set_cons_succ, List.getD_cons_zero, List.getD_cons_succ, Option.isNone_some, Option.isNone_none, Go.Disk.fsO, Go.Disk.fileO, Bool.false_eq_true, eq_self, Nat.reduceAdd, Nat.reduceSub, Nat.reduceMul, Nat.reduceLT, Nat.reduceLeDiff, Nat.reduceEqDiff, Int.reduceNeg, Int.reduceEq, Int.reduceNe, Int.reduceBEq, Int.reduceBNe, Int.reduceLT, Int.reduceLE, Int.reduceGT, Int.reduceAdd, reduceIte, Bool.not_true, Bool.not_false, decide_true, decide_false, ne_eq, not_false_eq_true, not_true_eq_false, hp4]
  refine BrB_i (fun hlt => ?_) (fun hlt => ?_)
  · have hlt := of_decide_eq_true hlt
    have hml : m < D.files.length := by omega
    have hfm : D.files[m]? = some (D.files[m]'(by omega)) := List.getElem?_eq_getElem _
    generalize D.files[m]'(by omega) = f at hfm
    have hfok := hD.files f (List.mem_of_getElem? hfm)
    simp only [cellH_mk, cellO_some, add_mk, size_upd, upd_upd, one_int, one_bool, one_string, one_pointer, one_slice, one_map, one_func, st1_some, stN_nil, stN_cons, StV_mk, StO_some, Ld_some, RtI_mk, RtB_mk, RtS_mk, RtP_mk, RtL_mk, RtM_mk, RtA_mk, RtT_mk, NilC_some, New_eq, At_eq, Ck_true, Rt0_mk, BrB_true, BrB_false, Nat.zero_add, List.length_cons, List.length_nil, List.getElem?_cons_zero, List.getElem?_cons_succ, List.set_cons_zero, List.set_cons_succ, List.getD_cons_zero, List.getD_cons_succ, Option.isNone_some, Option.isNone_none, Go.Disk.fsO, Go.Disk.fileO, Bool.false_eq_true, eq_self, Nat.reduceAdd, Nat.reduceSub, Nat.reduceMul, Nat.reduceLT, Nat.reduceLeDiff, Nat.reduceEqDiff, Int.reduceNeg, Int.reduceEq, Int.reduceNe, Int.reduceBEq, Int.reduceBNe, Int.reduceLT, Int.reduceLE, Int.reduceGT, Int.reduceAdd, reduceIte, Bool.not_true, Bool.not_false, decide_true, decide_false, ne_eq, not_false_eq_true, not_true_eq_false, hp4]
    have htl : (D.files.take m).length = m := by rw [List.length_take]; omega
    refine h4.files.file hfm fun fb fo hfb => ?_
    obtain ⟨cs, t, fz, s, r, rc2, z1, z2, z3, z4, z5, z6, z7⟩ := hfb
    have hr20 := hfok.2
    simp only [cellH_mk, cellO_some, add_mk, size_upd, upd_upd, one_int, one_bool, one_string, one_pointer, one_slice, one_map, one_func, st1_some, stN_nil, stN_cons, StV_mk, StO_some, Ld_some, RtI_mk, RtB_mk, RtS_mk, RtP_mk, RtL_mk, RtM_mk, RtA_mk, RtT_mk, NilC_some, New_eq, At_eq, Ck_true, Rt0_mk, BrB_true, BrB_false, Nat.zero_add, List.length_cons, List.length_nil, List.getElem?_cons_zero, List.getElem?_cons_succ, List.set_cons_zero, List.set_cons_succ, List.getD_cons_zero, List.getD_cons_succ, Option.isNone_some, Option.isNone_none, Go.Disk.fsO, Go.Disk.fileO, Bool.false_eq_true, eq_self, Nat.reduceAdd, Nat.reduceSub, Nat.reduceMul, Nat.reduceLT, Nat.reduceLeDiff, Nat.reduceEqDiff, Int.reduceNeg, Int.reduceEq, Int.reduceNe, Int.reduceBEq, Int.reduceBNe, Int.reduceLT, Int.reduceLE, Int.reduceGT, Int.reduceAdd, reduceIte, Bool.not_true, Bool.not_false, decide_true, decide_false, ne_eq, not_false_eq_true, not_true_eq_false, z1, z3]
    refine app_copyK (C := C4) (lab := (k', 4 + m)) und108 und108 (.inl ⟨_, rfl⟩) tyf115 (by rfl) z5.src z5.1 z6.one (by omega) (by omega) fun a5 c5 H5 C5 hr5 hev5 => ?_
    have hpo5 := hev5.get hpo4 fun h => h
    have hcp5 := (hev5.colOf hpo4).trans hcp4
    have q15 := q1.ev hev5 fun h => h
    have q25 := RFiles.ev hev5 (fun _ _ h => h) (fun _ _ _ h => h) q2
    have hrow5 := hrow4.ev hev5 (fun _ _ h => h) fun h => h
    have h5 := h4.ev hev5 (fun _ _ h => h) fun _ h => h
    have z65 := z6.ev hev5 fun _ _ h => h
    have hev5 : Ev (own k') H C H5 C5 := hev4.trans (hev5.mono fun _ h => h.elim)
    have hp5 := h5.hp
    rw [refX] at hp5
    simp only [cellH_mk, cellO_some, add_mk, size_upd, upd_upd, one_int, one_bool, one_string, one_pointer, one_slice, one_map, one_func, st1_some, stN_nil, stN_cons, StV_mk, StO_some, Ld_some, RtI_mk, RtB_mk, RtS_mk, RtP_mk, RtL_mk, RtM_mk, RtA_mk, RtT_mk, NilC_some, New_eq, At_eq, Ck_true, Rt0_mk, BrB_true, BrB_false, Nat.zero_add, List.length_cons, List.length_nil, List.getElem?_cons_zero, List.getElem?_cons_succ, List.set_cons_zero, List.set_cons_succ, List.getD_cons_zero, List.getD_cons_succ, Option.isNone_some, Option.isNone_none, Go.Disk.fsO, Go.Disk.fileO, Bool.false_eq_true, eq_self, Nat.reduceAdd, Nat.reduceSub, Nat.reduceMul, Nat.reduceLT, Nat.reduceLeDiff, Nat.reduceEqDiff, Int.reduceNeg, Int.reduceEq, Int.reduceNe, Int.reduceBEq, Int.reduceBNe, Int.reduceLT, Int.reduceLE, Int.reduceGT, Int.reduceAdd, reduceIte, Bool.not_true, Bool.not_false, decide_true, decide_false, ne_eq, not_false_eq_true, not_true_eq_false, hpo5, hp5]
    refine h5.files.file hfm fun fb2 fo2 hfb2 => ?_
    obtain ⟨cs2, t2, fz2, s2, r2, rc3, y1, y2, y3, y4, y5, y6, y7⟩ := hfb2
    have e0 : Addr.add ⟨fb2, fo2, none⟩ 0 = ⟨fb2, fo2, none⟩ := by rw [add_mk, Nat.add_zero]
    simp only [cellH_mk, cellO_some, add_mk, size_upd, upd_upd, one_int, one_bool, one_string, one_pointer, one_slice, one_map, one_func, st1_some, stN_nil, stN_cons, StV_mk, StO_some, Ld_some, RtI_mk, RtB_mk, RtS_mk, RtP_mk, RtL_mk, RtM_mk, RtA_mk, RtT_mk, NilC_some, New_eq, At_eq, Ck_true, Rt0_mk, BrB_true, BrB_false, Nat.zero_add, List.length_cons, List.length_nil, List.getElem?_cons_zero, List.getElem?_cons_succ, List.set_cons_zero, List.set_cons_succ, List.getD_cons_zero, List.getD_cons_succ, Option.isNone_some, Option.isNone_none, Go.Disk.fsO, Go.Disk.fileO, Bool.false_eq_true, eq_self, Nat.reduceAdd, Nat.reduceSub, Nat.reduceMul, Nat.reduceLT, Nat.reduceLeDiff, Nat.reduceEqDiff, Int.reduceNeg, Int.reduceEq, Int.reduceNe, Int.reduceBEq, Int.reduceBNe, Int.reduceLT, Int.reduceLE, Int.reduceGT, Int.reduceAdd, reduceIte, Bool.not_true, Bool.not_false, decide_true, decide_false, ne_eq, not_false_eq_true, not_true_eq_false, y1, y2, e0]
    refine build_oneK und98 tyf110 (by rfl) (by rfl) (by omega) (by omega) ?_
    have hev6 := ev_push no H5 C5 (.cells (Value.cells (.agg ⟨[.slice s2.1 s2.2.1 s2.2.2, .slice a5 r.2.1 c5]⟩)) 110) (0, 0)
    have hsrc := SrcH_one (s := 2) (get_push_self H5 (.cells (Value.cells (.agg ⟨[.slice s2.1 s2.2.1 s2.2.2, .slice a5 r.2.1 c5]⟩)) 110)) rfl
    have hpo6 := hev6.get hpo5 fun h => h
    have hcp6 := (hev6.colOf hpo5).trans hcp5
    have q16 := q15.ev hev6 fun h => h
    have q26 := RFiles.ev hev6 (fun _ _ h => h) (fun _ _ _ h => h) q25
    have hrow6 := hrow5.ev hev6 (fun _ _ h => h) fun h => h
    have z66 := z65.ev hev6 fun _ _ h => h
    have hr6 := hr5.ev hev6 fun h => h
    have y46 := y4.ev hev6 fun _ _ h => h
    have hev6 := hev5.trans (hev6.mono fun _ h => h.elim)
    generalize H5.size = nb6 at *
    generalize H5.push _ = H6 at *
    generalize setC C5 nb6 (0, 0) = C6 at *
    have hp6 := (h.ev hev6 own0 ownk).hp
    simp only [cellH_mk, cellO_some, add_mk, size_upd, upd_upd, one_int, one_bool, one_string, one_pointer, one_slice, one_map, one_func, st1_some, stN_nil, stN_cons, StV_mk, StO_some, Ld_some, RtI_mk, RtB_mk, RtS_mk, RtP_mk, RtL_mk, RtM_mk, RtA_mk, RtT_mk, NilC_some, New_eq, At_eq, Ck_true, Rt0_mk, BrB_true, BrB_false, Nat.zero_add, List.length_cons, List.length_nil, List.getElem?_cons_zero, List.getElem?_cons_succ, List.set_cons_zero, List.set_cons_succ, List.getD_cons_zero, List.getD_cons_succ, Option.isNone_some, Option.isNone_none, Go.Disk.fsO, Go.Disk.fileO, Bool.false_eq_true, eq_self, Nat.reduceAdd, Nat.reduceSub, Nat.reduceMul, Nat.reduceLT, Nat.reduceLeDiff, Nat.reduceEqDiff, Int.reduceNeg, Int.reduceEq, Int.reduceNe, Int.reduceBEq, Int.reduceBNe, Int.reduceLT, Int.reduceLE, Int.reduceGT, Int.reduceAdd, reduceIte, Bool.not_true, Bool.not_false, decide_true, decide_false, ne_eq, not_false_eq_true, not_true_eq_false, hpo6]
    refine app_ownK (lab := (k', 1)) (new := [.slice s2.1 s2.2.1 s2.2.2, .slice a5 r.2.1 c5]) und98 und98 (.inl ⟨_, rfl⟩) tyf110 (by rfl) hsrc (by rfl) (by intro v hv; simp at hv; rcases hv with rfl | rfl <;> rfl) q16 (by omega) (by omega) fun a7 c7 H7 C7 hs7 hev7 _ => ?_
    have hpo7 := hev7.get hpo6 (by rw [hcp6]; exact at1_ne (by omega))
    have hcp7 := (hev7.colOf hpo6).trans hcp6
    have q27 := RFiles.snoc (f := f) (s := s2) (r := (a5, r.2.1, c5)) (rc := rc2) (RFiles.ev hev7 (at1_no0 hk') (fun j _ _ => at1_ne (by omega)) q26) (y46.ev hev7 (at1_no0 hk')) (by rw [htl, Nat.zero_add]; exact hr6.ev hev7 (at1_ne (by omega))) (z66.ev hev7 (at1_no0 hk')) z7
    have hrow7 := hrow6.ev hev7 (at1_no0 hk') (at1_ne (by omega))
    have hl7 := lt_of_get hpo7
    simp only [cellH_mk, cellO_some, add_mk, size_upd, upd_upd, one_int, one_bool, one_string, one_pointer, one_slice, one_map, one_func, st1_some, stN_nil, stN_cons, StV_mk, StO_some, Ld_some, RtI_mk, RtB_mk, RtS_mk, RtP_mk, RtL_mk, RtM_mk, RtA_mk, RtT_mk, NilC_some, New_eq, At_eq, Ck_true, Rt0_mk, BrB_true, BrB_false, Nat.zero_add, List.length_cons, List.length_nil, List.getElem?_cons_zero, List.getElem?_cons_succ, List.set_cons_zero, List.set_cons_succ, List.getD_cons_zero, List.getD_cons_succ, Option.isNone_some, Option.isNone_none, Go.Disk.fsO, Go.Disk.fileO, Bool.false_eq_true, eq_self, Nat.reduceAdd, Nat.reduceSub, Nat.reduceMul, Nat.reduceLT, Nat.reduceLeDiff, Nat.reduceEqDiff, Int.reduceNeg, Int.reduceEq, Int.reduceNe, Int.reduceBEq, Int.reduceBNe, Int.reduceLT, Int.reduceLE, Int.reduceGT, Int.reduceAdd, reduceIte, Bool.not_true, Bool.not_false, decide_true, decide_false, ne_eq, not_false_eq_true, not_true_eq_false, hpo7]
    rw [w64 (by omega) (by omega)]
    have hev8 : Ev (at1 (k', 0)) H7 C7 (upd H7 pb (.cells ⟨[.int .i64 (D.room : Int), .slice a7 (fs.2.1 + 1) c7, .slice x.sure.1 x.sure.2.1 x.sure.2.2, .slice a2 x.row.2.1 c2, .slice x.seen.1 x.seen.2.1 x.seen.2.2, .int .i64 (D.acts : Int), .int .i64 (D.fuse : Int), .bool D.dead]⟩ 102 (0, 0))) C7 := ev_upd hcp7 _
    refine ⟨⟨C7, m + 1, (a7, fs.2.1 + 1, c7), by omega, by omega, hcp7, get_upd_of hpo7, ⟨_, hs7.ev hev8 (at1_ne (by omega)), ?_, ?_⟩, hrow7.ev hev8 (at1_no0 hk') (at1_ne (by omega)), hev6.trans ((hev7.mono fun _ => own_of_at1).trans (hev8.mono fun _ => own_of_at1))⟩, ?_⟩
    · rw [List.take_add_one, hfm]
      exact RFiles.ev hev8 (at1_no0 hk') (fun j _ _ => at1_ne (by omega)) q27
    · rw [List.length_take]
      show fs.2.1 + 1 = _
      omega
    · show D.files.length - ((m : Int) + 1).toNat < D.files.length - ((m : Nat) : Int).toNat
      omega
  · have hlt := of_decide_eq_false hlt
    have hml : m = D.files.length := by omega
    subst hml
    rw [List.take_length] at *
    exact hK pb H4 C4 ⟨⟨pb, fs, x.sure, (a2, x.row.2.1, c2), x.seen⟩, rfl, ⟨hcp4, hpo4, ⟨fcs, q1, q2, q3⟩, h4.sure, hrow4, h4.seen⟩⟩ (hnone hev4)
end Go.Proofs

namespace Go.Proofs
open Go Go.Fx Go.Disk
set_option linter.unusedVariables false
set_option maxRecDepth 20000
def opLast : OpA := ⟨0, str [97], str [], 0, []⟩
theorem opLast_is : opCells opLast (none, 0, 0) = [.int .u8 0, .string (str [97]), .string (str []), .int .i64 0, .slice none 0 0] := rfl
theorem Both.fresh {H : Heap} {C : Col} {k k' p q : Nat} {D : Disk} (h : Both H C k k' p q D) {r : Nat} (hr : ∀ b, b < H.size → (C b).1 ≠ r) : k ≠ r ∧ k' ≠ r := by
  obtain ⟨⟨x, rfl, hx⟩, ⟨y, rfl, hy⟩, _⟩ := h
  constructor
  · have := hr x.p (lt_of_get hx.hp); rw [hx.cp] at this; exact this
  · have := hr y.p (lt_of_get hy.hp); rw [hy.cp] at this; exact this
theorem Both.no {H H' : Heap} {C C' : Col} {k k' p q : Nat} {D : Disk} (h : Both H C k k' p q D) (he : Ev no H C H' C') : Both H' C' k k' p q D := h.ev he (fun _ _ h => h) (fun _ h => h) fun _ h => h
theorem SimfsFails_ok {H : Heap} {C : Col} {room : Int} {al acu : Option Addr} {ll cl lcu ccu : Nat} {os : List OpA} {cuts : List Int} {K : Value → Heap → Prop}
    (ho : OpsI H C al ll cl os) (hl2 : ll < 2 ^ 60) (hcu : SlI H C 1 acu lcu ccu (ints cuts)) (hl3 : ccu * 8 ≤ reachBytes) (hK : ∀ H' C', Ev no H C H' C' → K (.bool true) H') :
    Fn 10 [.int .i64 room, .slice al ll cl, .slice acu lcu ccu] H K := by
  refine F10_ok _ _ _ _ _ _ _ ?_
  unfold F10
  have hreach : reachBytes + 4096 = 2 ^ 47 := by decide
  have hlc := hcu.2.1
  have fin : ∀ {H2 : Heap} {C2 : Col}, Ev no H C H2 C2 → Fn 13 [] H2 (fun v H => RtB v fun b => K (.bool b) H) := fun he => works_ok fun H1 C1 hev => by
    simp only [cellH_mk, cellO_some, add_mk, size_upd, upd_upd, one_int, one_bool, one_string, one_pointer, one_slice, one_map, one_func, st1_some, stN_nil, stN_cons, StV_mk, StO_some, Ld_some, RtI_mk, RtB_mk, RtS_mk, RtP_mk, RtL_mk, RtM_mk, RtA_mk, RtT_mk, NilC_some, New_eq, At_eq, Ck_true, Rt0_mk, BrB_true, BrB_false, Nat.zero_add, List.length_cons, List.length_nil, List.getElem?_cons_zero, List.getElem?_cons_succ, List.set_cons_zero, List.set_cons_succ, List.getD_cons_zero, List.getD_cons_succ, Option.isNone_some, Option.isNone_none, Go.Disk.fsO, Go.Disk.fileO, Bool.false_eq_true, eq_self, Nat.reduceAdd, Nat.reduceSub, Nat.reduceMul, Nat.reduceLT, Nat.reduceLeDiff, Nat.reduceEqDiff, Int.reduceNeg, Int.reduceEq, Int.reduceNe, Int.reduceBEq, Int.reduceBNe, Int.reduceLT, Int.reduceLE, Int.reduceGT, Int.reduceAdd, reduceIte, Bool.not_true, Bool.not_false, decide_true, decide_false, ne_eq, not_false_eq_true, not_true_eq_false]
    exact hK H1 C1 (he.trans hev)
  by_cases hbad : room < 0 ∨ 1048576 < room
  · refine New_bad hbad ?_
    simp only [cellH_mk, cellO_some, add_mk, size_upd, upd_upd, one_int, one_bool, one_string, one_pointer, one_slice, one_map, one_func, st1_some, stN_nil, stN_cons, StV_mk, StO_some, Ld_some, RtI_mk, RtB_mk, RtS_mk, RtP_mk, RtL_mk, RtM_mk, RtA_mk, RtT_mk, NilC_some, New_eq, At_eq, Ck_true, Rt0_mk, BrB_true, BrB_false, Nat.zero_add, List.length_cons, List.length_nil, List.getElem?_cons_zero, List.getElem?_cons_succ, List.set_cons_zero, List.set_cons_succ, List.getD_cons_zero, List.getD_cons_succ, Option.isNone_some, Option.isNone_none, Go.Disk.fsO, Go.Disk.fileO, Bool.false_eq_true, eq_self, Nat.reduceAdd, Nat.reduceSub, Nat.reduceMul, Nat.reduceLT, Nat.reduceLeDiff, Nat.reduceEqDiff, Int.reduceNeg, Int.reduceEq, Int.reduceNe, Int.reduceBEq, Int.reduceBNe, Int.reduceLT, Int.reduceLE, Int.reduceGT, Int.reduceAdd, reduceIte, Bool.not_true, Bool.not_false, decide_true, decide_false, ne_eq, not_false_eq_true, not_true_eq_false]
    refine rNew_bad hbad ?_
    simp only [cellH_mk, cellO_some, add_mk, size_upd, upd_upd, one_int, one_bool, one_string, one_pointer, one_slice, one_map, one_func, st1_some, stN_nil, stN_cons, StV_mk, StO_some, Ld_some, RtI_mk, RtB_mk, RtS_mk, RtP_mk, RtL_mk, RtM_mk, RtA_mk, RtT_mk, NilC_some, New_eq, At_eq, Ck_true, Rt0_mk, BrB_true, BrB_false, Nat.zero_add, List.length_cons, List.length_nil, List.getElem?_cons_zero, List.getElem?_cons_succ, List.set_cons_zero, List.set_cons_succ, List.getD_cons_zero, List.getD_cons_succ, Option.isNone_some, Option.isNone_none, Go.Disk.fsO, Go.Disk.fileO, Bool.false_eq_true, eq_self, Nat.reduceAdd, Nat.reduceSub, Nat.reduceMul, Nat.reduceLT, Nat.reduceLeDiff, Nat.reduceEqDiff, Int.reduceNeg, Int.reduceEq, Int.reduceNe, Int.reduceBEq, Int.reduceBNe, Int.reduceLT, Int.reduceLE, Int.reduceGT, Int.reduceAdd, reduceIte, Bool.not_true, Bool.not_false, decide_true, decide_false, ne_eq, not_false_eq_true, not_true_eq_false]
    exact fin (C2 := C) (Ev.refl _ _ _)
  obtain ⟨R, rfl⟩ := Int.eq_ofNat_of_zero_le (show 0 ≤ room by omega)
  have hlo : ll = os.length := ho.choose_spec.2.2
  obtain ⟨k, hk, hfr⟩ := fresh_own C H.size
  obtain ⟨k', hk', hkk, hfr'⟩ := fresh_two C H.size k
  have hok0 := new_dok (room := R) (by omega)
  have two0 := two_no0 hk hk'
  have toF : ∀ {H1 C1 H2 C2}, Ev (own k) H1 C1 H2 C2 → Ev (two k k') H1 C1 H2 C2 := fun h => h.mono fun _ h => .inl h
  have toG : ∀ {H1 C1 H2 C2}, Ev (own k') H1 C1 H2 C2 → Ev (two k k') H1 C1 H2 C2 := fun h => h.mono fun _ h => .inr h
  have toN : ∀ {H1 C1 H2 C2}, Ev no H1 C1 H2 C2 → Ev (two k k') H1 C1 H2 C2 := fun h => h.mono fun _ h => h.elim
  have out : ∀ {H' C'}, Ev (two k k') H C H' C' → Ev no H C H' C' := fun he => he.none fun b hb hS => by
    rcases hS with e | e
    · exact hfr b hb e
    · exact hfr' b hb e
  refine New_ok (C := C) (k := k) (room := R) hk (by omega) fun p H1 C1 h1 hev1 => ?_
  simp only [cellH_mk, cellO_some, add_mk, size_upd, upd_upd, one_int, one_bool, one_string, one_pointer, one_slice, one_map, one_func, st1_some, stN_nil, stN_cons, StV_mk, StO_some, Ld_some, RtI_mk, RtB_mk, RtS_mk, RtP_mk, RtL_mk, RtM_mk, RtA_mk, RtT_mk, NilC_some, New_eq, At_eq, Ck_true, Rt0_mk, BrB_true, BrB_false, Nat.zero_add, List.length_cons, List.length_nil, List.getElem?_cons_zero, List.getElem?_cons_succ, List.set_cons_zero, List.set_cons_succ, List.getD_cons_zero, List.getD_cons_succ, Option.isNone_some, Option.isNone_none, Go.Disk.fsO, Go.Disk.fileO, Bool.false_eq_true, eq_self, Nat.reduceAdd, Nat.reduceSub, Nat.reduceMul, Nat.reduceLT, Nat.reduceLeDiff, Nat.reduceEqDiff, Int.reduceNeg, Int.reduceEq, Int.reduceNe, Int.reduceBEq, Int.reduceBNe, Int.reduceLT, Int.reduceLE, Int.reduceGT, Int.reduceAdd, reduceIte, Bool.not_true, Bool.not_false, decide_true, decide_false, ne_eq, not_false_eq_true, not_true_eq_false]
  refine rNew_ok (C := C1) (k := k') (room := R) (by omega) fun q H2 C2 g2 hev2 => ?_
  have h2 := h1.ev hev2 (fun _ _ h => h) fun _ _ h => h
  rw [newD_is] at g2
  have hev2n := hev1.trans hev2
  have hev2 := toN hev2n
  simp only [cellH_mk, cellO_some, add_mk, size_upd, upd_upd, one_int, one_bool, one_string, one_pointer, one_slice, one_map, one_func, st1_some, stN_nil, stN_cons, StV_mk, StO_some, Ld_some, RtI_mk, RtB_mk, RtS_mk, RtP_mk, RtL_mk, RtM_mk, RtA_mk, RtT_mk, NilC_some, New_eq, At_eq, Ck_true, Rt0_mk, BrB_true, BrB_false, Nat.zero_add, List.length_cons, List.length_nil, List.getElem?_cons_zero, List.getElem?_cons_succ, List.set_cons_zero, List.set_cons_succ, List.getD_cons_zero, List.getD_cons_succ, Option.isNone_some, Option.isNone_none, Go.Disk.fsO, Go.Disk.fileO, Bool.false_eq_true, eq_self, Nat.reduceAdd, Nat.reduceSub, Nat.reduceMul, Nat.reduceLT, Nat.reduceLeDiff, Nat.reduceEqDiff, Int.reduceNeg, Int.reduceEq, Int.reduceNe, Int.reduceBEq, Int.reduceBNe, Int.reduceLT, Int.reduceLE, Int.reduceGT, Int.reduceAdd, reduceIte, Bool.not_true, Bool.not_false, decide_true, decide_false, ne_eq, not_false_eq_true, not_true_eq_false]
  refine great_ok (ho.ev hev2 two0) hl2 fun g hg => ?_
  simp only [cellH_mk, cellO_some, add_mk, size_upd, upd_upd, one_int, one_bool, one_string, one_pointer, one_slice, one_map, one_func, st1_some, stN_nil, stN_cons, StV_mk, StO_some, Ld_some, RtI_mk, RtB_mk, RtS_mk, RtP_mk, RtL_mk, RtM_mk, RtA_mk, RtT_mk, NilC_some, New_eq, At_eq, Ck_true, Rt0_mk, BrB_true, BrB_false, Nat.zero_add, List.length_cons, List.length_nil, List.getElem?_cons_zero, List.getElem?_cons_succ, List.set_cons_zero, List.set_cons_succ, List.getD_cons_zero, List.getD_cons_succ, Option.isNone_some, Option.isNone_none, Go.Disk.fsO, Go.Disk.fileO, Bool.false_eq_true, eq_self, Nat.reduceAdd, Nat.reduceSub, Nat.reduceMul, Nat.reduceLT, Nat.reduceLeDiff, Nat.reduceEqDiff, Int.reduceNeg, Int.reduceEq, Int.reduceNe, Int.reduceBEq, Int.reduceBNe, Int.reduceLT, Int.reduceLE, Int.reduceGT, Int.reduceAdd, reduceIte, Bool.not_true, Bool.not_false, decide_true, decide_false, ne_eq, not_false_eq_true, not_true_eq_false]
  refine BrB_i (fun h => fin hev2n) (fun hgf => ?_)
  obtain ⟨hlen, hbig⟩ := hg hgf
  refine ⟨fun i H' => ∃ C' D, ∃ m : Nat, i = (m : Int) ∧ m ≤ ll ∧ Both H' C' k k' p q D ∧ D.acts ≤ m ∧ Ev (two k k') H C H' C', fun i _ => ll - i.toNat, ⟨C2, newDisk R, 0, rfl, by omega, ⟨h2, g2, hok0⟩, by show (0 : Nat) ≤ _; omega, hev2⟩, ?_⟩
  rintro fr i H6 ⟨C6, D, m, rfl, hm, hB, hac, hev6⟩
  simp only [cellH_mk, cellO_some, add_mk, size_upd, upd_upd, one_int, one_bool, one_string, one_pointer, one_slice, one_map, one_func, st1_some, stN_nil, stN_cons, StV_mk, StO_some, Ld_some, RtI_mk, RtB_mk, RtS_mk, RtP_mk, RtL_mk, RtM_mk, RtA_mk, RtT_mk, NilC_some, New_eq, At_eq, Ck_true, Rt0_mk, BrB_true, BrB_false, Nat.zero_add, List.length_cons, List.length_nil, List.getElem?_cons_zero, List.getElem?_cons_succ, List.set_cons_zero, List.set_cons_succ, List.getD_cons_zero, List.getD_cons_succ, Option.isNone_some, Option.isNone_none, Go.Disk.fsO, Go.Disk.fileO, Bool.false_eq_true, eq_self, Nat.reduceAdd, Nat.reduceSub, Nat.reduceMul, Nat.reduceLT, Nat.reduceLeDiff, Nat.reduceEqDiff, Int.reduceNeg, Int.reduceEq, Int.reduceNe, Int.reduceBEq, Int.reduceBNe, Int.reduceLT, Int.reduceLE, Int.reduceGT, Int.reduceAdd, reduceIte, Bool.not_true, Bool.not_false, decide_true, decide_false, ne_eq, not_false_eq_true, not_true_eq_false]
  have ho6 := ho.ev hev6 two0
  refine BrB_i (fun hlt => ?_) (fun hlt => ?_)
  · have hlt := of_decide_eq_true hlt
    have hom : os[m]? = some (os[m]'(by omega)) := List.getElem?_eq_getElem _
    generalize os[m]'(by omega) = o at hom
    refine SlI.opRowK ho6 hom fun e s hs hok he => ?_
    have he0 := he no H6 C6 (Ev.refl _ _ _) fun _ _ h => h
    unfold opCells at he0
    simp only [cellH_mk, cellO_some, add_mk, size_upd, upd_upd, one_int, one_bool, one_string, one_pointer, one_slice, one_map, one_func, st1_some, stN_nil, stN_cons, StV_mk, StO_some, Ld_some, RtI_mk, RtB_mk, RtS_mk, RtP_mk, RtL_mk, RtM_mk, RtA_mk, RtT_mk, NilC_some, New_eq, At_eq, Ck_true, Rt0_mk, BrB_true, BrB_false, Nat.zero_add, List.length_cons, List.length_nil, List.getElem?_cons_zero, List.getElem?_cons_succ, List.set_cons_zero, List.set_cons_succ, List.getD_cons_zero, List.getD_cons_succ, Option.isNone_some, Option.isNone_none, Go.Disk.fsO, Go.Disk.fileO, Bool.false_eq_true, eq_self, Nat.reduceAdd, Nat.reduceSub, Nat.reduceMul, Nat.reduceLT, Nat.reduceLeDiff, Nat.reduceEqDiff, Int.reduceNeg, Int.reduceEq, Int.reduceNe, Int.reduceBEq, Int.reduceBNe, Int.reduceLT, Int.reduceLE, Int.reduceGT, Int.reduceAdd, reduceIte, Bool.not_true, Bool.not_false, decide_true, decide_false, ne_eq, not_false_eq_true, not_true_eq_false, he0]
    have hgd := dDo_good hok hB.ok
    refine do_ok (o := o) (s := s) hk hB.f hB.ok (by omega) hs hok fun H7 C7 h7 hev7 => ?_
    have g7 := hB.g.ev hev7 (own_0 hk) (own_ne hkk.symm)
    have hev7 := hev6.trans (toF hev7)
    simp only [cellH_mk, cellO_some, add_mk, size_upd, upd_upd, one_int, one_bool, one_string, one_pointer, one_slice, one_map, one_func, st1_some, stN_nil, stN_cons, StV_mk, StO_some, Ld_some, RtI_mk, RtB_mk, RtS_mk, RtP_mk, RtL_mk, RtM_mk, RtA_mk, RtT_mk, NilC_some, New_eq, At_eq, Ck_true, Rt0_mk, BrB_true, BrB_false, Nat.zero_add, List.length_cons, List.length_nil, List.getElem?_cons_zero, List.getElem?_cons_succ, List.set_cons_zero, List.set_cons_succ, List.getD_cons_zero, List.getD_cons_succ, Option.isNone_some, Option.isNone_none, Go.Disk.fsO, Go.Disk.fileO, Bool.false_eq_true, eq_self, Nat.reduceAdd, Nat.reduceSub, Nat.reduceMul, Nat.reduceLT, Nat.reduceLeDiff, Nat.reduceEqDiff, Int.reduceNeg, Int.reduceEq, Int.reduceNe, Int.reduceBEq, Int.reduceBNe, Int.reduceLT, Int.reduceLE, Int.reduceGT, Int.reduceAdd, reduceIte, Bool.not_true, Bool.not_false, decide_true, decide_false, ne_eq, not_false_eq_true, not_true_eq_false]
    refine SlI.opRowK (ho.ev hev7 two0) hom fun e2 s2 hs2 hok2 he2 => ?_
    have he20 := he2 no H7 C7 (Ev.refl _ _ _) fun _ _ h => h
    unfold opCells at he20
    simp only [cellH_mk, cellO_some, add_mk, size_upd, upd_upd, one_int, one_bool, one_string, one_pointer, one_slice, one_map, one_func, st1_some, stN_nil, stN_cons, StV_mk, StO_some, Ld_some, RtI_mk, RtB_mk, RtS_mk, RtP_mk, RtL_mk, RtM_mk, RtA_mk, RtT_mk, NilC_some, New_eq, At_eq, Ck_true, Rt0_mk, BrB_true, BrB_false, Nat.zero_add, List.length_cons, List.length_nil, List.getElem?_cons_zero, List.getElem?_cons_succ, List.set_cons_zero, List.set_cons_succ, List.getD_cons_zero, List.getD_cons_succ, Option.isNone_some, Option.isNone_none, Go.Disk.fsO, Go.Disk.fileO, Bool.false_eq_true, eq_self, Nat.reduceAdd, Nat.reduceSub, Nat.reduceMul, Nat.reduceLT, Nat.reduceLeDiff, Nat.reduceEqDiff, Int.reduceNeg, Int.reduceEq, Int.reduceNe, Int.reduceBEq, Int.reduceBNe, Int.reduceLT, Int.reduceLE, Int.reduceGT, Int.reduceAdd, reduceIte, Bool.not_true, Bool.not_false, decide_true, decide_false, ne_eq, not_false_eq_true, not_true_eq_false, he20]
    refine did_ok (o := o) (s := s2) hk' g7 hB.ok (by omega) hs2 hok fun H8 C8 g8 hev8 => ?_
    have h8 := h7.ev hev8 (own_0 hk') fun j _ => own_ne hkk j
    have hev8 := hev7.trans (toG hev8)
    simp only [cellH_mk, cellO_some, add_mk, size_upd, upd_upd, one_int, one_bool, one_string, one_pointer, one_slice, one_map, one_func, st1_some, stN_nil, stN_cons, StV_mk, StO_some, Ld_some, RtI_mk, RtB_mk, RtS_mk, RtP_mk, RtL_mk, RtM_mk, RtA_mk, RtT_mk, NilC_some, New_eq, At_eq, Ck_true, Rt0_mk, BrB_true, BrB_false, Nat.zero_add, List.length_cons, List.length_nil, List.getElem?_cons_zero, List.getElem?_cons_succ, List.set_cons_zero, List.set_cons_succ, List.getD_cons_zero, List.getD_cons_succ, Option.isNone_some, Option.isNone_none, Go.Disk.fsO, Go.Disk.fileO, Bool.false_eq_true, eq_self, Nat.reduceAdd, Nat.reduceSub, Nat.reduceMul, Nat.reduceLT, Nat.reduceLeDiff, Nat.reduceEqDiff, Int.reduceNeg, Int.reduceEq, Int.reduceNe, Int.reduceBEq, Int.reduceBNe, Int.reduceLT, Int.reduceLE, Int.reduceGT, Int.reduceAdd, reduceIte, Bool.not_true, Bool.not_false, decide_true, decide_false, ne_eq, not_false_eq_true, not_true_eq_false]
    rw [w64 (by omega) (by omega)]
    refine ⟨⟨C8, _, m + 1, by omega, by omega, ⟨h8, g8, hgd.1⟩, by have := hgd.2.1; omega, hev8⟩, ?_⟩
    show ll - ((m : Int) + 1).toNat < ll - ((m : Nat) : Int).toNat
    omega
  · refine CopyInts_ok (hcu.ev hev6 two0) hl3 (0, 0) fun ao co H7 C7 go7 hev7 hco => ?_
    have hB7 := hB.no hev7
    have hev7 := hev6.trans (toN hev7)
    have go7 := go7.imm rfl
    simp only [cellH_mk, cellO_some, add_mk, size_upd, upd_upd, one_int, one_bool, one_string, one_pointer, one_slice, one_map, one_func, st1_some, stN_nil, stN_cons, StV_mk, StO_some, Ld_some, RtI_mk, RtB_mk, RtS_mk, RtP_mk, RtL_mk, RtM_mk, RtA_mk, RtT_mk, NilC_some, New_eq, At_eq, Ck_true, Rt0_mk, BrB_true, BrB_false, Nat.zero_add, List.length_cons, List.length_nil, List.getElem?_cons_zero, List.getElem?_cons_succ, List.set_cons_zero, List.set_cons_succ, List.getD_cons_zero, List.getD_cons_succ, Option.isNone_some, Option.isNone_none, Go.Disk.fsO, Go.Disk.fileO, Bool.false_eq_true, eq_self, Nat.reduceAdd, Nat.reduceSub, Nat.reduceMul, Nat.reduceLT, Nat.reduceLeDiff, Nat.reduceEqDiff, Int.reduceNeg, Int.reduceEq, Int.reduceNe, Int.reduceBEq, Int.reduceBNe, Int.reduceLT, Int.reduceLE, Int.reduceGT, Int.reduceAdd, reduceIte, Bool.not_true, Bool.not_false, decide_true, decide_false, ne_eq, not_false_eq_true, not_true_eq_false]
    obtain ⟨k1, hk1, hfr1⟩ := fresh_own C7 H7.size
    refine Fail_ok hk hk1 hfr1 hB7.f hB.ok (by omega) go7 hco fun px H8 C8 hx8 hev8 => ?_
    have hB8 := hB7.no hev8
    have go8 := go7.ev hev8 fun _ _ h => h
    have hev8 := hev7.trans (toN hev8)
    simp only [cellH_mk, cellO_some, add_mk, size_upd, upd_upd, one_int, one_bool, one_string, one_pointer, one_slice, one_map, one_func, st1_some, stN_nil, stN_cons, StV_mk, StO_some, Ld_some, RtI_mk, RtB_mk, RtS_mk, RtP_mk, RtL_mk, RtM_mk, RtA_mk, RtT_mk, NilC_some, New_eq, At_eq, Ck_true, Rt0_mk, BrB_true, BrB_false, Nat.zero_add, List.length_cons, List.length_nil, List.getElem?_cons_zero, List.getElem?_cons_succ, List.set_cons_zero, List.set_cons_succ, List.getD_cons_zero, List.getD_cons_succ, Option.isNone_some, Option.isNone_none, Go.Disk.fsO, Go.Disk.fileO, Bool.false_eq_true, eq_self, Nat.reduceAdd, Nat.reduceSub, Nat.reduceMul, Nat.reduceLT, Nat.reduceLeDiff, Nat.reduceEqDiff, Int.reduceNeg, Int.reduceEq, Int.reduceNe, Int.reduceBEq, Int.reduceBNe, Int.reduceLT, Int.reduceLE, Int.reduceGT, Int.reduceAdd, reduceIte, Bool.not_true, Bool.not_false, decide_true, decide_false, ne_eq, not_false_eq_true, not_true_eq_false]
    obtain ⟨k2, hk2, hfr2⟩ := fresh_own C8 H8.size
    refine rFail_ok hk' hk2 hfr2 hB8.g hB.ok (by omega) (hcu.ev hev8 two0) (by omega) fun py H9 C9 hy9 hev9 => ?_
    have hB9 := hB8.no hev9
    have hX9 : Both H9 C9 k1 k2 px py (dFail D cuts) := ⟨hx8.ev hev9 (fun _ _ h => h) fun _ _ h => h, hy9, dFail_ok hB.ok cuts⟩
    have go9 := go8.ev hev9 fun _ _ h => h
    have hev9 := hev8.trans (toN hev9)
    simp only [cellH_mk, cellO_some, add_mk, size_upd, upd_upd, one_int, one_bool, one_string, one_pointer, one_slice, one_map, one_func, st1_some, stN_nil, stN_cons, StV_mk, StO_some, Ld_some, RtI_mk, RtB_mk, RtS_mk, RtP_mk, RtL_mk, RtM_mk, RtA_mk, RtT_mk, NilC_some, New_eq, At_eq, Ck_true, Rt0_mk, BrB_true, BrB_false, Nat.zero_add, List.length_cons, List.length_nil, List.getElem?_cons_zero, List.getElem?_cons_succ, List.set_cons_zero, List.set_cons_succ, List.getD_cons_zero, List.getD_cons_succ, Option.isNone_some, Option.isNone_none, Go.Disk.fsO, Go.Disk.fileO, Bool.false_eq_true, eq_self, Nat.reduceAdd, Nat.reduceSub, Nat.reduceMul, Nat.reduceLT, Nat.reduceLeDiff, Nat.reduceEqDiff, Int.reduceNeg, Int.reduceEq, Int.reduceNe, Int.reduceBEq, Int.reduceBNe, Int.reduceLT, Int.reduceLE, Int.reduceGT, Int.reduceAdd, reduceIte, Bool.not_true, Bool.not_false, decide_true, decide_false, ne_eq, not_false_eq_true, not_true_eq_false, NewN_eq, get_push_self, upd_push_self]
    have hevA := ev_push no H9 C9 (.cells ⟨[.int .u8 0, .string (str [97]), .string (str []), .int .i64 0, .slice none 0 0]⟩ 50) (0, 0)
    have hnA : (H9.push (.cells ⟨[.int .u8 0, .string (str [97]), .string (str []), .int .i64 0, .slice none 0 0]⟩ 50))[H9.size]? = some (.cells ⟨[.int .u8 0, .string (str [97]), .string (str []), .int .i64 0, .slice none 0 0]⟩ 50 (0, 0)) := get_push_self _ _
    have hBA := hB9.no hevA
    have hXA := hX9.no hevA
    have goA := go9.ev hevA fun _ _ h => h
    have hevA := hev9.trans (toN hevA)
    generalize H9.push _ = HA at *
    generalize setC C9 H9.size (0, 0) = CA at *
    generalize H9.size = na at *
    refine Ints_ok goA.r (hcu.ev hevA two0).r (by omega) ?_
    rw [decide_eq_true rfl]
    simp only [cellH_mk, cellO_some, add_mk, size_upd, upd_upd, one_int, one_bool, one_string, one_pointer, one_slice, one_map, one_func, st1_some, stN_nil, stN_cons, StV_mk, StO_some, Ld_some, RtI_mk, RtB_mk, RtS_mk, RtP_mk, RtL_mk, RtM_mk, RtA_mk, RtT_mk, NilC_some, New_eq, At_eq, Ck_true, Rt0_mk, BrB_true, BrB_false, Nat.zero_add, List.length_cons, List.length_nil, List.getElem?_cons_zero, List.getElem?_cons_succ, List.set_cons_zero, List.set_cons_succ, List.getD_cons_zero, List.getD_cons_succ, Option.isNone_some, Option.isNone_none, Go.Disk.fsO, Go.Disk.fileO, Bool.false_eq_true, eq_self, Nat.reduceAdd, Nat.reduceSub, Nat.reduceMul, Nat.reduceLT, Nat.reduceLeDiff, Nat.reduceEqDiff, Int.reduceNeg, Int.reduceEq, Int.reduceNe, Int.reduceBEq, Int.reduceBNe, Int.reduceLT, Int.reduceLE, Int.reduceGT, Int.reduceAdd, reduceIte, Bool.not_true, Bool.not_false, decide_true, decide_false, ne_eq, not_false_eq_true, not_true_eq_false]
    rw [rowV_mk _ _ 0 5 hnA (by simp)]
    simp only [List.drop_zero, List.take_succ_cons, List.take_zero]
    simp only [cellH_mk, cellO_some, add_mk, size_upd, upd_upd, one_int, one_bool, one_string, one_pointer, one_slice, one_map, one_func, st1_some, stN_nil, stN_cons, StV_mk, StO_some, Ld_some, RtI_mk, RtB_mk, RtS_mk, RtP_mk, RtL_mk, RtM_mk, RtA_mk, RtT_mk, NilC_some, New_eq, At_eq, Ck_true, Rt0_mk, BrB_true, BrB_false, Nat.zero_add, List.length_cons, List.length_nil, List.getElem?_cons_zero, List.getElem?_cons_succ, List.set_cons_zero, List.set_cons_succ, List.getD_cons_zero, List.getD_cons_succ, Option.isNone_some, Option.isNone_none, Go.Disk.fsO, Go.Disk.fileO, Bool.false_eq_true, eq_self, Nat.reduceAdd, Nat.reduceSub, Nat.reduceMul, Nat.reduceLT, Nat.reduceLeDiff, Nat.reduceEqDiff, Int.reduceNeg, Int.reduceEq, Int.reduceNe, Int.reduceBEq, Int.reduceBNe, Int.reduceLT, Int.reduceLE, Int.reduceGT, Int.reduceAdd, reduceIte, Bool.not_true, Bool.not_false, decide_true, decide_false, ne_eq, not_false_eq_true, not_true_eq_false]
    refine alike_ok (o := opLast) (s := (none, 0, 0)) hXA.f hXA.g hXA.ok (by show (0 : Nat) < _; omega) (by show (-2 ^ 63 : Int) ≤ 0 ∧ (0 : Int) < 2 ^ 63; omega) fun HB CB hevB => ?_
    have hBB := hBA.no hevB
    have hnB := hevB.get hnA fun h => h
    have hevB := hevA.trans (toN hevB)
    simp only [cellH_mk, cellO_some, add_mk, size_upd, upd_upd, one_int, one_bool, one_string, one_pointer, one_slice, one_map, one_func, st1_some, stN_nil, stN_cons, StV_mk, StO_some, Ld_some, RtI_mk, RtB_mk, RtS_mk, RtP_mk, RtL_mk, RtM_mk, RtA_mk, RtT_mk, NilC_some, New_eq, At_eq, Ck_true, Rt0_mk, BrB_true, BrB_false, Nat.zero_add, List.length_cons, List.length_nil, List.getElem?_cons_zero, List.getElem?_cons_succ, List.set_cons_zero, List.set_cons_succ, List.getD_cons_zero, List.getD_cons_succ, Option.isNone_some, Option.isNone_none, Go.Disk.fsO, Go.Disk.fileO, Bool.false_eq_true, eq_self, Nat.reduceAdd, Nat.reduceSub, Nat.reduceMul, Nat.reduceLT, Nat.reduceLeDiff, Nat.reduceEqDiff, Int.reduceNeg, Int.reduceEq, Int.reduceNe, Int.reduceBEq, Int.reduceBNe, Int.reduceLT, Int.reduceLE, Int.reduceGT, Int.reduceAdd, reduceIte, Bool.not_true, Bool.not_false, decide_true, decide_false, ne_eq, not_false_eq_true, not_true_eq_false]
    rw [rowV_mk _ _ 0 5 hnB (by simp)]
    simp only [List.drop_zero, List.take_succ_cons, List.take_zero]
    simp only [cellH_mk, cellO_some, add_mk, size_upd, upd_upd, one_int, one_bool, one_string, one_pointer, one_slice, one_map, one_func, st1_some, stN_nil, stN_cons, StV_mk, StO_some, Ld_some, RtI_mk, RtB_mk, RtS_mk, RtP_mk, RtL_mk, RtM_mk, RtA_mk, RtT_mk, NilC_some, New_eq, At_eq, Ck_true, Rt0_mk, BrB_true, BrB_false, Nat.zero_add, List.length_cons, List.length_nil, List.getElem?_cons_zero, List.getElem?_cons_succ, List.set_cons_zero, List.set_cons_succ, List.getD_cons_zero, List.getD_cons_succ, Option.isNone_some, Option.isNone_none, Go.Disk.fsO, Go.Disk.fileO, Bool.false_eq_true, eq_self, Nat.reduceAdd, Nat.reduceSub, Nat.reduceMul, Nat.reduceLT, Nat.reduceLeDiff, Nat.reduceEqDiff, Int.reduceNeg, Int.reduceEq, Int.reduceNe, Int.reduceBEq, Int.reduceBNe, Int.reduceLT, Int.reduceLE, Int.reduceGT, Int.reduceAdd, reduceIte, Bool.not_true, Bool.not_false, decide_true, decide_false, ne_eq, not_false_eq_true, not_true_eq_false]
    refine alike_ok (o := opLast) (s := (none, 0, 0)) hBB.f hBB.g hB.ok (by omega) (by show (-2 ^ 63 : Int) ≤ 0 ∧ (0 : Int) < 2 ^ 63; omega) fun HC CC hevC => ?_
    have hevC := hevB.trans (toN hevC)
    simp only [cellH_mk, cellO_some, add_mk, size_upd, upd_upd, one_int, one_bool, one_string, one_pointer, one_slice, one_map, one_func, st1_some, stN_nil, stN_cons, StV_mk, StO_some, Ld_some, RtI_mk, RtB_mk, RtS_mk, RtP_mk, RtL_mk, RtM_mk, RtA_mk, RtT_mk, NilC_some, New_eq, At_eq, Ck_true, Rt0_mk, BrB_true, BrB_false, Nat.zero_add, List.length_cons, List.length_nil, List.getElem?_cons_zero, List.getElem?_cons_succ, List.set_cons_zero, List.set_cons_succ, List.getD_cons_zero, List.getD_cons_succ, Option.isNone_some, Option.isNone_none, Go.Disk.fsO, Go.Disk.fileO, Bool.false_eq_true, eq_self, Nat.reduceAdd, Nat.reduceSub, Nat.reduceMul, Nat.reduceLT, Nat.reduceLeDiff, Nat.reduceEqDiff, Int.reduceNeg, Int.reduceEq, Int.reduceNe, Int.reduceBEq, Int.reduceBNe, Int.reduceLT, Int.reduceLE, Int.reduceGT, Int.reduceAdd, reduceIte, Bool.not_true, Bool.not_false, decide_true, decide_false, ne_eq, not_false_eq_true, not_true_eq_false]
    exact fin (out hevC)
end Go.Proofs
