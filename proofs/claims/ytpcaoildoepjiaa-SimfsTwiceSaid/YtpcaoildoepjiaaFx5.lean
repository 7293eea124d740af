/- A proof layer over heaps, and contracts of the printed functions; no statement of the seat is proved here. -/
import Derived.Test.YtpcaoildoepjiaaFx4
set_option linter.unusedVariables false
set_option linter.unusedSimpArgs false
set_option linter.unusedSectionVars false

namespace Go.Disk
open Go Go.Fx
set_option linter.unusedVariables false
/-- A file of the reference, to read. -/
def RFile (H : Heap) (C : Col) (fb fo : Nat) (f : FileA) : Prop := ∃ (cs : List Value) (t : TypeId) (fz : Nat × Nat) (s r : SlV) (rc : List Value), H[fb]? = some (.cells ⟨cs⟩ t fz) ∧ cs[fo]? = some (.slice s.1 s.2.1 s.2.2) ∧ cs[fo + 1]? = some (.slice r.1 r.2.1 r.2.2) ∧
  ByI H C s f.sure ∧ SlR H 3 r.1 r.2.1 r.2.2 rc ∧ ChgsAt H C f.row rc ∧ r.2.1 = f.row.length
theorem slR_ev {H H' : Heap} {C C' : Col} {sz : Nat} {a : Option Addr} {l c : Nat} {cells : List Value} (h : SlR H sz a l c cells) (he : Ev no H C H' C') : SlR H' sz a l c cells := by
  obtain ⟨h1, h2, h3⟩ := h
  refine ⟨h1, h2, h3.imp id ?_⟩
  rintro ⟨b, off, cs, t, fz, e, hb, r⟩
  exact ⟨b, off, cs, t, fz, e, he.get hb fun h => h, r⟩
theorem RFile.ev {H H' : Heap} {C C' : Col} {fb fo : Nat} {f : FileA} (h : RFile H C fb fo f) (he : Ev no H C H' C') : RFile H' C' fb fo f := by
  obtain ⟨cs, t, fz, s, r, rc, h1, h2, h3, h4, h5, h6, h7⟩ := h
  exact ⟨cs, t, fz, s, r, rc, he.get h1 fun h => h, h2, h3, h4.ev he fun _ _ h => h, slR_ev h5 he, h6.ev he fun _ _ h => h, h7⟩
end Go.Disk
namespace Go.Proofs
open Go Go.Fx Go.Disk
set_option linter.unusedVariables false
set_option maxRecDepth 20000

theorem rdone_ok {H : Heap} {C : Col} {c : Chg} {sl s : SlV} {xs : List UInt8} {K : Value → Heap → Prop} (hb : ByI H C sl c.b) (hs : ByI H C s xs) (ho : c.off ≤ xs.length) (hl : xs.length ≤ 2 ^ 45) (hbl : c.b.length ≤ 2 ^ 45)
    (hK : ∀ (s' : SlV) H' C', ByI H' C' s' (c.app xs) → Ev no H C H' C' → K (.slice s'.1 s'.2.1 s'.2.2) H') :
    Fn 90 [.slice s.1 s.2.1 s.2.2, .agg ⟨[.bool c.cut, .int .i64 (c.off : Int), .slice sl.1 sl.2.1 sl.2.2]⟩] H K := by
  refine F90_ok _ _ _ _ _ _ _ _ ?_
  unfold F90
  have hsl := hs.len
  have hsc := hs.cap
  have hll := hb.len
  obtain ⟨k, hk, hfr⟩ := fresh_own C H.size
  simp only [cellH_mk, cellO_some, add_mk, size_upd, upd_upd, one_int, one_bool, one_string, one_pointer, one_slice, one_map, one_func, st1_some, stN_nil, stN_cons, StV_mk, StO_some, Ld_some, RtI_mk, RtB_mk, RtS_mk, RtP_mk, RtL_mk, RtM_mk, RtA_mk, RtT_mk, NilC_some, New_eq, At_eq, Ck_true, Rt0_mk, BrB_true, BrB_false, Nat.zero_add, List.length_cons, List.length_nil, List.getElem?_cons_zero, List.getElem?_cons_succ, List.set_cons_zero, List.set_cons_succ, List.getD_cons_zero, List.getD_cons_succ, Option.isNone_some, Option.isNone_none, Go.Disk.fsO, Go.Disk.fileO, Bool.false_eq_true, eq_self, Nat.reduceAdd, Nat.reduceSub, Nat.reduceMul, Nat.reduceLT, Nat.reduceLeDiff, Nat.reduceEqDiff, Int.reduceNeg, Int.reduceEq, Int.reduceNe, Int.reduceBEq, Int.reduceBNe, Int.reduceLT, Int.reduceLE, Int.reduceGT, Int.reduceAdd, reduceIte, Bool.not_true, Bool.not_false, decide_true, decide_false, ne_eq, not_false_eq_true, not_true_eq_false, NewN_eq]
  have hev1 := ev_push no H C (.cells ⟨[.bool c.cut, .int .i64 (c.off : Int), .slice sl.1 sl.2.1 sl.2.2]⟩ 115) (0, 0)
  have hn1 : (H.push (.cells ⟨[.bool c.cut, .int .i64 (c.off : Int), .slice sl.1 sl.2.1 sl.2.2]⟩ 115))[H.size]? = some (.cells ⟨[.bool c.cut, .int .i64 (c.off : Int), .slice sl.1 sl.2.1 sl.2.2]⟩ 115 (0, 0)) := get_push_self _ _
  have hs1 := hs.ev hev1 fun _ _ h => h
  have hb1 := hb.ev hev1 fun _ _ h => h
  have hcn1 : setC C H.size (0, 0) H.size = (0, 0) := setC_self _ _ _
  generalize H.push _ = H1 at *
  generalize setC C H.size (0, 0) = C1 at *
  generalize hnb : H.size = nb at *
  have hsrc := SlI.src0 hs1 (n := c.off) (by omega)
  rw [Nat.mul_one, ← byts_take] at hsrc
  simp only [cellH_mk, cellO_some, add_mk, size_upd, upd_upd, one_int, one_bool, one_string, one_pointer, one_slice, one_map, one_func, st1_some, stN_nil, stN_cons, StV_mk, StO_some, Ld_some, RtI_mk, RtB_mk, RtS_mk, RtP_mk, RtL_mk, RtM_mk, RtA_mk, RtT_mk, NilC_some, New_eq, At_eq, Ck_true, Rt0_mk, BrB_true, BrB_false, Nat.zero_add, List.length_cons, List.length_nil, List.getElem?_cons_zero, List.getElem?_cons_succ, List.set_cons_zero, List.set_cons_succ, List.getD_cons_zero, List.getD_cons_succ, Option.isNone_some, Option.isNone_none, Go.Disk.fsO, Go.Disk.fileO, Bool.false_eq_true, eq_self, Nat.reduceAdd, Nat.reduceSub, Nat.reduceMul, Nat.reduceLT, Nat.reduceLeDiff, Nat.reduceEqDiff, Int.reduceNeg, Int.reduceEq, Int.reduceNe, Int.reduceBEq, Int.reduceBNe, Int.reduceLT, Int.reduceLE, Int.reduceGT, Int.reduceAdd, reduceIte, Bool.not_true, Bool.not_false, decide_true, decide_false, ne_eq, not_false_eq_true, not_true_eq_false, hn1]
  cases hcut : c.cut with
  | true =>
    have e : c.app xs = xs.take c.off := by unfold Chg.app; rw [if_pos hcut]
    rw [e] at hK
    simp only [cellH_mk, cellO_some, add_mk, size_upd, upd_upd, one_int, one_bool, one_string, one_pointer, one_slice, one_map, one_func, st1_some, stN_nil, stN_cons, StV_mk, StO_some, Ld_some, RtI_mk, RtB_mk, RtS_mk, RtP_mk, RtL_mk, RtM_mk, RtA_mk, RtT_mk, NilC_some, New_eq, At_eq, Ck_true, Rt0_mk, BrB_true, BrB_false, Nat.zero_add, List.length_cons, List.length_nil, List.getElem?_cons_zero, List.getElem?_cons_succ, List.set_cons_zero, List.set_cons_succ, List.getD_cons_zero, List.getD_cons_succ, Option.isNone_some, Option.isNone_none, Go.Disk.fsO, Go.Disk.fileO, Bool.false_eq_true, eq_self, Nat.reduceAdd, Nat.reduceSub, Nat.reduceMul, Nat.reduceLT, Nat.reduceLeDiff, Nat.reduceEqDiff, Int.reduceNeg, Int.reduceEq, Int.reduceNe, Int.reduceBEq, Int.reduceBNe, Int.reduceLT, Int.reduceLE, Int.reduceGT, Int.reduceAdd, reduceIte, Bool.not_true, Bool.not_false, decide_true, decide_false, ne_eq, not_false_eq_true, not_true_eq_false, hn1]
    refine Ck_i ⟨by first | trivial | omega, by omega, by omega, by omega⟩ ?_
    refine app_copyK (C := C1) (lab := (0, 0)) (n := c.off) und22 und22 (.inl ⟨_, rfl⟩) tyf5 (by rfl) hsrc (by rw [byts_len, List.length_take]; omega) byts_one (by omega) (by omega) fun a2 c2 H2 C2 hs2 hev2 => ?_
    simp only [cellH_mk, cellO_some, add_mk, size_upd, upd_upd, one_int, one_bool, one_string, one_pointer, one_slice, one_map, one_func, st1_some, stN_nil, stN_cons, StV_mk, StO_some, Ld_some, RtI_mk, RtB_mk, RtS_mk, RtP_mk, RtL_mk, RtM_mk, RtA_mk, RtT_mk, NilC_some, New_eq, At_eq, Ck_true, Rt0_mk, BrB_true, BrB_false, Nat.zero_add, List.length_cons, List.length_nil, List.getElem?_cons_zero, List.getElem?_cons_succ, List.set_cons_zero, List.set_cons_succ, List.getD_cons_zero, List.getD_cons_succ, Option.isNone_some, Option.isNone_none, Go.Disk.fsO, Go.Disk.fileO, Bool.false_eq_true, eq_self, Nat.reduceAdd, Nat.reduceSub, Nat.reduceMul, Nat.reduceLT, Nat.reduceLeDiff, Nat.reduceEqDiff, Int.reduceNeg, Int.reduceEq, Int.reduceNe, Int.reduceBEq, Int.reduceBNe, Int.reduceLT, Int.reduceLE, Int.reduceGT, Int.reduceAdd, reduceIte, Bool.not_true, Bool.not_false, decide_true, decide_false, ne_eq, not_false_eq_true, not_true_eq_false]
    exact hK (a2, _, c2) H2 C2 (hs2.imm rfl) (hev1.trans hev2)
  | false =>
    have e : c.app xs = xs.take c.off ++ (c.b ++ xs.drop (c.off + c.b.length)) := by unfold Chg.app; rw [if_neg (by rw [hcut]; simp)]
    rw [e] at hK
    simp only [cellH_mk, cellO_some, add_mk, size_upd, upd_upd, one_int, one_bool, one_string, one_pointer, one_slice, one_map, one_func, st1_some, stN_nil, stN_cons, StV_mk, StO_some, Ld_some, RtI_mk, RtB_mk, RtS_mk, RtP_mk, RtL_mk, RtM_mk, RtA_mk, RtT_mk, NilC_some, New_eq, At_eq, Ck_true, Rt0_mk, BrB_true, BrB_false, Nat.zero_add, List.length_cons, List.length_nil, List.getElem?_cons_zero, List.getElem?_cons_succ, List.set_cons_zero, List.set_cons_succ, List.getD_cons_zero, List.getD_cons_succ, Option.isNone_some, Option.isNone_none, Go.Disk.fsO, Go.Disk.fileO, Bool.false_eq_true, eq_self, Nat.reduceAdd, Nat.reduceSub, Nat.reduceMul, Nat.reduceLT, Nat.reduceLeDiff, Nat.reduceEqDiff, Int.reduceNeg, Int.reduceEq, Int.reduceNe, Int.reduceBEq, Int.reduceBNe, Int.reduceLT, Int.reduceLE, Int.reduceGT, Int.reduceAdd, reduceIte, Bool.not_true, Bool.not_false, decide_true, decide_false, ne_eq, not_false_eq_true, not_true_eq_false, hn1]
    refine Ck_i ⟨by first | trivial | omega, by omega, by omega, by omega⟩ ?_
    refine app_copyK (C := C1) (lab := (k, 1)) (n := c.off) und22 und22 (.inl ⟨_, rfl⟩) tyf5 (by rfl) hsrc (by rw [byts_len, List.length_take]; omega) byts_one (by omega) (by omega) fun a2 c2 H2 C2 hs2 hev2 => ?_
    have hn2 := hev2.get hn1 fun h => h
    have hb2 := hb1.ev hev2 fun _ _ h => h
    have hss2 := hs1.ev hev2 fun _ _ h => h
    have hcn2 := (hev2.colOf hn1).trans hcn1
    have hev2 := hev1.trans hev2
    simp only [cellH_mk, cellO_some, add_mk, size_upd, upd_upd, one_int, one_bool, one_string, one_pointer, one_slice, one_map, one_func, st1_some, stN_nil, stN_cons, StV_mk, StO_some, Ld_some, RtI_mk, RtB_mk, RtS_mk, RtP_mk, RtL_mk, RtM_mk, RtA_mk, RtT_mk, NilC_some, New_eq, At_eq, Ck_true, Rt0_mk, BrB_true, BrB_false, Nat.zero_add, List.length_cons, List.length_nil, List.getElem?_cons_zero, List.getElem?_cons_succ, List.set_cons_zero, List.set_cons_succ, List.getD_cons_zero, List.getD_cons_succ, Option.isNone_some, Option.isNone_none, Go.Disk.fsO, Go.Disk.fileO, Bool.false_eq_true, eq_self, Nat.reduceAdd, Nat.reduceSub, Nat.reduceMul, Nat.reduceLT, Nat.reduceLeDiff, Nat.reduceEqDiff, Int.reduceNeg, Int.reduceEq, Int.reduceNe, Int.reduceBEq, Int.reduceBNe, Int.reduceLT, Int.reduceLE, Int.reduceGT, Int.reduceAdd, reduceIte, Bool.not_true, Bool.not_false, decide_true, decide_false, ne_eq, not_false_eq_true, not_true_eq_false, hn2]
    refine app_ownK (lab := (k, 1)) (new := byts c.b) und22 und22 (.inl ⟨_, rfl⟩) tyf5 (by rfl) hb2.src hb2.1 byts_one hs2 (by omega) (by omega) fun a3 c3 H3 C3 hs3 hev3 _ => ?_
    have hn3 := hev3.get hn2 (by rw [hcn2]; exact at1_no0 hk _ rfl)
    have hss3 := hss2.ev hev3 (at1_no0 hk)
    have hev3 : Ev (own k) H C H3 C3 := (hev2.mono fun _ h => h.elim).trans (hev3.mono fun _ => own_of_at1)
    simp only [cellH_mk, cellO_some, add_mk, size_upd, upd_upd, one_int, one_bool, one_string, one_pointer, one_slice, one_map, one_func, st1_some, stN_nil, stN_cons, StV_mk, StO_some, Ld_some, RtI_mk, RtB_mk, RtS_mk, RtP_mk, RtL_mk, RtM_mk, RtA_mk, RtT_mk, NilC_some, New_eq, At_eq, Ck_true, Rt0_mk, BrB_true, BrB_false, Nat.zero_add, List.length_cons, List.length_nil, List.getElem?_cons_zero, List.getElem?_cons_succ, List.set_cons_zero, List.set_cons_succ, List.getD_cons_zero, List.getD_cons_succ, Option.isNone_some, Option.isNone_none, Go.Disk.fsO, Go.Disk.fileO, Bool.false_eq_true, eq_self, Nat.reduceAdd, Nat.reduceSub, Nat.reduceMul, Nat.reduceLT, Nat.reduceLeDiff, Nat.reduceEqDiff, Int.reduceNeg, Int.reduceEq, Int.reduceNe, Int.reduceBEq, Int.reduceBNe, Int.reduceLT, Int.reduceLE, Int.reduceGT, Int.reduceAdd, reduceIte, Bool.not_true, Bool.not_false, decide_true, decide_false, ne_eq, not_false_eq_true, not_true_eq_false, hn3]
    have w1 : IntKind.wrap .i64 ((c.off : Int) + ((sl.2.1 : Nat) : Int)) = ((c.off + sl.2.1 : Nat) : Int) := by rw [w64 (by omega) (by omega)]; omega
    have fin : ∀ {a l cc H4 C4}, SlO H4 C4 (k, 1) 5 1 a l cc (byts (xs.take c.off ++ (c.b ++ xs.drop (c.off + c.b.length)))) → Ev (own k) H C H4 C4 → K (.slice a l cc) H4 := fun h1 h2 =>
      hK (_, _, _) _ _ ((h1.recol fun _ => (0, 0)).imm rfl) (h2.done (fun b hb => hfr b (by rw [← hnb]; exact hb)) fun _ => (0, 0))
    refine ⟨fun a l cc H4 => ∃ C4, SlO H4 C4 (k, 1) 5 1 a l cc (byts (xs.take c.off ++ (c.b ++ xs.drop (c.off + c.b.length)))) ∧ Ev (own k) H C H4 C4, ?_, ?_⟩
    · rintro fr a l cc H4 ⟨C4, q1, q2⟩
      exact fin q1 q2
    simp only [cellH_mk, cellO_some, add_mk, size_upd, upd_upd, one_int, one_bool, one_string, one_pointer, one_slice, one_map, one_func, st1_some, stN_nil, stN_cons, StV_mk, StO_some, Ld_some, RtI_mk, RtB_mk, RtS_mk, RtP_mk, RtL_mk, RtM_mk, RtA_mk, RtT_mk, NilC_some, New_eq, At_eq, Ck_true, Rt0_mk, BrB_true, BrB_false, Nat.zero_add, List.length_cons, List.length_nil, List.getElem?_cons_zero, List.getElem?_cons_succ, List.set_cons_zero, List.set_cons_succ, List.getD_cons_zero, List.getD_cons_succ, Option.isNone_some, Option.isNone_none, Go.Disk.fsO, Go.Disk.fileO, Bool.false_eq_true, eq_self, Nat.reduceAdd, Nat.reduceSub, Nat.reduceMul, Nat.reduceLT, Nat.reduceLeDiff, Nat.reduceEqDiff, Int.reduceNeg, Int.reduceEq, Int.reduceNe, Int.reduceBEq, Int.reduceBNe, Int.reduceLT, Int.reduceLE, Int.reduceGT, Int.reduceAdd, reduceIte, Bool.not_true, Bool.not_false, decide_true, decide_false, ne_eq, not_false_eq_true, not_true_eq_false, hn3]
    rw [w1]
    refine BrB_i (fun hlt => ?_) (fun hlt => ?_)
    · have hlt := of_decide_eq_true hlt
      simp only [cellH_mk, cellO_some, add_mk, size_upd, upd_upd, one_int, one_bool, one_string, one_pointer, one_slice, one_map, one_func, st1_some, stN_nil, stN_cons, StV_mk, StO_some, Ld_some, RtI_mk, RtB_mk, RtS_mk, RtP_mk, RtL_mk, RtM_mk, RtA_mk, RtT_mk, NilC_some, New_eq, At_eq, Ck_true, Rt0_mk, BrB_true, BrB_false, Nat.zero_add, List.length_cons, List.length_nil, List.getElem?_cons_zero, List.getElem?_cons_succ, List.set_cons_zero, List.set_cons_succ, List.getD_cons_zero, List.getD_cons_succ, Option.isNone_some, Option.isNone_none, Go.Disk.fsO, Go.Disk.fileO, Bool.false_eq_true, eq_self, Nat.reduceAdd, Nat.reduceSub, Nat.reduceMul, Nat.reduceLT, Nat.reduceLeDiff, Nat.reduceEqDiff, Int.reduceNeg, Int.reduceEq, Int.reduceNe, Int.reduceBEq, Int.reduceBNe, Int.reduceLT, Int.reduceLE, Int.reduceGT, Int.reduceAdd, reduceIte, Bool.not_true, Bool.not_false, decide_true, decide_false, ne_eq, not_false_eq_true, not_true_eq_false, hn3]
      rw [w1]
      refine Ck_i ⟨by first | trivial | omega, by omega, by omega, by omega⟩ ?_
      have hsr := SlI.srcR hss3 (n := c.off + sl.2.1) (by omega)
      rw [Nat.mul_one, ← byts_drop] at hsr
      refine app_ownK (lab := (k, 1)) (new := byts (xs.drop (c.off + sl.2.1))) und22 und22 (.inl ⟨_, rfl⟩) tyf5 (by rfl) hsr (by rw [byts_len, List.length_drop]; omega) byts_one hs3 (by omega) (by omega) fun a5 c5 H5 C5 hs5 hev5 _ => ?_
      simp only [cellH_mk, cellO_some, add_mk, size_upd, upd_upd, one_int, one_bool, one_string, one_pointer, one_slice, one_map, one_func, st1_some, stN_nil, stN_cons, StV_mk, StO_some, Ld_some, RtI_mk, RtB_mk, RtS_mk, RtP_mk, RtL_mk, RtM_mk, RtA_mk, RtT_mk, NilC_some, New_eq, At_eq, Ck_true, Rt0_mk, BrB_true, BrB_false, Nat.zero_add, List.length_cons, List.length_nil, List.getElem?_cons_zero, List.getElem?_cons_succ, List.set_cons_zero, List.set_cons_succ, List.getD_cons_zero, List.getD_cons_succ, Option.isNone_some, Option.isNone_none, Go.Disk.fsO, Go.Disk.fileO, Bool.false_eq_true, eq_self, Nat.reduceAdd, Nat.reduceSub, Nat.reduceMul, Nat.reduceLT, Nat.reduceLeDiff, Nat.reduceEqDiff, Int.reduceNeg, Int.reduceEq, Int.reduceNe, Int.reduceBEq, Int.reduceBNe, Int.reduceLT, Int.reduceLE, Int.reduceGT, Int.reduceAdd, reduceIte, Bool.not_true, Bool.not_false, decide_true, decide_false, ne_eq, not_false_eq_true, not_true_eq_false]
      refine ⟨C5, ?_, hev3.trans (hev5.mono fun _ => own_of_at1)⟩
      rw [← byts_append, ← byts_append, List.append_assoc] at hs5
      rw [← hll]
      exact hs5
    · have hlt := of_decide_eq_false hlt
      refine ⟨C3, ?_, hev3⟩
      rw [← byts_append] at hs3
      rw [List.drop_eq_nil_of_le (by omega), List.append_nil]
      exact hs3

theorem rbytes_ok {H : Heap} {C : Col} {fb fo n : Nat} {f : FileA} {K : Value → Heap → Prop} (h : RFile H C fb fo f) (hp : FPath f.sure f.row f.now) (hn : n ≤ f.row.length) (hrl : f.row.length < 2 ^ 60)
    (hK : ∀ (s' : SlV) H' C', ByI H' C' s' ((f.row.take n).foldl (fun b c => c.app b) f.sure) → Ev no H C H' C' → K (.slice s'.1 s'.2.1 s'.2.2) H') :
    Fn 78 [.pointer (some ⟨fb, fo, none⟩), .int .i64 (n : Int)] H K := by
  refine F78_ok _ _ ?_
  unfold F78
  obtain ⟨cs, t, fz, s, r, rc, h1, h2, h3, h4, h5, h6, h7⟩ := h
  have e0 : Addr.add ⟨fb, fo, none⟩ 0 = ⟨fb, fo, none⟩ := by rw [add_mk, Nat.add_zero]
  simp only [cellH_mk, cellO_some, add_mk, size_upd, upd_upd, one_int, one_bool, one_string, one_pointer, one_slice, one_map, one_func, st1_some, stN_nil, stN_cons, StV_mk, StO_some, Ld_some, RtI_mk, RtB_mk, RtS_mk, RtP_mk, RtL_mk, RtM_mk, RtA_mk, RtT_mk, NilC_some, New_eq, At_eq, Ck_true, Rt0_mk, BrB_true, BrB_false, Nat.zero_add, List.length_cons, List.length_nil, List.getElem?_cons_zero, List.getElem?_cons_succ, List.set_cons_zero, List.set_cons_succ, List.getD_cons_zero, List.getD_cons_succ, Option.isNone_some, Option.isNone_none, Go.Disk.fsO, Go.Disk.fileO, Bool.false_eq_true, eq_self, Nat.reduceAdd, Nat.reduceSub, Nat.reduceMul, Nat.reduceLT, Nat.reduceLeDiff, Nat.reduceEqDiff, Int.reduceNeg, Int.reduceEq, Int.reduceNe, Int.reduceBEq, Int.reduceBNe, Int.reduceLT, Int.reduceLE, Int.reduceGT, Int.reduceAdd, reduceIte, Bool.not_true, Bool.not_false, decide_true, decide_false, ne_eq, not_false_eq_true, not_true_eq_false, h1, h2, e0]
  have hp0 := hp.len0
  refine rdone_ok (c := ⟨false, 0, []⟩) (sl := (none, 0, 0)) (s := s) (SlI.nil _ _ _) h4 (Nat.zero_le _) (by omega) (by simp) fun s' H1 C1 hs1 hev1 => ?_
  have ea : Chg.app ⟨false, 0, []⟩ f.sure = f.sure := by simp [Chg.app]
  rw [ea] at hs1
  simp only [cellH_mk, cellO_some, add_mk, size_upd, upd_upd, one_int, one_bool, one_string, one_pointer, one_slice, one_map, one_func, st1_some, stN_nil, stN_cons, StV_mk, StO_some, Ld_some, RtI_mk, RtB_mk, RtS_mk, RtP_mk, RtL_mk, RtM_mk, RtA_mk, RtT_mk, NilC_some, New_eq, At_eq, Ck_true, Rt0_mk, BrB_true, BrB_false, Nat.zero_add, List.length_cons, List.length_nil, List.getElem?_cons_zero, List.getElem?_cons_succ, List.set_cons_zero, List.set_cons_succ, List.getD_cons_zero, List.getD_cons_succ, Option.isNone_some, Option.isNone_none, Go.Disk.fsO, Go.Disk.fileO, Bool.false_eq_true, eq_self, Nat.reduceAdd, Nat.reduceSub, Nat.reduceMul, Nat.reduceLT, Nat.reduceLeDiff, Nat.reduceEqDiff, Int.reduceNeg, Int.reduceEq, Int.reduceNe, Int.reduceBEq, Int.reduceBNe, Int.reduceLT, Int.reduceLE, Int.reduceGT, Int.reduceAdd, reduceIte, Bool.not_true, Bool.not_false, decide_true, decide_false, ne_eq, not_false_eq_true, not_true_eq_false]
  refine ⟨fun a l c i H' => ∃ C', ∃ m : Nat, i = (m : Int) ∧ m ≤ n ∧ ByI H' C' (a, l, c) ((f.row.take m).foldl (fun b c => c.app b) f.sure) ∧ Ev no H C H' C', fun _ _ _ i _ => n - i.toNat, ⟨C1, 0, rfl, by omega, hs1, hev1⟩, ?_⟩
  rintro fr a l c i H2 ⟨C2, m, rfl, hm, hs2, hev2⟩
  simp only [cellH_mk, cellO_some, add_mk, size_upd, upd_upd, one_int, one_bool, one_string, one_pointer, one_slice, one_map, one_func, st1_some, stN_nil, stN_cons, StV_mk, StO_some, Ld_some, RtI_mk, RtB_mk, RtS_mk, RtP_mk, RtL_mk, RtM_mk, RtA_mk, RtT_mk, NilC_some, New_eq, At_eq, Ck_true, Rt0_mk, BrB_true, BrB_false, Nat.zero_add, List.length_cons, List.length_nil, List.getElem?_cons_zero, List.getElem?_cons_succ, List.set_cons_zero, List.set_cons_succ, List.getD_cons_zero, List.getD_cons_succ, Option.isNone_some, Option.isNone_none, Go.Disk.fsO, Go.Disk.fileO, Bool.false_eq_true, eq_self, Nat.reduceAdd, Nat.reduceSub, Nat.reduceMul, Nat.reduceLT, Nat.reduceLeDiff, Nat.reduceEqDiff, Int.reduceNeg, Int.reduceEq, Int.reduceNe, Int.reduceBEq, Int.reduceBNe, Int.reduceLT, Int.reduceLE, Int.reduceGT, Int.reduceAdd, reduceIte, Bool.not_true, Bool.not_false, decide_true, decide_false, ne_eq, not_false_eq_true, not_true_eq_false]
  refine BrB_i (fun hlt => ?_) (fun hlt => ?_)
  · have hlt := of_decide_eq_true hlt
    have hcm : f.row[m]? = some (f.row[m]'(by omega)) := List.getElem?_eq_getElem _
    generalize f.row[m]'(by omega) = cg at hcm
    have hb2 := hev2.get h1 fun h => h
    simp only [cellH_mk, cellO_some, add_mk, size_upd, upd_upd, one_int, one_bool, one_string, one_pointer, one_slice, one_map, one_func, st1_some, stN_nil, stN_cons, StV_mk, StO_some, Ld_some, RtI_mk, RtB_mk, RtS_mk, RtP_mk, RtL_mk, RtM_mk, RtA_mk, RtT_mk, NilC_some, New_eq, At_eq, Ck_true, Rt0_mk, BrB_true, BrB_false, Nat.zero_add, List.length_cons, List.length_nil, List.getElem?_cons_zero, List.getElem?_cons_succ, List.set_cons_zero, List.set_cons_succ, List.getD_cons_zero, List.getD_cons_succ, Option.isNone_some, Option.isNone_none, Go.Disk.fsO, Go.Disk.fileO, Bool.false_eq_true, eq_self, Nat.reduceAdd, Nat.reduceSub, Nat.reduceMul, Nat.reduceLT, Nat.reduceLeDiff, Nat.reduceEqDiff, Int.reduceNeg, Int.reduceEq, Int.reduceNe, Int.reduceBEq, Int.reduceBNe, Int.reduceLT, Int.reduceLE, Int.reduceGT, Int.reduceAdd, reduceIte, Bool.not_true, Bool.not_false, decide_true, decide_false, ne_eq, not_false_eq_true, not_true_eq_false, hb2, h3]
    obtain ⟨sg, g1, g2⟩ := h6.get hcm
    refine (slR_ev h5 hev2).row (i := m) (by omega) fun e he _ => ?_
    rw [g1] at he
    unfold chgCells at he
    simp only [cellH_mk, cellO_some, add_mk, size_upd, upd_upd, one_int, one_bool, one_string, one_pointer, one_slice, one_map, one_func, st1_some, stN_nil, stN_cons, StV_mk, StO_some, Ld_some, RtI_mk, RtB_mk, RtS_mk, RtP_mk, RtL_mk, RtM_mk, RtA_mk, RtT_mk, NilC_some, New_eq, At_eq, Ck_true, Rt0_mk, BrB_true, BrB_false, Nat.zero_add, List.length_cons, List.length_nil, List.getElem?_cons_zero, List.getElem?_cons_succ, List.set_cons_zero, List.set_cons_succ, List.getD_cons_zero, List.getD_cons_succ, Option.isNone_some, Option.isNone_none, Go.Disk.fsO, Go.Disk.fileO, Bool.false_eq_true, eq_self, Nat.reduceAdd, Nat.reduceSub, Nat.reduceMul, Nat.reduceLT, Nat.reduceLeDiff, Nat.reduceEqDiff, Int.reduceNeg, Int.reduceEq, Int.reduceNe, Int.reduceBEq, Int.reduceBNe, Int.reduceLT, Int.reduceLE, Int.reduceGT, Int.reduceAdd, reduceIte, Bool.not_true, Bool.not_false, decide_true, decide_false, ne_eq, not_false_eq_true, not_true_eq_false, he]
    have hck := hp.next hcm
    refine rdone_ok (c := cg) (sl := sg) (s := (a, l, c)) (g2.ev hev2 fun _ _ h => h) hs2 hck.1 (by have := (hp.at m).len1; omega) (by have := hck.2; omega) fun s3 H3 C3 hs3 hev3 => ?_
    simp only [cellH_mk, cellO_some, add_mk, size_upd, upd_upd, one_int, one_bool, one_string, one_pointer, one_slice, one_map, one_func, st1_some, stN_nil, stN_cons, StV_mk, StO_some, Ld_some, RtI_mk, RtB_mk, RtS_mk, RtP_mk, RtL_mk, RtM_mk, RtA_mk, RtT_mk, NilC_some, New_eq, At_eq, Ck_true, Rt0_mk, BrB_true, BrB_false, Nat.zero_add, List.length_cons, List.length_nil, List.getElem?_cons_zero, List.getElem?_cons_succ, List.set_cons_zero, List.set_cons_succ, List.getD_cons_zero, List.getD_cons_succ, Option.isNone_some, Option.isNone_none, Go.Disk.fsO, Go.Disk.fileO, Bool.false_eq_true, eq_self, Nat.reduceAdd, Nat.reduceSub, Nat.reduceMul, Nat.reduceLT, Nat.reduceLeDiff, Nat.reduceEqDiff, Int.reduceNeg, Int.reduceEq, Int.reduceNe, Int.reduceBEq, Int.reduceBNe, Int.reduceLT, Int.reduceLE, Int.reduceGT, Int.reduceAdd, reduceIte, Bool.not_true, Bool.not_false, decide_true, decide_false, ne_eq, not_false_eq_true, not_true_eq_false]
    rw [w64 (by omega) (by omega)]
    refine ⟨⟨C3, m + 1, by omega, by omega, ?_, hev2.trans hev3⟩, ?_⟩
    · rw [List.take_add_one, hcm, List.foldl_append]
      exact hs3
    · show n - ((m : Int) + 1).toNat < n - ((m : Nat) : Int).toNat
      omega
  · have hlt := of_decide_eq_false hlt
    have hmn : m = n := by omega
    subst hmn
    exact hK (a, l, c) H2 C2 hs2 hev2

theorem rnow_ok {H : Heap} {C : Col} {fb fo : Nat} {f : FileA} {K : Value → Heap → Prop} (h : RFile H C fb fo f) (hp : FPath f.sure f.row f.now) (hrl : f.row.length < 2 ^ 60)
    (hK : ∀ (s' : SlV) H' C', ByI H' C' s' f.now → Ev no H C H' C' → K (.slice s'.1 s'.2.1 s'.2.2) H') : Fn 89 [.pointer (some ⟨fb, fo, none⟩)] H K := by
  refine F89_ok _ ?_
  unfold F89
  obtain ⟨cs, t, fz, s, r, rc, h1, h2, h3, h4, h5, h6, h7⟩ := id h
  simp only [cellH_mk, cellO_some, add_mk, size_upd, upd_upd, one_int, one_bool, one_string, one_pointer, one_slice, one_map, one_func, st1_some, stN_nil, stN_cons, StV_mk, StO_some, Ld_some, RtI_mk, RtB_mk, RtS_mk, RtP_mk, RtL_mk, RtM_mk, RtA_mk, RtT_mk, NilC_some, New_eq, At_eq, Ck_true, Rt0_mk, BrB_true, BrB_false, Nat.zero_add, List.length_cons, List.length_nil, List.getElem?_cons_zero, List.getElem?_cons_succ, List.set_cons_zero, List.set_cons_succ, List.getD_cons_zero, List.getD_cons_succ, Option.isNone_some, Option.isNone_none, Go.Disk.fsO, Go.Disk.fileO, Bool.false_eq_true, eq_self, Nat.reduceAdd, Nat.reduceSub, Nat.reduceMul, Nat.reduceLT, Nat.reduceLeDiff, Nat.reduceEqDiff, Int.reduceNeg, Int.reduceEq, Int.reduceNe, Int.reduceBEq, Int.reduceBNe, Int.reduceLT, Int.reduceLE, Int.reduceGT, Int.reduceAdd, reduceIte, Bool.not_true, Bool.not_false, decide_true, decide_false, ne_eq, not_false_eq_true, not_true_eq_false, h1, h3]
  rw [h7]
  refine rbytes_ok h hp (Nat.le_refl _) hrl fun s' H' C' hs' hev => ?_
  rw [List.take_length, ← hp.fold] at hs'
  simp only [cellH_mk, cellO_some, add_mk, size_upd, upd_upd, one_int, one_bool, one_string, one_pointer, one_slice, one_map, one_func, st1_some, stN_nil, stN_cons, StV_mk, StO_some, Ld_some, RtI_mk, RtB_mk, RtS_mk, RtP_mk, RtL_mk, RtM_mk, RtA_mk, RtT_mk, NilC_some, New_eq, At_eq, Ck_true, Rt0_mk, BrB_true, BrB_false, Nat.zero_add, List.length_cons, List.length_nil, List.getElem?_cons_zero, List.getElem?_cons_succ, List.set_cons_zero, List.set_cons_succ, List.getD_cons_zero, List.getD_cons_succ, Option.isNone_some, Option.isNone_none, Go.Disk.fsO, Go.Disk.fileO, Bool.false_eq_true, eq_self, Nat.reduceAdd, Nat.reduceSub, Nat.reduceMul, Nat.reduceLT, Nat.reduceLeDiff, Nat.reduceEqDiff, Int.reduceNeg, Int.reduceEq, Int.reduceNe, Int.reduceBEq, Int.reduceBNe, Int.reduceLT, Int.reduceLE, Int.reduceGT, Int.reduceAdd, reduceIte, Bool.not_true, Bool.not_false, decide_true, decide_false, ne_eq, not_false_eq_true, not_true_eq_false]
  exact hK s' H' C' hs' hev
def RCutsAt (H : Heap) (C : Col) (lab : Lab) (nb : Nat) (zs : List Int) : Prop := C nb = lab ∧ ∃ a l c all at_, H[nb]? = some (.cells ⟨[.slice a l c, .int .i64 ((at_ : Nat) : Int)]⟩ 106 (0, 0)) ∧ SlI H C 1 a l c (ints all) ∧ c < 2 ^ 62 ∧ at_ ≤ l ∧ zs = all.drop at_
theorem RCutsAt.ev {S : Lab → Prop} {H H' : Heap} {C C' : Col} {lab : Lab} {nb : Nat} {zs : List Int} (h : RCutsAt H C lab nb zs) (he : Ev S H C H' C') (h0 : ∀ x, x.1 = 0 → ¬ S x) (hl : ¬ S lab) : RCutsAt H' C' lab nb zs := by
  obtain ⟨a, sa, sl, sc, all, at_, b, c, d, e, g⟩ := h
  exact ⟨(he.colOf b).trans a, sa, sl, sc, all, at_, he.get b (by rw [a]; exact hl), c.ev he h0, d, e, g⟩
theorem rtake_ok {H : Heap} {C : Col} {lab : Lab} {nb many : Nat} {zs : List Int} {K : Value → Heap → Prop} (h : RCutsAt H C lab nb zs) (hlab : lab.1 ≠ 0) (hm : 0 < many) (hm2 : many < 2 ^ 62)
    (hK : ∀ H', RCutsAt H' C lab nb (tk zs many).2 → Ev (at1 lab) H C H' C → K (.int .i64 ((tk zs many).1 : Int)) H') :
    Fn 77 [.pointer (some ⟨nb, 0, none⟩), .int .i64 (many : Int)] H K := by
  refine F77_ok _ _ ?_
  unfold F77
  obtain ⟨hc, a, l, c, all, at_, hb, hs, hcl, hat, hzs⟩ := h
  have hll : l = all.length := by have := hs.1; simp [ints] at this; omega
  have hlc := hs.2.1
  have hl := lt_of_get hb
  simp only [cellH_mk, cellO_some, add_mk, size_upd, upd_upd, one_int, one_bool, one_string, one_pointer, one_slice, one_map, one_func, st1_some, stN_nil, stN_cons, StV_mk, StO_some, Ld_some, RtI_mk, RtB_mk, RtS_mk, RtP_mk, RtL_mk, RtM_mk, RtA_mk, RtT_mk, NilC_some, New_eq, At_eq, Ck_true, Rt0_mk, BrB_true, BrB_false, Nat.zero_add, List.length_cons, List.length_nil, List.getElem?_cons_zero, List.getElem?_cons_succ, List.set_cons_zero, List.set_cons_succ, List.getD_cons_zero, List.getD_cons_succ, Option.isNone_some, Option.isNone_none, Go.Disk.fsO, Go.Disk.fileO, Bool.false_eq_true, eq_self, Nat.reduceAdd, Nat.reduceSub, Nat.reduceMul, Nat.reduceLT, Nat.reduceLeDiff, Nat.reduceEqDiff, Int.reduceNeg, Int.reduceEq, Int.reduceNe, Int.reduceBEq, Int.reduceBNe, Int.reduceLT, Int.reduceLE, Int.reduceGT, Int.reduceAdd, reduceIte, Bool.not_true, Bool.not_false, decide_true, decide_false, ne_eq, not_false_eq_true, not_true_eq_false, hb]
  refine BrB_i (fun h => ?_) (fun h => ?_)
  · have h := eq_of_beq h
    have : zs = [] := by rw [hzs]; exact List.drop_eq_nil_of_le (by omega)
    subst this
    exact hK H ⟨hc, a, l, c, all, at_, hb, hs, hcl, hat, hzs⟩ (Ev.refl _ _ _)
  · have hne : at_ < l := by
      have : ¬ ((at_ : Int) = (l : Int)) := fun e => by rw [e] at h; simp at h
      omega
    have hz : all[at_]? = some (all[at_]'(by omega)) := List.getElem?_eq_getElem _
    have hd : zs = all[at_]'(by omega) :: all.drop (at_ + 1) := by rw [hzs, List.drop_eq_getElem_cons]
    generalize all[at_]'(by omega) = z at hz hd
    simp only [cellH_mk, cellO_some, add_mk, size_upd, upd_upd, one_int, one_bool, one_string, one_pointer, one_slice, one_map, one_func, st1_some, stN_nil, stN_cons, StV_mk, StO_some, Ld_some, RtI_mk, RtB_mk, RtS_mk, RtP_mk, RtL_mk, RtM_mk, RtA_mk, RtT_mk, NilC_some, New_eq, At_eq, Ck_true, Rt0_mk, BrB_true, BrB_false, Nat.zero_add, List.length_cons, List.length_nil, List.getElem?_cons_zero, List.getElem?_cons_succ, List.set_cons_zero, List.set_cons_succ, List.getD_cons_zero, List.getD_cons_succ, Option.isNone_some, Option.isNone_none, Go.Disk.fsO, Go.Disk.fileO, Bool.false_eq_true, eq_self, Nat.reduceAdd, Nat.reduceSub, Nat.reduceMul, Nat.reduceLT, Nat.reduceLeDiff, Nat.reduceEqDiff, Int.reduceNeg, Int.reduceEq, Int.reduceNe, Int.reduceBEq, Int.reduceBNe, Int.reduceLT, Int.reduceLE, Int.reduceGT, Int.reduceAdd, reduceIte, Bool.not_true, Bool.not_false, decide_true, decide_false, ne_eq, not_false_eq_true, not_true_eq_false, hb, get_upd_self, hl]
    rw [w64 (n := (at_ : Int) + 1) (by omega) (by omega)]
    have hwm : IntKind.wrap .i64 ((at_ : Int) + 1 - 1) = (at_ : Int) := by rw [w64 (by omega) (by omega)]; omega
    rw [hwm]
    have hev : Ev (at1 lab) H C (upd H nb (.cells ⟨[.slice a l c, .int .i64 ((at_ : Int) + 1)]⟩ 106 (0, 0))) C := ev_upd hc _
    have hb2 : (upd H nb (.cells ⟨[.slice a l c, .int .i64 ((at_ : Int) + 1)]⟩ 106 (0, 0)))[nb]? = some (.cells ⟨[.slice a l c, .int .i64 ((at_ : Int) + 1)]⟩ 106 (0, 0)) := get_upd_of hb
    have hs2 := hs.ev hev (fun x hx e => by unfold at1 at e; rw [e] at hx; exact hlab hx)
    generalize upd H nb _ = H2 at *
    refine hs2.r.cell (i := at_) (by omega) (v := .int .i64 z) (by unfold ints; rw [List.getElem?_map, hz]; rfl) fun e he => ?_
    simp only [cellH_mk, cellO_some, add_mk, size_upd, upd_upd, one_int, one_bool, one_string, one_pointer, one_slice, one_map, one_func, st1_some, stN_nil, stN_cons, StV_mk, StO_some, Ld_some, RtI_mk, RtB_mk, RtS_mk, RtP_mk, RtL_mk, RtM_mk, RtA_mk, RtT_mk, NilC_some, New_eq, At_eq, Ck_true, Rt0_mk, BrB_true, BrB_false, Nat.zero_add, List.length_cons, List.length_nil, List.getElem?_cons_zero, List.getElem?_cons_succ, List.set_cons_zero, List.set_cons_succ, List.getD_cons_zero, List.getD_cons_succ, Option.isNone_some, Option.isNone_none, Go.Disk.fsO, Go.Disk.fileO, Bool.false_eq_true, eq_self, Nat.reduceAdd, Nat.reduceSub, Nat.reduceMul, Nat.reduceLT, Nat.reduceLeDiff, Nat.reduceEqDiff, Int.reduceNeg, Int.reduceEq, Int.reduceNe, Int.reduceBEq, Int.reduceBNe, Int.reduceLT, Int.reduceLE, Int.reduceGT, Int.reduceAdd, reduceIte, Bool.not_true, Bool.not_false, decide_true, decide_false, ne_eq, not_false_eq_true, not_true_eq_false, he]
    have e1 : IntKind.wrap .u64 (many : Int) = (many : Int) := by rw [wu64]; omega
    have e2 : IntKind.wrap .u64 z = z % 2 ^ 64 := wu64 z
    have e3 : Int.tmod (z % 2 ^ 64) (many : Int) = z % 2 ^ 64 % (many : Int) := Int.tmod_eq_emod_of_nonneg (by omega)
    have e4 : 0 ≤ z % 2 ^ 64 % (many : Int) ∧ z % 2 ^ 64 % (many : Int) < many := ⟨Int.emod_nonneg _ (by omega), Int.emod_lt_of_pos _ (by omega)⟩
    rw [e1, e2, e3, w64 (by omega) (by omega)]
    refine Ck_i (by omega) ?_
    subst hd
    have := hK H2 ⟨hc, a, l, c, all, at_ + 1, hb2, hs2, hcl, by omega, rfl⟩ hev
    have e6 : (((tk (z :: all.drop (at_ + 1)) many).1 : Nat) : Int) = z % 2 ^ 64 % (many : Int) := by
      show (((z % 2 ^ 64 % (many : Int)).toNat : Nat) : Int) = _
      omega
    rw [e6] at this
    exact this
end Go.Proofs

namespace Go.Disk
open Go Go.Fx
set_option linter.unusedVariables false
/-! ## The reference's disk in the heap -/
structure RefR where
  room : Int
  files : SlV
  sure : SlV
  row : SlV
  seen : SlV
  acts : Int
  fuse : Int
  dead : Bool
def refO (r : RefR) : Obj := .cells ⟨[.int .i64 r.room, .slice r.files.1 r.files.2.1 r.files.2.2, .slice r.sure.1 r.sure.2.1 r.sure.2.2, .slice r.row.1 r.row.2.1 r.row.2.2, .slice r.seen.1 r.seen.2.1 r.seen.2.2, .int .i64 r.acts, .int .i64 r.fuse, .bool r.dead]⟩ 102 (0, 0)
def dirsOf : Dir → List Mv → List Dir
  | _, [] => []
  | d, m :: ms => m.app d :: dirsOf (m.app d) ms
theorem dirsOf_len : ∀ (ms : List Mv) (d : Dir), (dirsOf d ms).length = ms.length
  | [], d => rfl
  | m :: ms, d => by
    show (dirsOf _ ms).length + 1 = _
    rw [dirsOf_len ms]; rfl
theorem dirsOf_snoc (m : Mv) : ∀ (ms : List Mv) (d : Dir), dirsOf d (ms ++ [m]) = dirsOf d ms ++ [m.app (ms.foldl (fun d m => m.app d) d)]
  | [], d => rfl
  | q :: ms, d => by
    show _ :: dirsOf _ (ms ++ [m]) = _
    rw [dirsOf_snoc m ms]; rfl
theorem dirsOf_get : ∀ {ms : List Mv} {d : Dir} {k : Nat}, k < ms.length → (dirsOf d ms)[k]? = some ((ms.take (k + 1)).foldl (fun d m => m.app d) d)
  | [], d, k, h => by simp at h
  | m :: ms, d, 0, h => by simp [dirsOf]
  | m :: ms, d, k + 1, h => by
    show (dirsOf (m.app d) ms)[k]? = _
    rw [dirsOf_get (by simpa using h)]; rfl
def RRow (H : Heap) (C : Col) : List Dir → List Value → Prop
  | [], vs => vs = []
  | d :: ds, vs => ∃ (s : SlV) (r : List Value), vs = .slice s.1 s.2.1 s.2.2 :: r ∧ EntsI H C s d ∧ RRow H C ds r
theorem RRow.ev {S : Lab → Prop} {H H' : Heap} {C C' : Col} (he : Ev S H C H' C') (hS : ∀ x, x.1 = 0 → ¬ S x) : ∀ {ds : List Dir} {vs : List Value}, RRow H C ds vs → RRow H' C' ds vs
  | [], _, h => h
  | d :: ds, vs, ⟨s, r, h1, h2, h3⟩ => ⟨s, r, h1, h2.ev he hS, RRow.ev he hS h3⟩
theorem RRow.len {H : Heap} {C : Col} : ∀ {ds : List Dir} {vs : List Value}, RRow H C ds vs → vs.length = ds.length
  | [], vs, h => by rw [h]; rfl
  | d :: ds, vs, ⟨s, r, h1, _, h3⟩ => by rw [h1, List.length_cons, h3.len]; rfl
theorem RRow.snoc {H : Heap} {C : Col} {s : SlV} {d : Dir} (hs : EntsI H C s d) : ∀ {ds : List Dir} {vs : List Value}, RRow H C ds vs → RRow H C (ds ++ [d]) (vs ++ [.slice s.1 s.2.1 s.2.2])
  | [], vs, h => by rw [h]; exact ⟨s, [], rfl, hs, rfl⟩
  | e :: ds, vs, ⟨t, r, h1, h2, h3⟩ => ⟨t, r ++ [.slice s.1 s.2.1 s.2.2], by rw [h1]; rfl, h2, RRow.snoc hs h3⟩
theorem RRow.get {H : Heap} {C : Col} : ∀ {ds : List Dir} {vs : List Value} {i : Nat} {d : Dir}, RRow H C ds vs → ds[i]? = some d → ∃ s : SlV, vs[i]? = some (.slice s.1 s.2.1 s.2.2) ∧ EntsI H C s d
  | [], vs, i, d, h, hi => by simp at hi
  | e :: ds, vs, 0, d, ⟨s, r, h1, h2, h3⟩, hi => by
    simp only [List.getElem?_cons_zero, Option.some.injEq] at hi
    subst hi
    exact ⟨s, by rw [h1]; rfl, h2⟩
  | e :: ds, vs, i + 1, d, ⟨s, r, h1, h2, h3⟩, hi => by
    obtain ⟨t, g1, g2⟩ := h3.get (i := i) (by simpa using hi)
    exact ⟨t, by rw [h1]; exact g1, g2⟩
theorem RRow.one {H : Heap} {C : Col} : ∀ {ds : List Dir} {vs : List Value}, RRow H C ds vs → ∀ v ∈ vs, v.oneCell = true
  | [], vs, h, v, hv => by rw [h] at hv; cases hv
  | d :: ds, vs, ⟨s, r, h1, _, h3⟩, v, hv => by
    rw [h1] at hv
    rcases List.mem_cons.1 hv with rfl | hv
    · rfl
    · exact h3.one v hv
/-- The cells of the files' row: two a file; the row of file i has the label (k, 4 + i). -/
def RFiles (H : Heap) (C : Col) (k : Nat) : Nat → List FileA → List Value → Prop
  | _, [], vs => vs = []
  | i, f :: fs, vs => ∃ (s r : SlV) (rc rest : List Value), vs = .slice s.1 s.2.1 s.2.2 :: .slice r.1 r.2.1 r.2.2 :: rest ∧ ByI H C s f.sure ∧ SlO H C (k, 4 + i) 115 3 r.1 r.2.1 r.2.2 rc ∧ ChgsAt H C f.row rc ∧ r.2.1 = f.row.length ∧ RFiles H C k (i + 1) fs rest
theorem RFiles.ev {S : Lab → Prop} {H H' : Heap} {C C' : Col} {k : Nat} (he : Ev S H C H' C') (hS : ∀ x, x.1 = 0 → ¬ S x) : ∀ {fs : List FileA} {i : Nat} {vs : List Value}, (∀ j, i ≤ j → j < i + fs.length → ¬ S (k, 4 + j)) → RFiles H C k i fs vs → RFiles H' C' k i fs vs
  | [], i, _, _, h => h
  | f :: fs, i, vs, hk, ⟨s, r, rc, rest, h1, h2, h3, h4, h5, h6⟩ => ⟨s, r, rc, rest, h1, h2.ev he hS, h3.ev he (hk i (Nat.le_refl _) (by simp)), h4.ev he hS, h5, RFiles.ev he hS (fun j h1 h2 => hk j (by omega) (by simp at *; omega)) h6⟩
theorem RFiles.len {H : Heap} {C : Col} {k : Nat} : ∀ {fs : List FileA} {i : Nat} {vs : List Value}, RFiles H C k i fs vs → vs.length = fs.length * 2
  | [], i, vs, h => by rw [h]; rfl
  | f :: fs, i, vs, ⟨s, r, rc, rest, h1, _, _, _, _, h6⟩ => by
    rw [h1, List.length_cons, List.length_cons, h6.len, List.length_cons, Nat.add_mul]
theorem RFiles.one {H : Heap} {C : Col} {k : Nat} : ∀ {fs : List FileA} {i : Nat} {vs : List Value}, RFiles H C k i fs vs → ∀ v ∈ vs, v.oneCell = true
  | [], i, vs, h, v, hv => by rw [h] at hv; cases hv
  | f :: fs, i, vs, ⟨s, r, rc, rest, h1, _, _, _, _, h6⟩, v, hv => by
    rw [h1] at hv
    rcases List.mem_cons.1 hv with rfl | hv
    · rfl
    · rcases List.mem_cons.1 hv with rfl | hv
      · rfl
      · exact h6.one v hv
theorem RFiles.snoc {H : Heap} {C : Col} {k : Nat} {f : FileA} {s r : SlV} {rc : List Value} : ∀ {fs : List FileA} {i : Nat} {vs : List Value}, RFiles H C k i fs vs → ByI H C s f.sure → SlO H C (k, 4 + (i + fs.length)) 115 3 r.1 r.2.1 r.2.2 rc → ChgsAt H C f.row rc → r.2.1 = f.row.length →
    RFiles H C k i (fs ++ [f]) (vs ++ [.slice s.1 s.2.1 s.2.2, .slice r.1 r.2.1 r.2.2])
  | [], i, vs, h, h1, h2, h3, h4 => by rw [h]; exact ⟨s, r, rc, [], rfl, h1, h2, h3, h4, rfl⟩
  | e :: fs, i, vs, ⟨s', r', rc', rest, g1, g2, g3, g4, g5, g6⟩, h1, h2, h3, h4 => by
    refine ⟨s', r', rc', rest ++ [.slice s.1 s.2.1 s.2.2, .slice r.1 r.2.1 r.2.2], by rw [g1]; rfl, g2, g3, g4, g5, RFiles.snoc g6 h1 ?_ h3 h4⟩
    rw [show i + 1 + fs.length = i + (e :: fs).length from by simp; omega]
    exact h2
theorem RFiles.get {H : Heap} {C : Col} {k : Nat} : ∀ {fs : List FileA} {i j : Nat} {vs : List Value} {f : FileA}, RFiles H C k i fs vs → fs[j]? = some f →
    ∃ (s r : SlV) (rc : List Value), vs[j * 2]? = some (.slice s.1 s.2.1 s.2.2) ∧ vs[j * 2 + 1]? = some (.slice r.1 r.2.1 r.2.2) ∧ ByI H C s f.sure ∧ SlO H C (k, 4 + (i + j)) 115 3 r.1 r.2.1 r.2.2 rc ∧ ChgsAt H C f.row rc ∧ r.2.1 = f.row.length
  | [], i, j, vs, f, h, hj => by simp at hj
  | e :: fs, i, 0, vs, f, ⟨s, r, rc, rest, h1, h2, h3, h4, h5, h6⟩, hj => by
    simp only [List.getElem?_cons_zero, Option.some.injEq] at hj
    subst hj
    exact ⟨s, r, rc, by rw [h1]; rfl, by rw [h1]; rfl, h2, h3, h4, h5⟩
  | e :: fs, i, j + 1, vs, f, ⟨s, r, rc, rest, h1, h2, h3, h4, h5, h6⟩, hj => by
    obtain ⟨s', r', rc', g1, g2, g3, g4, g5, g6⟩ := h6.get (j := j) (by simpa using hj)
    refine ⟨s', r', rc', ?_, ?_, g3, ?_, g5, g6⟩
    · rw [h1, show (j + 1) * 2 = j * 2 + 1 + 1 from by omega]; exact g1
    · rw [h1, show (j + 1) * 2 + 1 = j * 2 + 1 + 1 + 1 from by omega]; exact g2
    · rw [show i + (j + 1) = i + 1 + j from by omega]; exact g4
/-- One file's pair of cells written anew. -/
theorem RFiles.set {H H' : Heap} {C C' : Col} {k : Nat} {f g : FileA} {s r : SlV} {rc : List Value} {S : Lab → Prop} (he : Ev S H C H' C') (hS : ∀ x, x.1 = 0 → ¬ S x) : ∀ {fs : List FileA} {i j : Nat} {vs : List Value}, RFiles H C k i fs vs → fs[j]? = some f → (∀ j', j' ≠ i + j → ¬ S (k, 4 + j')) →
    ByI H' C' s g.sure → SlO H' C' (k, 4 + (i + j)) 115 3 r.1 r.2.1 r.2.2 rc → ChgsAt H' C' g.row rc → r.2.1 = g.row.length → RFiles H' C' k i (fs.set j g) ((vs.set (j * 2) (.slice s.1 s.2.1 s.2.2)).set (j * 2 + 1) (.slice r.1 r.2.1 r.2.2))
  | [], i, j, vs, h, hj, _, _, _, _, _ => by simp at hj
  | e :: fs, i, 0, vs, ⟨s', r', rc', rest, h1, h2, h3, h4, h5, h6⟩, hj, hk, q1, q2, q3, q4 => by
    rw [h1]
    exact ⟨s, r, rc, rest, rfl, q1, q2, q3, q4, h6.ev he hS fun j' h1 _ => hk j' (by omega)⟩
  | e :: fs, i, j + 1, vs, ⟨s', r', rc', rest, h1, h2, h3, h4, h5, h6⟩, hj, hk, q1, q2, q3, q4 => by
    rw [h1, show (j + 1) * 2 = j * 2 + 1 + 1 from by omega]
    refine ⟨s', r', rc', (rest.set (j * 2) (.slice s.1 s.2.1 s.2.2)).set (j * 2 + 1) (.slice r.1 r.2.1 r.2.2), rfl, h2.ev he hS, h3.ev he (hk i (by omega)), h4.ev he hS, h5, ?_⟩
    exact RFiles.set he hS h6 (by simpa using hj) (fun j' hj' => hk j' (by omega)) q1 (by rw [show i + 1 + j = i + (j + 1) from by omega]; exact q2) q3 q4

structure RefX where
  p : Nat
  files : SlV
  sure : SlV
  row : SlV
  seen : SlV
def RefX.r (x : RefX) (D : Disk) : RefR := ⟨D.room, x.files, x.sure, x.row, x.seen, D.acts, D.fuse, D.dead⟩
theorem refX (x : RefX) (D : Disk) : refO (x.r D) = .cells ⟨[.int .i64 (D.room : Int), .slice x.files.1 x.files.2.1 x.files.2.2, .slice x.sure.1 x.sure.2.1 x.sure.2.2, .slice x.row.1 x.row.2.1 x.row.2.2, .slice x.seen.1 x.seen.2.1 x.seen.2.2, .int .i64 (D.acts : Int), .int .i64 (D.fuse : Int), .bool D.dead]⟩ 102 (0, 0) := rfl
def RFilesAt (H : Heap) (C : Col) (k : Nat) (s : SlV) (fs : List FileA) : Prop := ∃ cells, SlO H C (k, 1) 110 2 s.1 s.2.1 s.2.2 cells ∧ RFiles H C k 0 fs cells ∧ s.2.1 = fs.length
def RRowAt (H : Heap) (C : Col) (k : Nat) (s : SlV) (ds : List Dir) : Prop := ∃ cells, SlO H C (k, 2) 99 1 s.1 s.2.1 s.2.2 cells ∧ RRow H C ds cells ∧ s.2.1 = ds.length
structure RefAt (H : Heap) (C : Col) (k : Nat) (x : RefX) (D : Disk) : Prop where
  cp : C x.p = (k, 0)
  hp : H[x.p]? = some (refO (x.r D))
  files : RFilesAt H C k x.files D.files
  sure : EntsI H C x.sure D.sure
  row : RRowAt H C k x.row (dirsOf D.sure D.row)
  seen : EntsI H C x.seen D.seen
def IsRef (H : Heap) (C : Col) (k p : Nat) (D : Disk) : Prop := ∃ x, x.p = p ∧ RefAt H C k x D
section
variable {S : Lab → Prop} {H H' : Heap} {C C' : Col} {k : Nat}
theorem RFilesAt.ev {s : SlV} {fs : List FileA} (h : RFilesAt H C k s fs) (he : Ev S H C H' C') (hS : ∀ x, x.1 = 0 → ¬ S x) (h1 : ¬ S (k, 1)) (h2 : ∀ j, ¬ S (k, 4 + j)) : RFilesAt H' C' k s fs := by
  obtain ⟨cells, a, b, c⟩ := h
  exact ⟨cells, a.ev he h1, b.ev he hS fun j _ _ => h2 j, c⟩
theorem RRowAt.ev {s : SlV} {ds : List Dir} (h : RRowAt H C k s ds) (he : Ev S H C H' C') (hS : ∀ x, x.1 = 0 → ¬ S x) (h1 : ¬ S (k, 2)) : RRowAt H' C' k s ds := by
  obtain ⟨cells, a, b, c⟩ := h
  exact ⟨cells, a.ev he h1, b.ev he hS, c⟩
theorem RefAt.ev {x : RefX} {D : Disk} (h : RefAt H C k x D) (he : Ev S H C H' C') (hS : ∀ x, x.1 = 0 → ¬ S x) (hk : ∀ j, ¬ S (k, j)) : RefAt H' C' k x D :=
  ⟨(he.colOf h.hp).trans h.cp, he.get h.hp (by rw [h.cp]; exact hk _), h.files.ev he hS (hk _) fun j => hk _, h.sure.ev he hS, h.row.ev he hS (hk _), h.seen.ev he hS⟩
theorem IsRef.ev {p : Nat} {D : Disk} (h : IsRef H C k p D) (he : Ev S H C H' C') (hS : ∀ x, x.1 = 0 → ¬ S x) (hk : ∀ j, ¬ S (k, j)) : IsRef H' C' k p D := by
  obtain ⟨x, e, h⟩ := h
  exact ⟨x, e, h.ev he hS hk⟩
/-- The block alone is written anew. -/
theorem RefAt.put {x x' : RefX} {D' : Disk} {o : Obj} (hk : k ≠ 0) (cp : C x.p = (k, 0)) (hp : H[x.p]? = some o) (e : x'.p = x.p) (hf : RFilesAt H C k x'.files D'.files) (hs : EntsI H C x'.sure D'.sure) (hr : RRowAt H C k x'.row (dirsOf D'.sure D'.row)) (hn : EntsI H C x'.seen D'.seen) :
    RefAt (upd H x.p (refO (x'.r D'))) C k x' D' ∧ Ev (at1 (k, 0)) H C (upd H x.p (refO (x'.r D'))) C := by
  have he := ev_upd (H := H) cp (refO (x'.r D'))
  exact ⟨⟨by rw [e]; exact cp, by rw [e]; exact get_upd_of hp, hf.ev he (at1_no0 hk) (at1_ne (by omega)) fun j => at1_ne (by omega), hs.ev he (at1_no0 hk), hr.ev he (at1_no0 hk) (at1_ne (by omega)), hn.ev he (at1_no0 hk)⟩, he⟩
/-- The file's place in the row of files: to read. -/
theorem RFilesAt.file {s : SlV} {fs : List FileA} (h : RFilesAt H C k s fs) {n : Nat} {f : FileA} (hn : fs[n]? = some f) {K : Addr → Prop} (hK : ∀ fb fo, RFile H C fb fo f → K ⟨fb, fo, none⟩) : Idx s.1 s.2.1 (n : Int) 2 K := by
  obtain ⟨cells, h1, h2, h3⟩ := h
  have hnl := (List.getElem?_eq_some_iff.1 hn).1
  obtain ⟨t, r, rc, g1, g2, g3, g4, g5, g6⟩ := h2.get hn
  obtain ⟨q1, q2, q3⟩ := h1
  rcases q3 with ⟨_, q, _⟩ | ⟨b, cs, q4, q5, q6, q7, q8⟩
  · omega
  · rw [q4]
    refine Idx_i (by omega) (by omega) ?_
    rw [Int.toNat_natCast, Nat.zero_add]
    have hc : ∀ j v, cells[j]? = some v → cs[j]? = some v := fun j v hv => by
      rw [← q8, List.getElem?_take] at hv
      split at hv
      · exact hv
      · cases hv
    exact hK b (n * 2) ⟨cs, _, _, t, r, rc, q6, hc _ _ g1, hc _ _ g2, g3, g4.r, g5, g6⟩
end
end Go.Disk

namespace Go.Disk
open Go Go.Fx
set_option linter.unusedVariables false
theorem modify_set {α : Type} {l : List α} {n : Nat} {f : α} {g : α → α} (h : l[n]? = some f) : l.modify n g = l.set n (g f) := by
  refine List.ext_getElem? fun i => ?_
  rw [List.getElem?_modify, List.getElem?_set]
  by_cases e : n = i
  · subst e
    rw [if_pos rfl, h, if_pos (List.getElem?_eq_some_iff.1 h).1]
    simp
  · rw [if_neg e]; simp [e]
theorem set_same {α : Type} {l : List α} {n : Nat} {v : α} (h : l[n]? = some v) : l.set n v = l := by
  refine List.ext_getElem? fun i => ?_
  rw [List.getElem?_set]
  by_cases e : n = i
  · subst e; rw [if_pos rfl, if_pos (List.getElem?_eq_some_iff.1 h).1, h]
  · rw [if_neg e]
theorem RFilesAt.open {H : Heap} {C : Col} {k : Nat} {s : SlV} {fs : List FileA} (h : RFilesAt H C k s fs) {n : Nat} {f : FileA} (hn : fs[n]? = some f) :
    ∃ b cs, s.1 = some ⟨b, 0, none⟩ ∧ C b = (k, 1) ∧ H[b]? = some (.cells ⟨cs⟩ 110 (0, 0)) ∧ cs.length = s.2.2 * 2 ∧ s.2.1 = fs.length ∧ s.2.1 ≤ s.2.2 ∧ RFiles H C k 0 fs (cs.take (s.2.1 * 2)) := by
  obtain ⟨cells, ⟨q1, q2, q3⟩, h2, h3⟩ := h
  have hnl := (List.getElem?_eq_some_iff.1 hn).1
  rcases q3 with ⟨_, q, _⟩ | ⟨b, cs, q4, q5, q6, q7, q8⟩
  · omega
  · exact ⟨b, cs, q4, q5, q6, q7, h3, q2, by rw [q8]; exact h2⟩
/-- A file's two cells written anew, in the heap. -/
theorem RFilesAt.write {H H' : Heap} {C C' : Col} {k : Nat} {s : SlV} {fs : List FileA} {n b : Nat} {f g : FileA} {cs : List Value} {t r : SlV} {rc : List Value} {S : Lab → Prop} (he : Ev S H C H' C') (hS : ∀ x, x.1 = 0 → ¬ S x) (hSk : ∀ j, j ≠ n → ¬ S (k, 4 + j))
    (hb : s.1 = some ⟨b, 0, none⟩) (hcb : C' b = (k, 1)) (hl : cs.length = s.2.2 * 2) (hsl : s.2.1 = fs.length) (hsc : s.2.1 ≤ s.2.2) (hF : RFiles H C k 0 fs (cs.take (s.2.1 * 2))) (hn : fs[n]? = some f)
    (hb' : H'[b]? = some (.cells ⟨(cs.set (n * 2) (.slice t.1 t.2.1 t.2.2)).set (n * 2 + 1) (.slice r.1 r.2.1 r.2.2)⟩ 110 (0, 0)))
    (q1 : ByI H' C' t g.sure) (q2 : SlO H' C' (k, 4 + n) 115 3 r.1 r.2.1 r.2.2 rc) (q3 : ChgsAt H' C' g.row rc) (q4 : r.2.1 = g.row.length) : RFilesAt H' C' k s (fs.set n g) := by
  have hF' := RFiles.set he hS hF hn (fun j' h => hSk j' (by omega)) q1 (by rw [Nat.zero_add]; exact q2) q3 q4
  refine ⟨_, ⟨?_, hsc, .inr ⟨b, _, hb, hcb, hb', by rw [List.length_set, List.length_set]; exact hl, ?_⟩⟩, hF', by rw [List.length_set]; exact hsl⟩
  · rw [List.length_set, List.length_set, List.length_take]; omega
  · rw [List.take_set, List.take_set]
end Go.Disk
namespace Go.Proofs
open Go Go.Fx Go.Disk
set_option linter.unusedVariables false
set_option maxRecDepth 20000
section
variable {H : Heap} {C : Col} {k p : Nat} {D : Disk} {K : Value → Heap → Prop}

theorem rNew_bad {room : Int} (hr : room < 0 ∨ 1048576 < room) (hK : K (.tuple ⟨[.pointer none, .int .i64 2]⟩) H) : Fn 37 [.int .i64 room] H K := by
  refine F37_ok _ ?_
  unfold F37
  refine BrB_i (fun _ => hK) (fun h0 => ?_)
  have h0 := of_decide_eq_false h0
  refine BrB_i (fun _ => hK) (fun h1 => ?_)
  have h1 := of_decide_eq_false h1
  omega
theorem rNew_ok {room : Nat} (hr : room ≤ 2 ^ 20) (hK : ∀ p H' C', IsRef H' C' k p (⟨room, [], [], [], [], 0, 0, false⟩ : Disk) → Ev no H C H' C' → K (.tuple ⟨[.pointer (some ⟨p, 0, none⟩), .int .i64 0]⟩) H') : Fn 37 [.int .i64 (room : Int)] H K := by
  refine F37_ok _ ?_
  unfold F37
  refine BrB_i (fun h0 => by have := of_decide_eq_true h0; omega) (fun _ => ?_)
  refine BrB_i (fun h0 => by have := of_decide_eq_true h0; omega) (fun _ => ?_)
  simp only [cellH_mk, cellO_some, add_mk, size_upd, upd_upd, one_int, one_bool, one_string, one_pointer, one_slice, one_map, one_func, st1_some, stN_nil, stN_cons, StV_mk, StO_some, Ld_some, RtI_mk, RtB_mk, RtS_mk, RtP_mk, RtL_mk, RtM_mk, RtA_mk, RtT_mk, NilC_some, New_eq, At_eq, Ck_true, Rt0_mk, BrB_true, BrB_false, Nat.zero_add, List.length_cons, List.length_nil, List.getElem?_cons_zero, List.getElem?_cons_succ, List.set_cons_zero, List.set_cons_succ, List.getD_cons_zero, List.getD_cons_succ, Option.isNone_some, Option.isNone_none, Go.Disk.fsO, Go.Disk.fileO, Bool.false_eq_true, eq_self, Nat.reduceAdd, Nat.reduceSub, Nat.reduceMul, Nat.reduceLT, Nat.reduceLeDiff, Nat.reduceEqDiff, Int.reduceNeg, Int.reduceEq, Int.reduceNe, Int.reduceBEq, Int.reduceBNe, Int.reduceLT, Int.reduceLE, Int.reduceGT, Int.reduceAdd, reduceIte, Bool.not_true, Bool.not_false, decide_true, decide_false, ne_eq, not_false_eq_true, not_true_eq_false, NewN_eq]
  generalize hO : Obj.cells _ _ _ = o
  have e1 := ev_push no H C o (k, 0)
  refine hK H.size _ _ ⟨⟨H.size, (none, 0, 0), (none, 0, 0), (none, 0, 0), (none, 0, 0)⟩, rfl, ⟨setC_self _ _ _, by rw [get_push_self, ← hO]; rfl, ⟨[], SlO.nil _ _ _ _ _, rfl, rfl⟩, SlI.nil _ _ _, ⟨[], SlO.nil _ _ _ _ _, rfl, rfl⟩, SlI.nil _ _ _⟩⟩ e1

theorem rblown_ok {x : RefX} (hk : k ≠ 0) (h : RefAt H C k x D) (ha : D.acts < 2 ^ 40) (hf : D.fuse < 2 ^ 63) (hd : D.dead = false)
    (hK : ∀ H', RefAt H' C k x D.blow → Ev (at1 (k, 0)) H C H' C → K (.int .i64 (if D.fuse = 1 then 13 else 0)) H') : Fn 92 [.pointer (some ⟨x.p, 0, none⟩)] H K := by
  refine F92_ok _ ?_
  unfold F92
  have hp := h.hp
  have hl := lt_of_get hp
  obtain ⟨g1, g2⟩ := RefAt.put (x' := x) (D' := D.blow) hk h.cp h.hp rfl h.files h.sure h.row h.seen
  have hK1 := hK _ g1 g2
  rw [refX] at hp hK1
  have hw : IntKind.wrap .i64 ((D.acts : Int) + 1) = ((D.blow.acts : Nat) : Int) := by
    rw [w64 (by omega) (by omega)]
    show _ = ((D.acts + 1 : Nat) : Int)
    omega
  simp only [cellH_mk, cellO_some, add_mk, size_upd, upd_upd, one_int, one_bool, one_string, one_pointer, one_slice, one_map, one_func, st1_some, stN_nil, stN_cons, StV_mk, StO_some, Ld_some, RtI_mk, RtB_mk, RtS_mk, RtP_mk, RtL_mk, RtM_mk, RtA_mk, RtT_mk, NilC_some, New_eq, At_eq, Ck_true, Rt0_mk, BrB_true, BrB_false, Nat.zero_add, List.length_cons, List.length_nil, List.getElem?_cons_zero, List.getElem?_cons_succ, List.set_cons_zero, List.set_cons_succ, List.getD_cons_zero, List.getD_cons_succ, Option.isNone_some, Option.isNone_none, Go.Disk.fsO, Go.Disk.fileO, Bool.false_eq_true, eq_self, Nat.reduceAdd, Nat.reduceSub, Nat.reduceMul, Nat.reduceLT, Nat.reduceLeDiff, Nat.reduceEqDiff, Int.reduceNeg, Int.reduceEq, Int.reduceNe, Int.reduceBEq, Int.reduceBNe, Int.reduceLT, Int.reduceLE, Int.reduceGT, Int.reduceAdd, reduceIte, Bool.not_true, Bool.not_false, decide_true, decide_false, ne_eq, not_false_eq_true, not_true_eq_false, hp, get_upd_self, hl]
  rw [hw]
  have hbd : D.blow.dead = (D.fuse == 1) := rfl
  refine ⟨fun H' => D.fuse ≠ 1 ∧ H' = upd H x.p (.cells ⟨[.int .i64 (D.room : Int), .slice x.files.1 x.files.2.1 x.files.2.2, .slice x.sure.1 x.sure.2.1 x.sure.2.2, .slice x.row.1 x.row.2.1 x.row.2.2, .slice x.seen.1 x.seen.2.1 x.seen.2.2, .int .i64 (D.blow.acts : Int), .int .i64 (D.blow.fuse : Int), .bool D.blow.dead]⟩ 102 (0, 0)), ?_, ?_⟩
  · rintro fr H' ⟨hne, rfl⟩
    rw [if_neg hne] at hK1
    exact hK1
  · simp only [cellH_mk, cellO_some, add_mk, size_upd, upd_upd, one_int, one_bool, one_string, one_pointer, one_slice, one_map, one_func, st1_some, stN_nil, stN_cons, StV_mk, StO_some, Ld_some, RtI_mk, RtB_mk, RtS_mk, RtP_mk, RtL_mk, RtM_mk, RtA_mk, RtT_mk, NilC_some, New_eq, At_eq, Ck_true, Rt0_mk, BrB_true, BrB_false, Nat.zero_add, List.length_cons, List.length_nil, List.getElem?_cons_zero, List.getElem?_cons_succ, List.set_cons_zero, List.set_cons_succ, List.getD_cons_zero, List.getD_cons_succ, Option.isNone_some, Option.isNone_none, Go.Disk.fsO, Go.Disk.fileO, Bool.false_eq_true, eq_self, Nat.reduceAdd, Nat.reduceSub, Nat.reduceMul, Nat.reduceLT, Nat.reduceLeDiff, Nat.reduceEqDiff, Int.reduceNeg, Int.reduceEq, Int.reduceNe, Int.reduceBEq, Int.reduceBNe, Int.reduceLT, Int.reduceLE, Int.reduceGT, Int.reduceAdd, reduceIte, Bool.not_true, Bool.not_false, decide_true, decide_false, ne_eq, not_false_eq_true, not_true_eq_false, hp, get_upd_self, hl]
    refine BrB_i (fun h => ?_) (fun h => ?_)
    · have h := of_decide_eq_true h
      simp only [cellH_mk, cellO_some, add_mk, size_upd, upd_upd, one_int, one_bool, one_string, one_pointer, one_slice, one_map, one_func, st1_some, stN_nil, stN_cons, StV_mk, StO_some, Ld_some, RtI_mk, RtB_mk, RtS_mk, RtP_mk, RtL_mk, RtM_mk, RtA_mk, RtT_mk, NilC_some, New_eq, At_eq, Ck_true, Rt0_mk, BrB_true, BrB_false, Nat.zero_add, List.length_cons, List.length_nil, List.getElem?_cons_zero, List.getElem?_cons_succ, List.set_cons_zero, List.set_cons_succ, List.getD_cons_zero, List.getD_cons_succ, Option.isNone_some, Option.isNone_none, Go.Disk.fsO, Go.Disk.fileO, Bool.false_eq_true, eq_self, Nat.reduceAdd, Nat.reduceSub, Nat.reduceMul, Nat.reduceLT, Nat.reduceLeDiff, Nat.reduceEqDiff, Int.reduceNeg, Int.reduceEq, Int.reduceNe, Int.reduceBEq, Int.reduceBNe, Int.reduceLT, Int.reduceLE, Int.reduceGT, Int.reduceAdd, reduceIte, Bool.not_true, Bool.not_false, decide_true, decide_false, ne_eq, not_false_eq_true, not_true_eq_false, hp, get_upd_self, hl]
      have e1 : IntKind.wrap .i64 ((D.fuse : Int) - 1) = ((D.blow.fuse : Nat) : Int) := by
        rw [w64 (by omega) (by omega)]
        show _ = ((D.fuse - 1 : Nat) : Int)
        omega
      rw [e1]
      have e2 : D.blow.fuse = D.fuse - 1 := rfl
      refine BrB_i (fun h2 => ?_) (fun h2 => ?_)
      · have h2 := eq_of_beq h2
        have hf1 : D.fuse = 1 := by omega
        simp only [cellH_mk, cellO_some, add_mk, size_upd, upd_upd, one_int, one_bool, one_string, one_pointer, one_slice, one_map, one_func, st1_some, stN_nil, stN_cons, StV_mk, StO_some, Ld_some, RtI_mk, RtB_mk, RtS_mk, RtP_mk, RtL_mk, RtM_mk, RtA_mk, RtT_mk, NilC_some, New_eq, At_eq, Ck_true, Rt0_mk, BrB_true, BrB_false, Nat.zero_add, List.length_cons, List.length_nil, List.getElem?_cons_zero, List.getElem?_cons_succ, List.set_cons_zero, List.set_cons_succ, List.getD_cons_zero, List.getD_cons_succ, Option.isNone_some, Option.isNone_none, Go.Disk.fsO, Go.Disk.fileO, Bool.false_eq_true, eq_self, Nat.reduceAdd, Nat.reduceSub, Nat.reduceMul, Nat.reduceLT, Nat.reduceLeDiff, Nat.reduceEqDiff, Int.reduceNeg, Int.reduceEq, Int.reduceNe, Int.reduceBEq, Int.reduceBNe, Int.reduceLT, Int.reduceLE, Int.reduceGT, Int.reduceAdd, reduceIte, Bool.not_true, Bool.not_false, decide_true, decide_false, ne_eq, not_false_eq_true, not_true_eq_false, hp, get_upd_self, hl]
        rw [if_pos hf1] at hK1
        rw [hbd, hf1] at hK1
        exact hK1
      · have hf1 : D.fuse ≠ 1 := fun e => by rw [e2, e] at h2; simp at h2
        refine ⟨hf1, ?_⟩
        rw [upd_upd, hbd, hd, show (D.fuse == 1) = false from by simpa using hf1]
    · have h := of_decide_eq_false h
      refine ⟨by omega, ?_⟩
      have e2 : D.blow.fuse = D.fuse := by show D.fuse - 1 = D.fuse; omega
      rw [hbd, hd, e2, show (D.fuse == 1) = false from by simp; omega]
theorem rActs_ok (h : IsRef H C k p D) (hK : K (.int .i64 (D.acts : Int)) H) : Fn 72 [.pointer (some ⟨p, 0, none⟩)] H K := by
  obtain ⟨x, rfl, h⟩ := h
  refine F72_ok _ ?_
  unfold F72
  have hp := h.hp
  rw [refX] at hp
  simp only [cellH_mk, cellO_some, add_mk, size_upd, upd_upd, one_int, one_bool, one_string, one_pointer, one_slice, one_map, one_func, st1_some, stN_nil, stN_cons, StV_mk, StO_some, Ld_some, RtI_mk, RtB_mk, RtS_mk, RtP_mk, RtL_mk, RtM_mk, RtA_mk, RtT_mk, NilC_some, New_eq, At_eq, Ck_true, Rt0_mk, BrB_true, BrB_false, Nat.zero_add, List.length_cons, List.length_nil, List.getElem?_cons_zero, List.getElem?_cons_succ, List.set_cons_zero, List.set_cons_succ, List.getD_cons_zero, List.getD_cons_succ, Option.isNone_some, Option.isNone_none, Go.Disk.fsO, Go.Disk.fileO, Bool.false_eq_true, eq_self, Nat.reduceAdd, Nat.reduceSub, Nat.reduceMul, Nat.reduceLT, Nat.reduceLeDiff, Nat.reduceEqDiff, Int.reduceNeg, Int.reduceEq, Int.reduceNe, Int.reduceBEq, Int.reduceBNe, Int.reduceLT, Int.reduceLE, Int.reduceGT, Int.reduceAdd, reduceIte, Bool.not_true, Bool.not_false, decide_true, decide_false, ne_eq, not_false_eq_true, not_true_eq_false, hp]
  exact hK
theorem rDead_ok (h : IsRef H C k p D) (hK : K (.bool D.dead) H) : Fn 73 [.pointer (some ⟨p, 0, none⟩)] H K := by
  obtain ⟨x, rfl, h⟩ := h
  refine F73_ok _ ?_
  unfold F73
  have hp := h.hp
  rw [refX] at hp
  simp only [cellH_mk, cellO_some, add_mk, size_upd, upd_upd, one_int, one_bool, one_string, one_pointer, one_slice, one_map, one_func, st1_some, stN_nil, stN_cons, StV_mk, StO_some, Ld_some, RtI_mk, RtB_mk, RtS_mk, RtP_mk, RtL_mk, RtM_mk, RtA_mk, RtT_mk, NilC_some, New_eq, At_eq, Ck_true, Rt0_mk, BrB_true, BrB_false, Nat.zero_add, List.length_cons, List.length_nil, List.getElem?_cons_zero, List.getElem?_cons_succ, List.set_cons_zero, List.set_cons_succ, List.getD_cons_zero, List.getD_cons_succ, Option.isNone_some, Option.isNone_none, Go.Disk.fsO, Go.Disk.fileO, Bool.false_eq_true, eq_self, Nat.reduceAdd, Nat.reduceSub, Nat.reduceMul, Nat.reduceLT, Nat.reduceLeDiff, Nat.reduceEqDiff, Int.reduceNeg, Int.reduceEq, Int.reduceNe, Int.reduceBEq, Int.reduceBNe, Int.reduceLT, Int.reduceLE, Int.reduceGT, Int.reduceAdd, reduceIte, Bool.not_true, Bool.not_false, decide_true, decide_false, ne_eq, not_false_eq_true, not_true_eq_false, hp]
  exact hK
theorem rRoom_ok (h : IsRef H C k p D) (hK : K (.int .i64 (if D.dead then 0 else D.room)) H) : Fn 71 [.pointer (some ⟨p, 0, none⟩)] H K := by
  obtain ⟨x, rfl, h⟩ := h
  refine F71_ok _ ?_
  unfold F71
  have hp := h.hp
  rw [refX] at hp
  simp only [cellH_mk, cellO_some, add_mk, size_upd, upd_upd, one_int, one_bool, one_string, one_pointer, one_slice, one_map, one_func, st1_some, stN_nil, stN_cons, StV_mk, StO_some, Ld_some, RtI_mk, RtB_mk, RtS_mk, RtP_mk, RtL_mk, RtM_mk, RtA_mk, RtT_mk, NilC_some, New_eq, At_eq, Ck_true, Rt0_mk, BrB_true, BrB_false, Nat.zero_add, List.length_cons, List.length_nil, List.getElem?_cons_zero, List.getElem?_cons_succ, List.set_cons_zero, List.set_cons_succ, List.getD_cons_zero, List.getD_cons_succ, Option.isNone_some, Option.isNone_none, Go.Disk.fsO, Go.Disk.fileO, Bool.false_eq_true, eq_self, Nat.reduceAdd, Nat.reduceSub, Nat.reduceMul, Nat.reduceLT, Nat.reduceLeDiff, Nat.reduceEqDiff, Int.reduceNeg, Int.reduceEq, Int.reduceNe, Int.reduceBEq, Int.reduceBNe, Int.reduceLT, Int.reduceLE, Int.reduceGT, Int.reduceAdd, reduceIte, Bool.not_true, Bool.not_false, decide_true, decide_false, ne_eq, not_false_eq_true, not_true_eq_false, hp]
  cases hd : D.dead with
  | true => rw [hd] at hK; simp only [cellH_mk, cellO_some, add_mk, size_upd, upd_upd, one_int, one_bool, one_string, one_pointer, one_slice, one_map, one_func, st1_some, stN_nil, stN_cons, StV_mk, StO_some, Ld_some, RtI_mk, RtB_mk, RtS_mk, RtP_mk, RtL_mk, RtM_mk, RtA_mk, RtT_mk, NilC_some, New_eq, At_eq, Ck_true, Rt0_mk, BrB_true, BrB_false, Nat.zero_add, List.length_cons, List.length_nil, List.getElem?_cons_zero, List.getElem?_cons_succ, List.set_cons_zero, List.set_cons_succ, List.getD_cons_zero, List.getD_cons_succ, Option.isNone_some, Option.isNone_none, Go.Disk.fsO, Go.Disk.fileO, Bool.false_eq_true, eq_self, Nat.reduceAdd, Nat.reduceSub, Nat.reduceMul, Nat.reduceLT, Nat.reduceLeDiff, Nat.reduceEqDiff, Int.reduceNeg, Int.reduceEq, Int.reduceNe, Int.reduceBEq, Int.reduceBNe, Int.reduceLT, Int.reduceLE, Int.reduceGT, Int.reduceAdd, reduceIte, Bool.not_true, Bool.not_false, decide_true, decide_false, ne_eq, not_false_eq_true, not_true_eq_false]; exact hK
  | false => rw [hd] at hK; simp only [cellH_mk, cellO_some, add_mk, size_upd, upd_upd, one_int, one_bool, one_string, one_pointer, one_slice, one_map, one_func, st1_some, stN_nil, stN_cons, StV_mk, StO_some, Ld_some, RtI_mk, RtB_mk, RtS_mk, RtP_mk, RtL_mk, RtM_mk, RtA_mk, RtT_mk, NilC_some, New_eq, At_eq, Ck_true, Rt0_mk, BrB_true, BrB_false, Nat.zero_add, List.length_cons, List.length_nil, List.getElem?_cons_zero, List.getElem?_cons_succ, List.set_cons_zero, List.set_cons_succ, List.getD_cons_zero, List.getD_cons_succ, Option.isNone_some, Option.isNone_none, Go.Disk.fsO, Go.Disk.fileO, Bool.false_eq_true, eq_self, Nat.reduceAdd, Nat.reduceSub, Nat.reduceMul, Nat.reduceLT, Nat.reduceLeDiff, Nat.reduceEqDiff, Int.reduceNeg, Int.reduceEq, Int.reduceNe, Int.reduceBEq, Int.reduceBNe, Int.reduceLT, Int.reduceLE, Int.reduceGT, Int.reduceAdd, reduceIte, Bool.not_true, Bool.not_false, decide_true, decide_false, ne_eq, not_false_eq_true, not_true_eq_false, hp]; exact hK
theorem rArm_ok (hk : k ≠ 0) (h : IsRef H C k p D) {n : Int} (hK : ∀ H' C', IsRef H' C' k p (dArm n D).2 → Ev (own k) H C H' C' → K (.int .i64 (dArm n D).1) H') : Fn 68 [.pointer (some ⟨p, 0, none⟩), .int .i64 n] H K := by
  obtain ⟨x, rfl, h⟩ := h
  refine F68_ok _ _ ?_
  unfold F68
  have hp := h.hp
  have hl := lt_of_get hp
  unfold dArm at hK
  have hp0 := hp
  rw [refX] at hp
  simp only [cellH_mk, cellO_some, add_mk, size_upd, upd_upd, one_int, one_bool, one_string, one_pointer, one_slice, one_map, one_func, st1_some, stN_nil, stN_cons, StV_mk, StO_some, Ld_some, RtI_mk, RtB_mk, RtS_mk, RtP_mk, RtL_mk, RtM_mk, RtA_mk, RtT_mk, NilC_some, New_eq, At_eq, Ck_true, Rt0_mk, BrB_true, BrB_false, Nat.zero_add, List.length_cons, List.length_nil, List.getElem?_cons_zero, List.getElem?_cons_succ, List.set_cons_zero, List.set_cons_succ, List.getD_cons_zero, List.getD_cons_succ, Option.isNone_some, Option.isNone_none, Go.Disk.fsO, Go.Disk.fileO, Bool.false_eq_true, eq_self, Nat.reduceAdd, Nat.reduceSub, Nat.reduceMul, Nat.reduceLT, Nat.reduceLeDiff, Nat.reduceEqDiff, Int.reduceNeg, Int.reduceEq, Int.reduceNe, Int.reduceBEq, Int.reduceBNe, Int.reduceLT, Int.reduceLE, Int.reduceGT, Int.reduceAdd, reduceIte, Bool.not_true, Bool.not_false, decide_true, decide_false, ne_eq, not_false_eq_true, not_true_eq_false, hp]
  cases hd : D.dead with
  | true =>
    rw [if_pos hd] at hK; simp only [cellH_mk, cellO_some, add_mk, size_upd, upd_upd, one_int, one_bool, one_string, one_pointer, one_slice, one_map, one_func, st1_some, stN_nil, stN_cons, StV_mk, StO_some, Ld_some, RtI_mk, RtB_mk, RtS_mk, RtP_mk, RtL_mk, RtM_mk, RtA_mk, RtT_mk, NilC_some, New_eq, At_eq, Ck_true, Rt0_mk, BrB_true, BrB_false, Nat.zero_add, List.length_cons, List.length_nil, List.getElem?_cons_zero, List.getElem?_cons_succ, List.set_cons_zero, List.set_cons_succ, List.getD_cons_zero, List.getD_cons_succ, Option.isNone_some, Option.isNone_none, Go.Disk.fsO, Go.Disk.fileO, Bool.false_eq_true, eq_self, Nat.reduceAdd, Nat.reduceSub, Nat.reduceMul, Nat.reduceLT, Nat.reduceLeDiff, Nat.reduceEqDiff, Int.reduceNeg, Int.reduceEq, Int.reduceNe, Int.reduceBEq, Int.reduceBNe, Int.reduceLT, Int.reduceLE, Int.reduceGT, Int.reduceAdd, reduceIte, Bool.not_true, Bool.not_false, decide_true, decide_false, ne_eq, not_false_eq_true, not_true_eq_false]; exact hK H C ⟨x, rfl, h⟩ (Ev.refl _ _ _)
  | false =>
    rw [if_neg (by rw [hd]; simp)] at hK
    simp only [cellH_mk, cellO_some, add_mk, size_upd, upd_upd, one_int, one_bool, one_string, one_pointer, one_slice, one_map, one_func, st1_some, stN_nil, stN_cons, StV_mk, StO_some, Ld_some, RtI_mk, RtB_mk, RtS_mk, RtP_mk, RtL_mk, RtM_mk, RtA_mk, RtT_mk, NilC_some, New_eq, At_eq, Ck_true, Rt0_mk, BrB_true, BrB_false, Nat.zero_add, List.length_cons, List.length_nil, List.getElem?_cons_zero, List.getElem?_cons_succ, List.set_cons_zero, List.set_cons_succ, List.getD_cons_zero, List.getD_cons_succ, Option.isNone_some, Option.isNone_none, Go.Disk.fsO, Go.Disk.fileO, Bool.false_eq_true, eq_self, Nat.reduceAdd, Nat.reduceSub, Nat.reduceMul, Nat.reduceLT, Nat.reduceLeDiff, Nat.reduceEqDiff, Int.reduceNeg, Int.reduceEq, Int.reduceNe, Int.reduceBEq, Int.reduceBNe, Int.reduceLT, Int.reduceLE, Int.reduceGT, Int.reduceAdd, reduceIte, Bool.not_true, Bool.not_false, decide_true, decide_false, ne_eq, not_false_eq_true, not_true_eq_false]
    refine BrB_i (fun h0 => ?_) (fun h0 => ?_)
    · rw [if_pos (of_decide_eq_true h0)] at hK
      exact hK H C ⟨x, rfl, h⟩ (Ev.refl _ _ _)
    · have h0 := of_decide_eq_false h0
      rw [if_neg h0] at hK
      obtain ⟨g1, g2⟩ := RefAt.put (x' := x) (D' := { D with fuse := n.toNat }) hk h.cp h.hp rfl h.files h.sure h.row h.seen
      have hK1 := hK _ C ⟨x, rfl, g1⟩ (g2.mono fun _ => own_of_at1)
      rw [refX] at hK1
      have e : (((n.toNat : Nat) : Int)) = n := by omega
      rw [show (({ D with fuse := n.toNat } : Disk).fuse : Int) = n from e, show ({ D with fuse := n.toNat } : Disk).dead = false from hd] at hK1
      simp only [cellH_mk, cellO_some, add_mk, size_upd, upd_upd, one_int, one_bool, one_string, one_pointer, one_slice, one_map, one_func, st1_some, stN_nil, stN_cons, StV_mk, StO_some, Ld_some, RtI_mk, RtB_mk, RtS_mk, RtP_mk, RtL_mk, RtM_mk, RtA_mk, RtT_mk, NilC_some, New_eq, At_eq, Ck_true, Rt0_mk, BrB_true, BrB_false, Nat.zero_add, List.length_cons, List.length_nil, List.getElem?_cons_zero, List.getElem?_cons_succ, List.set_cons_zero, List.set_cons_succ, List.getD_cons_zero, List.getD_cons_succ, Option.isNone_some, Option.isNone_none, Go.Disk.fsO, Go.Disk.fileO, Bool.false_eq_true, eq_self, Nat.reduceAdd, Nat.reduceSub, Nat.reduceMul, Nat.reduceLT, Nat.reduceLeDiff, Nat.reduceEqDiff, Int.reduceNeg, Int.reduceEq, Int.reduceNe, Int.reduceBEq, Int.reduceBNe, Int.reduceLT, Int.reduceLE, Int.reduceGT, Int.reduceAdd, reduceIte, Bool.not_true, Bool.not_false, decide_true, decide_false, ne_eq, not_false_eq_true, not_true_eq_false, hp, get_upd_self, hl]
      rw [hd]
      exact hK1
theorem rget_ok {x : RefX} {name : Name} (h : RefAt H C k x D) (hD : DirOk D.files.length D.seen)
    (h1 : D.dead = true → K (.tuple ⟨[.int .i64 0, .int .i64 13]⟩) H) (h2 : D.dead = false → dget name D.seen = none → K (.tuple ⟨[.int .i64 0, .int .i64 7]⟩) H)
    (h3 : ∀ n f, D.dead = false → dget name D.seen = some n → D.files[n]? = some f → K (.tuple ⟨[.int .i64 (n : Int), .int .i64 0]⟩) H) : Fn 87 [.pointer (some ⟨x.p, 0, none⟩), .string name] H K := by
  refine F87_ok _ _ ?_
  unfold F87
  have hp := h.hp
  have hdl := hD.2.1
  rw [refX] at hp
  simp only [cellH_mk, cellO_some, add_mk, size_upd, upd_upd, one_int, one_bool, one_string, one_pointer, one_slice, one_map, one_func, st1_some, stN_nil, stN_cons, StV_mk, StO_some, Ld_some, RtI_mk, RtB_mk, RtS_mk, RtP_mk, RtL_mk, RtM_mk, RtA_mk, RtT_mk, NilC_some, New_eq, At_eq, Ck_true, Rt0_mk, BrB_true, BrB_false, Nat.zero_add, List.length_cons, List.length_nil, List.getElem?_cons_zero, List.getElem?_cons_succ, List.set_cons_zero, List.set_cons_succ, List.getD_cons_zero, List.getD_cons_succ, Option.isNone_some, Option.isNone_none, Go.Disk.fsO, Go.Disk.fileO, Bool.false_eq_true, eq_self, Nat.reduceAdd, Nat.reduceSub, Nat.reduceMul, Nat.reduceLT, Nat.reduceLeDiff, Nat.reduceEqDiff, Int.reduceNeg, Int.reduceEq, Int.reduceNe, Int.reduceBEq, Int.reduceBNe, Int.reduceLT, Int.reduceLE, Int.reduceGT, Int.reduceAdd, reduceIte, Bool.not_true, Bool.not_false, decide_true, decide_false, ne_eq, not_false_eq_true, not_true_eq_false, hp]
  cases hd : D.dead with
  | true => simp only [cellH_mk, cellO_some, add_mk, size_upd, upd_upd, one_int, one_bool, one_string, one_pointer, one_slice, one_map, one_func, st1_some, stN_nil, stN_cons, StV_mk, StO_some, Ld_some, RtI_mk, RtB_mk, RtS_mk, RtP_mk, RtL_mk, RtM_mk, RtA_mk, RtT_mk, NilC_some, New_eq, At_eq, Ck_true, Rt0_mk, BrB_true, BrB_false, Nat.zero_add, List.length_cons, List.length_nil, List.getElem?_cons_zero, List.getElem?_cons_succ, List.set_cons_zero, List.set_cons_succ, List.getD_cons_zero, List.getD_cons_succ, Option.isNone_some, Option.isNone_none, Go.Disk.fsO, Go.Disk.fileO, Bool.false_eq_true, eq_self, Nat.reduceAdd, Nat.reduceSub, Nat.reduceMul, Nat.reduceLT, Nat.reduceLeDiff, Nat.reduceEqDiff, Int.reduceNeg, Int.reduceEq, Int.reduceNe, Int.reduceBEq, Int.reduceBNe, Int.reduceLT, Int.reduceLE, Int.reduceGT, Int.reduceAdd, reduceIte, Bool.not_true, Bool.not_false, decide_true, decide_false, ne_eq, not_false_eq_true, not_true_eq_false]; exact h1 hd
  | false =>
    simp only [cellH_mk, cellO_some, add_mk, size_upd, upd_upd, one_int, one_bool, one_string, one_pointer, one_slice, one_map, one_func, st1_some, stN_nil, stN_cons, StV_mk, StO_some, Ld_some, RtI_mk, RtB_mk, RtS_mk, RtP_mk, RtL_mk, RtM_mk, RtA_mk, RtT_mk, NilC_some, New_eq, At_eq, Ck_true, Rt0_mk, BrB_true, BrB_false, Nat.zero_add, List.length_cons, List.length_nil, List.getElem?_cons_zero, List.getElem?_cons_succ, List.set_cons_zero, List.set_cons_succ, List.getD_cons_zero, List.getD_cons_succ, Option.isNone_some, Option.isNone_none, Go.Disk.fsO, Go.Disk.fileO, Bool.false_eq_true, eq_self, Nat.reduceAdd, Nat.reduceSub, Nat.reduceMul, Nat.reduceLT, Nat.reduceLeDiff, Nat.reduceEqDiff, Int.reduceNeg, Int.reduceEq, Int.reduceNe, Int.reduceBEq, Int.reduceBNe, Int.reduceLT, Int.reduceLE, Int.reduceGT, Int.reduceAdd, reduceIte, Bool.not_true, Bool.not_false, decide_true, decide_false, ne_eq, not_false_eq_true, not_true_eq_false, hp]
    refine rfind_ok h.seen (by omega) (fun hg => ?_) fun i n hi hg => ?_
    · simp only [cellH_mk, cellO_some, add_mk, size_upd, upd_upd, one_int, one_bool, one_string, one_pointer, one_slice, one_map, one_func, st1_some, stN_nil, stN_cons, StV_mk, StO_some, Ld_some, RtI_mk, RtB_mk, RtS_mk, RtP_mk, RtL_mk, RtM_mk, RtA_mk, RtT_mk, NilC_some, New_eq, At_eq, Ck_true, Rt0_mk, BrB_true, BrB_false, Nat.zero_add, List.length_cons, List.length_nil, List.getElem?_cons_zero, List.getElem?_cons_succ, List.set_cons_zero, List.set_cons_succ, List.getD_cons_zero, List.getD_cons_succ, Option.isNone_some, Option.isNone_none, Go.Disk.fsO, Go.Disk.fileO, Bool.false_eq_true, eq_self, Nat.reduceAdd, Nat.reduceSub, Nat.reduceMul, Nat.reduceLT, Nat.reduceLeDiff, Nat.reduceEqDiff, Int.reduceNeg, Int.reduceEq, Int.reduceNe, Int.reduceBEq, Int.reduceBNe, Int.reduceLT, Int.reduceLE, Int.reduceGT, Int.reduceAdd, reduceIte, Bool.not_true, Bool.not_false, decide_true, decide_false, ne_eq, not_false_eq_true, not_true_eq_false]
      exact h2 hd hg
    · simp only [cellH_mk, cellO_some, add_mk, size_upd, upd_upd, one_int, one_bool, one_string, one_pointer, one_slice, one_map, one_func, st1_some, stN_nil, stN_cons, StV_mk, StO_some, Ld_some, RtI_mk, RtB_mk, RtS_mk, RtP_mk, RtL_mk, RtM_mk, RtA_mk, RtT_mk, NilC_some, New_eq, At_eq, Ck_true, Rt0_mk, BrB_true, BrB_false, Nat.zero_add, List.length_cons, List.length_nil, List.getElem?_cons_zero, List.getElem?_cons_succ, List.set_cons_zero, List.set_cons_succ, List.getD_cons_zero, List.getD_cons_succ, Option.isNone_some, Option.isNone_none, Go.Disk.fsO, Go.Disk.fileO, Bool.false_eq_true, eq_self, Nat.reduceAdd, Nat.reduceSub, Nat.reduceMul, Nat.reduceLT, Nat.reduceLeDiff, Nat.reduceEqDiff, Int.reduceNeg, Int.reduceEq, Int.reduceNe, Int.reduceBEq, Int.reduceBNe, Int.reduceLT, Int.reduceLE, Int.reduceGT, Int.reduceAdd, reduceIte, Bool.not_true, Bool.not_false, decide_true, decide_false, ne_eq, not_false_eq_true, not_true_eq_false]
      refine BrB_i (fun h => by have := of_decide_eq_true h; omega) (fun _ => ?_)
      simp only [cellH_mk, cellO_some, add_mk, size_upd, upd_upd, one_int, one_bool, one_string, one_pointer, one_slice, one_map, one_func, st1_some, stN_nil, stN_cons, StV_mk, StO_some, Ld_some, RtI_mk, RtB_mk, RtS_mk, RtP_mk, RtL_mk, RtM_mk, RtA_mk, RtT_mk, NilC_some, New_eq, At_eq, Ck_true, Rt0_mk, BrB_true, BrB_false, Nat.zero_add, List.length_cons, List.length_nil, List.getElem?_cons_zero, List.getElem?_cons_succ, List.set_cons_zero, List.set_cons_succ, List.getD_cons_zero, List.getD_cons_succ, Option.isNone_some, Option.isNone_none, Go.Disk.fsO, Go.Disk.fileO, Bool.false_eq_true, eq_self, Nat.reduceAdd, Nat.reduceSub, Nat.reduceMul, Nat.reduceLT, Nat.reduceLeDiff, Nat.reduceEqDiff, Int.reduceNeg, Int.reduceEq, Int.reduceNe, Int.reduceBEq, Int.reduceBNe, Int.reduceLT, Int.reduceLE, Int.reduceGT, Int.reduceAdd, reduceIte, Bool.not_true, Bool.not_false, decide_true, decide_false, ne_eq, not_false_eq_true, not_true_eq_false, hp]
      refine h.seen.row hi fun e he h0 h1 => ?_
      simp only [cellH_mk, cellO_some, add_mk, size_upd, upd_upd, one_int, one_bool, one_string, one_pointer, one_slice, one_map, one_func, st1_some, stN_nil, stN_cons, StV_mk, StO_some, Ld_some, RtI_mk, RtB_mk, RtS_mk, RtP_mk, RtL_mk, RtM_mk, RtA_mk, RtT_mk, NilC_some, New_eq, At_eq, Ck_true, Rt0_mk, BrB_true, BrB_false, Nat.zero_add, List.length_cons, List.length_nil, List.getElem?_cons_zero, List.getElem?_cons_succ, List.set_cons_zero, List.set_cons_succ, List.getD_cons_zero, List.getD_cons_succ, Option.isNone_some, Option.isNone_none, Go.Disk.fsO, Go.Disk.fileO, Bool.false_eq_true, eq_self, Nat.reduceAdd, Nat.reduceSub, Nat.reduceMul, Nat.reduceLT, Nat.reduceLeDiff, Nat.reduceEqDiff, Int.reduceNeg, Int.reduceEq, Int.reduceNe, Int.reduceBEq, Int.reduceBNe, Int.reduceLT, Int.reduceLE, Int.reduceGT, Int.reduceAdd, reduceIte, Bool.not_true, Bool.not_false, decide_true, decide_false, ne_eq, not_false_eq_true, not_true_eq_false, h1]
      exact h3 n _ hd hg (List.getElem?_eq_getElem (hD.2.2 _ (dget_mem hg)))
end
end Go.Proofs

namespace Go.Proofs
open Go Go.Fx Go.Disk
set_option linter.unusedVariables false
set_option maxRecDepth 20000
section
variable {H : Heap} {C : Col} {k p : Nat} {D : Disk} {K : Value → Heap → Prop}

theorem rturn_ok {x : RefX} {m : Mv} {t : SlV} (hk : k ≠ 0) (h : RefAt H C k x D) (hrw : D.row.length ≤ D.acts + 64) (hpf : D.seen = D.row.foldl (fun d m => m.app d) D.sure) (ha : D.acts < 2 ^ 39) (hf : D.fuse < 2 ^ 63) (hd : D.dead = false) (ht : EntsI H C t (m.app D.seen))
    (hK : ∀ H' C', IsRef H' C' k x.p (D.turnBy m).blow → Ev (own k) H C H' C' → K (.int .i64 (if D.fuse = 1 then 13 else 0)) H') : Fn 85 [.pointer (some ⟨x.p, 0, none⟩), .slice t.1 t.2.1 t.2.2] H K := by
  refine F85_ok _ _ _ _ ?_
  unfold F85
  have hp := h.hp
  have hl := lt_of_get hp
  rw [refX] at hp
  simp only [cellH_mk, cellO_some, add_mk, size_upd, upd_upd, one_int, one_bool, one_string, one_pointer, one_slice, one_map, one_func, st1_some, stN_nil, stN_cons, StV_mk, StO_some, Ld_some, RtI_mk, RtB_mk, RtS_mk, RtP_mk, RtL_mk, RtM_mk, RtA_mk, RtT_mk, NilC_some, New_eq, At_eq, Ck_true, Rt0_mk, BrB_true, BrB_false, Nat.zero_add, List.length_cons, List.length_nil, List.getElem?_cons_zero, List.getElem?_cons_succ, List.set_cons_zero, List.set_cons_succ, List.getD_cons_zero, List.getD_cons_succ, Option.isNone_some, Option.isNone_none, Go.Disk.fsO, Go.Disk.fileO, Bool.false_eq_true, eq_self, Nat.reduceAdd, Nat.reduceSub, Nat.reduceMul, Nat.reduceLT, Nat.reduceLeDiff, Nat.reduceEqDiff, Int.reduceNeg, Int.reduceEq, Int.reduceNe, Int.reduceBEq, Int.reduceBNe, Int.reduceLT, Int.reduceLE, Int.reduceGT, Int.reduceAdd, reduceIte, Bool.not_true, Bool.not_false, decide_true, decide_false, ne_eq, not_false_eq_true, not_true_eq_false, hp, get_upd_self, hl]
  have hp1 := get_upd_of (o' := refO (RefX.r { x with seen := t } D)) hp
  have hev1 : Ev (at1 (k, 0)) H C (upd H x.p (refO (RefX.r { x with seen := t } D))) C := ev_upd h.cp _
  have hf1 := h.files.ev hev1 (at1_no0 hk) (at1_ne (by omega)) fun j => at1_ne (by omega)
  have hs1 := h.sure.ev hev1 (at1_no0 hk)
  have hr1 := h.row.ev hev1 (at1_no0 hk) (at1_ne (by omega))
  have ht1 := ht.ev hev1 (at1_no0 hk)
  rw [refX] at hp1 hev1 hf1 hs1 hr1 ht1
  generalize upd H x.p _ = H1 at *
  have hev1 : Ev (own k) H C H1 C := hev1.mono fun _ => own_of_at1
  refine build_oneK und100 tyf99 (by rfl) (by rfl) (by omega) (by omega) ?_
  have hev2 := ev_push no H1 C (.cells (Value.cells (.slice t.1 t.2.1 t.2.2)) 99) (0, 0)
  have hsrc := SrcH_one (s := 1) (get_push_self H1 (.cells (Value.cells (.slice t.1 t.2.1 t.2.2)) 99)) rfl
  have hp2 := hev2.get hp1 fun h => h
  have hcp2 := (hev2.colOf hp1).trans h.cp
  have hf2 := hf1.ev hev2 (fun _ _ h => h) (fun h => h) fun j h => h
  have hs2 := hs1.ev hev2 fun _ _ h => h
  have hr2 := hr1.ev hev2 (fun _ _ h => h) fun h => h
  have ht2 := ht1.ev hev2 fun _ _ h => h
  have hev2 : Ev (own k) H C _ _ := hev1.trans (hev2.mono fun _ h => h.elim)
  generalize H1.size = nb at *
  generalize H1.push _ = H2 at *
  generalize setC C nb (0, 0) = C2 at *
  simp only [cellH_mk, cellO_some, add_mk, size_upd, upd_upd, one_int, one_bool, one_string, one_pointer, one_slice, one_map, one_func, st1_some, stN_nil, stN_cons, StV_mk, StO_some, Ld_some, RtI_mk, RtB_mk, RtS_mk, RtP_mk, RtL_mk, RtM_mk, RtA_mk, RtT_mk, NilC_some, New_eq, At_eq, Ck_true, Rt0_mk, BrB_true, BrB_false, Nat.zero_add, List.length_cons, List.length_nil, List.getElem?_cons_zero, List.getElem?_cons_succ, List.set_cons_zero, List.set_cons_succ, List.getD_cons_zero, List.getD_cons_succ, Option.isNone_some, Option.isNone_none, Go.Disk.fsO, Go.Disk.fileO, Bool.false_eq_true, eq_self, Nat.reduceAdd, Nat.reduceSub, Nat.reduceMul, Nat.reduceLT, Nat.reduceLeDiff, Nat.reduceEqDiff, Int.reduceNeg, Int.reduceEq, Int.reduceNe, Int.reduceBEq, Int.reduceBNe, Int.reduceLT, Int.reduceLE, Int.reduceGT, Int.reduceAdd, reduceIte, Bool.not_true, Bool.not_false, decide_true, decide_false, ne_eq, not_false_eq_true, not_true_eq_false]
  obtain ⟨rcells, hro, hrr, hrl⟩ := hr2
  have hdl := dirsOf_len D.row D.sure
  refine app_ownK (lab := (k, 2)) (new := [.slice t.1 t.2.1 t.2.2]) und100 und100 (.inl ⟨_, rfl⟩) tyf99 (by rfl) hsrc (by rfl) (by intro v hv; simp at hv; subst hv; rfl) hro (by omega) (by omega) fun a3 c3 H3 C3 hs3 hev3 _ => ?_
  have hp3 := hev3.get hp2 (by rw [hcp2]; exact at1_ne (by omega))
  have hcp3 := (hev3.colOf hp2).trans hcp2
  have hf3 := hf2.ev hev3 (at1_no0 hk) (at1_ne (by omega)) fun j => at1_ne (by omega)
  have hs3' := hs2.ev hev3 (at1_no0 hk)
  have ht3 := ht2.ev hev3 (at1_no0 hk)
  have hrr3 := RRow.snoc ht3 (RRow.ev hev3 (at1_no0 hk) hrr)
  have hev3 : Ev (own k) H C _ _ := hev2.trans (hev3.mono fun _ => own_of_at1)
  have hl3 := lt_of_get hp3
  simp only [cellH_mk, cellO_some, add_mk, size_upd, upd_upd, one_int, one_bool, one_string, one_pointer, one_slice, one_map, one_func, st1_some, stN_nil, stN_cons, StV_mk, StO_some, Ld_some, RtI_mk, RtB_mk, RtS_mk, RtP_mk, RtL_mk, RtM_mk, RtA_mk, RtT_mk, NilC_some, New_eq, At_eq, Ck_true, Rt0_mk, BrB_true, BrB_false, Nat.zero_add, List.length_cons, List.length_nil, List.getElem?_cons_zero, List.getElem?_cons_succ, List.set_cons_zero, List.set_cons_succ, List.getD_cons_zero, List.getD_cons_succ, Option.isNone_some, Option.isNone_none, Go.Disk.fsO, Go.Disk.fileO, Bool.false_eq_true, eq_self, Nat.reduceAdd, Nat.reduceSub, Nat.reduceMul, Nat.reduceLT, Nat.reduceLeDiff, Nat.reduceEqDiff, Int.reduceNeg, Int.reduceEq, Int.reduceNe, Int.reduceBEq, Int.reduceBNe, Int.reduceLT, Int.reduceLE, Int.reduceGT, Int.reduceAdd, reduceIte, Bool.not_true, Bool.not_false, decide_true, decide_false, ne_eq, not_false_eq_true, not_true_eq_false, hp3, get_upd_self, hl3]
  obtain ⟨g1, g2⟩ := RefAt.put (x := x) (x' := { x with seen := t, row := (a3, x.row.2.1 + 1, c3) }) (D' := D.turnBy m) hk hcp3 hp3 rfl hf3 hs3' ⟨_, hs3, by
    show RRow H3 C3 (dirsOf D.sure (D.row ++ [m])) _
    rw [dirsOf_snoc, ← hpf]
    exact hrr3, by
    show x.row.2.1 + 1 = (dirsOf D.sure (D.row ++ [m])).length
    rw [dirsOf_len, List.length_append, List.length_singleton]; omega⟩ ht3
  have hev4 := hev3.trans (g2.mono fun _ => own_of_at1)
  refine rblown_ok (x := { x with seen := t, row := (a3, x.row.2.1 + 1, c3) }) (D := D.turnBy m) hk g1 (by show D.acts < _; omega) hf hd fun H5 g5 hev5 => ?_
  simp only [cellH_mk, cellO_some, add_mk, size_upd, upd_upd, one_int, one_bool, one_string, one_pointer, one_slice, one_map, one_func, st1_some, stN_nil, stN_cons, StV_mk, StO_some, Ld_some, RtI_mk, RtB_mk, RtS_mk, RtP_mk, RtL_mk, RtM_mk, RtA_mk, RtT_mk, NilC_some, New_eq, At_eq, Ck_true, Rt0_mk, BrB_true, BrB_false, Nat.zero_add, List.length_cons, List.length_nil, List.getElem?_cons_zero, List.getElem?_cons_succ, List.set_cons_zero, List.set_cons_succ, List.getD_cons_zero, List.getD_cons_succ, Option.isNone_some, Option.isNone_none, Go.Disk.fsO, Go.Disk.fileO, Bool.false_eq_true, eq_self, Nat.reduceAdd, Nat.reduceSub, Nat.reduceMul, Nat.reduceLT, Nat.reduceLeDiff, Nat.reduceEqDiff, Int.reduceNeg, Int.reduceEq, Int.reduceNe, Int.reduceBEq, Int.reduceBNe, Int.reduceLT, Int.reduceLE, Int.reduceGT, Int.reduceAdd, reduceIte, Bool.not_true, Bool.not_false, decide_true, decide_false, ne_eq, not_false_eq_true, not_true_eq_false]
  exact hK H5 C3 ⟨{ x with seen := t, row := (a3, x.row.2.1 + 1, c3) }, rfl, g5⟩ (hev4.trans (hev5.mono fun _ => own_of_at1))

theorem radd_ok {x : RefX} {n : Nat} {f : FileA} {c : Chg} {sl : SlV} (hk : k ≠ 0) (h : RefAt H C k x D) (hD : DiskOk D) (ha : D.acts < 2 ^ 39) (hf : D.fuse < 2 ^ 63) (hd : D.dead = false) (hn : D.files[n]? = some f) (hb : ByI H C sl c.b)
    (hK : ∀ H' C', IsRef H' C' k x.p (D.chgBy n c).blow → Ev (own k) H C H' C' → K (.int .i64 (if D.fuse = 1 then 13 else 0)) H') : Fn 88 [.pointer (some ⟨x.p, 0, none⟩), .int .i64 (n : Int), .agg ⟨[.bool c.cut, .int .i64 (c.off : Int), .slice sl.1 sl.2.1 sl.2.2]⟩] H K := by
  refine F88_ok _ _ _ _ _ _ _ ?_
  unfold F88
  have hp := h.hp
  have hfr := (hD.files f (List.mem_of_getElem? hn)).2
  simp only [cellH_mk, cellO_some, add_mk, size_upd, upd_upd, one_int, one_bool, one_string, one_pointer, one_slice, one_map, one_func, st1_some, stN_nil, stN_cons, StV_mk, StO_some, Ld_some, RtI_mk, RtB_mk, RtS_mk, RtP_mk, RtL_mk, RtM_mk, RtA_mk, RtT_mk, NilC_some, New_eq, At_eq, Ck_true, Rt0_mk, BrB_true, BrB_false, Nat.zero_add, List.length_cons, List.length_nil, List.getElem?_cons_zero, List.getElem?_cons_succ, List.set_cons_zero, List.set_cons_succ, List.getD_cons_zero, List.getD_cons_succ, Option.isNone_some, Option.isNone_none, Go.Disk.fsO, Go.Disk.fileO, Bool.false_eq_true, eq_self, Nat.reduceAdd, Nat.reduceSub, Nat.reduceMul, Nat.reduceLT, Nat.reduceLeDiff, Nat.reduceEqDiff, Int.reduceNeg, Int.reduceEq, Int.reduceNe, Int.reduceBEq, Int.reduceBNe, Int.reduceLT, Int.reduceLE, Int.reduceGT, Int.reduceAdd, reduceIte, Bool.not_true, Bool.not_false, decide_true, decide_false, ne_eq, not_false_eq_true, not_true_eq_false, NewN_eq]
  have hev1 := ev_push no H C (.cells ⟨[.bool c.cut, .int .i64 (c.off : Int), .slice sl.1 sl.2.1 sl.2.2]⟩ 115) (0, 0)
  have hn1 : (H.push (.cells ⟨[.bool c.cut, .int .i64 (c.off : Int), .slice sl.1 sl.2.1 sl.2.2]⟩ 115))[H.size]? = some (.cells ⟨[.bool c.cut, .int .i64 (c.off : Int), .slice sl.1 sl.2.1 sl.2.2]⟩ 115 (0, 0)) := get_push_self _ _
  have h1 := h.ev hev1 (fun _ _ h => h) fun _ h => h
  have hb1 := hb.ev hev1 fun _ _ h => h
  have hcn1 : setC C H.size (0, 0) H.size = (0, 0) := setC_self _ _ _
  have hev1 : Ev (own k) H C _ _ := hev1.mono fun _ h => h.elim
  generalize H.push _ = H1 at *
  generalize setC C H.size (0, 0) = C1 at *
  generalize H.size = nb at *
  have hp1 := h1.hp
  obtain ⟨b, cs, e1, e2, e3, e4, e5, e6, e7⟩ := RFilesAt.open h1.files hn
  rw [refX, e1] at hp1
  simp only [cellH_mk, cellO_some, add_mk, size_upd, upd_upd, one_int, one_bool, one_string, one_pointer, one_slice, one_map, one_func, st1_some, stN_nil, stN_cons, StV_mk, StO_some, Ld_some, RtI_mk, RtB_mk, RtS_mk, RtP_mk, RtL_mk, RtM_mk, RtA_mk, RtT_mk, NilC_some, New_eq, At_eq, Ck_true, Rt0_mk, BrB_true, BrB_false, Nat.zero_add, List.length_cons, List.length_nil, List.getElem?_cons_zero, List.getElem?_cons_succ, List.set_cons_zero, List.set_cons_succ, List.getD_cons_zero, List.getD_cons_succ, Option.isNone_some, Option.isNone_none, Go.Disk.fsO, Go.Disk.fileO, Bool.false_eq_true, eq_self, Nat.reduceAdd, Nat.reduceSub, Nat.reduceMul, Nat.reduceLT, Nat.reduceLeDiff, Nat.reduceEqDiff, Int.reduceNeg, Int.reduceEq, Int.reduceNe, Int.reduceBEq, Int.reduceBNe, Int.reduceLT, Int.reduceLE, Int.reduceGT, Int.reduceAdd, reduceIte, Bool.not_true, Bool.not_false, decide_true, decide_false, ne_eq, not_false_eq_true, not_true_eq_false, hp1]
  have hnl := (List.getElem?_eq_some_iff.1 hn).1
  obtain ⟨t, r, rc, g1, g2, g3, g4, g5, g6⟩ := e7.get hn
  rw [Nat.zero_add] at g4
  have hc : ∀ j v, (cs.take (x.files.2.1 * 2))[j]? = some v → cs[j]? = some v := fun j v hv => by
    rw [List.getElem?_take] at hv
    split at hv
    · exact hv
    · cases hv
  have c1 := hc _ _ g1
  have c2 := hc _ _ g2
  refine Idx_i (by omega) (by omega) ?_
  rw [Int.toNat_natCast, Nat.zero_add]
  simp only [cellH_mk, cellO_some, add_mk, size_upd, upd_upd, one_int, one_bool, one_string, one_pointer, one_slice, one_map, one_func, st1_some, stN_nil, stN_cons, StV_mk, StO_some, Ld_some, RtI_mk, RtB_mk, RtS_mk, RtP_mk, RtL_mk, RtM_mk, RtA_mk, RtT_mk, NilC_some, New_eq, At_eq, Ck_true, Rt0_mk, BrB_true, BrB_false, Nat.zero_add, List.length_cons, List.length_nil, List.getElem?_cons_zero, List.getElem?_cons_succ, List.set_cons_zero, List.set_cons_succ, List.getD_cons_zero, List.getD_cons_succ, Option.isNone_some, Option.isNone_none, Go.Disk.fsO, Go.Disk.fileO, Bool.false_eq_true, eq_self, Nat.reduceAdd, Nat.reduceSub, Nat.reduceMul, Nat.reduceLT, Nat.reduceLeDiff, Nat.reduceEqDiff, Int.reduceNeg, Int.reduceEq, Int.reduceNe, Int.reduceBEq, Int.reduceBNe, Int.reduceLT, Int.reduceLE, Int.reduceGT, Int.reduceAdd, reduceIte, Bool.not_true, Bool.not_false, decide_true, decide_false, ne_eq, not_false_eq_true, not_true_eq_false, e3, c2, hn1]
  rw [rowV_mk _ _ 0 3 hn1 (by simp)]
  simp only [List.drop_zero, List.take_succ_cons, List.take_zero]
  simp only [cellH_mk, cellO_some, add_mk, size_upd, upd_upd, one_int, one_bool, one_string, one_pointer, one_slice, one_map, one_func, st1_some, stN_nil, stN_cons, StV_mk, StO_some, Ld_some, RtI_mk, RtB_mk, RtS_mk, RtP_mk, RtL_mk, RtM_mk, RtA_mk, RtT_mk, NilC_some, New_eq, At_eq, Ck_true, Rt0_mk, BrB_true, BrB_false, Nat.zero_add, List.length_cons, List.length_nil, List.getElem?_cons_zero, List.getElem?_cons_succ, List.set_cons_zero, List.set_cons_succ, List.getD_cons_zero, List.getD_cons_succ, Option.isNone_some, Option.isNone_none, Go.Disk.fsO, Go.Disk.fileO, Bool.false_eq_true, eq_self, Nat.reduceAdd, Nat.reduceSub, Nat.reduceMul, Nat.reduceLT, Nat.reduceLeDiff, Nat.reduceEqDiff, Int.reduceNeg, Int.reduceEq, Int.reduceNe, Int.reduceBEq, Int.reduceBNe, Int.reduceLT, Int.reduceLE, Int.reduceGT, Int.reduceAdd, reduceIte, Bool.not_true, Bool.not_false, decide_true, decide_false, ne_eq, not_false_eq_true, not_true_eq_false]
  refine build_oneK und108 tyf115 (by rfl) (by rfl) (by omega) (by omega) ?_
  have hev2 := ev_push no H1 C1 (.cells (Value.cells (.agg ⟨[.bool c.cut, .int .i64 (c.off : Int), .slice sl.1 sl.2.1 sl.2.2]⟩)) 115) (0, 0)
  have hsrc := SrcH_one (s := 3) (get_push_self H1 (.cells (Value.cells (.agg ⟨[.bool c.cut, .int .i64 (c.off : Int), .slice sl.1 sl.2.1 sl.2.2]⟩)) 115)) rfl
  have hp2 := hev2.get hp1 fun h => h
  have eb2 := hev2.get e3 fun h => h
  have h2 := h1.ev hev2 (fun _ _ h => h) fun _ h => h
  have g42 := g4.ev hev2 fun h => h
  have e72 := RFiles.ev hev2 (fun _ _ h => h) (fun _ _ _ h => h) e7
  have g32 := g3.ev hev2 fun _ _ h => h
  have g52 := g5.ev hev2 fun _ _ h => h
  have hb2 := hb1.ev hev2 fun _ _ h => h
  have ecb2 := (hev2.colOf e3).trans e2
  have hev2 := hev1.trans (hev2.mono fun _ h => h.elim)
  generalize H1.size = nb2 at *
  generalize H1.push _ = H2 at *
  generalize setC C1 nb2 (0, 0) = C2 at *
  simp only [cellH_mk, cellO_some, add_mk, size_upd, upd_upd, one_int, one_bool, one_string, one_pointer, one_slice, one_map, one_func, st1_some, stN_nil, stN_cons, StV_mk, StO_some, Ld_some, RtI_mk, RtB_mk, RtS_mk, RtP_mk, RtL_mk, RtM_mk, RtA_mk, RtT_mk, NilC_some, New_eq, At_eq, Ck_true, Rt0_mk, BrB_true, BrB_false, Nat.zero_add, List.length_cons, List.length_nil, List.getElem?_cons_zero, List.getElem?_cons_succ, List.set_cons_zero, List.set_cons_succ, List.getD_cons_zero, List.getD_cons_succ, Option.isNone_some, Option.isNone_none, Go.Disk.fsO, Go.Disk.fileO, Bool.false_eq_true, eq_self, Nat.reduceAdd, Nat.reduceSub, Nat.reduceMul, Nat.reduceLT, Nat.reduceLeDiff, Nat.reduceEqDiff, Int.reduceNeg, Int.reduceEq, Int.reduceNe, Int.reduceBEq, Int.reduceBNe, Int.reduceLT, Int.reduceLE, Int.reduceGT, Int.reduceAdd, reduceIte, Bool.not_true, Bool.not_false, decide_true, decide_false, ne_eq, not_false_eq_true, not_true_eq_false, hp2, eb2, c2]
  refine app_ownK (lab := (k, 4 + n)) (new := [.bool c.cut, .int .i64 (c.off : Int), .slice sl.1 sl.2.1 sl.2.2]) und108 und108 (.inl ⟨_, rfl⟩) tyf115 (by rfl) hsrc (by rfl) (by intro v hv; simp at hv; rcases hv with rfl | rfl | rfl <;> rfl) g42 (by omega) (by omega) fun a3 c3 H3 C3 hs3 hev3 _ => ?_
  have hp3 := hev3.get hp2 (by rw [h2.cp]; exact at1_ne (by omega))
  have eb3 := hev3.get eb2 (by rw [ecb2]; exact at1_ne (by omega))
  have hcp3 := (hev3.colOf hp2).trans h2.cp
  have ecb3 := (hev3.colOf eb2).trans ecb2
  have hss3 := h2.sure.ev hev3 (at1_no0 hk)
  have hsn3 := h2.seen.ev hev3 (at1_no0 hk)
  have hsr3 := h2.row.ev hev3 (at1_no0 hk) (at1_ne (by omega))
  have g33 := g32.ev hev3 (at1_no0 hk)
  have g53 := ChgsAt.snoc (s := sl) (hb2.ev hev3 (at1_no0 hk)) (g52.ev hev3 (at1_no0 hk))
  have hev3' := hev2.trans (hev3.mono fun _ => own_of_at1)
  simp only [cellH_mk, cellO_some, add_mk, size_upd, upd_upd, one_int, one_bool, one_string, one_pointer, one_slice, one_map, one_func, st1_some, stN_nil, stN_cons, StV_mk, StO_some, Ld_some, RtI_mk, RtB_mk, RtS_mk, RtP_mk, RtL_mk, RtM_mk, RtA_mk, RtT_mk, NilC_some, New_eq, At_eq, Ck_true, Rt0_mk, BrB_true, BrB_false, Nat.zero_add, List.length_cons, List.length_nil, List.getElem?_cons_zero, List.getElem?_cons_succ, List.set_cons_zero, List.set_cons_succ, List.getD_cons_zero, List.getD_cons_succ, Option.isNone_some, Option.isNone_none, Go.Disk.fsO, Go.Disk.fileO, Bool.false_eq_true, eq_self, Nat.reduceAdd, Nat.reduceSub, Nat.reduceMul, Nat.reduceLT, Nat.reduceLeDiff, Nat.reduceEqDiff, Int.reduceNeg, Int.reduceEq, Int.reduceNe, Int.reduceBEq, Int.reduceBNe, Int.reduceLT, Int.reduceLE, Int.reduceGT, Int.reduceAdd, reduceIte, Bool.not_true, Bool.not_false, decide_true, decide_false, ne_eq, not_false_eq_true, not_true_eq_false, hp3]
  refine Idx_i (by omega) (by omega) ?_
  rw [Int.toNat_natCast, Nat.zero_add]
  have hlt : n * 2 + 1 < cs.length := by omega
  have hbl := lt_of_get eb3
  simp only [cellH_mk, cellO_some, add_mk, size_upd, upd_upd, one_int, one_bool, one_string, one_pointer, one_slice, one_map, one_func, st1_some, stN_nil, stN_cons, StV_mk, StO_some, Ld_some, RtI_mk, RtB_mk, RtS_mk, RtP_mk, RtL_mk, RtM_mk, RtA_mk, RtT_mk, NilC_some, New_eq, At_eq, Ck_true, Rt0_mk, BrB_true, BrB_false, Nat.zero_add, List.length_cons, List.length_nil, List.getElem?_cons_zero, List.getElem?_cons_succ, List.set_cons_zero, List.set_cons_succ, List.getD_cons_zero, List.getD_cons_succ, Option.isNone_some, Option.isNone_none, Go.Disk.fsO, Go.Disk.fileO, Bool.false_eq_true, eq_self, Nat.reduceAdd, Nat.reduceSub, Nat.reduceMul, Nat.reduceLT, Nat.reduceLeDiff, Nat.reduceEqDiff, Int.reduceNeg, Int.reduceEq, Int.reduceNe, Int.reduceBEq, Int.reduceBNe, Int.reduceLT, Int.reduceLE, Int.reduceGT, Int.reduceAdd, reduceIte, Bool.not_true, Bool.not_false, decide_true, decide_false, ne_eq, not_false_eq_true, not_true_eq_false, eb3, hlt]
  have hset : cs.set (n * 2 + 1) (.slice a3 (r.2.1 + 1) c3) = (cs.set (n * 2) (.slice t.1 t.2.1 t.2.2)).set (n * 2 + 1) (.slice a3 (r.2.1 + 1) c3) := by rw [set_same c1]
  have hb4 := get_upd_of (o' := .cells ⟨(cs.set (n * 2) (.slice t.1 t.2.1 t.2.2)).set (n * 2 + 1) (.slice a3 (r.2.1 + 1) c3)⟩ 110 (0, 0)) eb3
  rw [hset]
  have hev4 : Ev (at1 (k, 1)) H3 C3 (upd H3 b (.cells ⟨(cs.set (n * 2) (.slice t.1 t.2.1 t.2.2)).set (n * 2 + 1) (.slice a3 (r.2.1 + 1) c3)⟩ 110 (0, 0))) C3 := ev_upd ecb3 _
  have hp4 := hev4.get hp3 (by rw [hcp3]; exact at1_ne (by omega))
  have hss4 := hss3.ev hev4 (at1_no0 hk)
  have hsn4 := hsn3.ev hev4 (at1_no0 hk)
  have hsr4 := hsr3.ev hev4 (at1_no0 hk) (at1_ne (by omega))
  have hS2 : ∀ y : Lab, y.1 = 0 → ¬ (fun l => at1 (k, 4 + n) l ∨ at1 (k, 1) l) y := fun y hy e => e.elim (at1_no0 hk y hy) (at1_no0 hk y hy)
  have hev34 : Ev (fun l => at1 (k, 4 + n) l ∨ at1 (k, 1) l) H2 C2 _ _ := (hev3.mono fun _ h => .inl h).trans (hev4.mono fun _ h => .inr h)
  have hfiles := RFilesAt.write (s := x.files) (n := n) (g := { f with now := c.app f.now, row := f.row ++ [c] }) (t := t) (r := (a3, r.2.1 + 1, c3)) hev34 hS2 (fun j hj => fun e => e.elim (at1_ne (by omega)) (at1_ne (by omega))) e1 ecb3 e4 e5 e6 e72 hn hb4 (g33.ev hev4 (at1_no0 hk)) (hs3.ev hev4 (at1_ne (by omega))) (g53.ev hev4 (at1_no0 hk)) (by show r.2.1 + 1 = (f.row ++ [c]).length; simp [g6])
  rw [← modify_set (g := fun f => { f with now := c.app f.now, row := f.row ++ [c] }) hn] at hfiles
  have hR : RefAt (upd H3 b (.cells ⟨(cs.set (n * 2) (.slice t.1 t.2.1 t.2.2)).set (n * 2 + 1) (.slice a3 (r.2.1 + 1) c3)⟩ 110 (0, 0))) C3 k x (D.chgBy n c) := ⟨hcp3, by rw [hp4, refX, e1]; rfl, hfiles, hss4, hsr4, hsn4⟩
  refine rblown_ok (x := x) (D := D.chgBy n c) hk hR (by show D.acts < _; omega) hf hd fun H5 g5 hev5 => ?_
  simp only [cellH_mk, cellO_some, add_mk, size_upd, upd_upd, one_int, one_bool, one_string, one_pointer, one_slice, one_map, one_func, st1_some, stN_nil, stN_cons, StV_mk, StO_some, Ld_some, RtI_mk, RtB_mk, RtS_mk, RtP_mk, RtL_mk, RtM_mk, RtA_mk, RtT_mk, NilC_some, New_eq, At_eq, Ck_true, Rt0_mk, BrB_true, BrB_false, Nat.zero_add, List.length_cons, List.length_nil, List.getElem?_cons_zero, List.getElem?_cons_succ, List.set_cons_zero, List.set_cons_succ, List.getD_cons_zero, List.getD_cons_succ, Option.isNone_some, Option.isNone_none, Go.Disk.fsO, Go.Disk.fileO, Bool.false_eq_true, eq_self, Nat.reduceAdd, Nat.reduceSub, Nat.reduceMul, Nat.reduceLT, Nat.reduceLeDiff, Nat.reduceEqDiff, Int.reduceNeg, Int.reduceEq, Int.reduceNe, Int.reduceBEq, Int.reduceBNe, Int.reduceLT, Int.reduceLE, Int.reduceGT, Int.reduceAdd, reduceIte, Bool.not_true, Bool.not_false, decide_true, decide_false, ne_eq, not_false_eq_true, not_true_eq_false]
  exact hK H5 C3 ⟨_, rfl, g5⟩ (hev3'.trans ((hev4.mono fun _ => own_of_at1).trans (hev5.mono fun _ => own_of_at1)))
end
end Go.Proofs

namespace Go.Disk
open Go Go.Fx
theorem usedOf_append (fs : List FileA) (d e : Dir) : usedOf fs (d ++ e) = usedOf fs d + usedOf fs e := by simp [usedOf]
theorem usedOf_le {D : Disk} (hD : DiskOk D) : ∀ (d : Dir), usedOf D.files d ≤ d.length * 2 ^ 20
  | [] => Nat.zero_le _
  | p :: ps => by
    have h1 := usedOf_le hD ps
    have h2 := flen_le hD p.2
    show flen D.files p.2 + usedOf D.files ps ≤ (ps.length + 1) * 2 ^ 20
    rw [Nat.add_mul]; omega
end Go.Disk
namespace Go.Proofs
open Go Go.Fx Go.Disk
set_option linter.unusedVariables false
set_option maxRecDepth 20000
section
variable {H : Heap} {C : Col} {k p : Nat} {D : Disk} {K : Value → Heap → Prop}

theorem rUsed_ok (h : IsRef H C k p D) (hD : DiskOk D) (ha : D.acts < 2 ^ 39) (hK : ∀ H' C', Ev no H C H' C' → K (.int .i64 (dUsed D)) H') : Fn 70 [.pointer (some ⟨p, 0, none⟩)] H K := by
  obtain ⟨x, rfl, h⟩ := h
  refine F70_ok _ ?_
  unfold F70
  have hdl := hD.seen.2.1
  have hlen := h.seen.len
  refine ⟨fun n i H' => ∃ C', ∃ m : Nat, i = (m : Int) ∧ m ≤ D.seen.length ∧ n = ((usedOf D.files (D.seen.take m) : Nat) : Int) ∧ (0 < m → D.dead = false) ∧ Ev no H C H' C', fun _ i _ => D.seen.length - i.toNat, ⟨C, 0, rfl, by omega, rfl, fun h => absurd h (by omega), Ev.refl _ _ _⟩, ?_⟩
  rintro fr n i H1 ⟨C1, m, rfl, hm, rfl, hdm, hev1⟩
  have h1 := h.ev hev1 (fun _ _ h => h) fun _ h => h
  have hp1 := h1.hp
  rw [refX] at hp1
  simp only [cellH_mk, cellO_some, add_mk, size_upd, upd_upd, one_int, one_bool, one_string, one_pointer, one_slice, one_map, one_func, st1_some, stN_nil, stN_cons, StV_mk, StO_some, Ld_some, RtI_mk, RtB_mk, RtS_mk, RtP_mk, RtL_mk, RtM_mk, RtA_mk, RtT_mk, NilC_some, New_eq, At_eq, Ck_true, Rt0_mk, BrB_true, BrB_false, Nat.zero_add, List.length_cons, List.length_nil, List.getElem?_cons_zero, List.getElem?_cons_succ, List.set_cons_zero, List.set_cons_succ, List.getD_cons_zero, List.getD_cons_succ, Option.isNone_some, Option.isNone_none, Go.Disk.fsO, Go.Disk.fileO, Bool.false_eq_true, eq_self, Nat.reduceAdd, Nat.reduceSub, Nat.reduceMul, Nat.reduceLT, Nat.reduceLeDiff, Nat.reduceEqDiff, Int.reduceNeg, Int.reduceEq, Int.reduceNe, Int.reduceBEq, Int.reduceBNe, Int.reduceLT, Int.reduceLE, Int.reduceGT, Int.reduceAdd, reduceIte, Bool.not_true, Bool.not_false, decide_true, decide_false, ne_eq, not_false_eq_true, not_true_eq_false, hp1]
  refine BrB_i (fun hlt => ?_) (fun hlt => ?_)
  · have hlt := of_decide_eq_true hlt
    simp only [cellH_mk, cellO_some, add_mk, size_upd, upd_upd, one_int, one_bool, one_string, one_pointer, one_slice, one_map, one_func, st1_some, stN_nil, stN_cons, StV_mk, StO_some, Ld_some, RtI_mk, RtB_mk, RtS_mk, RtP_mk, RtL_mk, RtM_mk, RtA_mk, RtT_mk, NilC_some, New_eq, At_eq, Ck_true, Rt0_mk, BrB_true, BrB_false, Nat.zero_add, List.length_cons, List.length_nil, List.getElem?_cons_zero, List.getElem?_cons_succ, List.set_cons_zero, List.set_cons_succ, List.getD_cons_zero, List.getD_cons_succ, Option.isNone_some, Option.isNone_none, Go.Disk.fsO, Go.Disk.fileO, Bool.false_eq_true, eq_self, Nat.reduceAdd, Nat.reduceSub, Nat.reduceMul, Nat.reduceLT, Nat.reduceLeDiff, Nat.reduceEqDiff, Int.reduceNeg, Int.reduceEq, Int.reduceNe, Int.reduceBEq, Int.reduceBNe, Int.reduceLT, Int.reduceLE, Int.reduceGT, Int.reduceAdd, reduceIte, Bool.not_true, Bool.not_false, decide_true, decide_false, ne_eq, not_false_eq_true, not_true_eq_false, hp1]
    cases hd : D.dead with
    | true =>
      simp only [cellH_mk, cellO_some, add_mk, size_upd, upd_upd, one_int, one_bool, one_string, one_pointer, one_slice, one_map, one_func, st1_some, stN_nil, stN_cons, StV_mk, StO_some, Ld_some, RtI_mk, RtB_mk, RtS_mk, RtP_mk, RtL_mk, RtM_mk, RtA_mk, RtT_mk, NilC_some, New_eq, At_eq, Ck_true, Rt0_mk, BrB_true, BrB_false, Nat.zero_add, List.length_cons, List.length_nil, List.getElem?_cons_zero, List.getElem?_cons_succ, List.set_cons_zero, List.set_cons_succ, List.getD_cons_zero, List.getD_cons_succ, Option.isNone_some, Option.isNone_none, Go.Disk.fsO, Go.Disk.fileO, Bool.false_eq_true, eq_self, Nat.reduceAdd, Nat.reduceSub, Nat.reduceMul, Nat.reduceLT, Nat.reduceLeDiff, Nat.reduceEqDiff, Int.reduceNeg, Int.reduceEq, Int.reduceNe, Int.reduceBEq, Int.reduceBNe, Int.reduceLT, Int.reduceLE, Int.reduceGT, Int.reduceAdd, reduceIte, Bool.not_true, Bool.not_false, decide_true, decide_false, ne_eq, not_false_eq_true, not_true_eq_false]
      have hm0 : m = 0 := by
        by_cases h0 : 0 < m
        · have := hdm h0; rw [hd] at this; cases this
        · omega
      subst hm0
      have e : dUsed D = 0 := by unfold dUsed; rw [if_pos hd]
      rw [e] at hK
      exact hK H1 C1 hev1
    | false =>
      simp only [cellH_mk, cellO_some, add_mk, size_upd, upd_upd, one_int, one_bool, one_string, one_pointer, one_slice, one_map, one_func, st1_some, stN_nil, stN_cons, StV_mk, StO_some, Ld_some, RtI_mk, RtB_mk, RtS_mk, RtP_mk, RtL_mk, RtM_mk, RtA_mk, RtT_mk, NilC_some, New_eq, At_eq, Ck_true, Rt0_mk, BrB_true, BrB_false, Nat.zero_add, List.length_cons, List.length_nil, List.getElem?_cons_zero, List.getElem?_cons_succ, List.set_cons_zero, List.set_cons_succ, List.getD_cons_zero, List.getD_cons_succ, Option.isNone_some, Option.isNone_none, Go.Disk.fsO, Go.Disk.fileO, Bool.false_eq_true, eq_self, Nat.reduceAdd, Nat.reduceSub, Nat.reduceMul, Nat.reduceLT, Nat.reduceLeDiff, Nat.reduceEqDiff, Int.reduceNeg, Int.reduceEq, Int.reduceNe, Int.reduceBEq, Int.reduceBNe, Int.reduceLT, Int.reduceLE, Int.reduceGT, Int.reduceAdd, reduceIte, Bool.not_true, Bool.not_false, decide_true, decide_false, ne_eq, not_false_eq_true, not_true_eq_false, hp1]
      have hpi : D.seen[m]? = some (D.seen[m]'(by omega)) := List.getElem?_eq_getElem _
      generalize D.seen[m]'(by omega) = q at hpi
      have hqn : q.2 < D.files.length := hD.seen.2.2 q (List.mem_of_getElem? hpi)
      have hfn : D.files[q.2]? = some (D.files[q.2]'hqn) := List.getElem?_eq_getElem _
      generalize D.files[q.2]'hqn = f at hfn
      refine h1.seen.row hpi fun e he h0 hq => ?_
      simp only [cellH_mk, cellO_some, add_mk, size_upd, upd_upd, one_int, one_bool, one_string, one_pointer, one_slice, one_map, one_func, st1_some, stN_nil, stN_cons, StV_mk, StO_some, Ld_some, RtI_mk, RtB_mk, RtS_mk, RtP_mk, RtL_mk, RtM_mk, RtA_mk, RtT_mk, NilC_some, New_eq, At_eq, Ck_true, Rt0_mk, BrB_true, BrB_false, Nat.zero_add, List.length_cons, List.length_nil, List.getElem?_cons_zero, List.getElem?_cons_succ, List.set_cons_zero, List.set_cons_succ, List.getD_cons_zero, List.getD_cons_succ, Option.isNone_some, Option.isNone_none, Go.Disk.fsO, Go.Disk.fileO, Bool.false_eq_true, eq_self, Nat.reduceAdd, Nat.reduceSub, Nat.reduceMul, Nat.reduceLT, Nat.reduceLeDiff, Nat.reduceEqDiff, Int.reduceNeg, Int.reduceEq, Int.reduceNe, Int.reduceBEq, Int.reduceBNe, Int.reduceLT, Int.reduceLE, Int.reduceGT, Int.reduceAdd, reduceIte, Bool.not_true, Bool.not_false, decide_true, decide_false, ne_eq, not_false_eq_true, not_true_eq_false, hq]
      refine h1.files.file hfn fun fb fo hF => ?_
      have hfo := hD.files f (List.mem_of_getElem? hfn)
      refine rnow_ok hF hfo.1 (by omega) fun s' H2 C2 hs2 hev2 => ?_
      have hsl := hs2.len
      have hul := usedOf_le hD (D.seen.take m)
      have hfl := hfo.1.len1
      have hm64 : (D.seen.take m).length ≤ 64 := by rw [List.length_take]; exact Nat.le_trans (Nat.min_le_right _ _) hdl
      have hul2 : usedOf D.files (D.seen.take m) ≤ 64 * 2 ^ 20 := Nat.le_trans hul (Nat.mul_le_mul_right _ hm64)
      clear hul
      simp only [cellH_mk, cellO_some, add_mk, size_upd, upd_upd, one_int, one_bool, one_string, one_pointer, one_slice, one_map, one_func, st1_some, stN_nil, stN_cons, StV_mk, StO_some, Ld_some, RtI_mk, RtB_mk, RtS_mk, RtP_mk, RtL_mk, RtM_mk, RtA_mk, RtT_mk, NilC_some, New_eq, At_eq, Ck_true, Rt0_mk, BrB_true, BrB_false, Nat.zero_add, List.length_cons, List.length_nil, List.getElem?_cons_zero, List.getElem?_cons_succ, List.set_cons_zero, List.set_cons_succ, List.getD_cons_zero, List.getD_cons_succ, Option.isNone_some, Option.isNone_none, Go.Disk.fsO, Go.Disk.fileO, Bool.false_eq_true, eq_self, Nat.reduceAdd, Nat.reduceSub, Nat.reduceMul, Nat.reduceLT, Nat.reduceLeDiff, Nat.reduceEqDiff, Int.reduceNeg, Int.reduceEq, Int.reduceNe, Int.reduceBEq, Int.reduceBNe, Int.reduceLT, Int.reduceLE, Int.reduceGT, Int.reduceAdd, reduceIte, Bool.not_true, Bool.not_false, decide_true, decide_false, ne_eq, not_false_eq_true, not_true_eq_false]
      rw [hsl, w64 (by omega) (by omega), w64 (by omega) (by omega)]
      refine ⟨⟨C2, m + 1, by omega, by omega, ?_, fun _ => by first | exact hd | trivial, hev1.trans hev2⟩, ?_⟩
      · rw [List.take_add_one, hpi, usedOf_append]
        have : usedOf D.files (some q).toList = f.now.length := by
          show usedOf D.files [q] = _
          simp [usedOf, flen_of hfn]
        rw [this]; omega
      · show D.seen.length - ((m : Int) + 1).toNat < D.seen.length - ((m : Nat) : Int).toNat
        omega
  · have hlt := of_decide_eq_false hlt
    have hmd : m = D.seen.length := by omega
    subst hmd
    rw [List.take_length]
    have e : dUsed D = ((usedOf D.files D.seen : Nat) : Int) := by
      unfold dUsed
      split
      · rename_i hd
        have : D.seen.length = 0 := by
          by_cases h0 : 0 < D.seen.length
          · have := hdm h0; rw [hd] at this; cases this
          · omega
        rw [List.eq_nil_of_length_eq_zero this]; rfl
      · rfl
    rw [e] at hK
    exact hK H1 C1 hev1

theorem rNames_ok (h : IsRef H C k p D) (hD : DiskOk D) (lab : Lab)
    (hK : ∀ a l c H' C', SlO H' C' lab 9 1 a l c ((if D.dead then [] else D.seen.map (·.1)).map Value.string) → Ev no H C H' C' → K (.slice a l c) H') : Fn 69 [.pointer (some ⟨p, 0, none⟩)] H K := by
  obtain ⟨x, rfl, h⟩ := h
  refine F69_ok _ ?_
  unfold F69
  have hdl := hD.seen.2.1
  have hlen := h.seen.len
  obtain ⟨q, hq, hqk, hfq⟩ := fresh_two C H.size k
  refine ⟨fun a l c i H' => ∃ C', ∃ m : Nat, i = (m : Int) ∧ m ≤ D.seen.length ∧ SlO H' C' (q, 1) 9 1 a l c (((D.seen.take m).map (·.1)).map Value.string) ∧ l = m ∧ (0 < m → D.dead = false) ∧ Ev (own q) H C H' C', fun _ _ _ i _ => D.seen.length - i.toNat, ⟨C, 0, rfl, by omega, SlO.nil _ _ _ _ _, rfl, fun h => absurd h (by omega), Ev.refl _ _ _⟩, ?_⟩
  rintro fr a l c i H1 ⟨C1, m, rfl, hm, hs1, hlm, hdm, hev1⟩
  have h1 := h.ev hev1 (fun y hy e => hq (by unfold own at e; omega)) fun j e => hqk e.symm
  have hp1 := h1.hp
  rw [refX] at hp1
  simp only [cellH_mk, cellO_some, add_mk, size_upd, upd_upd, one_int, one_bool, one_string, one_pointer, one_slice, one_map, one_func, st1_some, stN_nil, stN_cons, StV_mk, StO_some, Ld_some, RtI_mk, RtB_mk, RtS_mk, RtP_mk, RtL_mk, RtM_mk, RtA_mk, RtT_mk, NilC_some, New_eq, At_eq, Ck_true, Rt0_mk, BrB_true, BrB_false, Nat.zero_add, List.length_cons, List.length_nil, List.getElem?_cons_zero, List.getElem?_cons_succ, List.set_cons_zero, List.set_cons_succ, List.getD_cons_zero, List.getD_cons_succ, Option.isNone_some, Option.isNone_none, Go.Disk.fsO, Go.Disk.fileO, Bool.false_eq_true, eq_self, Nat.reduceAdd, Nat.reduceSub, Nat.reduceMul, Nat.reduceLT, Nat.reduceLeDiff, Nat.reduceEqDiff, Int.reduceNeg, Int.reduceEq, Int.reduceNe, Int.reduceBEq, Int.reduceBNe, Int.reduceLT, Int.reduceLE, Int.reduceGT, Int.reduceAdd, reduceIte, Bool.not_true, Bool.not_false, decide_true, decide_false, ne_eq, not_false_eq_true, not_true_eq_false, hp1]
  refine BrB_i (fun hlt => ?_) (fun hlt => ?_)
  · have hlt := of_decide_eq_true hlt
    simp only [cellH_mk, cellO_some, add_mk, size_upd, upd_upd, one_int, one_bool, one_string, one_pointer, one_slice, one_map, one_func, st1_some, stN_nil, stN_cons, StV_mk, StO_some, Ld_some, RtI_mk, RtB_mk, RtS_mk, RtP_mk, RtL_mk, RtM_mk, RtA_mk, RtT_mk, NilC_some, New_eq, At_eq, Ck_true, Rt0_mk, BrB_true, BrB_false, Nat.zero_add, List.length_cons, List.length_nil, List.getElem?_cons_zero, List.getElem?_cons_succ, List.set_cons_zero, List.set_cons_succ, List.getD_cons_zero, List.getD_cons_succ, Option.isNone_some, Option.isNone_none, Go.Disk.fsO, Go.Disk.fileO, Bool.false_eq_true, eq_self, Nat.reduceAdd, Nat.reduceSub, Nat.reduceMul, Nat.reduceLT, Nat.reduceLeDiff, Nat.reduceEqDiff, Int.reduceNeg, Int.reduceEq, Int.reduceNe, Int.reduceBEq, Int.reduceBNe, Int.reduceLT, Int.reduceLE, Int.reduceGT, Int.reduceAdd, reduceIte, Bool.not_true, Bool.not_false, decide_true, decide_false, ne_eq, not_false_eq_true, not_true_eq_false, hp1]
    cases hd : D.dead with
    | true =>
      simp only [cellH_mk, cellO_some, add_mk, size_upd, upd_upd, one_int, one_bool, one_string, one_pointer, one_slice, one_map, one_func, st1_some, stN_nil, stN_cons, StV_mk, StO_some, Ld_some, RtI_mk, RtB_mk, RtS_mk, RtP_mk, RtL_mk, RtM_mk, RtA_mk, RtT_mk, NilC_some, New_eq, At_eq, Ck_true, Rt0_mk, BrB_true, BrB_false, Nat.zero_add, List.length_cons, List.length_nil, List.getElem?_cons_zero, List.getElem?_cons_succ, List.set_cons_zero, List.set_cons_succ, List.getD_cons_zero, List.getD_cons_succ, Option.isNone_some, Option.isNone_none, Go.Disk.fsO, Go.Disk.fileO, Bool.false_eq_true, eq_self, Nat.reduceAdd, Nat.reduceSub, Nat.reduceMul, Nat.reduceLT, Nat.reduceLeDiff, Nat.reduceEqDiff, Int.reduceNeg, Int.reduceEq, Int.reduceNe, Int.reduceBEq, Int.reduceBNe, Int.reduceLT, Int.reduceLE, Int.reduceGT, Int.reduceAdd, reduceIte, Bool.not_true, Bool.not_false, decide_true, decide_false, ne_eq, not_false_eq_true, not_true_eq_false]
      have hm0 : m = 0 := by
        by_cases h0 : 0 < m
        · have := hdm h0; rw [hd] at this; cases this
        · omega
      subst hm0
      rw [if_pos hd] at hK
      exact hK a l c H1 _ (hs1.recol fun _ => lab) (hev1.done hfq fun _ => lab)
    | false =>
      simp only [cellH_mk, cellO_some, add_mk, size_upd, upd_upd, one_int, one_bool, one_string, one_pointer, one_slice, one_map, one_func, st1_some, stN_nil, stN_cons, StV_mk, StO_some, Ld_some, RtI_mk, RtB_mk, RtS_mk, RtP_mk, RtL_mk, RtM_mk, RtA_mk, RtT_mk, NilC_some, New_eq, At_eq, Ck_true, Rt0_mk, BrB_true, BrB_false, Nat.zero_add, List.length_cons, List.length_nil, List.getElem?_cons_zero, List.getElem?_cons_succ, List.set_cons_zero, List.set_cons_succ, List.getD_cons_zero, List.getD_cons_succ, Option.isNone_some, Option.isNone_none, Go.Disk.fsO, Go.Disk.fileO, Bool.false_eq_true, eq_self, Nat.reduceAdd, Nat.reduceSub, Nat.reduceMul, Nat.reduceLT, Nat.reduceLeDiff, Nat.reduceEqDiff, Int.reduceNeg, Int.reduceEq, Int.reduceNe, Int.reduceBEq, Int.reduceBNe, Int.reduceLT, Int.reduceLE, Int.reduceGT, Int.reduceAdd, reduceIte, Bool.not_true, Bool.not_false, decide_true, decide_false, ne_eq, not_false_eq_true, not_true_eq_false, hp1]
      have hpi : D.seen[m]? = some (D.seen[m]'(by omega)) := List.getElem?_eq_getElem _
      generalize D.seen[m]'(by omega) = r at hpi
      refine h1.seen.row hpi fun e he h0 hq => ?_
      simp only [cellH_mk, cellO_some, add_mk, size_upd, upd_upd, one_int, one_bool, one_string, one_pointer, one_slice, one_map, one_func, st1_some, stN_nil, stN_cons, StV_mk, StO_some, Ld_some, RtI_mk, RtB_mk, RtS_mk, RtP_mk, RtL_mk, RtM_mk, RtA_mk, RtT_mk, NilC_some, New_eq, At_eq, Ck_true, Rt0_mk, BrB_true, BrB_false, Nat.zero_add, List.length_cons, List.length_nil, List.getElem?_cons_zero, List.getElem?_cons_succ, List.set_cons_zero, List.set_cons_succ, List.getD_cons_zero, List.getD_cons_succ, Option.isNone_some, Option.isNone_none, Go.Disk.fsO, Go.Disk.fileO, Bool.false_eq_true, eq_self, Nat.reduceAdd, Nat.reduceSub, Nat.reduceMul, Nat.reduceLT, Nat.reduceLeDiff, Nat.reduceEqDiff, Int.reduceNeg, Int.reduceEq, Int.reduceNe, Int.reduceBEq, Int.reduceBNe, Int.reduceLT, Int.reduceLE, Int.reduceGT, Int.reduceAdd, reduceIte, Bool.not_true, Bool.not_false, decide_true, decide_false, ne_eq, not_false_eq_true, not_true_eq_false, h0]
      refine build_oneK und43 tyf9 (by rfl) (by rfl) (by omega) (by omega) ?_
      have hev2 := ev_push no H1 C1 (.cells (Value.cells (.string r.1)) 9) (0, 0)
      have hsrc := SrcH_one (s := 1) (get_push_self H1 (.cells (Value.cells (.string r.1)) 9)) rfl
      have hs2 := hs1.ev hev2 fun h => h
      simp only [cellH_mk, cellO_some, add_mk, size_upd, upd_upd, one_int, one_bool, one_string, one_pointer, one_slice, one_map, one_func, st1_some, stN_nil, stN_cons, StV_mk, StO_some, Ld_some, RtI_mk, RtB_mk, RtS_mk, RtP_mk, RtL_mk, RtM_mk, RtA_mk, RtT_mk, NilC_some, New_eq, At_eq, Ck_true, Rt0_mk, BrB_true, BrB_false, Nat.zero_add, List.length_cons, List.length_nil, List.getElem?_cons_zero, List.getElem?_cons_succ, List.set_cons_zero, List.set_cons_succ, List.getD_cons_zero, List.getD_cons_succ, Option.isNone_some, Option.isNone_none, Go.Disk.fsO, Go.Disk.fileO, Bool.false_eq_true, eq_self, Nat.reduceAdd, Nat.reduceSub, Nat.reduceMul, Nat.reduceLT, Nat.reduceLeDiff, Nat.reduceEqDiff, Int.reduceNeg, Int.reduceEq, Int.reduceNe, Int.reduceBEq, Int.reduceBNe, Int.reduceLT, Int.reduceLE, Int.reduceGT, Int.reduceAdd, reduceIte, Bool.not_true, Bool.not_false, decide_true, decide_false, ne_eq, not_false_eq_true, not_true_eq_false]
      refine app_ownK (lab := (q, 1)) (new := [.string r.1]) und43 und43 (.inl ⟨_, rfl⟩) tyf9 (by rfl) hsrc (by rfl) (by intro v hv; simp at hv; subst hv; rfl) hs2 (by omega) (by omega) fun a3 c3 H3 C3 hs3 hev3 _ => ?_
      simp only [cellH_mk, cellO_some, add_mk, size_upd, upd_upd, one_int, one_bool, one_string, one_pointer, one_slice, one_map, one_func, st1_some, stN_nil, stN_cons, StV_mk, StO_some, Ld_some, RtI_mk, RtB_mk, RtS_mk, RtP_mk, RtL_mk, RtM_mk, RtA_mk, RtT_mk, NilC_some, New_eq, At_eq, Ck_true, Rt0_mk, BrB_true, BrB_false, Nat.zero_add, List.length_cons, List.length_nil, List.getElem?_cons_zero, List.getElem?_cons_succ, List.set_cons_zero, List.set_cons_succ, List.getD_cons_zero, List.getD_cons_succ, Option.isNone_some, Option.isNone_none, Go.Disk.fsO, Go.Disk.fileO, Bool.false_eq_true, eq_self, Nat.reduceAdd, Nat.reduceSub, Nat.reduceMul, Nat.reduceLT, Nat.reduceLeDiff, Nat.reduceEqDiff, Int.reduceNeg, Int.reduceEq, Int.reduceNe, Int.reduceBEq, Int.reduceBNe, Int.reduceLT, Int.reduceLE, Int.reduceGT, Int.reduceAdd, reduceIte, Bool.not_true, Bool.not_false, decide_true, decide_false, ne_eq, not_false_eq_true, not_true_eq_false]
      rw [w64 (by omega) (by omega)]
      refine ⟨⟨C3, m + 1, by omega, by omega, ?_, by omega, fun _ => by first | exact hd | trivial, hev1.trans ((hev2.mono fun _ h => h.elim).trans (hev3.mono fun _ => own_of_at1))⟩, ?_⟩
      · rw [List.take_add_one, hpi, List.map_append, List.map_append]
        exact hs3
      · show D.seen.length - ((m : Int) + 1).toNat < D.seen.length - ((m : Nat) : Int).toNat
        omega
  · have hlt := of_decide_eq_false hlt
    have hmd : m = D.seen.length := by omega
    subst hmd
    rw [List.take_length] at hs1
    have e : (if D.dead then [] else D.seen.map (·.1)) = D.seen.map (·.1) := by
      split
      · rename_i hd
        have : D.seen.length = 0 := by
          by_cases h0 : 0 < D.seen.length
          · have := hdm h0; rw [hd] at this; cases this
          · omega
        rw [List.eq_nil_of_length_eq_zero this]; rfl
      · rfl
    rw [e] at hK
    exact hK a l c H1 _ (hs1.recol fun _ => lab) (hev1.done hfq fun _ => lab)

theorem rSize_ok (h : IsRef H C k p D) (hD : DiskOk D) (ha : D.acts < 2 ^ 39) {name : Name} (hK : ∀ H' C', Ev no H C H' C' → K (.tuple ⟨[.int .i64 (dSize name D).1, .int .i64 (dSize name D).2]⟩) H') :
    Fn 75 [.pointer (some ⟨p, 0, none⟩), .string name] H K := by
  obtain ⟨x, rfl, h⟩ := h
  refine F75_ok _ _ ?_
  unfold F75
  unfold dSize at hK
  refine rget_ok h hD.seen (fun hd => ?_) (fun hd hg => ?_) fun n f hd hg hn => ?_
  · rw [if_pos hd] at hK
    simp only [cellH_mk, cellO_some, add_mk, size_upd, upd_upd, one_int, one_bool, one_string, one_pointer, one_slice, one_map, one_func, st1_some, stN_nil, stN_cons, StV_mk, StO_some, Ld_some, RtI_mk, RtB_mk, RtS_mk, RtP_mk, RtL_mk, RtM_mk, RtA_mk, RtT_mk, NilC_some, New_eq, At_eq, Ck_true, Rt0_mk, BrB_true, BrB_false, Nat.zero_add, List.length_cons, List.length_nil, List.getElem?_cons_zero, List.getElem?_cons_succ, List.set_cons_zero, List.set_cons_succ, List.getD_cons_zero, List.getD_cons_succ, Option.isNone_some, Option.isNone_none, Go.Disk.fsO, Go.Disk.fileO, Bool.false_eq_true, eq_self, Nat.reduceAdd, Nat.reduceSub, Nat.reduceMul, Nat.reduceLT, Nat.reduceLeDiff, Nat.reduceEqDiff, Int.reduceNeg, Int.reduceEq, Int.reduceNe, Int.reduceBEq, Int.reduceBNe, Int.reduceLT, Int.reduceLE, Int.reduceGT, Int.reduceAdd, reduceIte, Bool.not_true, Bool.not_false, decide_true, decide_false, ne_eq, not_false_eq_true, not_true_eq_false]
    exact hK H C (Ev.refl _ _ _)
  · rw [if_neg (by rw [hd]; simp), hg] at hK
    simp only [cellH_mk, cellO_some, add_mk, size_upd, upd_upd, one_int, one_bool, one_string, one_pointer, one_slice, one_map, one_func, st1_some, stN_nil, stN_cons, StV_mk, StO_some, Ld_some, RtI_mk, RtB_mk, RtS_mk, RtP_mk, RtL_mk, RtM_mk, RtA_mk, RtT_mk, NilC_some, New_eq, At_eq, Ck_true, Rt0_mk, BrB_true, BrB_false, Nat.zero_add, List.length_cons, List.length_nil, List.getElem?_cons_zero, List.getElem?_cons_succ, List.set_cons_zero, List.set_cons_succ, List.getD_cons_zero, List.getD_cons_succ, Option.isNone_some, Option.isNone_none, Go.Disk.fsO, Go.Disk.fileO, Bool.false_eq_true, eq_self, Nat.reduceAdd, Nat.reduceSub, Nat.reduceMul, Nat.reduceLT, Nat.reduceLeDiff, Nat.reduceEqDiff, Int.reduceNeg, Int.reduceEq, Int.reduceNe, Int.reduceBEq, Int.reduceBNe, Int.reduceLT, Int.reduceLE, Int.reduceGT, Int.reduceAdd, reduceIte, Bool.not_true, Bool.not_false, decide_true, decide_false, ne_eq, not_false_eq_true, not_true_eq_false]
    exact hK H C (Ev.refl _ _ _)
  · rw [if_neg (by rw [hd]; simp), hg] at hK
    simp only [nowOf_of hn] at hK
    have hp := h.hp
    rw [refX] at hp
    simp only [cellH_mk, cellO_some, add_mk, size_upd, upd_upd, one_int, one_bool, one_string, one_pointer, one_slice, one_map, one_func, st1_some, stN_nil, stN_cons, StV_mk, StO_some, Ld_some, RtI_mk, RtB_mk, RtS_mk, RtP_mk, RtL_mk, RtM_mk, RtA_mk, RtT_mk, NilC_some, New_eq, At_eq, Ck_true, Rt0_mk, BrB_true, BrB_false, Nat.zero_add, List.length_cons, List.length_nil, List.getElem?_cons_zero, List.getElem?_cons_succ, List.set_cons_zero, List.set_cons_succ, List.getD_cons_zero, List.getD_cons_succ, Option.isNone_some, Option.isNone_none, Go.Disk.fsO, Go.Disk.fileO, Bool.false_eq_true, eq_self, Nat.reduceAdd, Nat.reduceSub, Nat.reduceMul, Nat.reduceLT, Nat.reduceLeDiff, Nat.reduceEqDiff, Int.reduceNeg, Int.reduceEq, Int.reduceNe, Int.reduceBEq, Int.reduceBNe, Int.reduceLT, Int.reduceLE, Int.reduceGT, Int.reduceAdd, reduceIte, Bool.not_true, Bool.not_false, decide_true, decide_false, ne_eq, not_false_eq_true, not_true_eq_false, hp]
    refine h.files.file hn fun fb fo hF => ?_
    have hfo := hD.files f (List.mem_of_getElem? hn)
    refine rnow_ok hF hfo.1 (by omega) fun s' H2 C2 hs2 hev2 => ?_
    have hsl := hs2.len
    simp only [cellH_mk, cellO_some, add_mk, size_upd, upd_upd, one_int, one_bool, one_string, one_pointer, one_slice, one_map, one_func, st1_some, stN_nil, stN_cons, StV_mk, StO_some, Ld_some, RtI_mk, RtB_mk, RtS_mk, RtP_mk, RtL_mk, RtM_mk, RtA_mk, RtT_mk, NilC_some, New_eq, At_eq, Ck_true, Rt0_mk, BrB_true, BrB_false, Nat.zero_add, List.length_cons, List.length_nil, List.getElem?_cons_zero, List.getElem?_cons_succ, List.set_cons_zero, List.set_cons_succ, List.getD_cons_zero, List.getD_cons_succ, Option.isNone_some, Option.isNone_none, Go.Disk.fsO, Go.Disk.fileO, Bool.false_eq_true, eq_self, Nat.reduceAdd, Nat.reduceSub, Nat.reduceMul, Nat.reduceLT, Nat.reduceLeDiff, Nat.reduceEqDiff, Int.reduceNeg, Int.reduceEq, Int.reduceNe, Int.reduceBEq, Int.reduceBNe, Int.reduceLT, Int.reduceLE, Int.reduceGT, Int.reduceAdd, reduceIte, Bool.not_true, Bool.not_false, decide_true, decide_false, ne_eq, not_false_eq_true, not_true_eq_false]
    rw [hsl]
    exact hK H2 C2 hev2

theorem rRead_ok (h : IsRef H C k p D) (hD : DiskOk D) (ha : D.acts < 2 ^ 39) {name : Name} {off n : Int} (hoff : -2 ^ 63 ≤ off ∧ off < 2 ^ 63) (hn63 : n < 2 ^ 63) (lab : Lab)
    (hK : ∀ a l c H' C', SlO H' C' lab 5 1 a l c (byts (dRead name off n D).1) → Ev no H C H' C' → K (.tuple ⟨[.slice a l c, .int .i64 (dRead name off n D).2]⟩) H') :
    Fn 74 [.pointer (some ⟨p, 0, none⟩), .string name, .int .i64 off, .int .i64 n] H K := by
  obtain ⟨x, rfl, h⟩ := h
  refine F74_ok _ _ _ _ ?_
  unfold F74
  unfold dRead at hK
  refine rget_ok h hD.seen (fun hd => ?_) (fun hd hg => ?_) fun i f hd hg hn => ?_
  · rw [if_pos hd] at hK
    simp only [cellH_mk, cellO_some, add_mk, size_upd, upd_upd, one_int, one_bool, one_string, one_pointer, one_slice, one_map, one_func, st1_some, stN_nil, stN_cons, StV_mk, StO_some, Ld_some, RtI_mk, RtB_mk, RtS_mk, RtP_mk, RtL_mk, RtM_mk, RtA_mk, RtT_mk, NilC_some, New_eq, At_eq, Ck_true, Rt0_mk, BrB_true, BrB_false, Nat.zero_add, List.length_cons, List.length_nil, List.getElem?_cons_zero, List.getElem?_cons_succ, List.set_cons_zero, List.set_cons_succ, List.getD_cons_zero, List.getD_cons_succ, Option.isNone_some, Option.isNone_none, Go.Disk.fsO, Go.Disk.fileO, Bool.false_eq_true, eq_self, Nat.reduceAdd, Nat.reduceSub, Nat.reduceMul, Nat.reduceLT, Nat.reduceLeDiff, Nat.reduceEqDiff, Int.reduceNeg, Int.reduceEq, Int.reduceNe, Int.reduceBEq, Int.reduceBNe, Int.reduceLT, Int.reduceLE, Int.reduceGT, Int.reduceAdd, reduceIte, Bool.not_true, Bool.not_false, decide_true, decide_false, ne_eq, not_false_eq_true, not_true_eq_false]
    exact hK none 0 0 H C (SlO.nil _ _ _ _ _) (Ev.refl _ _ _)
  · rw [if_neg (by rw [hd]; simp), hg] at hK
    simp only [cellH_mk, cellO_some, add_mk, size_upd, upd_upd, one_int, one_bool, one_string, one_pointer, one_slice, one_map, one_func, st1_some, stN_nil, stN_cons, StV_mk, StO_some, Ld_some, RtI_mk, RtB_mk, RtS_mk, RtP_mk, RtL_mk, RtM_mk, RtA_mk, RtT_mk, NilC_some, New_eq, At_eq, Ck_true, Rt0_mk, BrB_true, BrB_false, Nat.zero_add, List.length_cons, List.length_nil, List.getElem?_cons_zero, List.getElem?_cons_succ, List.set_cons_zero, List.set_cons_succ, List.getD_cons_zero, List.getD_cons_succ, Option.isNone_some, Option.isNone_none, Go.Disk.fsO, Go.Disk.fileO, Bool.false_eq_true, eq_self, Nat.reduceAdd, Nat.reduceSub, Nat.reduceMul, Nat.reduceLT, Nat.reduceLeDiff, Nat.reduceEqDiff, Int.reduceNeg, Int.reduceEq, Int.reduceNe, Int.reduceBEq, Int.reduceBNe, Int.reduceLT, Int.reduceLE, Int.reduceGT, Int.reduceAdd, reduceIte, Bool.not_true, Bool.not_false, decide_true, decide_false, ne_eq, not_false_eq_true, not_true_eq_false]
    exact hK none 0 0 H C (SlO.nil _ _ _ _ _) (Ev.refl _ _ _)
  · rw [if_neg (by rw [hd]; simp), hg] at hK
    simp only [nowOf_of hn] at hK
    have hp := h.hp
    rw [refX] at hp
    simp only [cellH_mk, cellO_some, add_mk, size_upd, upd_upd, one_int, one_bool, one_string, one_pointer, one_slice, one_map, one_func, st1_some, stN_nil, stN_cons, StV_mk, StO_some, Ld_some, RtI_mk, RtB_mk, RtS_mk, RtP_mk, RtL_mk, RtM_mk, RtA_mk, RtT_mk, NilC_some, New_eq, At_eq, Ck_true, Rt0_mk, BrB_true, BrB_false, Nat.zero_add, List.length_cons, List.length_nil, List.getElem?_cons_zero, List.getElem?_cons_succ, List.set_cons_zero, List.set_cons_succ, List.getD_cons_zero, List.getD_cons_succ, Option.isNone_some, Option.isNone_none, Go.Disk.fsO, Go.Disk.fileO, Bool.false_eq_true, eq_self, Nat.reduceAdd, Nat.reduceSub, Nat.reduceMul, Nat.reduceLT, Nat.reduceLeDiff, Nat.reduceEqDiff, Int.reduceNeg, Int.reduceEq, Int.reduceNe, Int.reduceBEq, Int.reduceBNe, Int.reduceLT, Int.reduceLE, Int.reduceGT, Int.reduceAdd, reduceIte, Bool.not_true, Bool.not_false, decide_true, decide_false, ne_eq, not_false_eq_true, not_true_eq_false, hp]
    refine h.files.file hn fun fb fo hF => ?_
    have hfo := hD.files f (List.mem_of_getElem? hn)
    refine rnow_ok hF hfo.1 (by omega) fun nw H2 C2 hnw hev2 => ?_
    have hnl := hnw.len
    have hcap := hnw.cap
    have hfl := hfo.1.len1
    have bad : (off < 0 ∨ (f.now.length : Int) < off ∨ n < 0) → K (.tuple ⟨[.slice none 0 0, .int .i64 2]⟩) H2 := by
      intro hb
      rw [if_pos hb] at hK
      exact hK none 0 0 H2 C2 (SlO.nil _ _ _ _ _) hev2
    simp only [cellH_mk, cellO_some, add_mk, size_upd, upd_upd, one_int, one_bool, one_string, one_pointer, one_slice, one_map, one_func, st1_some, stN_nil, stN_cons, StV_mk, StO_some, Ld_some, RtI_mk, RtB_mk, RtS_mk, RtP_mk, RtL_mk, RtM_mk, RtA_mk, RtT_mk, NilC_some, New_eq, At_eq, Ck_true, Rt0_mk, BrB_true, BrB_false, Nat.zero_add, List.length_cons, List.length_nil, List.getElem?_cons_zero, List.getElem?_cons_succ, List.set_cons_zero, List.set_cons_succ, List.getD_cons_zero, List.getD_cons_succ, Option.isNone_some, Option.isNone_none, Go.Disk.fsO, Go.Disk.fileO, Bool.false_eq_true, eq_self, Nat.reduceAdd, Nat.reduceSub, Nat.reduceMul, Nat.reduceLT, Nat.reduceLeDiff, Nat.reduceEqDiff, Int.reduceNeg, Int.reduceEq, Int.reduceNe, Int.reduceBEq, Int.reduceBNe, Int.reduceLT, Int.reduceLE, Int.reduceGT, Int.reduceAdd, reduceIte, Bool.not_true, Bool.not_false, decide_true, decide_false, ne_eq, not_false_eq_true, not_true_eq_false]
    refine BrB_i (fun h0 => bad (.inl (of_decide_eq_true h0))) (fun h0 => ?_)
    have h0 := of_decide_eq_false h0
    refine BrB_i (fun h1 => bad (.inr (.inl (by have := of_decide_eq_true h1; omega)))) (fun h1 => ?_)
    have h1 := of_decide_eq_false h1
    refine BrB_i (fun h2 => bad (.inr (.inr (of_decide_eq_true h2)))) (fun h2 => ?_)
    have h2 := of_decide_eq_false h2
    rw [if_neg (by omega)] at hK
    have w1 : IntKind.wrap .i64 (((nw.2.1 : Nat) : Int) - off) = (((f.now.length - off.toNat : Nat)) : Int) := by rw [hnl, w64 (by omega) (by omega)]; omega
    rw [w1]
    have hm : imin n ((f.now.length - off.toNat : Nat) : Int) = ((Nat.min n.toNat (f.now.length - off.toNat) : Nat) : Int) := by
      unfold imin
      show _ = ((min _ _ : Nat) : Int)
      split <;> omega
    rw [hm]
    generalize hmm : Nat.min n.toNat (f.now.length - off.toNat) = m
    have hm1 : m ≤ f.now.length - off.toNat := by rw [← hmm]; exact Nat.min_le_right _ _
    have w2 : IntKind.wrap .i64 (off + (m : Int)) = ((off.toNat + m : Nat) : Int) := by rw [w64 (by omega) (by omega)]; omega
    have ho : off = ((off.toNat : Nat) : Int) := by omega
    rw [w2]
    rw [ho]
    simp only [Int.toNat_natCast]
    refine Ck_i ⟨by omega, by omega, by omega, by omega⟩ ?_
    rw [slN_eq, slN_eq]
    have hsub := SlI.sub hnw (lo := off.toNat) (hi := off.toNat + m) (mx := nw.2.2) (by omega) (by omega) (by omega)
    have e : List.take ((off.toNat + m - off.toNat) * 1) (List.drop (off.toNat * 1) (byts f.now)) = byts ((f.now.drop off.toNat).take n.toNat) := by
      rw [Nat.mul_one, Nat.mul_one, ← byts_drop, ← byts_take, Nat.add_sub_cancel_left]
      congr 1
      rw [← hmm]
      show List.take (min _ _) _ = _
      rw [← List.take_take, List.take_of_length_le (l := f.now.drop off.toNat) (by rw [List.length_drop]; omega)]
    rw [e] at hsub
    refine app_copyK (C := C2) (lab := lab) und22 und22 (.inl ⟨_, rfl⟩) tyf5 (by rfl) hsub.src hsub.1 byts_one (by omega) (by omega) fun a2 c2 H3 C3 ho2 hev3 => ?_
    simp only [cellH_mk, cellO_some, add_mk, size_upd, upd_upd, one_int, one_bool, one_string, one_pointer, one_slice, one_map, one_func, st1_some, stN_nil, stN_cons, StV_mk, StO_some, Ld_some, RtI_mk, RtB_mk, RtS_mk, RtP_mk, RtL_mk, RtM_mk, RtA_mk, RtT_mk, NilC_some, New_eq, At_eq, Ck_true, Rt0_mk, BrB_true, BrB_false, Nat.zero_add, List.length_cons, List.length_nil, List.getElem?_cons_zero, List.getElem?_cons_succ, List.set_cons_zero, List.set_cons_succ, List.getD_cons_zero, List.getD_cons_succ, Option.isNone_some, Option.isNone_none, Go.Disk.fsO, Go.Disk.fileO, Bool.false_eq_true, eq_self, Nat.reduceAdd, Nat.reduceSub, Nat.reduceMul, Nat.reduceLT, Nat.reduceLeDiff, Nat.reduceEqDiff, Int.reduceNeg, Int.reduceEq, Int.reduceNe, Int.reduceBEq, Int.reduceBNe, Int.reduceLT, Int.reduceLE, Int.reduceGT, Int.reduceAdd, reduceIte, Bool.not_true, Bool.not_false, decide_true, decide_false, ne_eq, not_false_eq_true, not_true_eq_false]
    exact hK a2 _ c2 H3 C3 ho2 (hev2.trans hev3)
end
end Go.Proofs

namespace Go.Disk
open Go Go.Fx
theorem dput_front {k : Name} {n : Nat} : ∀ {d : Dir}, (∀ p ∈ d, nlt k p.1 = true) → dput k n d = (k, n) :: d
  | [], _ => rfl
  | p :: ps, h => by
    have h1 := h p (List.mem_cons_self ..)
    have hne : ¬ p.1 = k := fun e => by rw [e, nlt_irrefl] at h1; cases h1
    simp [dput, hne, h1]
theorem dput_ddel : ∀ {d : Dir}, DSort d → ∀ (k : Name) (n : Nat), dput k n (ddel k d) = dput k n d
  | [], _, k, n => rfl
  | p :: ps, hd, k, n => by
    have hh := List.pairwise_cons.1 (show (p.1 :: ps.map (·.1)).Pairwise fun a b => nlt a b = true from hd)
    have hgt : ∀ q ∈ ps, nlt p.1 q.1 = true := fun q hq => hh.1 _ (List.mem_map.2 ⟨q, hq, rfl⟩)
    by_cases e : p.1 = k
    · have h1 : ddel k (p :: ps) = ps := by unfold ddel; rw [if_pos e]
      have h2 : dput k n (p :: ps) = (k, n) :: ps := by unfold dput; rw [if_pos e]
      rw [h1, h2]
      exact dput_front fun q hq => by rw [← e]; exact hgt q hq
    · have h1 : ddel k (p :: ps) = p :: ddel k ps := by rw [ddel, if_neg e]
      rw [h1]
      unfold dput
      rw [if_neg e, if_neg e]
      by_cases h2 : nlt k p.1 = true
      · rw [if_pos h2, if_pos h2, ddel_not]
        intro hm
        obtain ⟨q, hq, e2⟩ := List.mem_map.1 hm
        have h3 := hgt q hq
        rw [e2] at h3
        have := nlt_trans h2 h3
        rw [nlt_irrefl] at this
        cases this
      · rw [if_neg h2, if_neg h2, dput_ddel hd.tail]
end Go.Disk
namespace Go.Proofs
open Go Go.Fx Go.Disk
set_option linter.unusedVariables false
set_option maxRecDepth 20000
section
variable {H : Heap} {C : Col} {k p : Nat} {D : Disk} {K : Value → Heap → Prop}
theorem fin_if {D D' : Disk} {K : Value → Heap → Prop} {k p : Nat} {H0 : Heap} {C0 : Col} (hK : ∀ H' C', IsRef H' C' k p (D.fin D').2 → Ev (own k) H0 C0 H' C' → K (.int .i64 (D.fin D').1) H') : ∀ H' C', IsRef H' C' k p D'.blow → Ev (own k) H0 C0 H' C' → K (.int .i64 (if D.fuse = 1 then 13 else 0)) H' := hK

theorem rRemove_ok {name : Name} (hk : k ≠ 0) (h : IsRef H C k p D) (hD : DiskOk D) (ha : D.acts < 2 ^ 39)
    (hK : ∀ H' C', IsRef H' C' k p (dRemove name D).2 → Ev (own k) H C H' C' → K (.int .i64 (dRemove name D).1) H') :
    Fn 65 [.pointer (some ⟨p, 0, none⟩), .string name] H K := by
  obtain ⟨x, rfl, h⟩ := h
  refine F65_ok _ _ ?_
  unfold F65
  have hdl := hD.seen.2.1
  unfold dRemove at hK
  refine rget_ok h hD.seen (fun hd => ?_) (fun hd hg => ?_) fun n f hd hg hn => ?_
  · rw [withFile_dead hd] at hK; simp only [cellH_mk, cellO_some, add_mk, size_upd, upd_upd, one_int, one_bool, one_string, one_pointer, one_slice, one_map, one_func, st1_some, stN_nil, stN_cons, StV_mk, StO_some, Ld_some, RtI_mk, RtB_mk, RtS_mk, RtP_mk, RtL_mk, RtM_mk, RtA_mk, RtT_mk, NilC_some, New_eq, At_eq, Ck_true, Rt0_mk, BrB_true, BrB_false, Nat.zero_add, List.length_cons, List.length_nil, List.getElem?_cons_zero, List.getElem?_cons_succ, List.set_cons_zero, List.set_cons_succ, List.getD_cons_zero, List.getD_cons_succ, Option.isNone_some, Option.isNone_none, Go.Disk.fsO, Go.Disk.fileO, Bool.false_eq_true, eq_self, Nat.reduceAdd, Nat.reduceSub, Nat.reduceMul, Nat.reduceLT, Nat.reduceLeDiff, Nat.reduceEqDiff, Int.reduceNeg, Int.reduceEq, Int.reduceNe, Int.reduceBEq, Int.reduceBNe, Int.reduceLT, Int.reduceLE, Int.reduceGT, Int.reduceAdd, reduceIte, Bool.not_true, Bool.not_false, decide_true, decide_false, ne_eq, not_false_eq_true, not_true_eq_false]; exact hK H C ⟨x, rfl, h⟩ (Ev.refl _ _ _)
  · rw [withFile_none hd hg] at hK; simp only [cellH_mk, cellO_some, add_mk, size_upd, upd_upd, one_int, one_bool, one_string, one_pointer, one_slice, one_map, one_func, st1_some, stN_nil, stN_cons, StV_mk, StO_some, Ld_some, RtI_mk, RtB_mk, RtS_mk, RtP_mk, RtL_mk, RtM_mk, RtA_mk, RtT_mk, NilC_some, New_eq, At_eq, Ck_true, Rt0_mk, BrB_true, BrB_false, Nat.zero_add, List.length_cons, List.length_nil, List.getElem?_cons_zero, List.getElem?_cons_succ, List.set_cons_zero, List.set_cons_succ, List.getD_cons_zero, List.getD_cons_succ, Option.isNone_some, Option.isNone_none, Go.Disk.fsO, Go.Disk.fileO, Bool.false_eq_true, eq_self, Nat.reduceAdd, Nat.reduceSub, Nat.reduceMul, Nat.reduceLT, Nat.reduceLeDiff, Nat.reduceEqDiff, Int.reduceNeg, Int.reduceEq, Int.reduceNe, Int.reduceBEq, Int.reduceBNe, Int.reduceLT, Int.reduceLE, Int.reduceGT, Int.reduceAdd, reduceIte, Bool.not_true, Bool.not_false, decide_true, decide_false, ne_eq, not_false_eq_true, not_true_eq_false]; exact hK H C ⟨x, rfl, h⟩ (Ev.refl _ _ _)
  · rw [withFile_some hd hg] at hK
    have hK := fin_if hK
    have hp := h.hp
    rw [refX] at hp
    simp only [cellH_mk, cellO_some, add_mk, size_upd, upd_upd, one_int, one_bool, one_string, one_pointer, one_slice, one_map, one_func, st1_some, stN_nil, stN_cons, StV_mk, StO_some, Ld_some, RtI_mk, RtB_mk, RtS_mk, RtP_mk, RtL_mk, RtM_mk, RtA_mk, RtT_mk, NilC_some, New_eq, At_eq, Ck_true, Rt0_mk, BrB_true, BrB_false, Nat.zero_add, List.length_cons, List.length_nil, List.getElem?_cons_zero, List.getElem?_cons_succ, List.set_cons_zero, List.set_cons_succ, List.getD_cons_zero, List.getD_cons_succ, Option.isNone_some, Option.isNone_none, Go.Disk.fsO, Go.Disk.fileO, Bool.false_eq_true, eq_self, Nat.reduceAdd, Nat.reduceSub, Nat.reduceMul, Nat.reduceLT, Nat.reduceLeDiff, Nat.reduceEqDiff, Int.reduceNeg, Int.reduceEq, Int.reduceNe, Int.reduceBEq, Int.reduceBNe, Int.reduceLT, Int.reduceLE, Int.reduceGT, Int.reduceAdd, reduceIte, Bool.not_true, Bool.not_false, decide_true, decide_false, ne_eq, not_false_eq_true, not_true_eq_false, hp]
    refine rwithout_ok h.seen hD.seen.1 (by omega) fun t H1 C1 ht hev1 => ?_
    have h1 := h.ev hev1 (fun _ _ h => h) fun _ h => h
    have hm : (⟨2, name, str [], 0⟩ : Mv).app D.seen = ddel name D.seen := by
      unfold Mv.app
      rw [if_neg (by show ¬ (2 = 0); omega), if_neg (by show ¬ (2 = 1); omega)]
    simp only [cellH_mk, cellO_some, add_mk, size_upd, upd_upd, one_int, one_bool, one_string, one_pointer, one_slice, one_map, one_func, st1_some, stN_nil, stN_cons, StV_mk, StO_some, Ld_some, RtI_mk, RtB_mk, RtS_mk, RtP_mk, RtL_mk, RtM_mk, RtA_mk, RtT_mk, NilC_some, New_eq, At_eq, Ck_true, Rt0_mk, BrB_true, BrB_false, Nat.zero_add, List.length_cons, List.length_nil, List.getElem?_cons_zero, List.getElem?_cons_succ, List.set_cons_zero, List.set_cons_succ, List.getD_cons_zero, List.getD_cons_succ, Option.isNone_some, Option.isNone_none, Go.Disk.fsO, Go.Disk.fileO, Bool.false_eq_true, eq_self, Nat.reduceAdd, Nat.reduceSub, Nat.reduceMul, Nat.reduceLT, Nat.reduceLeDiff, Nat.reduceEqDiff, Int.reduceNeg, Int.reduceEq, Int.reduceNe, Int.reduceBEq, Int.reduceBNe, Int.reduceLT, Int.reduceLE, Int.reduceGT, Int.reduceAdd, reduceIte, Bool.not_true, Bool.not_false, decide_true, decide_false, ne_eq, not_false_eq_true, not_true_eq_false]
    refine rturn_ok (m := ⟨2, name, str [], 0⟩) hk h1 hD.row hD.path.fold2 ha hD.fuse hd (by rw [hm]; exact ht) fun H2 C2 h2 hev2 => ?_
    simp only [cellH_mk, cellO_some, add_mk, size_upd, upd_upd, one_int, one_bool, one_string, one_pointer, one_slice, one_map, one_func, st1_some, stN_nil, stN_cons, StV_mk, StO_some, Ld_some, RtI_mk, RtB_mk, RtS_mk, RtP_mk, RtL_mk, RtM_mk, RtA_mk, RtT_mk, NilC_some, New_eq, At_eq, Ck_true, Rt0_mk, BrB_true, BrB_false, Nat.zero_add, List.length_cons, List.length_nil, List.getElem?_cons_zero, List.getElem?_cons_succ, List.set_cons_zero, List.set_cons_succ, List.getD_cons_zero, List.getD_cons_succ, Option.isNone_some, Option.isNone_none, Go.Disk.fsO, Go.Disk.fileO, Bool.false_eq_true, eq_self, Nat.reduceAdd, Nat.reduceSub, Nat.reduceMul, Nat.reduceLT, Nat.reduceLeDiff, Nat.reduceEqDiff, Int.reduceNeg, Int.reduceEq, Int.reduceNe, Int.reduceBEq, Int.reduceBNe, Int.reduceLT, Int.reduceLE, Int.reduceGT, Int.reduceAdd, reduceIte, Bool.not_true, Bool.not_false, decide_true, decide_false, ne_eq, not_false_eq_true, not_true_eq_false]
    exact hK H2 C2 h2 ((hev1.mono fun _ h => h.elim).trans hev2)

theorem rRename_ok {src dst : Name} (hk : k ≠ 0) (h : IsRef H C k p D) (hD : DiskOk D) (ha : D.acts < 2 ^ 39) (hs : dst.size < 2 ^ 62)
    (hK : ∀ H' C', IsRef H' C' k p (dRename src dst D).2 → Ev (own k) H C H' C' → K (.int .i64 (dRename src dst D).1) H') :
    Fn 64 [.pointer (some ⟨p, 0, none⟩), .string src, .string dst] H K := by
  obtain ⟨x, rfl, h⟩ := h
  refine F64_ok _ _ _ ?_
  unfold F64
  have hdl := hD.seen.2.1
  unfold dRename at hK
  refine rget_ok h hD.seen (fun hd => ?_) (fun hd hg => ?_) fun n f hd hg hn => ?_
  · rw [withFile_dead hd] at hK; simp only [cellH_mk, cellO_some, add_mk, size_upd, upd_upd, one_int, one_bool, one_string, one_pointer, one_slice, one_map, one_func, st1_some, stN_nil, stN_cons, StV_mk, StO_some, Ld_some, RtI_mk, RtB_mk, RtS_mk, RtP_mk, RtL_mk, RtM_mk, RtA_mk, RtT_mk, NilC_some, New_eq, At_eq, Ck_true, Rt0_mk, BrB_true, BrB_false, Nat.zero_add, List.length_cons, List.length_nil, List.getElem?_cons_zero, List.getElem?_cons_succ, List.set_cons_zero, List.set_cons_succ, List.getD_cons_zero, List.getD_cons_succ, Option.isNone_some, Option.isNone_none, Go.Disk.fsO, Go.Disk.fileO, Bool.false_eq_true, eq_self, Nat.reduceAdd, Nat.reduceSub, Nat.reduceMul, Nat.reduceLT, Nat.reduceLeDiff, Nat.reduceEqDiff, Int.reduceNeg, Int.reduceEq, Int.reduceNe, Int.reduceBEq, Int.reduceBNe, Int.reduceLT, Int.reduceLE, Int.reduceGT, Int.reduceAdd, reduceIte, Bool.not_true, Bool.not_false, decide_true, decide_false, ne_eq, not_false_eq_true, not_true_eq_false]; exact hK H C ⟨x, rfl, h⟩ (Ev.refl _ _ _)
  · rw [withFile_none hd hg] at hK; simp only [cellH_mk, cellO_some, add_mk, size_upd, upd_upd, one_int, one_bool, one_string, one_pointer, one_slice, one_map, one_func, st1_some, stN_nil, stN_cons, StV_mk, StO_some, Ld_some, RtI_mk, RtB_mk, RtS_mk, RtP_mk, RtL_mk, RtM_mk, RtA_mk, RtT_mk, NilC_some, New_eq, At_eq, Ck_true, Rt0_mk, BrB_true, BrB_false, Nat.zero_add, List.length_cons, List.length_nil, List.getElem?_cons_zero, List.getElem?_cons_succ, List.set_cons_zero, List.set_cons_succ, List.getD_cons_zero, List.getD_cons_succ, Option.isNone_some, Option.isNone_none, Go.Disk.fsO, Go.Disk.fileO, Bool.false_eq_true, eq_self, Nat.reduceAdd, Nat.reduceSub, Nat.reduceMul, Nat.reduceLT, Nat.reduceLeDiff, Nat.reduceEqDiff, Int.reduceNeg, Int.reduceEq, Int.reduceNe, Int.reduceBEq, Int.reduceBNe, Int.reduceLT, Int.reduceLE, Int.reduceGT, Int.reduceAdd, reduceIte, Bool.not_true, Bool.not_false, decide_true, decide_false, ne_eq, not_false_eq_true, not_true_eq_false]; exact hK H C ⟨x, rfl, h⟩ (Ev.refl _ _ _)
  · rw [withFile_some hd hg] at hK
    simp only [cellH_mk, cellO_some, add_mk, size_upd, upd_upd, one_int, one_bool, one_string, one_pointer, one_slice, one_map, one_func, st1_some, stN_nil, stN_cons, StV_mk, StO_some, Ld_some, RtI_mk, RtB_mk, RtS_mk, RtP_mk, RtL_mk, RtM_mk, RtA_mk, RtT_mk, NilC_some, New_eq, At_eq, Ck_true, Rt0_mk, BrB_true, BrB_false, Nat.zero_add, List.length_cons, List.length_nil, List.getElem?_cons_zero, List.getElem?_cons_succ, List.set_cons_zero, List.set_cons_succ, List.getD_cons_zero, List.getD_cons_succ, Option.isNone_some, Option.isNone_none, Go.Disk.fsO, Go.Disk.fileO, Bool.false_eq_true, eq_self, Nat.reduceAdd, Nat.reduceSub, Nat.reduceMul, Nat.reduceLT, Nat.reduceLeDiff, Nat.reduceEqDiff, Int.reduceNeg, Int.reduceEq, Int.reduceNe, Int.reduceBEq, Int.reduceBNe, Int.reduceLT, Int.reduceLE, Int.reduceGT, Int.reduceAdd, reduceIte, Bool.not_true, Bool.not_false, decide_true, decide_false, ne_eq, not_false_eq_true, not_true_eq_false]
    refine rname_ok hs ?_
    simp only [cellH_mk, cellO_some, add_mk, size_upd, upd_upd, one_int, one_bool, one_string, one_pointer, one_slice, one_map, one_func, st1_some, stN_nil, stN_cons, StV_mk, StO_some, Ld_some, RtI_mk, RtB_mk, RtS_mk, RtP_mk, RtL_mk, RtM_mk, RtA_mk, RtT_mk, NilC_some, New_eq, At_eq, Ck_true, Rt0_mk, BrB_true, BrB_false, Nat.zero_add, List.length_cons, List.length_nil, List.getElem?_cons_zero, List.getElem?_cons_succ, List.set_cons_zero, List.set_cons_succ, List.getD_cons_zero, List.getD_cons_succ, Option.isNone_some, Option.isNone_none, Go.Disk.fsO, Go.Disk.fileO, Bool.false_eq_true, eq_self, Nat.reduceAdd, Nat.reduceSub, Nat.reduceMul, Nat.reduceLT, Nat.reduceLeDiff, Nat.reduceEqDiff, Int.reduceNeg, Int.reduceEq, Int.reduceNe, Int.reduceBEq, Int.reduceBNe, Int.reduceLT, Int.reduceLE, Int.reduceGT, Int.reduceAdd, reduceIte, Bool.not_true, Bool.not_false, decide_true, decide_false, ne_eq, not_false_eq_true, not_true_eq_false]
    refine BrB_i (fun hb => ?_) (fun hb => ?_)
    · rw [if_pos hb] at hK
      exact hK H C ⟨x, rfl, h⟩ (Ev.refl _ _ _)
    rw [if_neg (by rw [hb]; simp)] at hK
    have hK := fin_if hK
    have hp := h.hp
    rw [refX] at hp
    simp only [cellH_mk, cellO_some, add_mk, size_upd, upd_upd, one_int, one_bool, one_string, one_pointer, one_slice, one_map, one_func, st1_some, stN_nil, stN_cons, StV_mk, StO_some, Ld_some, RtI_mk, RtB_mk, RtS_mk, RtP_mk, RtL_mk, RtM_mk, RtA_mk, RtT_mk, NilC_some, New_eq, At_eq, Ck_true, Rt0_mk, BrB_true, BrB_false, Nat.zero_add, List.length_cons, List.length_nil, List.getElem?_cons_zero, List.getElem?_cons_succ, List.set_cons_zero, List.set_cons_succ, List.getD_cons_zero, List.getD_cons_succ, Option.isNone_some, Option.isNone_none, Go.Disk.fsO, Go.Disk.fileO, Bool.false_eq_true, eq_self, Nat.reduceAdd, Nat.reduceSub, Nat.reduceMul, Nat.reduceLT, Nat.reduceLeDiff, Nat.reduceEqDiff, Int.reduceNeg, Int.reduceEq, Int.reduceNe, Int.reduceBEq, Int.reduceBNe, Int.reduceLT, Int.reduceLE, Int.reduceGT, Int.reduceAdd, reduceIte, Bool.not_true, Bool.not_false, decide_true, decide_false, ne_eq, not_false_eq_true, not_true_eq_false, hp]
    refine rwithout_ok h.seen hD.seen.1 (by omega) fun t H1 C1 ht hev1 => ?_
    have h1 := h.ev hev1 (fun _ _ h => h) fun _ h => h
    have hl1 := ddel_len src D.seen
    have hl2 := ddel_len dst (ddel src D.seen)
    simp only [cellH_mk, cellO_some, add_mk, size_upd, upd_upd, one_int, one_bool, one_string, one_pointer, one_slice, one_map, one_func, st1_some, stN_nil, stN_cons, StV_mk, StO_some, Ld_some, RtI_mk, RtB_mk, RtS_mk, RtP_mk, RtL_mk, RtM_mk, RtA_mk, RtT_mk, NilC_some, New_eq, At_eq, Ck_true, Rt0_mk, BrB_true, BrB_false, Nat.zero_add, List.length_cons, List.length_nil, List.getElem?_cons_zero, List.getElem?_cons_succ, List.set_cons_zero, List.set_cons_succ, List.getD_cons_zero, List.getD_cons_succ, Option.isNone_some, Option.isNone_none, Go.Disk.fsO, Go.Disk.fileO, Bool.false_eq_true, eq_self, Nat.reduceAdd, Nat.reduceSub, Nat.reduceMul, Nat.reduceLT, Nat.reduceLeDiff, Nat.reduceEqDiff, Int.reduceNeg, Int.reduceEq, Int.reduceNe, Int.reduceBEq, Int.reduceBNe, Int.reduceLT, Int.reduceLE, Int.reduceGT, Int.reduceAdd, reduceIte, Bool.not_true, Bool.not_false, decide_true, decide_false, ne_eq, not_false_eq_true, not_true_eq_false]
    refine rwithout_ok ht (hD.seen.1.ddel src) (by omega) fun t2 H2 C2 ht2 hev2 => ?_
    have h2 := h1.ev hev2 (fun _ _ h => h) fun _ h => h
    have hev2 := hev1.trans hev2
    simp only [cellH_mk, cellO_some, add_mk, size_upd, upd_upd, one_int, one_bool, one_string, one_pointer, one_slice, one_map, one_func, st1_some, stN_nil, stN_cons, StV_mk, StO_some, Ld_some, RtI_mk, RtB_mk, RtS_mk, RtP_mk, RtL_mk, RtM_mk, RtA_mk, RtT_mk, NilC_some, New_eq, At_eq, Ck_true, Rt0_mk, BrB_true, BrB_false, Nat.zero_add, List.length_cons, List.length_nil, List.getElem?_cons_zero, List.getElem?_cons_succ, List.set_cons_zero, List.set_cons_succ, List.getD_cons_zero, List.getD_cons_succ, Option.isNone_some, Option.isNone_none, Go.Disk.fsO, Go.Disk.fileO, Bool.false_eq_true, eq_self, Nat.reduceAdd, Nat.reduceSub, Nat.reduceMul, Nat.reduceLT, Nat.reduceLeDiff, Nat.reduceEqDiff, Int.reduceNeg, Int.reduceEq, Int.reduceNe, Int.reduceBEq, Int.reduceBNe, Int.reduceLT, Int.reduceLE, Int.reduceGT, Int.reduceAdd, reduceIte, Bool.not_true, Bool.not_false, decide_true, decide_false, ne_eq, not_false_eq_true, not_true_eq_false]
    refine rwith_ok ht2 ((hD.seen.1.ddel src).ddel dst) (by omega) (ddel_notin (hD.seen.1.ddel src).nodup) fun t3 H3 C3 ht3 hev3 => ?_
    have h3 := h2.ev hev3 (fun _ _ h => h) fun _ h => h
    have hev3 := hev2.trans hev3
    have hm : (⟨1, src, dst, 0⟩ : Mv).app D.seen = dput dst n (ddel dst (ddel src D.seen)) := by
      unfold Mv.app
      rw [if_neg (by show ¬ (1 = 0); omega), if_pos rfl, hg]
      exact (dput_ddel (hD.seen.1.ddel src) dst n).symm
    simp only [cellH_mk, cellO_some, add_mk, size_upd, upd_upd, one_int, one_bool, one_string, one_pointer, one_slice, one_map, one_func, st1_some, stN_nil, stN_cons, StV_mk, StO_some, Ld_some, RtI_mk, RtB_mk, RtS_mk, RtP_mk, RtL_mk, RtM_mk, RtA_mk, RtT_mk, NilC_some, New_eq, At_eq, Ck_true, Rt0_mk, BrB_true, BrB_false, Nat.zero_add, List.length_cons, List.length_nil, List.getElem?_cons_zero, List.getElem?_cons_succ, List.set_cons_zero, List.set_cons_succ, List.getD_cons_zero, List.getD_cons_succ, Option.isNone_some, Option.isNone_none, Go.Disk.fsO, Go.Disk.fileO, Bool.false_eq_true, eq_self, Nat.reduceAdd, Nat.reduceSub, Nat.reduceMul, Nat.reduceLT, Nat.reduceLeDiff, Nat.reduceEqDiff, Int.reduceNeg, Int.reduceEq, Int.reduceNe, Int.reduceBEq, Int.reduceBNe, Int.reduceLT, Int.reduceLE, Int.reduceGT, Int.reduceAdd, reduceIte, Bool.not_true, Bool.not_false, decide_true, decide_false, ne_eq, not_false_eq_true, not_true_eq_false]
    refine rturn_ok (m := ⟨1, src, dst, 0⟩) hk h3 hD.row hD.path.fold2 ha hD.fuse hd (by rw [hm]; exact ht3) fun H4 C4 h4 hev4 => ?_
    simp only [cellH_mk, cellO_some, add_mk, size_upd, upd_upd, one_int, one_bool, one_string, one_pointer, one_slice, one_map, one_func, st1_some, stN_nil, stN_cons, StV_mk, StO_some, Ld_some, RtI_mk, RtB_mk, RtS_mk, RtP_mk, RtL_mk, RtM_mk, RtA_mk, RtT_mk, NilC_some, New_eq, At_eq, Ck_true, Rt0_mk, BrB_true, BrB_false, Nat.zero_add, List.length_cons, List.length_nil, List.getElem?_cons_zero, List.getElem?_cons_succ, List.set_cons_zero, List.set_cons_succ, List.getD_cons_zero, List.getD_cons_succ, Option.isNone_some, Option.isNone_none, Go.Disk.fsO, Go.Disk.fileO, Bool.false_eq_true, eq_self, Nat.reduceAdd, Nat.reduceSub, Nat.reduceMul, Nat.reduceLT, Nat.reduceLeDiff, Nat.reduceEqDiff, Int.reduceNeg, Int.reduceEq, Int.reduceNe, Int.reduceBEq, Int.reduceBNe, Int.reduceLT, Int.reduceLE, Int.reduceGT, Int.reduceAdd, reduceIte, Bool.not_true, Bool.not_false, decide_true, decide_false, ne_eq, not_false_eq_true, not_true_eq_false]
    exact hK H4 C4 h4 ((hev3.mono fun _ h => h.elim).trans hev4)

theorem rSyncDir_ok (hk : k ≠ 0) (h : IsRef H C k p D) (hD : DiskOk D) (ha : D.acts < 2 ^ 39)
    (hK : ∀ H' C', IsRef H' C' k p (dSyncDir D).2 → Ev (own k) H C H' C' → K (.int .i64 (dSyncDir D).1) H') :
    Fn 67 [.pointer (some ⟨p, 0, none⟩)] H K := by
  obtain ⟨x, rfl, h⟩ := h
  refine F67_ok _ ?_
  unfold F67
  unfold dSyncDir at hK
  have hp := h.hp
  rw [refX] at hp
  simp only [cellH_mk, cellO_some, add_mk, size_upd, upd_upd, one_int, one_bool, one_string, one_pointer, one_slice, one_map, one_func, st1_some, stN_nil, stN_cons, StV_mk, StO_some, Ld_some, RtI_mk, RtB_mk, RtS_mk, RtP_mk, RtL_mk, RtM_mk, RtA_mk, RtT_mk, NilC_some, New_eq, At_eq, Ck_true, Rt0_mk, BrB_true, BrB_false, Nat.zero_add, List.length_cons, List.length_nil, List.getElem?_cons_zero, List.getElem?_cons_succ, List.set_cons_zero, List.set_cons_succ, List.getD_cons_zero, List.getD_cons_succ, Option.isNone_some, Option.isNone_none, Go.Disk.fsO, Go.Disk.fileO, Bool.false_eq_true, eq_self, Nat.reduceAdd, Nat.reduceSub, Nat.reduceMul, Nat.reduceLT, Nat.reduceLeDiff, Nat.reduceEqDiff, Int.reduceNeg, Int.reduceEq, Int.reduceNe, Int.reduceBEq, Int.reduceBNe, Int.reduceLT, Int.reduceLE, Int.reduceGT, Int.reduceAdd, reduceIte, Bool.not_true, Bool.not_false, decide_true, decide_false, ne_eq, not_false_eq_true, not_true_eq_false, hp]
  cases hd : D.dead with
  | true =>
    rw [if_pos hd] at hK; simp only [cellH_mk, cellO_some, add_mk, size_upd, upd_upd, one_int, one_bool, one_string, one_pointer, one_slice, one_map, one_func, st1_some, stN_nil, stN_cons, StV_mk, StO_some, Ld_some, RtI_mk, RtB_mk, RtS_mk, RtP_mk, RtL_mk, RtM_mk, RtA_mk, RtT_mk, NilC_some, New_eq, At_eq, Ck_true, Rt0_mk, BrB_true, BrB_false, Nat.zero_add, List.length_cons, List.length_nil, List.getElem?_cons_zero, List.getElem?_cons_succ, List.set_cons_zero, List.set_cons_succ, List.getD_cons_zero, List.getD_cons_succ, Option.isNone_some, Option.isNone_none, Go.Disk.fsO, Go.Disk.fileO, Bool.false_eq_true, eq_self, Nat.reduceAdd, Nat.reduceSub, Nat.reduceMul, Nat.reduceLT, Nat.reduceLeDiff, Nat.reduceEqDiff, Int.reduceNeg, Int.reduceEq, Int.reduceNe, Int.reduceBEq, Int.reduceBNe, Int.reduceLT, Int.reduceLE, Int.reduceGT, Int.reduceAdd, reduceIte, Bool.not_true, Bool.not_false, decide_true, decide_false, ne_eq, not_false_eq_true, not_true_eq_false]; exact hK H C ⟨x, rfl, h⟩ (Ev.refl _ _ _)
  | false =>
    rw [if_neg (by rw [hd]; simp)] at hK
    simp only [cellH_mk, cellO_some, add_mk, size_upd, upd_upd, one_int, one_bool, one_string, one_pointer, one_slice, one_map, one_func, st1_some, stN_nil, stN_cons, StV_mk, StO_some, Ld_some, RtI_mk, RtB_mk, RtS_mk, RtP_mk, RtL_mk, RtM_mk, RtA_mk, RtT_mk, NilC_some, New_eq, At_eq, Ck_true, Rt0_mk, BrB_true, BrB_false, Nat.zero_add, List.length_cons, List.length_nil, List.getElem?_cons_zero, List.getElem?_cons_succ, List.set_cons_zero, List.set_cons_succ, List.getD_cons_zero, List.getD_cons_succ, Option.isNone_some, Option.isNone_none, Go.Disk.fsO, Go.Disk.fileO, Bool.false_eq_true, eq_self, Nat.reduceAdd, Nat.reduceSub, Nat.reduceMul, Nat.reduceLT, Nat.reduceLeDiff, Nat.reduceEqDiff, Int.reduceNeg, Int.reduceEq, Int.reduceNe, Int.reduceBEq, Int.reduceBNe, Int.reduceLT, Int.reduceLE, Int.reduceGT, Int.reduceAdd, reduceIte, Bool.not_true, Bool.not_false, decide_true, decide_false, ne_eq, not_false_eq_true, not_true_eq_false]
    refine rblown_ok hk h (by omega) hD.fuse hd fun H1 h1 hev1 => ?_
    have hev1 := hev1.mono fun _ => own_of_at1 (k := k) (j := 0)
    by_cases hf : D.fuse = 1
    · rw [if_pos hf] at hK ⊢
      simp only [cellH_mk, cellO_some, add_mk, size_upd, upd_upd, one_int, one_bool, one_string, one_pointer, one_slice, one_map, one_func, st1_some, stN_nil, stN_cons, StV_mk, StO_some, Ld_some, RtI_mk, RtB_mk, RtS_mk, RtP_mk, RtL_mk, RtM_mk, RtA_mk, RtT_mk, NilC_some, New_eq, At_eq, Ck_true, Rt0_mk, BrB_true, BrB_false, Nat.zero_add, List.length_cons, List.length_nil, List.getElem?_cons_zero, List.getElem?_cons_succ, List.set_cons_zero, List.set_cons_succ, List.getD_cons_zero, List.getD_cons_succ, Option.isNone_some, Option.isNone_none, Go.Disk.fsO, Go.Disk.fileO, Bool.false_eq_true, eq_self, Nat.reduceAdd, Nat.reduceSub, Nat.reduceMul, Nat.reduceLT, Nat.reduceLeDiff, Nat.reduceEqDiff, Int.reduceNeg, Int.reduceEq, Int.reduceNe, Int.reduceBEq, Int.reduceBNe, Int.reduceLT, Int.reduceLE, Int.reduceGT, Int.reduceAdd, reduceIte, Bool.not_true, Bool.not_false, decide_true, decide_false, ne_eq, not_false_eq_true, not_true_eq_false]
      refine ⟨fun H' => H' = H1, ?_, ?_⟩
      · rintro fr H' rfl
        exact hK H' C ⟨x, rfl, h1⟩ hev1
      · exact rfl
    · rw [if_neg hf] at hK ⊢
      simp only [cellH_mk, cellO_some, add_mk, size_upd, upd_upd, one_int, one_bool, one_string, one_pointer, one_slice, one_map, one_func, st1_some, stN_nil, stN_cons, StV_mk, StO_some, Ld_some, RtI_mk, RtB_mk, RtS_mk, RtP_mk, RtL_mk, RtM_mk, RtA_mk, RtT_mk, NilC_some, New_eq, At_eq, Ck_true, Rt0_mk, BrB_true, BrB_false, Nat.zero_add, List.length_cons, List.length_nil, List.getElem?_cons_zero, List.getElem?_cons_succ, List.set_cons_zero, List.set_cons_succ, List.getD_cons_zero, List.getD_cons_succ, Option.isNone_some, Option.isNone_none, Go.Disk.fsO, Go.Disk.fileO, Bool.false_eq_true, eq_self, Nat.reduceAdd, Nat.reduceSub, Nat.reduceMul, Nat.reduceLT, Nat.reduceLeDiff, Nat.reduceEqDiff, Int.reduceNeg, Int.reduceEq, Int.reduceNe, Int.reduceBEq, Int.reduceBNe, Int.reduceLT, Int.reduceLE, Int.reduceGT, Int.reduceAdd, reduceIte, Bool.not_true, Bool.not_false, decide_true, decide_false, ne_eq, not_false_eq_true, not_true_eq_false]
      refine ⟨fun H' => ∃ C', IsRef H' C' k x.p { D.blow with sure := D.seen, row := [] } ∧ Ev (own k) H C H' C', ?_, ?_⟩
      · rintro fr H' ⟨C', g1, g2⟩
        exact hK H' C' g1 g2
      · have hp1 := h1.hp
        have hl1 := lt_of_get hp1
        rw [refX] at hp1
        have hp1' := hp1
        simp only [cellH_mk, cellO_some, add_mk, size_upd, upd_upd, one_int, one_bool, one_string, one_pointer, one_slice, one_map, one_func, st1_some, stN_nil, stN_cons, StV_mk, StO_some, Ld_some, RtI_mk, RtB_mk, RtS_mk, RtP_mk, RtL_mk, RtM_mk, RtA_mk, RtT_mk, NilC_some, New_eq, At_eq, Ck_true, Rt0_mk, BrB_true, BrB_false, Nat.zero_add, List.length_cons, List.length_nil, List.getElem?_cons_zero, List.getElem?_cons_succ, List.set_cons_zero, List.set_cons_succ, List.getD_cons_zero, List.getD_cons_succ, Option.isNone_some, Option.isNone_none, Go.Disk.fsO, Go.Disk.fileO, Bool.false_eq_true, eq_self, Nat.reduceAdd, Nat.reduceSub, Nat.reduceMul, Nat.reduceLT, Nat.reduceLeDiff, Nat.reduceEqDiff, Int.reduceNeg, Int.reduceEq, Int.reduceNe, Int.reduceBEq, Int.reduceBNe, Int.reduceLT, Int.reduceLE, Int.reduceGT, Int.reduceAdd, reduceIte, Bool.not_true, Bool.not_false, decide_true, decide_false, ne_eq, not_false_eq_true, not_true_eq_false, hp1, get_upd_self, hl1]
        obtain ⟨g1, g2⟩ := RefAt.put (x := x) (x' := { x with sure := x.seen, row := (none, 0, 0) }) (D' := { D.blow with sure := D.seen, row := [] }) hk h1.cp h1.hp rfl h1.files h1.seen ⟨[], SlO.nil _ _ _ _ _, rfl, rfl⟩ h1.seen
        exact ⟨C, ⟨{ x with sure := x.seen, row := (none, 0, 0) }, rfl, g1⟩, hev1.trans (g2.mono fun _ => own_of_at1)⟩
end
end Go.Proofs

namespace Go.Proofs
open Go Go.Fx Go.Disk
set_option linter.unusedVariables false
set_option maxRecDepth 20000
section
variable {H : Heap} {C : Col} {k p : Nat} {D : Disk} {K : Value → Heap → Prop}

theorem rAppend_ok {name : Name} {a : Option Addr} {l c : Nat} {b : List UInt8} (hk : k ≠ 0) (h : IsRef H C k p D) (hD : DiskOk D) (ha : D.acts < 2 ^ 39) (hb : SlI H C 1 a l c (byts b)) (hbl : b.length < 2 ^ 60)
    (hK : ∀ H' C', IsRef H' C' k p (dAppend name b D).2 → Ev (own k) H C H' C' → K (.int .i64 (dAppend name b D).1) H') :
    Fn 61 [.pointer (some ⟨p, 0, none⟩), .string name, .slice a l c] H K := by
  obtain ⟨x, rfl, h⟩ := h
  refine F61_ok _ _ _ _ _ ?_
  unfold F61
  have hll := hb.bl
  unfold dAppend at hK
  refine rget_ok h hD.seen (fun hd => ?_) (fun hd hg => ?_) fun n f hd hg hn => ?_
  · rw [withFile_dead hd] at hK; simp only [cellH_mk, cellO_some, add_mk, size_upd, upd_upd, one_int, one_bool, one_string, one_pointer, one_slice, one_map, one_func, st1_some, stN_nil, stN_cons, StV_mk, StO_some, Ld_some, RtI_mk, RtB_mk, RtS_mk, RtP_mk, RtL_mk, RtM_mk, RtA_mk, RtT_mk, NilC_some, New_eq, At_eq, Ck_true, Rt0_mk, BrB_true, BrB_false, Nat.zero_add, List.length_cons, List.length_nil, List.getElem?_cons_zero, List.getElem?_cons_succ, List.set_cons_zero, List.set_cons_succ, List.getD_cons_zero, List.getD_cons_succ, Option.isNone_some, Option.isNone_none, Go.Disk.fsO, Go.Disk.fileO, Bool.false_eq_true, eq_self, Nat.reduceAdd, Nat.reduceSub, Nat.reduceMul, Nat.reduceLT, Nat.reduceLeDiff, Nat.reduceEqDiff, Int.reduceNeg, Int.reduceEq, Int.reduceNe, Int.reduceBEq, Int.reduceBNe, Int.reduceLT, Int.reduceLE, Int.reduceGT, Int.reduceAdd, reduceIte, Bool.not_true, Bool.not_false, decide_true, decide_false, ne_eq, not_false_eq_true, not_true_eq_false]; exact hK H C ⟨x, rfl, h⟩ (Ev.refl _ _ _)
  · rw [withFile_none hd hg] at hK; simp only [cellH_mk, cellO_some, add_mk, size_upd, upd_upd, one_int, one_bool, one_string, one_pointer, one_slice, one_map, one_func, st1_some, stN_nil, stN_cons, StV_mk, StO_some, Ld_some, RtI_mk, RtB_mk, RtS_mk, RtP_mk, RtL_mk, RtM_mk, RtA_mk, RtT_mk, NilC_some, New_eq, At_eq, Ck_true, Rt0_mk, BrB_true, BrB_false, Nat.zero_add, List.length_cons, List.length_nil, List.getElem?_cons_zero, List.getElem?_cons_succ, List.set_cons_zero, List.set_cons_succ, List.getD_cons_zero, List.getD_cons_succ, Option.isNone_some, Option.isNone_none, Go.Disk.fsO, Go.Disk.fileO, Bool.false_eq_true, eq_self, Nat.reduceAdd, Nat.reduceSub, Nat.reduceMul, Nat.reduceLT, Nat.reduceLeDiff, Nat.reduceEqDiff, Int.reduceNeg, Int.reduceEq, Int.reduceNe, Int.reduceBEq, Int.reduceBNe, Int.reduceLT, Int.reduceLE, Int.reduceGT, Int.reduceAdd, reduceIte, Bool.not_true, Bool.not_false, decide_true, decide_false, ne_eq, not_false_eq_true, not_true_eq_false]; exact hK H C ⟨x, rfl, h⟩ (Ev.refl _ _ _)
  · rw [withFile_some hd hg] at hK
    simp only [nowOf_of hn] at hK
    have hroom := hD.room
    have hu := flen_used hg
    rw [flen_of hn] at hu
    have hul := used_le (D := D) (flen_le hD) hD.seen.2.1
    have hfo := hD.files f (List.mem_of_getElem? hn)
    have hfl := hfo.1.len1
    have eu : dUsed D = (D.used : Int) := by unfold dUsed; rw [if_neg (by rw [hd]; simp)]
    have rest : ∀ {H1 C1}, Ev no H C H1 C1 → ¬ (0 < b.length ∧ (b.length : Int) > (D.room : Int) - (D.used : Int)) →
        (NilC (some ⟨x.p, 0, none⟩) fun q => Ld (cellH H1 (Addr.add q 1)) fun w => RtL w fun a38 l38 c38 => Idx a38 l38 (n : Int) 2 fun e => Fn 89 [.pointer (some e)] H1 fun v H => RtL v fun a41 l41 c41 => Fn 90 [.slice a l c, .agg ⟨[.bool false, .int .i64 0, .slice none 0 0]⟩] H
          fun v H => RtL v fun a45 l45 c45 => Fn 88 [.pointer (some ⟨x.p, 0, none⟩), .int .i64 (n : Int), .agg ⟨[.bool false, .int .i64 ((l41 : Nat) : Int), .slice a45 l45 c45]⟩] H fun v H => RtI .i64 v fun i47 => K (.int .i64 i47) H) := by
      intro H1 C1 hev1 hno
      rw [if_neg hno] at hK
      have hK := fin_if hK
      have h1 := h.ev hev1 (fun _ _ h => h) fun _ h => h
      have hp1 := h1.hp
      rw [refX] at hp1
      simp only [cellH_mk, cellO_some, add_mk, size_upd, upd_upd, one_int, one_bool, one_string, one_pointer, one_slice, one_map, one_func, st1_some, stN_nil, stN_cons, StV_mk, StO_some, Ld_some, RtI_mk, RtB_mk, RtS_mk, RtP_mk, RtL_mk, RtM_mk, RtA_mk, RtT_mk, NilC_some, New_eq, At_eq, Ck_true, Rt0_mk, BrB_true, BrB_false, Nat.zero_add, List.length_cons, List.length_nil, List.getElem?_cons_zero, List.getElem?_cons_succ, List.set_cons_zero, List.set_cons_succ, List.getD_cons_zero, List.getD_cons_succ, Option.isNone_some, Option.isNone_none, Go.Disk.fsO, Go.Disk.fileO, Bool.false_eq_true, eq_self, Nat.reduceAdd, Nat.reduceSub, Nat.reduceMul, Nat.reduceLT, Nat.reduceLeDiff, Nat.reduceEqDiff, Int.reduceNeg, Int.reduceEq, Int.reduceNe, Int.reduceBEq, Int.reduceBNe, Int.reduceLT, Int.reduceLE, Int.reduceGT, Int.reduceAdd, reduceIte, Bool.not_true, Bool.not_false, decide_true, decide_false, ne_eq, not_false_eq_true, not_true_eq_false, hp1]
      refine h1.files.file hn fun fb fo hF => ?_
      refine rnow_ok hF hfo.1 (by omega) fun nw H2 C2 hnw hev2 => ?_
      have hnl := hnw.len
      have hev2 := hev1.trans hev2
      have hsmall : b.length ≤ 2 ^ 20 := by
        by_cases h0 : 0 < b.length
        · have : ¬ ((b.length : Int) > (D.room : Int) - (D.used : Int)) := fun h => hno ⟨h0, h⟩
          omega
        · omega
      simp only [cellH_mk, cellO_some, add_mk, size_upd, upd_upd, one_int, one_bool, one_string, one_pointer, one_slice, one_map, one_func, st1_some, stN_nil, stN_cons, StV_mk, StO_some, Ld_some, RtI_mk, RtB_mk, RtS_mk, RtP_mk, RtL_mk, RtM_mk, RtA_mk, RtT_mk, NilC_some, New_eq, At_eq, Ck_true, Rt0_mk, BrB_true, BrB_false, Nat.zero_add, List.length_cons, List.length_nil, List.getElem?_cons_zero, List.getElem?_cons_succ, List.set_cons_zero, List.set_cons_succ, List.getD_cons_zero, List.getD_cons_succ, Option.isNone_some, Option.isNone_none, Go.Disk.fsO, Go.Disk.fileO, Bool.false_eq_true, eq_self, Nat.reduceAdd, Nat.reduceSub, Nat.reduceMul, Nat.reduceLT, Nat.reduceLeDiff, Nat.reduceEqDiff, Int.reduceNeg, Int.reduceEq, Int.reduceNe, Int.reduceBEq, Int.reduceBNe, Int.reduceLT, Int.reduceLE, Int.reduceGT, Int.reduceAdd, reduceIte, Bool.not_true, Bool.not_false, decide_true, decide_false, ne_eq, not_false_eq_true, not_true_eq_false]
      refine rdone_ok (c := ⟨false, 0, []⟩) (sl := (none, 0, 0)) (s := (a, l, c)) (xs := b) (SlI.nil _ _ _) (hb.ev hev2 fun _ _ h => h) (Nat.zero_le _) (by omega) (by simp) fun s' H3 C3 hs3 hev3 => ?_
      have ea : Chg.app ⟨false, 0, []⟩ b = b := by simp [Chg.app]
      rw [ea] at hs3
      have hev3 := hev2.trans hev3
      simp only [cellH_mk, cellO_some, add_mk, size_upd, upd_upd, one_int, one_bool, one_string, one_pointer, one_slice, one_map, one_func, st1_some, stN_nil, stN_cons, StV_mk, StO_some, Ld_some, RtI_mk, RtB_mk, RtS_mk, RtP_mk, RtL_mk, RtM_mk, RtA_mk, RtT_mk, NilC_some, New_eq, At_eq, Ck_true, Rt0_mk, BrB_true, BrB_false, Nat.zero_add, List.length_cons, List.length_nil, List.getElem?_cons_zero, List.getElem?_cons_succ, List.set_cons_zero, List.set_cons_succ, List.getD_cons_zero, List.getD_cons_succ, Option.isNone_some, Option.isNone_none, Go.Disk.fsO, Go.Disk.fileO, Bool.false_eq_true, eq_self, Nat.reduceAdd, Nat.reduceSub, Nat.reduceMul, Nat.reduceLT, Nat.reduceLeDiff, Nat.reduceEqDiff, Int.reduceNeg, Int.reduceEq, Int.reduceNe, Int.reduceBEq, Int.reduceBNe, Int.reduceLT, Int.reduceLE, Int.reduceGT, Int.reduceAdd, reduceIte, Bool.not_true, Bool.not_false, decide_true, decide_false, ne_eq, not_false_eq_true, not_true_eq_false]
      rw [hnl]
      refine radd_ok (c := ⟨false, f.now.length, b⟩) (sl := s') hk (h.ev hev3 (fun _ _ h => h) fun _ h => h) hD ha hD.fuse hd hn hs3 fun H4 C4 h4 hev4 => ?_
      simp only [cellH_mk, cellO_some, add_mk, size_upd, upd_upd, one_int, one_bool, one_string, one_pointer, one_slice, one_map, one_func, st1_some, stN_nil, stN_cons, StV_mk, StO_some, Ld_some, RtI_mk, RtB_mk, RtS_mk, RtP_mk, RtL_mk, RtM_mk, RtA_mk, RtT_mk, NilC_some, New_eq, At_eq, Ck_true, Rt0_mk, BrB_true, BrB_false, Nat.zero_add, List.length_cons, List.length_nil, List.getElem?_cons_zero, List.getElem?_cons_succ, List.set_cons_zero, List.set_cons_succ, List.getD_cons_zero, List.getD_cons_succ, Option.isNone_some, Option.isNone_none, Go.Disk.fsO, Go.Disk.fileO, Bool.false_eq_true, eq_self, Nat.reduceAdd, Nat.reduceSub, Nat.reduceMul, Nat.reduceLT, Nat.reduceLeDiff, Nat.reduceEqDiff, Int.reduceNeg, Int.reduceEq, Int.reduceNe, Int.reduceBEq, Int.reduceBNe, Int.reduceLT, Int.reduceLE, Int.reduceGT, Int.reduceAdd, reduceIte, Bool.not_true, Bool.not_false, decide_true, decide_false, ne_eq, not_false_eq_true, not_true_eq_false]
      exact hK H4 C4 h4 ((hev3.mono fun _ h => h.elim).trans hev4)
    simp only [cellH_mk, cellO_some, add_mk, size_upd, upd_upd, one_int, one_bool, one_string, one_pointer, one_slice, one_map, one_func, st1_some, stN_nil, stN_cons, StV_mk, StO_some, Ld_some, RtI_mk, RtB_mk, RtS_mk, RtP_mk, RtL_mk, RtM_mk, RtA_mk, RtT_mk, NilC_some, New_eq, At_eq, Ck_true, Rt0_mk, BrB_true, BrB_false, Nat.zero_add, List.length_cons, List.length_nil, List.getElem?_cons_zero, List.getElem?_cons_succ, List.set_cons_zero, List.set_cons_succ, List.getD_cons_zero, List.getD_cons_succ, Option.isNone_some, Option.isNone_none, Go.Disk.fsO, Go.Disk.fileO, Bool.false_eq_true, eq_self, Nat.reduceAdd, Nat.reduceSub, Nat.reduceMul, Nat.reduceLT, Nat.reduceLeDiff, Nat.reduceEqDiff, Int.reduceNeg, Int.reduceEq, Int.reduceNe, Int.reduceBEq, Int.reduceBNe, Int.reduceLT, Int.reduceLE, Int.reduceGT, Int.reduceAdd, reduceIte, Bool.not_true, Bool.not_false, decide_true, decide_false, ne_eq, not_false_eq_true, not_true_eq_false]
    refine BrB_i (fun h0 => ?_) (fun h0 => rest (Ev.refl _ _ _) fun hx => by have := of_decide_eq_false h0; omega)
    have h0 := of_decide_eq_true h0
    have hp := h.hp
    rw [refX] at hp
    simp only [cellH_mk, cellO_some, add_mk, size_upd, upd_upd, one_int, one_bool, one_string, one_pointer, one_slice, one_map, one_func, st1_some, stN_nil, stN_cons, StV_mk, StO_some, Ld_some, RtI_mk, RtB_mk, RtS_mk, RtP_mk, RtL_mk, RtM_mk, RtA_mk, RtT_mk, NilC_some, New_eq, At_eq, Ck_true, Rt0_mk, BrB_true, BrB_false, Nat.zero_add, List.length_cons, List.length_nil, List.getElem?_cons_zero, List.getElem?_cons_succ, List.set_cons_zero, List.set_cons_succ, List.getD_cons_zero, List.getD_cons_succ, Option.isNone_some, Option.isNone_none, Go.Disk.fsO, Go.Disk.fileO, Bool.false_eq_true, eq_self, Nat.reduceAdd, Nat.reduceSub, Nat.reduceMul, Nat.reduceLT, Nat.reduceLeDiff, Nat.reduceEqDiff, Int.reduceNeg, Int.reduceEq, Int.reduceNe, Int.reduceBEq, Int.reduceBNe, Int.reduceLT, Int.reduceLE, Int.reduceGT, Int.reduceAdd, reduceIte, Bool.not_true, Bool.not_false, decide_true, decide_false, ne_eq, not_false_eq_true, not_true_eq_false, hp]
    refine rUsed_ok ⟨x, rfl, h⟩ hD ha fun H1 C1 hev1 => ?_
    have hp1 := hev1.get hp fun h => h
    rw [eu]
    simp only [cellH_mk, cellO_some, add_mk, size_upd, upd_upd, one_int, one_bool, one_string, one_pointer, one_slice, one_map, one_func, st1_some, stN_nil, stN_cons, StV_mk, StO_some, Ld_some, RtI_mk, RtB_mk, RtS_mk, RtP_mk, RtL_mk, RtM_mk, RtA_mk, RtT_mk, NilC_some, New_eq, At_eq, Ck_true, Rt0_mk, BrB_true, BrB_false, Nat.zero_add, List.length_cons, List.length_nil, List.getElem?_cons_zero, List.getElem?_cons_succ, List.set_cons_zero, List.set_cons_succ, List.getD_cons_zero, List.getD_cons_succ, Option.isNone_some, Option.isNone_none, Go.Disk.fsO, Go.Disk.fileO, Bool.false_eq_true, eq_self, Nat.reduceAdd, Nat.reduceSub, Nat.reduceMul, Nat.reduceLT, Nat.reduceLeDiff, Nat.reduceEqDiff, Int.reduceNeg, Int.reduceEq, Int.reduceNe, Int.reduceBEq, Int.reduceBNe, Int.reduceLT, Int.reduceLE, Int.reduceGT, Int.reduceAdd, reduceIte, Bool.not_true, Bool.not_false, decide_true, decide_false, ne_eq, not_false_eq_true, not_true_eq_false, hp1]
    have w1 : IntKind.wrap .i64 ((D.room : Int) - (D.used : Int)) = (D.room : Int) - (D.used : Int) := w64 (by omega) (by omega)
    rw [w1]
    refine BrB_i (fun h2 => ?_) (fun h2 => ?_)
    · have h2 := of_decide_eq_true h2
      rw [if_pos ⟨by omega, by omega⟩] at hK
      exact hK H1 C1 ⟨x, rfl, h.ev hev1 (fun _ _ h => h) fun _ h => h⟩ (hev1.mono fun _ h => h.elim)
    · have h2 := of_decide_eq_false h2
      exact rest hev1 fun hx => by omega

theorem rCut_ok {name : Name} {off : Int} (hk : k ≠ 0) (h : IsRef H C k p D) (hD : DiskOk D) (ha : D.acts < 2 ^ 39)
    (hK : ∀ H' C', IsRef H' C' k p (dCut name off D).2 → Ev (own k) H C H' C' → K (.int .i64 (dCut name off D).1) H') :
    Fn 63 [.pointer (some ⟨p, 0, none⟩), .string name, .int .i64 off] H K := by
  obtain ⟨x, rfl, h⟩ := h
  refine F63_ok _ _ _ ?_
  unfold F63
  unfold dCut at hK
  refine rget_ok h hD.seen (fun hd => ?_) (fun hd hg => ?_) fun n f hd hg hn => ?_
  · rw [withFile_dead hd] at hK; simp only [cellH_mk, cellO_some, add_mk, size_upd, upd_upd, one_int, one_bool, one_string, one_pointer, one_slice, one_map, one_func, st1_some, stN_nil, stN_cons, StV_mk, StO_some, Ld_some, RtI_mk, RtB_mk, RtS_mk, RtP_mk, RtL_mk, RtM_mk, RtA_mk, RtT_mk, NilC_some, New_eq, At_eq, Ck_true, Rt0_mk, BrB_true, BrB_false, Nat.zero_add, List.length_cons, List.length_nil, List.getElem?_cons_zero, List.getElem?_cons_succ, List.set_cons_zero, List.set_cons_succ, List.getD_cons_zero, List.getD_cons_succ, Option.isNone_some, Option.isNone_none, Go.Disk.fsO, Go.Disk.fileO, Bool.false_eq_true, eq_self, Nat.reduceAdd, Nat.reduceSub, Nat.reduceMul, Nat.reduceLT, Nat.reduceLeDiff, Nat.reduceEqDiff, Int.reduceNeg, Int.reduceEq, Int.reduceNe, Int.reduceBEq, Int.reduceBNe, Int.reduceLT, Int.reduceLE, Int.reduceGT, Int.reduceAdd, reduceIte, Bool.not_true, Bool.not_false, decide_true, decide_false, ne_eq, not_false_eq_true, not_true_eq_false]; exact hK H C ⟨x, rfl, h⟩ (Ev.refl _ _ _)
  · rw [withFile_none hd hg] at hK; simp only [cellH_mk, cellO_some, add_mk, size_upd, upd_upd, one_int, one_bool, one_string, one_pointer, one_slice, one_map, one_func, st1_some, stN_nil, stN_cons, StV_mk, StO_some, Ld_some, RtI_mk, RtB_mk, RtS_mk, RtP_mk, RtL_mk, RtM_mk, RtA_mk, RtT_mk, NilC_some, New_eq, At_eq, Ck_true, Rt0_mk, BrB_true, BrB_false, Nat.zero_add, List.length_cons, List.length_nil, List.getElem?_cons_zero, List.getElem?_cons_succ, List.set_cons_zero, List.set_cons_succ, List.getD_cons_zero, List.getD_cons_succ, Option.isNone_some, Option.isNone_none, Go.Disk.fsO, Go.Disk.fileO, Bool.false_eq_true, eq_self, Nat.reduceAdd, Nat.reduceSub, Nat.reduceMul, Nat.reduceLT, Nat.reduceLeDiff, Nat.reduceEqDiff, Int.reduceNeg, Int.reduceEq, Int.reduceNe, Int.reduceBEq, Int.reduceBNe, Int.reduceLT, Int.reduceLE, Int.reduceGT, Int.reduceAdd, reduceIte, Bool.not_true, Bool.not_false, decide_true, decide_false, ne_eq, not_false_eq_true, not_true_eq_false]; exact hK H C ⟨x, rfl, h⟩ (Ev.refl _ _ _)
  · rw [withFile_some hd hg] at hK
    simp only [nowOf_of hn] at hK
    have hfo := hD.files f (List.mem_of_getElem? hn)
    simp only [cellH_mk, cellO_some, add_mk, size_upd, upd_upd, one_int, one_bool, one_string, one_pointer, one_slice, one_map, one_func, st1_some, stN_nil, stN_cons, StV_mk, StO_some, Ld_some, RtI_mk, RtB_mk, RtS_mk, RtP_mk, RtL_mk, RtM_mk, RtA_mk, RtT_mk, NilC_some, New_eq, At_eq, Ck_true, Rt0_mk, BrB_true, BrB_false, Nat.zero_add, List.length_cons, List.length_nil, List.getElem?_cons_zero, List.getElem?_cons_succ, List.set_cons_zero, List.set_cons_succ, List.getD_cons_zero, List.getD_cons_succ, Option.isNone_some, Option.isNone_none, Go.Disk.fsO, Go.Disk.fileO, Bool.false_eq_true, eq_self, Nat.reduceAdd, Nat.reduceSub, Nat.reduceMul, Nat.reduceLT, Nat.reduceLeDiff, Nat.reduceEqDiff, Int.reduceNeg, Int.reduceEq, Int.reduceNe, Int.reduceBEq, Int.reduceBNe, Int.reduceLT, Int.reduceLE, Int.reduceGT, Int.reduceAdd, reduceIte, Bool.not_true, Bool.not_false, decide_true, decide_false, ne_eq, not_false_eq_true, not_true_eq_false]
    refine BrB_i (fun h0 => ?_) (fun h0 => ?_)
    · have h0 := of_decide_eq_true h0
      rw [if_pos (.inl h0)] at hK
      exact hK H C ⟨x, rfl, h⟩ (Ev.refl _ _ _)
    have h0 := of_decide_eq_false h0
    have hp := h.hp
    rw [refX] at hp
    simp only [cellH_mk, cellO_some, add_mk, size_upd, upd_upd, one_int, one_bool, one_string, one_pointer, one_slice, one_map, one_func, st1_some, stN_nil, stN_cons, StV_mk, StO_some, Ld_some, RtI_mk, RtB_mk, RtS_mk, RtP_mk, RtL_mk, RtM_mk, RtA_mk, RtT_mk, NilC_some, New_eq, At_eq, Ck_true, Rt0_mk, BrB_true, BrB_false, Nat.zero_add, List.length_cons, List.length_nil, List.getElem?_cons_zero, List.getElem?_cons_succ, List.set_cons_zero, List.set_cons_succ, List.getD_cons_zero, List.getD_cons_succ, Option.isNone_some, Option.isNone_none, Go.Disk.fsO, Go.Disk.fileO, Bool.false_eq_true, eq_self, Nat.reduceAdd, Nat.reduceSub, Nat.reduceMul, Nat.reduceLT, Nat.reduceLeDiff, Nat.reduceEqDiff, Int.reduceNeg, Int.reduceEq, Int.reduceNe, Int.reduceBEq, Int.reduceBNe, Int.reduceLT, Int.reduceLE, Int.reduceGT, Int.reduceAdd, reduceIte, Bool.not_true, Bool.not_false, decide_true, decide_false, ne_eq, not_false_eq_true, not_true_eq_false, hp]
    refine h.files.file hn fun fb fo hF => ?_
    refine rnow_ok hF hfo.1 (by omega) fun nw H2 C2 hnw hev2 => ?_
    have hnl := hnw.len
    have h2 := h.ev hev2 (fun _ _ h => h) fun _ h => h
    simp only [cellH_mk, cellO_some, add_mk, size_upd, upd_upd, one_int, one_bool, one_string, one_pointer, one_slice, one_map, one_func, st1_some, stN_nil, stN_cons, StV_mk, StO_some, Ld_some, RtI_mk, RtB_mk, RtS_mk, RtP_mk, RtL_mk, RtM_mk, RtA_mk, RtT_mk, NilC_some, New_eq, At_eq, Ck_true, Rt0_mk, BrB_true, BrB_false, Nat.zero_add, List.length_cons, List.length_nil, List.getElem?_cons_zero, List.getElem?_cons_succ, List.set_cons_zero, List.set_cons_succ, List.getD_cons_zero, List.getD_cons_succ, Option.isNone_some, Option.isNone_none, Go.Disk.fsO, Go.Disk.fileO, Bool.false_eq_true, eq_self, Nat.reduceAdd, Nat.reduceSub, Nat.reduceMul, Nat.reduceLT, Nat.reduceLeDiff, Nat.reduceEqDiff, Int.reduceNeg, Int.reduceEq, Int.reduceNe, Int.reduceBEq, Int.reduceBNe, Int.reduceLT, Int.reduceLE, Int.reduceGT, Int.reduceAdd, reduceIte, Bool.not_true, Bool.not_false, decide_true, decide_false, ne_eq, not_false_eq_true, not_true_eq_false]
    rw [hnl]
    refine BrB_i (fun h1 => ?_) (fun h1 => ?_)
    · have h1 := of_decide_eq_true h1
      rw [if_pos (.inr (by omega))] at hK
      exact hK H2 C2 ⟨x, rfl, h2⟩ (hev2.mono fun _ h => h.elim)
    have h1 := of_decide_eq_false h1
    rw [if_neg (by omega)] at hK
    have hK := fin_if hK
    have ho : off = ((off.toNat : Nat) : Int) := by omega
    rw [ho]
    refine radd_ok (c := ⟨true, off.toNat, []⟩) (sl := (none, 0, 0)) hk h2 hD ha hD.fuse hd hn (SlI.nil _ _ _) fun H4 C4 h4 hev4 => ?_
    simp only [cellH_mk, cellO_some, add_mk, size_upd, upd_upd, one_int, one_bool, one_string, one_pointer, one_slice, one_map, one_func, st1_some, stN_nil, stN_cons, StV_mk, StO_some, Ld_some, RtI_mk, RtB_mk, RtS_mk, RtP_mk, RtL_mk, RtM_mk, RtA_mk, RtT_mk, NilC_some, New_eq, At_eq, Ck_true, Rt0_mk, BrB_true, BrB_false, Nat.zero_add, List.length_cons, List.length_nil, List.getElem?_cons_zero, List.getElem?_cons_succ, List.set_cons_zero, List.set_cons_succ, List.getD_cons_zero, List.getD_cons_succ, Option.isNone_some, Option.isNone_none, Go.Disk.fsO, Go.Disk.fileO, Bool.false_eq_true, eq_self, Nat.reduceAdd, Nat.reduceSub, Nat.reduceMul, Nat.reduceLT, Nat.reduceLeDiff, Nat.reduceEqDiff, Int.reduceNeg, Int.reduceEq, Int.reduceNe, Int.reduceBEq, Int.reduceBNe, Int.reduceLT, Int.reduceLE, Int.reduceGT, Int.reduceAdd, reduceIte, Bool.not_true, Bool.not_false, decide_true, decide_false, ne_eq, not_false_eq_true, not_true_eq_false]
    exact hK H4 C4 h4 ((hev2.mono fun _ h => h.elim).trans hev4)

theorem rWrite_ok {name : Name} {off : Int} {a : Option Addr} {l c : Nat} {b : List UInt8} (hk : k ≠ 0) (h : IsRef H C k p D) (hD : DiskOk D) (ha : D.acts < 2 ^ 39) (hb : SlI H C 1 a l c (byts b)) (hbl : b.length < 2 ^ 60) (hoff : -2 ^ 63 ≤ off ∧ off < 2 ^ 63)
    (hK : ∀ H' C', IsRef H' C' k p (dWrite name off b D).2 → Ev (own k) H C H' C' → K (.int .i64 (dWrite name off b D).1) H') :
    Fn 62 [.pointer (some ⟨p, 0, none⟩), .string name, .int .i64 off, .slice a l c] H K := by
  obtain ⟨x, rfl, h⟩ := h
  refine F62_ok _ _ _ _ _ _ ?_
  unfold F62
  have hll := hb.bl
  unfold dWrite at hK
  refine rget_ok h hD.seen (fun hd => ?_) (fun hd hg => ?_) fun n f hd hg hn => ?_
  · rw [withFile_dead hd] at hK; simp only [cellH_mk, cellO_some, add_mk, size_upd, upd_upd, one_int, one_bool, one_string, one_pointer, one_slice, one_map, one_func, st1_some, stN_nil, stN_cons, StV_mk, StO_some, Ld_some, RtI_mk, RtB_mk, RtS_mk, RtP_mk, RtL_mk, RtM_mk, RtA_mk, RtT_mk, NilC_some, New_eq, At_eq, Ck_true, Rt0_mk, BrB_true, BrB_false, Nat.zero_add, List.length_cons, List.length_nil, List.getElem?_cons_zero, List.getElem?_cons_succ, List.set_cons_zero, List.set_cons_succ, List.getD_cons_zero, List.getD_cons_succ, Option.isNone_some, Option.isNone_none, Go.Disk.fsO, Go.Disk.fileO, Bool.false_eq_true, eq_self, Nat.reduceAdd, Nat.reduceSub, Nat.reduceMul, Nat.reduceLT, Nat.reduceLeDiff, Nat.reduceEqDiff, Int.reduceNeg, Int.reduceEq, Int.reduceNe, Int.reduceBEq, Int.reduceBNe, Int.reduceLT, Int.reduceLE, Int.reduceGT, Int.reduceAdd, reduceIte, Bool.not_true, Bool.not_false, decide_true, decide_false, ne_eq, not_false_eq_true, not_true_eq_false]; exact hK H C ⟨x, rfl, h⟩ (Ev.refl _ _ _)
  · rw [withFile_none hd hg] at hK; simp only [cellH_mk, cellO_some, add_mk, size_upd, upd_upd, one_int, one_bool, one_string, one_pointer, one_slice, one_map, one_func, st1_some, stN_nil, stN_cons, StV_mk, StO_some, Ld_some, RtI_mk, RtB_mk, RtS_mk, RtP_mk, RtL_mk, RtM_mk, RtA_mk, RtT_mk, NilC_some, New_eq, At_eq, Ck_true, Rt0_mk, BrB_true, BrB_false, Nat.zero_add, List.length_cons, List.length_nil, List.getElem?_cons_zero, List.getElem?_cons_succ, List.set_cons_zero, List.set_cons_succ, List.getD_cons_zero, List.getD_cons_succ, Option.isNone_some, Option.isNone_none, Go.Disk.fsO, Go.Disk.fileO, Bool.false_eq_true, eq_self, Nat.reduceAdd, Nat.reduceSub, Nat.reduceMul, Nat.reduceLT, Nat.reduceLeDiff, Nat.reduceEqDiff, Int.reduceNeg, Int.reduceEq, Int.reduceNe, Int.reduceBEq, Int.reduceBNe, Int.reduceLT, Int.reduceLE, Int.reduceGT, Int.reduceAdd, reduceIte, Bool.not_true, Bool.not_false, decide_true, decide_false, ne_eq, not_false_eq_true, not_true_eq_false]; exact hK H C ⟨x, rfl, h⟩ (Ev.refl _ _ _)
  · rw [withFile_some hd hg] at hK
    simp only [nowOf_of hn] at hK
    have hroom := hD.room
    have hu := flen_used hg
    rw [flen_of hn] at hu
    have hul := used_le (D := D) (flen_le hD) hD.seen.2.1
    have hfo := hD.files f (List.mem_of_getElem? hn)
    have hfl := hfo.1.len1
    have eu : dUsed D = (D.used : Int) := by unfold dUsed; rw [if_neg (by rw [hd]; simp)]
    have hp := h.hp
    rw [refX] at hp
    simp only [cellH_mk, cellO_some, add_mk, size_upd, upd_upd, one_int, one_bool, one_string, one_pointer, one_slice, one_map, one_func, st1_some, stN_nil, stN_cons, StV_mk, StO_some, Ld_some, RtI_mk, RtB_mk, RtS_mk, RtP_mk, RtL_mk, RtM_mk, RtA_mk, RtT_mk, NilC_some, New_eq, At_eq, Ck_true, Rt0_mk, BrB_true, BrB_false, Nat.zero_add, List.length_cons, List.length_nil, List.getElem?_cons_zero, List.getElem?_cons_succ, List.set_cons_zero, List.set_cons_succ, List.getD_cons_zero, List.getD_cons_succ, Option.isNone_some, Option.isNone_none, Go.Disk.fsO, Go.Disk.fileO, Bool.false_eq_true, eq_self, Nat.reduceAdd, Nat.reduceSub, Nat.reduceMul, Nat.reduceLT, Nat.reduceLeDiff, Nat.reduceEqDiff, Int.reduceNeg, Int.reduceEq, Int.reduceNe, Int.reduceBEq, Int.reduceBNe, Int.reduceLT, Int.reduceLE, Int.reduceGT, Int.reduceAdd, reduceIte, Bool.not_true, Bool.not_false, decide_true, decide_false, ne_eq, not_false_eq_true, not_true_eq_false, hp]
    refine h.files.file hn fun fb fo hF => ?_
    refine rnow_ok hF hfo.1 (by omega) fun nw H2 C2 hnw hev2 => ?_
    have hnl := hnw.len
    have h2 := h.ev hev2 (fun _ _ h => h) fun _ h => h
    have hp2 := hev2.get hp fun h => h
    simp only [cellH_mk, cellO_some, add_mk, size_upd, upd_upd, one_int, one_bool, one_string, one_pointer, one_slice, one_map, one_func, st1_some, stN_nil, stN_cons, StV_mk, StO_some, Ld_some, RtI_mk, RtB_mk, RtS_mk, RtP_mk, RtL_mk, RtM_mk, RtA_mk, RtT_mk, NilC_some, New_eq, At_eq, Ck_true, Rt0_mk, BrB_true, BrB_false, Nat.zero_add, List.length_cons, List.length_nil, List.getElem?_cons_zero, List.getElem?_cons_succ, List.set_cons_zero, List.set_cons_succ, List.getD_cons_zero, List.getD_cons_succ, Option.isNone_some, Option.isNone_none, Go.Disk.fsO, Go.Disk.fileO, Bool.false_eq_true, eq_self, Nat.reduceAdd, Nat.reduceSub, Nat.reduceMul, Nat.reduceLT, Nat.reduceLeDiff, Nat.reduceEqDiff, Int.reduceNeg, Int.reduceEq, Int.reduceNe, Int.reduceBEq, Int.reduceBNe, Int.reduceLT, Int.reduceLE, Int.reduceGT, Int.reduceAdd, reduceIte, Bool.not_true, Bool.not_false, decide_true, decide_false, ne_eq, not_false_eq_true, not_true_eq_false]
    rw [hnl]
    have bad : (off < 0 ∨ (f.now.length : Int) < off) → K (.int .i64 2) H2 := by
      intro hx
      rw [if_pos hx] at hK
      exact hK H2 C2 ⟨x, rfl, h2⟩ (hev2.mono fun _ h => h.elim)
    refine BrB_i (fun h0 => bad (.inl (of_decide_eq_true h0))) (fun h0 => ?_)
    have h0 := of_decide_eq_false h0
    refine BrB_i (fun h1 => bad (.inr (by have := of_decide_eq_true h1; omega))) (fun h1 => ?_)
    have h1 := of_decide_eq_false h1
    rw [if_neg (by omega)] at hK
    have w1 : IntKind.wrap .i64 ((f.now.length : Int) - off) = (f.now.length : Int) - off := w64 (by omega) (by omega)
    have w2 : IntKind.wrap .i64 ((l : Int) - ((f.now.length : Int) - off)) = (l : Int) - ((f.now.length : Int) - off) := w64 (by omega) (by omega)
    have w3 : IntKind.wrap .i64 ((D.room : Int) - (D.used : Int)) = (D.room : Int) - (D.used : Int) := w64 (by omega) (by omega)
    rw [w1, w2]
    have ho : off = ((off.toNat : Nat) : Int) := by omega
    have rest : ∀ {H1 C1}, Ev no H C H1 C1 → ¬ ((b.length : Int) - ((f.now.length : Int) - off) > 0 ∧ (b.length : Int) - ((f.now.length : Int) - off) > (D.room : Int) - (D.used : Int)) →
        (Fn 90 [.slice a l c, .agg ⟨[.bool false, .int .i64 0, .slice none 0 0]⟩] H1 fun v H => RtL v fun a61 l61 c61 => Fn 88 [.pointer (some ⟨x.p, 0, none⟩), .int .i64 (n : Int), .agg ⟨[.bool false, .int .i64 off, .slice a61 l61 c61]⟩] H fun v H => RtI .i64 v fun i63 => K (.int .i64 i63) H) := by
      intro H1 C1 hev1 hno
      rw [if_neg hno] at hK
      have hK := fin_if hK
      have hsmall : off.toNat + b.length ≤ 2 ^ 20 := by
        by_cases h2 : (b.length : Int) - ((f.now.length : Int) - off) > 0
        · have : ¬ ((b.length : Int) - ((f.now.length : Int) - off) > (D.room : Int) - (D.used : Int)) := fun h => hno ⟨h2, h⟩
          omega
        · omega
      refine rdone_ok (c := ⟨false, 0, []⟩) (sl := (none, 0, 0)) (s := (a, l, c)) (xs := b) (SlI.nil _ _ _) (hb.ev hev1 fun _ _ h => h) (Nat.zero_le _) (by omega) (by simp) fun s' H3 C3 hs3 hev3 => ?_
      have ea : Chg.app ⟨false, 0, []⟩ b = b := by simp [Chg.app]
      rw [ea] at hs3
      have hev3 := hev1.trans hev3
      simp only [cellH_mk, cellO_some, add_mk, size_upd, upd_upd, one_int, one_bool, one_string, one_pointer, one_slice, one_map, one_func, st1_some, stN_nil, stN_cons, StV_mk, StO_some, Ld_some, RtI_mk, RtB_mk, RtS_mk, RtP_mk, RtL_mk, RtM_mk, RtA_mk, RtT_mk, NilC_some, New_eq, At_eq, Ck_true, Rt0_mk, BrB_true, BrB_false, Nat.zero_add, List.length_cons, List.length_nil, List.getElem?_cons_zero, List.getElem?_cons_succ, List.set_cons_zero, List.set_cons_succ, List.getD_cons_zero, List.getD_cons_succ, Option.isNone_some, Option.isNone_none, Go.Disk.fsO, Go.Disk.fileO, Bool.false_eq_true, eq_self, Nat.reduceAdd, Nat.reduceSub, Nat.reduceMul, Nat.reduceLT, Nat.reduceLeDiff, Nat.reduceEqDiff, Int.reduceNeg, Int.reduceEq, Int.reduceNe, Int.reduceBEq, Int.reduceBNe, Int.reduceLT, Int.reduceLE, Int.reduceGT, Int.reduceAdd, reduceIte, Bool.not_true, Bool.not_false, decide_true, decide_false, ne_eq, not_false_eq_true, not_true_eq_false]
      rw [ho]
      refine radd_ok (c := ⟨false, off.toNat, b⟩) (sl := s') hk (h.ev hev3 (fun _ _ h => h) fun _ h => h) hD ha hD.fuse hd hn hs3 fun H4 C4 h4 hev4 => ?_
      simp only [cellH_mk, cellO_some, add_mk, size_upd, upd_upd, one_int, one_bool, one_string, one_pointer, one_slice, one_map, one_func, st1_some, stN_nil, stN_cons, StV_mk, StO_some, Ld_some, RtI_mk, RtB_mk, RtS_mk, RtP_mk, RtL_mk, RtM_mk, RtA_mk, RtT_mk, NilC_some, New_eq, At_eq, Ck_true, Rt0_mk, BrB_true, BrB_false, Nat.zero_add, List.length_cons, List.length_nil, List.getElem?_cons_zero, List.getElem?_cons_succ, List.set_cons_zero, List.set_cons_succ, List.getD_cons_zero, List.getD_cons_succ, Option.isNone_some, Option.isNone_none, Go.Disk.fsO, Go.Disk.fileO, Bool.false_eq_true, eq_self, Nat.reduceAdd, Nat.reduceSub, Nat.reduceMul, Nat.reduceLT, Nat.reduceLeDiff, Nat.reduceEqDiff, Int.reduceNeg, Int.reduceEq, Int.reduceNe, Int.reduceBEq, Int.reduceBNe, Int.reduceLT, Int.reduceLE, Int.reduceGT, Int.reduceAdd, reduceIte, Bool.not_true, Bool.not_false, decide_true, decide_false, ne_eq, not_false_eq_true, not_true_eq_false]
      exact hK H4 C4 h4 ((hev3.mono fun _ h => h.elim).trans hev4)
    refine BrB_i (fun h3 => ?_) (fun h3 => rest hev2 fun hx => by have := of_decide_eq_false h3; omega)
    have h3 := of_decide_eq_true h3
    simp only [cellH_mk, cellO_some, add_mk, size_upd, upd_upd, one_int, one_bool, one_string, one_pointer, one_slice, one_map, one_func, st1_some, stN_nil, stN_cons, StV_mk, StO_some, Ld_some, RtI_mk, RtB_mk, RtS_mk, RtP_mk, RtL_mk, RtM_mk, RtA_mk, RtT_mk, NilC_some, New_eq, At_eq, Ck_true, Rt0_mk, BrB_true, BrB_false, Nat.zero_add, List.length_cons, List.length_nil, List.getElem?_cons_zero, List.getElem?_cons_succ, List.set_cons_zero, List.set_cons_succ, List.getD_cons_zero, List.getD_cons_succ, Option.isNone_some, Option.isNone_none, Go.Disk.fsO, Go.Disk.fileO, Bool.false_eq_true, eq_self, Nat.reduceAdd, Nat.reduceSub, Nat.reduceMul, Nat.reduceLT, Nat.reduceLeDiff, Nat.reduceEqDiff, Int.reduceNeg, Int.reduceEq, Int.reduceNe, Int.reduceBEq, Int.reduceBNe, Int.reduceLT, Int.reduceLE, Int.reduceGT, Int.reduceAdd, reduceIte, Bool.not_true, Bool.not_false, decide_true, decide_false, ne_eq, not_false_eq_true, not_true_eq_false, hp2]
    refine rUsed_ok ⟨x, rfl, h2⟩ hD ha fun H3 C3 hev3 => ?_
    have hp3 := hev3.get hp2 fun h => h
    have hev3 := hev2.trans hev3
    rw [eu]
    simp only [cellH_mk, cellO_some, add_mk, size_upd, upd_upd, one_int, one_bool, one_string, one_pointer, one_slice, one_map, one_func, st1_some, stN_nil, stN_cons, StV_mk, StO_some, Ld_some, RtI_mk, RtB_mk, RtS_mk, RtP_mk, RtL_mk, RtM_mk, RtA_mk, RtT_mk, NilC_some, New_eq, At_eq, Ck_true, Rt0_mk, BrB_true, BrB_false, Nat.zero_add, List.length_cons, List.length_nil, List.getElem?_cons_zero, List.getElem?_cons_succ, List.set_cons_zero, List.set_cons_succ, List.getD_cons_zero, List.getD_cons_succ, Option.isNone_some, Option.isNone_none, Go.Disk.fsO, Go.Disk.fileO, Bool.false_eq_true, eq_self, Nat.reduceAdd, Nat.reduceSub, Nat.reduceMul, Nat.reduceLT, Nat.reduceLeDiff, Nat.reduceEqDiff, Int.reduceNeg, Int.reduceEq, Int.reduceNe, Int.reduceBEq, Int.reduceBNe, Int.reduceLT, Int.reduceLE, Int.reduceGT, Int.reduceAdd, reduceIte, Bool.not_true, Bool.not_false, decide_true, decide_false, ne_eq, not_false_eq_true, not_true_eq_false, hp3]
    rw [w3]
    refine BrB_i (fun h4 => ?_) (fun h4 => ?_)
    · have h4 := of_decide_eq_true h4
      rw [if_pos ⟨by omega, by omega⟩] at hK
      exact hK H3 C3 ⟨x, rfl, h.ev hev3 (fun _ _ h => h) fun _ h => h⟩ (hev3.mono fun _ h => h.elim)
    · have h4 := of_decide_eq_false h4
      exact rest hev3 fun hx => by omega
end
end Go.Proofs

namespace Go.Proofs
open Go Go.Fx Go.Disk
set_option linter.unusedVariables false
set_option maxRecDepth 20000
section
variable {H : Heap} {C : Col} {k p : Nat} {D : Disk} {K : Value → Heap → Prop}
theorem at1_out {k j : Nat} {l : Lab} (h : l.1 ≠ k) : ¬ at1 (k, j) l := fun e => h (by unfold at1 at e; rw [e])
theorem rSync_ok {name : Name} (hk : k ≠ 0) (h : IsRef H C k p D) (hD : DiskOk D) (ha : D.acts < 2 ^ 39)
    (hK : ∀ H' C', IsRef H' C' k p (dSync name D).2 → Ev (own k) H C H' C' → K (.int .i64 (dSync name D).1) H') :
    Fn 66 [.pointer (some ⟨p, 0, none⟩), .string name] H K := by
  obtain ⟨x, rfl, h⟩ := h
  refine F66_ok _ _ ?_
  unfold F66
  unfold dSync at hK
  refine rget_ok h hD.seen (fun hd => ?_) (fun hd hg => ?_) fun n f hd hg hn => ?_
  · rw [withFile_dead hd] at hK; simp only [cellH_mk, cellO_some, add_mk, size_upd, upd_upd, one_int, one_bool, one_string, one_pointer, one_slice, one_map, one_func, st1_some, stN_nil, stN_cons, StV_mk, StO_some, Ld_some, RtI_mk, RtB_mk, RtS_mk, RtP_mk, RtL_mk, RtM_mk, RtA_mk, RtT_mk, NilC_some, New_eq, At_eq, Ck_true, Rt0_mk, BrB_true, BrB_false, Nat.zero_add, List.length_cons, List.length_nil, List.getElem?_cons_zero, List.getElem?_cons_succ, List.set_cons_zero, List.set_cons_succ, List.getD_cons_zero, List.getD_cons_succ, Option.isNone_some, Option.isNone_none, Go.Disk.fsO, Go.Disk.fileO, Bool.false_eq_true, eq_self, Nat.reduceAdd, Nat.reduceSub, Nat.reduceMul, Nat.reduceLT, Nat.reduceLeDiff, Nat.reduceEqDiff, Int.reduceNeg, Int.reduceEq, Int.reduceNe, Int.reduceBEq, Int.reduceBNe, Int.reduceLT, Int.reduceLE, Int.reduceGT, Int.reduceAdd, reduceIte, Bool.not_true, Bool.not_false, decide_true, decide_false, ne_eq, not_false_eq_true, not_true_eq_false]; exact hK H C ⟨x, rfl, h⟩ (Ev.refl _ _ _)
  · rw [withFile_none hd hg] at hK; simp only [cellH_mk, cellO_some, add_mk, size_upd, upd_upd, one_int, one_bool, one_string, one_pointer, one_slice, one_map, one_func, st1_some, stN_nil, stN_cons, StV_mk, StO_some, Ld_some, RtI_mk, RtB_mk, RtS_mk, RtP_mk, RtL_mk, RtM_mk, RtA_mk, RtT_mk, NilC_some, New_eq, At_eq, Ck_true, Rt0_mk, BrB_true, BrB_false, Nat.zero_add, List.length_cons, List.length_nil, List.getElem?_cons_zero, List.getElem?_cons_succ, List.set_cons_zero, List.set_cons_succ, List.getD_cons_zero, List.getD_cons_succ, Option.isNone_some, Option.isNone_none, Go.Disk.fsO, Go.Disk.fileO, Bool.false_eq_true, eq_self, Nat.reduceAdd, Nat.reduceSub, Nat.reduceMul, Nat.reduceLT, Nat.reduceLeDiff, Nat.reduceEqDiff, Int.reduceNeg, Int.reduceEq, Int.reduceNe, Int.reduceBEq, Int.reduceBNe, Int.reduceLT, Int.reduceLE, Int.reduceGT, Int.reduceAdd, reduceIte, Bool.not_true, Bool.not_false, decide_true, decide_false, ne_eq, not_false_eq_true, not_true_eq_false]; exact hK H C ⟨x, rfl, h⟩ (Ev.refl _ _ _)
  · rw [withFile_some hd hg] at hK
    have hfo := hD.files f (List.mem_of_getElem? hn)
    simp only [cellH_mk, cellO_some, add_mk, size_upd, upd_upd, one_int, one_bool, one_string, one_pointer, one_slice, one_map, one_func, st1_some, stN_nil, stN_cons, StV_mk, StO_some, Ld_some, RtI_mk, RtB_mk, RtS_mk, RtP_mk, RtL_mk, RtM_mk, RtA_mk, RtT_mk, NilC_some, New_eq, At_eq, Ck_true, Rt0_mk, BrB_true, BrB_false, Nat.zero_add, List.length_cons, List.length_nil, List.getElem?_cons_zero, List.getElem?_cons_succ, List.set_cons_zero, List.set_cons_succ, List.getD_cons_zero, List.getD_cons_succ, Option.isNone_some, Option.isNone_none, Go.Disk.fsO, Go.Disk.fileO, Bool.false_eq_true, eq_self, Nat.reduceAdd, Nat.reduceSub, Nat.reduceMul, Nat.reduceLT, Nat.reduceLeDiff, Nat.reduceEqDiff, Int.reduceNeg, Int.reduceEq, Int.reduceNe, Int.reduceBEq, Int.reduceBNe, Int.reduceLT, Int.reduceLE, Int.reduceGT, Int.reduceAdd, reduceIte, Bool.not_true, Bool.not_false, decide_true, decide_false, ne_eq, not_false_eq_true, not_true_eq_false]
    refine rblown_ok hk h (by omega) hD.fuse hd fun H1 h1 hev1 => ?_
    have hev1 := hev1.mono fun _ => own_of_at1 (k := k) (j := 0)
    by_cases hf : D.fuse = 1
    · rw [if_pos hf] at hK ⊢
      simp only [cellH_mk, cellO_some, add_mk, size_upd, upd_upd, one_int, one_bool, one_string, one_pointer, one_slice, one_map, one_func, st1_some, stN_nil, stN_cons, StV_mk, StO_some, Ld_some, RtI_mk, RtB_mk, RtS_mk, RtP_mk, RtL_mk, RtM_mk, RtA_mk, RtT_mk, NilC_some, New_eq, At_eq, Ck_true, Rt0_mk, BrB_true, BrB_false, Nat.zero_add, List.length_cons, List.length_nil, List.getElem?_cons_zero, List.getElem?_cons_succ, List.set_cons_zero, List.set_cons_succ, List.getD_cons_zero, List.getD_cons_succ, Option.isNone_some, Option.isNone_none, Go.Disk.fsO, Go.Disk.fileO, Bool.false_eq_true, eq_self, Nat.reduceAdd, Nat.reduceSub, Nat.reduceMul, Nat.reduceLT, Nat.reduceLeDiff, Nat.reduceEqDiff, Int.reduceNeg, Int.reduceEq, Int.reduceNe, Int.reduceBEq, Int.reduceBNe, Int.reduceLT, Int.reduceLE, Int.reduceGT, Int.reduceAdd, reduceIte, Bool.not_true, Bool.not_false, decide_true, decide_false, ne_eq, not_false_eq_true, not_true_eq_false]
      refine ⟨fun H' => H' = H1, ?_, rfl⟩
      rintro fr H' rfl
      exact hK H' C ⟨x, rfl, h1⟩ hev1
    · rw [if_neg hf] at hK ⊢
      simp only [cellH_mk, cellO_some, add_mk, size_upd, upd_upd, one_int, one_bool, one_string, one_pointer, one_slice, one_map, one_func, st1_some, stN_nil, stN_cons, StV_mk, StO_some, Ld_some, RtI_mk, RtB_mk, RtS_mk, RtP_mk, RtL_mk, RtM_mk, RtA_mk, RtT_mk, NilC_some, New_eq, At_eq, Ck_true, Rt0_mk, BrB_true, BrB_false, Nat.zero_add, List.length_cons, List.length_nil, List.getElem?_cons_zero, List.getElem?_cons_succ, List.set_cons_zero, List.set_cons_succ, List.getD_cons_zero, List.getD_cons_succ, Option.isNone_some, Option.isNone_none, Go.Disk.fsO, Go.Disk.fileO, Bool.false_eq_true, eq_self, Nat.reduceAdd, Nat.reduceSub, Nat.reduceMul, Nat.reduceLT, Nat.reduceLeDiff, Nat.reduceEqDiff, Int.reduceNeg, Int.reduceEq, Int.reduceNe, Int.reduceBEq, Int.reduceBNe, Int.reduceLT, Int.reduceLE, Int.reduceGT, Int.reduceAdd, reduceIte, Bool.not_true, Bool.not_false, decide_true, decide_false, ne_eq, not_false_eq_true, not_true_eq_false]
      refine ⟨fun H' => ∃ C', IsRef H' C' k x.p (D.blow.syncBy n) ∧ Ev (own k) H C H' C', ?_, ?_⟩
      · rintro fr H' ⟨C', g1, g2⟩
        exact hK H' C' g1 g2
      have hp1 := h1.hp
      have hnb : D.blow.files[n]? = some f := hn
      obtain ⟨b, cs, e1, e2, e3, e4, e5, e6, e7⟩ := RFilesAt.open h1.files hnb
      rw [refX, e1] at hp1
      have hnl := (List.getElem?_eq_some_iff.1 hn).1
      have e5 : x.files.2.1 = D.files.length := e5
      simp only [cellH_mk, cellO_some, add_mk, size_upd, upd_upd, one_int, one_bool, one_string, one_pointer, one_slice, one_map, one_func, st1_some, stN_nil, stN_cons, StV_mk, StO_some, Ld_some, RtI_mk, RtB_mk, RtS_mk, RtP_mk, RtL_mk, RtM_mk, RtA_mk, RtT_mk, NilC_some, New_eq, At_eq, Ck_true, Rt0_mk, BrB_true, BrB_false, Nat.zero_add, List.length_cons, List.length_nil, List.getElem?_cons_zero, List.getElem?_cons_succ, List.set_cons_zero, List.set_cons_succ, List.getD_cons_zero, List.getD_cons_succ, Option.isNone_some, Option.isNone_none, Go.Disk.fsO, Go.Disk.fileO, Bool.false_eq_true, eq_self, Nat.reduceAdd, Nat.reduceSub, Nat.reduceMul, Nat.reduceLT, Nat.reduceLeDiff, Nat.reduceEqDiff, Int.reduceNeg, Int.reduceEq, Int.reduceNe, Int.reduceBEq, Int.reduceBNe, Int.reduceLT, Int.reduceLE, Int.reduceGT, Int.reduceAdd, reduceIte, Bool.not_true, Bool.not_false, decide_true, decide_false, ne_eq, not_false_eq_true, not_true_eq_false, hp1]
      obtain ⟨t, r, rc, g1, g2, g3, g4, g5, g6⟩ := e7.get hnb
      rw [Nat.zero_add] at g4
      have hc : ∀ j v, (cs.take (x.files.2.1 * 2))[j]? = some v → cs[j]? = some v := fun j v hv => by
        rw [List.getElem?_take] at hv
        split at hv
        · exact hv
        · cases hv
      have c1 := hc _ _ g1
      have c2 := hc _ _ g2
      refine Idx_i (by omega) (by omega) ?_
      rw [Int.toNat_natCast, Nat.zero_add]
      refine rnow_ok ⟨cs, _, _, t, r, rc, e3, c1, c2, g3, g4.r, g5, g6⟩ hfo.1 (by omega) fun nw H2 C2 hnw hev2 => ?_
      have hp2 := hev2.get hp1 fun h => h
      have e32 := hev2.get e3 fun h => h
      have h2 := h1.ev hev2 (fun _ _ h => h) fun _ h => h
      have ecb2 := (hev2.colOf e3).trans e2
      have e72 := RFiles.ev hev2 (fun _ _ h => h) (fun _ _ _ h => h) e7
      have hev2 := hev1.trans (hev2.mono fun _ h => h.elim)
      simp only [cellH_mk, cellO_some, add_mk, size_upd, upd_upd, one_int, one_bool, one_string, one_pointer, one_slice, one_map, one_func, st1_some, stN_nil, stN_cons, StV_mk, StO_some, Ld_some, RtI_mk, RtB_mk, RtS_mk, RtP_mk, RtL_mk, RtM_mk, RtA_mk, RtT_mk, NilC_some, New_eq, At_eq, Ck_true, Rt0_mk, BrB_true, BrB_false, Nat.zero_add, List.length_cons, List.length_nil, List.getElem?_cons_zero, List.getElem?_cons_succ, List.set_cons_zero, List.set_cons_succ, List.getD_cons_zero, List.getD_cons_succ, Option.isNone_some, Option.isNone_none, Go.Disk.fsO, Go.Disk.fileO, Bool.false_eq_true, eq_self, Nat.reduceAdd, Nat.reduceSub, Nat.reduceMul, Nat.reduceLT, Nat.reduceLeDiff, Nat.reduceEqDiff, Int.reduceNeg, Int.reduceEq, Int.reduceNe, Int.reduceBEq, Int.reduceBNe, Int.reduceLT, Int.reduceLE, Int.reduceGT, Int.reduceAdd, reduceIte, Bool.not_true, Bool.not_false, decide_true, decide_false, ne_eq, not_false_eq_true, not_true_eq_false, hp2]
      refine Idx_i (by omega) (by omega) ?_
      rw [Int.toNat_natCast, Nat.zero_add]
      have hlt : n * 2 < cs.length := by omega
      have hlt2 : n * 2 + 1 < cs.length := by omega
      simp only [cellH_mk, cellO_some, add_mk, size_upd, upd_upd, one_int, one_bool, one_string, one_pointer, one_slice, one_map, one_func, st1_some, stN_nil, stN_cons, StV_mk, StO_some, Ld_some, RtI_mk, RtB_mk, RtS_mk, RtP_mk, RtL_mk, RtM_mk, RtA_mk, RtT_mk, NilC_some, New_eq, At_eq, Ck_true, Rt0_mk, BrB_true, BrB_false, Nat.zero_add, List.length_cons, List.length_nil, List.getElem?_cons_zero, List.getElem?_cons_succ, List.set_cons_zero, List.set_cons_succ, List.getD_cons_zero, List.getD_cons_succ, Option.isNone_some, Option.isNone_none, Go.Disk.fsO, Go.Disk.fileO, Bool.false_eq_true, eq_self, Nat.reduceAdd, Nat.reduceSub, Nat.reduceMul, Nat.reduceLT, Nat.reduceLeDiff, Nat.reduceEqDiff, Int.reduceNeg, Int.reduceEq, Int.reduceNe, Int.reduceBEq, Int.reduceBNe, Int.reduceLT, Int.reduceLE, Int.reduceGT, Int.reduceAdd, reduceIte, Bool.not_true, Bool.not_false, decide_true, decide_false, ne_eq, not_false_eq_true, not_true_eq_false, e32, hlt, List.length_set, hlt2]
      have hb4 := get_upd_of (o' := .cells ⟨(cs.set (n * 2) (.slice nw.1 nw.2.1 nw.2.2)).set (n * 2 + 1) (.slice none 0 0)⟩ 110 (0, 0)) e32
      have hev4 : Ev (at1 (k, 1)) H2 C2 (upd H2 b (.cells ⟨(cs.set (n * 2) (.slice nw.1 nw.2.1 nw.2.2)).set (n * 2 + 1) (.slice none 0 0)⟩ 110 (0, 0))) C2 := ev_upd ecb2 _
      have hfiles := RFilesAt.write (s := x.files) (n := n) (f := f) (g := { f with sure := f.now, row := [] }) (t := nw) (r := (none, 0, 0)) hev4 (at1_no0 hk) (fun j hj => at1_ne (by omega)) e1 ecb2 e4 e5 e6 e72 hn hb4 (hnw.ev hev4 (at1_no0 hk)) (SlO.nil _ _ _ _ _) rfl rfl
      have hfiles : RFilesAt _ C2 k x.files (D.files.set n { f with sure := f.now, row := [] }) := hfiles
      rw [← modify_set (g := fun f => { f with sure := f.now, row := [] }) hn] at hfiles
      have hp4 := hev4.get hp2 (by rw [h2.cp]; exact at1_ne (by omega))
      refine ⟨C2, ⟨x, rfl, ⟨h2.cp, by rw [hp4, refX, e1]; rfl, hfiles, h2.sure.ev hev4 (at1_no0 hk), h2.row.ev hev4 (at1_no0 hk) (at1_ne (by omega)), h2.seen.ev hev4 (at1_no0 hk)⟩⟩, hev2.trans (hev4.mono fun _ => own_of_at1)⟩

theorem rCreate_ok {name : Name} (hk : k ≠ 0) (h : IsRef H C k p D) (hD : DiskOk D) (ha : D.acts < 2 ^ 39) (hs : name.size < 2 ^ 62)
    (hK : ∀ H' C', IsRef H' C' k p (dCreate name D).2 → Ev (own k) H C H' C' → K (.int .i64 (dCreate name D).1) H') :
    Fn 60 [.pointer (some ⟨p, 0, none⟩), .string name] H K := by
  obtain ⟨x, rfl, h⟩ := h
  refine F60_ok _ _ ?_
  unfold F60
  have hdl := hD.seen.2.1
  have hnf := hD.nfiles
  have hlen := h.seen.len
  unfold dCreate at hK
  have hp := h.hp
  rw [refX] at hp
  simp only [cellH_mk, cellO_some, add_mk, size_upd, upd_upd, one_int, one_bool, one_string, one_pointer, one_slice, one_map, one_func, st1_some, stN_nil, stN_cons, StV_mk, StO_some, Ld_some, RtI_mk, RtB_mk, RtS_mk, RtP_mk, RtL_mk, RtM_mk, RtA_mk, RtT_mk, NilC_some, New_eq, At_eq, Ck_true, Rt0_mk, BrB_true, BrB_false, Nat.zero_add, List.length_cons, List.length_nil, List.getElem?_cons_zero, List.getElem?_cons_succ, List.set_cons_zero, List.set_cons_succ, List.getD_cons_zero, List.getD_cons_succ, Option.isNone_some, Option.isNone_none, Go.Disk.fsO, Go.Disk.fileO, Bool.false_eq_true, eq_self, Nat.reduceAdd, Nat.reduceSub, Nat.reduceMul, Nat.reduceLT, Nat.reduceLeDiff, Nat.reduceEqDiff, Int.reduceNeg, Int.reduceEq, Int.reduceNe, Int.reduceBEq, Int.reduceBNe, Int.reduceLT, Int.reduceLE, Int.reduceGT, Int.reduceAdd, reduceIte, Bool.not_true, Bool.not_false, decide_true, decide_false, ne_eq, not_false_eq_true, not_true_eq_false, hp]
  cases hd : D.dead with
  | true =>
    rw [if_pos hd] at hK; simp only [cellH_mk, cellO_some, add_mk, size_upd, upd_upd, one_int, one_bool, one_string, one_pointer, one_slice, one_map, one_func, st1_some, stN_nil, stN_cons, StV_mk, StO_some, Ld_some, RtI_mk, RtB_mk, RtS_mk, RtP_mk, RtL_mk, RtM_mk, RtA_mk, RtT_mk, NilC_some, New_eq, At_eq, Ck_true, Rt0_mk, BrB_true, BrB_false, Nat.zero_add, List.length_cons, List.length_nil, List.getElem?_cons_zero, List.getElem?_cons_succ, List.set_cons_zero, List.set_cons_succ, List.getD_cons_zero, List.getD_cons_succ, Option.isNone_some, Option.isNone_none, Go.Disk.fsO, Go.Disk.fileO, Bool.false_eq_true, eq_self, Nat.reduceAdd, Nat.reduceSub, Nat.reduceMul, Nat.reduceLT, Nat.reduceLeDiff, Nat.reduceEqDiff, Int.reduceNeg, Int.reduceEq, Int.reduceNe, Int.reduceBEq, Int.reduceBNe, Int.reduceLT, Int.reduceLE, Int.reduceGT, Int.reduceAdd, reduceIte, Bool.not_true, Bool.not_false, decide_true, decide_false, ne_eq, not_false_eq_true, not_true_eq_false]; exact hK H C ⟨x, rfl, h⟩ (Ev.refl _ _ _)
  | false =>
    rw [if_neg (by rw [hd]; simp)] at hK
    simp only [cellH_mk, cellO_some, add_mk, size_upd, upd_upd, one_int, one_bool, one_string, one_pointer, one_slice, one_map, one_func, st1_some, stN_nil, stN_cons, StV_mk, StO_some, Ld_some, RtI_mk, RtB_mk, RtS_mk, RtP_mk, RtL_mk, RtM_mk, RtA_mk, RtT_mk, NilC_some, New_eq, At_eq, Ck_true, Rt0_mk, BrB_true, BrB_false, Nat.zero_add, List.length_cons, List.length_nil, List.getElem?_cons_zero, List.getElem?_cons_succ, List.set_cons_zero, List.set_cons_succ, List.getD_cons_zero, List.getD_cons_succ, Option.isNone_some, Option.isNone_none, Go.Disk.fsO, Go.Disk.fileO, Bool.false_eq_true, eq_self, Nat.reduceAdd, Nat.reduceSub, Nat.reduceMul, Nat.reduceLT, Nat.reduceLeDiff, Nat.reduceEqDiff, Int.reduceNeg, Int.reduceEq, Int.reduceNe, Int.reduceBEq, Int.reduceBNe, Int.reduceLT, Int.reduceLE, Int.reduceGT, Int.reduceAdd, reduceIte, Bool.not_true, Bool.not_false, decide_true, decide_false, ne_eq, not_false_eq_true, not_true_eq_false]
    refine rname_ok hs ?_
    simp only [cellH_mk, cellO_some, add_mk, size_upd, upd_upd, one_int, one_bool, one_string, one_pointer, one_slice, one_map, one_func, st1_some, stN_nil, stN_cons, StV_mk, StO_some, Ld_some, RtI_mk, RtB_mk, RtS_mk, RtP_mk, RtL_mk, RtM_mk, RtA_mk, RtT_mk, NilC_some, New_eq, At_eq, Ck_true, Rt0_mk, BrB_true, BrB_false, Nat.zero_add, List.length_cons, List.length_nil, List.getElem?_cons_zero, List.getElem?_cons_succ, List.set_cons_zero, List.set_cons_succ, List.getD_cons_zero, List.getD_cons_succ, Option.isNone_some, Option.isNone_none, Go.Disk.fsO, Go.Disk.fileO, Bool.false_eq_true, eq_self, Nat.reduceAdd, Nat.reduceSub, Nat.reduceMul, Nat.reduceLT, Nat.reduceLeDiff, Nat.reduceEqDiff, Int.reduceNeg, Int.reduceEq, Int.reduceNe, Int.reduceBEq, Int.reduceBNe, Int.reduceLT, Int.reduceLE, Int.reduceGT, Int.reduceAdd, reduceIte, Bool.not_true, Bool.not_false, decide_true, decide_false, ne_eq, not_false_eq_true, not_true_eq_false]
    refine BrB_i (fun hb => ?_) (fun hb => ?_)
    · rw [if_pos hb] at hK
      exact hK H C ⟨x, rfl, h⟩ (Ev.refl _ _ _)
    rw [if_neg (by rw [hb]; simp)] at hK
    simp only [cellH_mk, cellO_some, add_mk, size_upd, upd_upd, one_int, one_bool, one_string, one_pointer, one_slice, one_map, one_func, st1_some, stN_nil, stN_cons, StV_mk, StO_some, Ld_some, RtI_mk, RtB_mk, RtS_mk, RtP_mk, RtL_mk, RtM_mk, RtA_mk, RtT_mk, NilC_some, New_eq, At_eq, Ck_true, Rt0_mk, BrB_true, BrB_false, Nat.zero_add, List.length_cons, List.length_nil, List.getElem?_cons_zero, List.getElem?_cons_succ, List.set_cons_zero, List.set_cons_succ, List.getD_cons_zero, List.getD_cons_succ, Option.isNone_some, Option.isNone_none, Go.Disk.fsO, Go.Disk.fileO, Bool.false_eq_true, eq_self, Nat.reduceAdd, Nat.reduceSub, Nat.reduceMul, Nat.reduceLT, Nat.reduceLeDiff, Nat.reduceEqDiff, Int.reduceNeg, Int.reduceEq, Int.reduceNe, Int.reduceBEq, Int.reduceBNe, Int.reduceLT, Int.reduceLE, Int.reduceGT, Int.reduceAdd, reduceIte, Bool.not_true, Bool.not_false, decide_true, decide_false, ne_eq, not_false_eq_true, not_true_eq_false, hp]
    refine rfind_ok h.seen (by omega) (fun hg => ?_) fun i n hi hg => ?_
    rotate_left
    · simp only [cellH_mk, cellO_some, add_mk, size_upd, upd_upd, one_int, one_bool, one_string, one_pointer, one_slice, one_map, one_func, st1_some, stN_nil, stN_cons, StV_mk, StO_some, Ld_some, RtI_mk, RtB_mk, RtS_mk, RtP_mk, RtL_mk, RtM_mk, RtA_mk, RtT_mk, NilC_some, New_eq, At_eq, Ck_true, Rt0_mk, BrB_true, BrB_false, Nat.zero_add, List.length_cons, List.length_nil, List.getElem?_cons_zero, List.getElem?_cons_succ, List.set_cons_zero, List.set_cons_succ, List.getD_cons_zero, List.getD_cons_succ, Option.isNone_some, Option.isNone_none, Go.Disk.fsO, Go.Disk.fileO, Bool.false_eq_true, eq_self, Nat.reduceAdd, Nat.reduceSub, Nat.reduceMul, Nat.reduceLT, Nat.reduceLeDiff, Nat.reduceEqDiff, Int.reduceNeg, Int.reduceEq, Int.reduceNe, Int.reduceBEq, Int.reduceBNe, Int.reduceLT, Int.reduceLE, Int.reduceGT, Int.reduceAdd, reduceIte, Bool.not_true, Bool.not_false, decide_true, decide_false, ne_eq, not_false_eq_true, not_true_eq_false]
      rw [hg, if_pos (show (some n).isSome = true from rfl)] at hK
      refine BrB_i (fun _ => hK H C ⟨x, rfl, h⟩ (Ev.refl _ _ _)) fun h => by have := of_decide_eq_false h; omega
    rw [hg, if_neg (by simp)] at hK
    simp only [cellH_mk, cellO_some, add_mk, size_upd, upd_upd, one_int, one_bool, one_string, one_pointer, one_slice, one_map, one_func, st1_some, stN_nil, stN_cons, StV_mk, StO_some, Ld_some, RtI_mk, RtB_mk, RtS_mk, RtP_mk, RtL_mk, RtM_mk, RtA_mk, RtT_mk, NilC_some, New_eq, At_eq, Ck_true, Rt0_mk, BrB_true, BrB_false, Nat.zero_add, List.length_cons, List.length_nil, List.getElem?_cons_zero, List.getElem?_cons_succ, List.set_cons_zero, List.set_cons_succ, List.getD_cons_zero, List.getD_cons_succ, Option.isNone_some, Option.isNone_none, Go.Disk.fsO, Go.Disk.fileO, Bool.false_eq_true, eq_self, Nat.reduceAdd, Nat.reduceSub, Nat.reduceMul, Nat.reduceLT, Nat.reduceLeDiff, Nat.reduceEqDiff, Int.reduceNeg, Int.reduceEq, Int.reduceNe, Int.reduceBEq, Int.reduceBNe, Int.reduceLT, Int.reduceLE, Int.reduceGT, Int.reduceAdd, reduceIte, Bool.not_true, Bool.not_false, decide_true, decide_false, ne_eq, not_false_eq_true, not_true_eq_false]
    refine BrB_i (fun h => by have := of_decide_eq_true h; omega) (fun _ => ?_)
    simp only [cellH_mk, cellO_some, add_mk, size_upd, upd_upd, one_int, one_bool, one_string, one_pointer, one_slice, one_map, one_func, st1_some, stN_nil, stN_cons, StV_mk, StO_some, Ld_some, RtI_mk, RtB_mk, RtS_mk, RtP_mk, RtL_mk, RtM_mk, RtA_mk, RtT_mk, NilC_some, New_eq, At_eq, Ck_true, Rt0_mk, BrB_true, BrB_false, Nat.zero_add, List.length_cons, List.length_nil, List.getElem?_cons_zero, List.getElem?_cons_succ, List.set_cons_zero, List.set_cons_succ, List.getD_cons_zero, List.getD_cons_succ, Option.isNone_some, Option.isNone_none, Go.Disk.fsO, Go.Disk.fileO, Bool.false_eq_true, eq_self, Nat.reduceAdd, Nat.reduceSub, Nat.reduceMul, Nat.reduceLT, Nat.reduceLeDiff, Nat.reduceEqDiff, Int.reduceNeg, Int.reduceEq, Int.reduceNe, Int.reduceBEq, Int.reduceBNe, Int.reduceLT, Int.reduceLE, Int.reduceGT, Int.reduceAdd, reduceIte, Bool.not_true, Bool.not_false, decide_true, decide_false, ne_eq, not_false_eq_true, not_true_eq_false, hp]
    refine BrB_i (fun h64 => ?_) (fun h64 => ?_)
    · have h64 := of_decide_eq_true h64
      rw [if_pos (by omega)] at hK
      exact hK H C ⟨x, rfl, h⟩ (Ev.refl _ _ _)
    have h64 := of_decide_eq_false h64
    rw [if_neg (by omega)] at hK
    have hK := fin_if hK
    simp only [cellH_mk, cellO_some, add_mk, size_upd, upd_upd, one_int, one_bool, one_string, one_pointer, one_slice, one_map, one_func, st1_some, stN_nil, stN_cons, StV_mk, StO_some, Ld_some, RtI_mk, RtB_mk, RtS_mk, RtP_mk, RtL_mk, RtM_mk, RtA_mk, RtT_mk, NilC_some, New_eq, At_eq, Ck_true, Rt0_mk, BrB_true, BrB_false, Nat.zero_add, List.length_cons, List.length_nil, List.getElem?_cons_zero, List.getElem?_cons_succ, List.set_cons_zero, List.set_cons_succ, List.getD_cons_zero, List.getD_cons_succ, Option.isNone_some, Option.isNone_none, Go.Disk.fsO, Go.Disk.fileO, Bool.false_eq_true, eq_self, Nat.reduceAdd, Nat.reduceSub, Nat.reduceMul, Nat.reduceLT, Nat.reduceLeDiff, Nat.reduceEqDiff, Int.reduceNeg, Int.reduceEq, Int.reduceNe, Int.reduceBEq, Int.reduceBNe, Int.reduceLT, Int.reduceLE, Int.reduceGT, Int.reduceAdd, reduceIte, Bool.not_true, Bool.not_false, decide_true, decide_false, ne_eq, not_false_eq_true, not_true_eq_false, hp]
    obtain ⟨fc, hfo, hff, hfl⟩ := h.files
    refine build_oneK und98 tyf110 (by rfl) (by rfl) (by omega) (by omega) ?_
    have hev1 := ev_push no H C (.cells (Value.cells (.agg ⟨[.slice none 0 0, .slice none 0 0]⟩)) 110) (0, 0)
    have hsrc := SrcH_one (s := 2) (get_push_self H (.cells (Value.cells (.agg ⟨[.slice none 0 0, .slice none 0 0]⟩)) 110)) rfl
    have hp1 := hev1.get hp fun h => h
    have hcp1 := (hev1.colOf hp).trans h.cp
    have hfo1 := hfo.ev hev1 fun h => h
    have hff1 := RFiles.ev hev1 (fun _ _ h => h) (fun _ _ _ h => h) hff
    have hsu1 := h.sure.ev hev1 fun _ _ h => h
    have hse1 := h.seen.ev hev1 fun _ _ h => h
    have hro1 := h.row.ev hev1 (fun _ _ h => h) fun h => h
    have hev1 : Ev (own k) H C _ _ := hev1.mono fun _ h => h.elim
    generalize hnbe : H.size = nb at *
    generalize H.push _ = H1 at *
    generalize setC C nb (0, 0) = C1 at *
    simp only [cellH_mk, cellO_some, add_mk, size_upd, upd_upd, one_int, one_bool, one_string, one_pointer, one_slice, one_map, one_func, st1_some, stN_nil, stN_cons, StV_mk, StO_some, Ld_some, RtI_mk, RtB_mk, RtS_mk, RtP_mk, RtL_mk, RtM_mk, RtA_mk, RtT_mk, NilC_some, New_eq, At_eq, Ck_true, Rt0_mk, BrB_true, BrB_false, Nat.zero_add, List.length_cons, List.length_nil, List.getElem?_cons_zero, List.getElem?_cons_succ, List.set_cons_zero, List.set_cons_succ, List.getD_cons_zero, List.getD_cons_succ, Option.isNone_some, Option.isNone_none, Go.Disk.fsO, Go.Disk.fileO, Bool.false_eq_true, eq_self, Nat.reduceAdd, Nat.reduceSub, Nat.reduceMul, Nat.reduceLT, Nat.reduceLeDiff, Nat.reduceEqDiff, Int.reduceNeg, Int.reduceEq, Int.reduceNe, Int.reduceBEq, Int.reduceBNe, Int.reduceLT, Int.reduceLE, Int.reduceGT, Int.reduceAdd, reduceIte, Bool.not_true, Bool.not_false, decide_true, decide_false, ne_eq, not_false_eq_true, not_true_eq_false]
    refine app_ownK (lab := (k, 1)) (new := [.slice none 0 0, .slice none 0 0]) und98 und98 (.inl ⟨_, rfl⟩) tyf110 (by rfl) hsrc (by rfl) (by intro v hv; simp at hv; rcases hv with rfl | rfl <;> rfl) hfo1 (by omega) (by omega) fun a3 c3 H3 C3 hs3 hev3 _ => ?_
    have hp3 := hev3.get hp1 (by rw [hcp1]; exact at1_ne (by omega))
    have hcp3 := (hev3.colOf hp1).trans hcp1
    have hff3 := RFiles.snoc (f := ⟨[], [], []⟩) (s := (none, 0, 0)) (r := (none, 0, 0)) (rc := []) (RFiles.ev hev3 (at1_no0 hk) (fun j _ _ => at1_ne (by omega)) hff1) (SlI.nil _ _ _) (SlO.nil _ _ _ _ _) rfl rfl
    have hsu3 := hsu1.ev hev3 (at1_no0 hk)
    have hse3 := hse1.ev hev3 (at1_no0 hk)
    have hro3 := hro1.ev hev3 (at1_no0 hk) (at1_ne (by omega))
    have hev3 := hev1.trans (hev3.mono fun _ => own_of_at1)
    have hl3 := lt_of_get hp3
    have hln : (D.files ++ [(⟨[], [], []⟩ : FileA)]).length = D.files.length + 1 := by simp
    obtain ⟨q1, q2⟩ := RefAt.put (x := x) (x' := { x with files := (a3, x.files.2.1 + 1, c3) }) (D' := { D with files := D.files ++ [⟨[], [], []⟩] }) hk hcp3 hp3 rfl ⟨_, hs3, hff3, by
      show x.files.2.1 + 1 = (D.files ++ [_]).length
      rw [hln]; omega⟩ hsu3 hro3 hse3
    have hp4 := q1.hp
    have hev4 := hev3.trans (q2.mono fun _ => own_of_at1)
    rw [refX] at hp4 q1 hev4
    simp only [cellH_mk, cellO_some, add_mk, size_upd, upd_upd, one_int, one_bool, one_string, one_pointer, one_slice, one_map, one_func, st1_some, stN_nil, stN_cons, StV_mk, StO_some, Ld_some, RtI_mk, RtB_mk, RtS_mk, RtP_mk, RtL_mk, RtM_mk, RtA_mk, RtT_mk, NilC_some, New_eq, At_eq, Ck_true, Rt0_mk, BrB_true, BrB_false, Nat.zero_add, List.length_cons, List.length_nil, List.getElem?_cons_zero, List.getElem?_cons_succ, List.set_cons_zero, List.set_cons_succ, List.getD_cons_zero, List.getD_cons_succ, Option.isNone_some, Option.isNone_none, Go.Disk.fsO, Go.Disk.fileO, Bool.false_eq_true, eq_self, Nat.reduceAdd, Nat.reduceSub, Nat.reduceMul, Nat.reduceLT, Nat.reduceLeDiff, Nat.reduceEqDiff, Int.reduceNeg, Int.reduceEq, Int.reduceNe, Int.reduceBEq, Int.reduceBNe, Int.reduceLT, Int.reduceLE, Int.reduceGT, Int.reduceAdd, reduceIte, Bool.not_true, Bool.not_false, decide_true, decide_false, ne_eq, not_false_eq_true, not_true_eq_false, hp3, get_upd_self, hl3]
    have w1 : IntKind.wrap .i64 (((x.files.2.1 + 1 : Nat) : Int) - 1) = (D.files.length : Int) := by rw [w64 (by omega) (by omega)]; omega
    rw [w1]
    refine rwith_ok q1.seen hD.seen.1 (by show D.seen.length < _; omega) (dget_none.1 hg) fun t5 H5 C5 ht5 hev5 => ?_
    have q5 := q1.ev hev5 (fun _ _ h => h) fun _ h => h
    have hev5 := hev4.trans (hev5.mono fun _ h => h.elim)
    have hm : (⟨0, str [], name, D.files.length⟩ : Mv).app D.seen = dput name D.files.length D.seen := by
      unfold Mv.app
      rw [if_pos rfl]
    simp only [cellH_mk, cellO_some, add_mk, size_upd, upd_upd, one_int, one_bool, one_string, one_pointer, one_slice, one_map, one_func, st1_some, stN_nil, stN_cons, StV_mk, StO_some, Ld_some, RtI_mk, RtB_mk, RtS_mk, RtP_mk, RtL_mk, RtM_mk, RtA_mk, RtT_mk, NilC_some, New_eq, At_eq, Ck_true, Rt0_mk, BrB_true, BrB_false, Nat.zero_add, List.length_cons, List.length_nil, List.getElem?_cons_zero, List.getElem?_cons_succ, List.set_cons_zero, List.set_cons_succ, List.getD_cons_zero, List.getD_cons_succ, Option.isNone_some, Option.isNone_none, Go.Disk.fsO, Go.Disk.fileO, Bool.false_eq_true, eq_self, Nat.reduceAdd, Nat.reduceSub, Nat.reduceMul, Nat.reduceLT, Nat.reduceLeDiff, Nat.reduceEqDiff, Int.reduceNeg, Int.reduceEq, Int.reduceNe, Int.reduceBEq, Int.reduceBNe, Int.reduceLT, Int.reduceLE, Int.reduceGT, Int.reduceAdd, reduceIte, Bool.not_true, Bool.not_false, decide_true, decide_false, ne_eq, not_false_eq_true, not_true_eq_false]
    refine rturn_ok (m := ⟨0, str [], name, D.files.length⟩) (D := { D with files := D.files ++ [⟨[], [], []⟩] }) (x := { x with files := (a3, x.files.2.1 + 1, c3) }) hk q5 hD.row hD.path.fold2 ha hD.fuse hd (by rw [show ({ D with files := D.files ++ [⟨[], [], []⟩] } : Disk).seen = D.seen from rfl, hm]; exact ht5) fun H6 C6 h6 hev6 => ?_
    simp only [cellH_mk, cellO_some, add_mk, size_upd, upd_upd, one_int, one_bool, one_string, one_pointer, one_slice, one_map, one_func, st1_some, stN_nil, stN_cons, StV_mk, StO_some, Ld_some, RtI_mk, RtB_mk, RtS_mk, RtP_mk, RtL_mk, RtM_mk, RtA_mk, RtT_mk, NilC_some, New_eq, At_eq, Ck_true, Rt0_mk, BrB_true, BrB_false, Nat.zero_add, List.length_cons, List.length_nil, List.getElem?_cons_zero, List.getElem?_cons_succ, List.set_cons_zero, List.set_cons_succ, List.getD_cons_zero, List.getD_cons_succ, Option.isNone_some, Option.isNone_none, Go.Disk.fsO, Go.Disk.fileO, Bool.false_eq_true, eq_self, Nat.reduceAdd, Nat.reduceSub, Nat.reduceMul, Nat.reduceLT, Nat.reduceLeDiff, Nat.reduceEqDiff, Int.reduceNeg, Int.reduceEq, Int.reduceNe, Int.reduceBEq, Int.reduceBNe, Int.reduceLT, Int.reduceLE, Int.reduceGT, Int.reduceAdd, reduceIte, Bool.not_true, Bool.not_false, decide_true, decide_false, ne_eq, not_false_eq_true, not_true_eq_false]
    exact hK H6 C6 h6 (hev5.trans hev6)
end
end Go.Proofs

namespace Go.Fx
open Go Go.Disk
set_option linter.unusedVariables false
section
variable {P : Program}
/-- What all cells of a slice's row are, the spare ones too. -/
def AllCells (H : Heap) (a : Option Addr) (c : Nat) (Q : Value → Prop) : Prop := c < 2 ^ 63 ∧ ∀ b cs t fz, a = some ⟨b, 0, none⟩ → H[b]? = some (.cells ⟨cs⟩ t fz) → ∀ v ∈ cs, Q v
theorem app_copyZ {T T' e ty : TypeId} {d' : TypeDesc} {z : Value} {s b : Nat} {H : Heap} {C : Col} {lab : Lab} {n : Nat} {x : Value} {new : List Value} {Q : Value → Prop} {K : Value → Heap → Prop}
    (hT : P.underlying T = some (.slice e)) (hT' : P.underlying T' = some d') (hd : (∃ e', d' = .slice e') ∨ d' = .string) (hi : TyF P e z s b) (hzs : z.cells.size = s)
    (hx : SrcH H s x n new) (hn : new.length = n * s) (hb : (2 * n + 768) * b ≤ 2 ^ 48) (hn2 : n < 2 ^ 63) (hQ : ∀ v ∈ new, Q v) (hz : ∀ v ∈ z.cells, Q v)
    (hK : ∀ a' c' H' C', SlO H' C' lab e s a' n c' new → AllCells H' a' c' Q → Ev no H C H' C' → K (.slice a' n c') H') :
    Smk P (Builtin.append_ #[T, T'] ty ⟨[.slice none 0 0, x]⟩) H K := by
  obtain ⟨i, h1, h2, rfl, rfl⟩ := hi
  have hsrc : SrcH H i.size (.slice none 0 0) 0 [] := ⟨rfl, rfl⟩
  unfold Smk Sm
  refine append_wp hT hT' hd h1 h2 hx hsrc (by simpa using hb) (by simpa using hn2) (fun hle => ?_) (fun hlt nc hnc hnl => ?_)
  · have hn0 : n = 0 := by omega
    subst hn0
    have : new = [] := List.eq_nil_of_length_eq_zero (by simpa using hn)
    subst this
    exact hK none 0 H C (SlO.nil _ _ _ _ _) ⟨by omega, fun b cs t fz h => (nomatch h)⟩ (Ev.refl _ _ _)
  · rw [Nat.zero_add] at hlt hnc ⊢
    have harr : ((⟨[]⟩ : Array Value) ++ ⟨new⟩ ++ Builtin.zeroCells z.cells (nc - n)) = ⟨new ++ (Builtin.zeroCells z.cells (nc - n)).toList⟩ := by
      apply Array.ext'; simp
    rw [harr]
    have hzl : (Builtin.zeroCells z.cells (nc - n)).toList.length = (nc - n) * i.size := by
      simp [Builtin.zeroCells, hzs]
    refine hK _ nc _ (setC C H.size lab) ⟨hn, hnc, .inr ⟨H.size, _, rfl, setC_self _ _ _, get_push_self _ _, ?_, ?_⟩⟩ ⟨hnl, fun b cs t fz e1 e2 v hv => ?_⟩ (ev_push _ _ _ _ _)
    · rw [List.length_append, hn, hzl, ← Nat.add_mul]
      congr 1; omega
    · rw [List.take_append_of_le_length (by rw [hn]; exact Nat.le_refl _), List.take_of_length_le (by rw [hn]; exact Nat.le_refl _)]
    · cases e1
      rw [get_push_self] at e2
      cases e2
      rcases List.mem_append.1 hv with h | h
      · exact hQ v h
      · refine hz v ?_
        simp only [Builtin.zeroCells, Array.toList_map, List.mem_map, Array.toList_range] at h
        obtain ⟨k, hk, rfl⟩ := h
        by_cases h0 : z.cells.size = 0
        · have := List.mem_range.1 hk
          rw [h0, Nat.mul_zero] at this
          omega
        · have hlt : k % z.cells.size < z.cells.size := Nat.mod_lt _ (by omega)
          rw [getElem!_pos z.cells _ hlt]
          exact Array.getElem_mem hlt
theorem xor_rd {t : TypeId} {x y : Operand} {k : IntKind} {a b : Int} {H : Heap} : ∃ c : Int, Rd P (eqGuard .xor t x y (.int k a) (.int k b) >>= fun _ => binOp .xor t (.int k a) (.int k b)) H (.int k c) := by
  refine ⟨k.wrap (BitVec.ofInt k.bits a ^^^ BitVec.ofInt k.bits b).toNat, fun w hw => ?_⟩
  simp [eqGuard, binOp, Op.intBits]
end
end Go.Fx
