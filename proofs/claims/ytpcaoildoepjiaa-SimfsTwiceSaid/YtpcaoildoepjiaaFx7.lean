/- A proof layer over heaps, and contracts of the printed functions; no statement of the seat is proved here. -/
import Derived.Test.YtpcaoildoepjiaaFx6
set_option linter.unusedVariables false
set_option linter.unusedSimpArgs false
set_option linter.unusedSectionVars false

namespace Go.Disk
open Go Go.Fx
set_option linter.unusedVariables false
theorem remAll_calm {fs : List FileA} (hf : ∀ f ∈ fs, f.row = []) : ∀ (ps : Dir) (zs : List Int), (remAll fs ps zs).1 = ps.map fun p => ((fs[p.2]?).getD noFile).sure
  | [], zs => rfl
  | p :: ps, zs => by
    show (remOf ((fs[p.2]?).getD noFile) zs).1 :: (remAll fs ps _).1 = _ :: _
    rw [remAll_calm hf ps]
    congr 1
    show (remOf ((fs[p.2]?).getD noFile) zs).1 = ((fs[p.2]?).getD noFile).sure
    have hrow : ((fs[p.2]?).getD noFile).row = [] := by
      cases h : fs[p.2]? with
      | none => rfl
      | some f => exact hf f (List.mem_of_getElem? h)
    generalize (fs[p.2]?).getD noFile = f at *
    unfold remOf
    simp [hrow]
theorem numbered_sure : ∀ (ns : List Name) (bs : List (List UInt8)) (pre : List FileA), bs.length = ns.length →
    (numbered pre.length ns).map (fun p => (((pre ++ bs.map fun b => (⟨b, b, []⟩ : FileA))[p.2]?).getD noFile).sure) = bs
  | [], bs, pre, h => by
    have : bs = [] := List.eq_nil_of_length_eq_zero h
    subst this; rfl
  | n :: ns, [], pre, h => by simp at h
  | n :: ns, b :: bs, pre, h => by
    have := numbered_sure ns bs (pre ++ [⟨b, b, []⟩]) (by simpa using h)
    simp only [List.length_append, List.length_singleton, List.append_assoc, List.singleton_append] at this
    show (((pre ++ (b :: bs).map fun b => (⟨b, b, []⟩ : FileA))[pre.length]?).getD noFile).sure :: _ = _
    rw [List.map_cons, List.getElem?_append_right (Nat.le_refl _), Nat.sub_self]
    exact congrArg (b :: ·) this
theorem dFail_calm (D : Disk) (cuts other : List Int) : dFail (dFail D cuts) other = dFail D cuts := by
  generalize hL : dFail D cuts = L
  have hrow : L.row = [] := by rw [← hL]; rfl
  have hf : ∀ f ∈ L.files, f.row = [] := by
    intro f h
    rw [← hL] at h
    obtain ⟨b, _, rfl⟩ := List.mem_map.1 h
    rfl
  have hafter : dirAfter L other = L.sure := by unfold dirAfter; rw [hrow]; simp
  unfold dFail
  dsimp only
  rw [hafter, remAll_calm hf]
  subst hL
  have hb := remAll_len D.files (dirAfter D cuts) (tk cuts (D.row.length + 1)).2
  have hk : ((dFail D cuts).sure.map (·.1)) = (dirAfter D cuts).map (·.1) := numbered_keys _ _
  have hs : (dFail D cuts).sure.map (fun p => ((((dFail D cuts).files)[p.2]?).getD noFile).sure) = (remAll D.files (dirAfter D cuts) (tk cuts (D.row.length + 1)).2).1 := by
    have := numbered_sure ((dirAfter D cuts).map (·.1)) (remAll D.files (dirAfter D cuts) (tk cuts (D.row.length + 1)).2).1 [] (by rw [hb, List.length_map])
    simpa [dFail] using this
  rw [hk, hs]
  rfl
end Go.Disk
namespace Go.Proofs
open Go Go.Fx Go.Disk
set_option linter.unusedVariables false
set_option maxRecDepth 20000

theorem fresh_back {S : Lab → Prop} {H H' : Heap} {C C' : Col} {k : Nat} (he : Ev S H C H' C') (hf : ∀ b, b < H'.size → (C' b).1 ≠ k) : ∀ b, b < H.size → (C b).1 ≠ k := fun b hb => by
  rw [← he.col b hb]; exact hf b (by have := he.size; omega)

theorem SimfsTwice_ok {H : Heap} {C : Col} {room : Int} {al acu am aot : Option Addr} {ll cl lcu ccu lm cm lot cot : Nat} {os ms : List OpA} {cuts other : List Int} {K : Value → Heap → Prop}
    (ho : OpsI H C al ll cl os) (hl2 : ll < 2 ^ 60) (hcu : SlI H C 1 acu lcu ccu (ints cuts)) (hl3 : ccu < 2 ^ 62) (hm : OpsI H C am lm cm ms) (hm2 : lm < 2 ^ 60) (hot : SlI H C 1 aot lot cot (ints other)) (hl4 : cot < 2 ^ 62)
    (hK : ∀ H' C', Ev no H C H' C' → K (.bool true) H') :
    Fn 11 [.int .i64 room, .slice al ll cl, .slice acu lcu ccu, .slice am lm cm, .slice aot lot cot] H K := by
  refine F11_ok _ _ _ _ _ _ _ _ _ _ _ _ _ ?_
  unfold F11
  have fin : ∀ {H2 : Heap} {C2 : Col}, Ev no H C H2 C2 → Fn 13 [] H2 (fun v H => RtB v fun b => K (.bool b) H) := fun he => works_ok fun H1 C1 hev => by
    simp only [cellH_mk, cellO_some, add_mk, size_upd, upd_upd, one_int, one_bool, one_string, one_pointer, one_slice, one_map, one_func, st1_some, stN_nil, stN_cons, StV_mk, StO_some, Ld_some, RtI_mk, RtB_mk, RtS_mk, RtP_mk, RtL_mk, RtM_mk, RtA_mk, RtT_mk, NilC_some, New_eq, At_eq, Ck_true, Rt0_mk, BrB_true, BrB_false, Nat.zero_add, List.length_cons, List.length_nil, List.getElem?_cons_zero, List.getElem?_cons_succ, List.set_cons_zero, List.set_cons_succ, List.getD_cons_zero, List.getD_cons_succ, Option.isNone_some, Option.isNone_none, Go.Disk.fsO, Go.Disk.fileO, Bool.false_eq_true, eq_self, Nat.reduceAdd, Nat.reduceSub, Nat.reduceMul, Nat.reduceLT, Nat.reduceLeDiff, Nat.reduceEqDiff, Int.reduceNeg, Int.reduceEq, Int.reduceNe, Int.reduceBEq, Int.reduceBNe, Int.reduceLT, Int.reduceLE, Int.reduceGT, Int.reduceAdd, reduceIte, Bool.not_true, Bool.not_false, decide_true, decide_false, ne_eq, not_false_eq_true, not_true_eq_false]
    exact hK H1 C1 (he.trans hev)
  by_cases hbad : room < 0 ∨ 1048576 < room
  · refine New_bad hbad ?_
    simp only [cellH_mk, cellO_some, add_mk, size_upd, upd_upd, one_int, one_bool, one_string, one_pointer, one_slice, one_map, one_func, st1_some, stN_nil, stN_cons, StV_mk, StO_some, Ld_some, RtI_mk, RtB_mk, RtS_mk, RtP_mk, RtL_mk, RtM_mk, RtA_mk, RtT_mk, NilC_some, New_eq, At_eq, Ck_true, Rt0_mk, BrB_true, BrB_false, Nat.zero_add, List.length_cons, List.length_nil, List.getElem?_cons_zero, List.getElem?_cons_succ, List.set_cons_zero, List.set_cons_succ, List.getD_cons_zero, List.getD_cons_succ, Option.isNone_some, Option.isNone_none, Go.Disk.fsO, Go.Disk.fileO, Bool.false_eq_true, eq_self, Nat.reduceAdd, Nat.reduceSub, Nat.reduceMul, Nat.reduceLT, Nat.reduceLeDiff, Nat.reduceEqDiff, Int.reduceNeg, Int.reduceEq, Int.reduceNe, Int.reduceBEq, Int.reduceBNe, Int.reduceLT, Int.reduceLE, Int.reduceGT, Int.reduceAdd, reduceIte, Bool.not_true, Bool.not_false, decide_true, decide_false, ne_eq, not_false_eq_true, not_true_eq_false]
    refine rNew_bad hbad ?_
    simp only [cellH_mk, cellO_some, add_mk, size_upd, upd_upd, one_int, one_bool, one_string, one_pointer, one_slice, one_map, one_func, st1_some, stN_nil, stN_cons, StV_mk, StO_some, Ld_some, RtI_mk, RtB_mk, RtS_mk, RtP_mk, RtL_mk, RtM_mk, RtA_mk, RtT_mk, NilC_some, New_eq, At_eq, Ck_true, Rt0_mk, BrB_true, BrB_false, Nat.zero_add, List.length_cons, List.length_nil, List.getElem?_cons_zero, List.getElem?_cons_succ, List.set_cons_zero, List.set_cons_succ, List.getD_cons_zero, List.getD_cons_succ, Option.isNone_some, Option.isNone_none, Go.Disk.fsO, Go.Disk.fileO, Bool.false_eq_true, eq_self, Nat.reduceAdd, Nat.reduceSub, Nat.reduceMul, Nat.reduceLT, Nat.reduceLeDiff, Nat.reduceEqDiff, Int.reduceNeg, Int.reduceEq, Int.reduceNe, Int.reduceBEq, Int.reduceBNe, Int.reduceLT, Int.reduceLE, Int.reduceGT, Int.reduceAdd, reduceIte, Bool.not_true, Bool.not_false, decide_true, decide_false, ne_eq, not_false_eq_true, not_true_eq_false]
    exact fin (C2 := C) (Ev.refl _ _ _)
  obtain ⟨R, rfl⟩ := Int.eq_ofNat_of_zero_le (show 0 ≤ room by omega)
  have hlo : ll = os.length := ho.choose_spec.2.2
  have hlm : lm = ms.length := hm.choose_spec.2.2
  obtain ⟨k, hk, hfr⟩ := fresh_own C H.size
  obtain ⟨k', hk', hkk, hfr'⟩ := fresh_two C H.size k
  have hok0 := new_dok (room := R) (by omega)
  have two0 := two_no0 hk hk'
  have toF : ∀ {k k' H1 C1 H2 C2}, Ev (own k) H1 C1 H2 C2 → Ev (two k k') H1 C1 H2 C2 := fun h => h.mono fun _ h => .inl h
  have toG : ∀ {k k' H1 C1 H2 C2}, Ev (own k') H1 C1 H2 C2 → Ev (two k k') H1 C1 H2 C2 := fun h => h.mono fun _ h => .inr h
  have toN : ∀ {k k' H1 C1 H2 C2}, Ev no H1 C1 H2 C2 → Ev (two k k') H1 C1 H2 C2 := fun h => h.mono fun _ h => h.elim
  have out : ∀ {k k' H1 C1 H2 C2}, (∀ b, b < H1.size → (C1 b).1 ≠ k) → (∀ b, b < H1.size → (C1 b).1 ≠ k') → Ev (two k k') H1 C1 H2 C2 → Ev no H1 C1 H2 C2 := fun h1 h2 he => he.none fun b hb hS => by
    rcases hS with e | e
    · exact h1 b hb e
    · exact h2 b hb e
  refine New_ok (C := C) (k := k) (room := R) hk (by omega) fun p H1 C1 h1 hev1 => ?_
  simp only [cellH_mk, cellO_some, add_mk, size_upd, upd_upd, one_int, one_bool, one_string, one_pointer, one_slice, one_map, one_func, st1_some, stN_nil, stN_cons, StV_mk, StO_some, Ld_some, RtI_mk, RtB_mk, RtS_mk, RtP_mk, RtL_mk, RtM_mk, RtA_mk, RtT_mk, NilC_some, New_eq, At_eq, Ck_true, Rt0_mk, BrB_true, BrB_false, Nat.zero_add, List.length_cons, List.length_nil, List.getElem?_cons_zero, List.getElem?_cons_succ, List.set_cons_zero, List.set_cons_succ, List.getD_cons_zero, List.getD_cons_succ, Option.isNone_some, Option.isNone_none, Go.Disk.fsO, Go.Disk.fileO, Bool.false_eq_true, eq_self, Nat.reduceAdd, Nat.reduceSub, Nat.reduceMul, Nat.reduceLT, Nat.reduceLeDiff, Nat.reduceEqDiff, Int.reduceNeg, Int.reduceEq, Int.reduceNe, Int.reduceBEq, Int.reduceBNe, Int.reduceLT, Int.reduceLE, Int.reduceGT, Int.reduceAdd, reduceIte, Bool.not_true, Bool.not_false, decide_true, decide_false, ne_eq, not_false_eq_true, not_true_eq_false]
  refine rNew_ok (C := C1) (k := k') (room := R) (by omega) fun q H2 C2 g2 hev2 => ?_
  have h2 := h1.ev hev2 (fun _ _ h => h) fun _ _ h => h
  rw [newD_is] at g2
  have hev2n := hev1.trans hev2
  have hev2 := toN (k := k) (k' := k') hev2n
  simp only [cellH_mk, cellO_some, add_mk, size_upd, upd_upd, one_int, one_bool, one_string, one_pointer, one_slice, one_map, one_func, st1_some, stN_nil, stN_cons, StV_mk, StO_some, Ld_some, RtI_mk, RtB_mk, RtS_mk, RtP_mk, RtL_mk, RtM_mk, RtA_mk, RtT_mk, NilC_some, New_eq, At_eq, Ck_true, Rt0_mk, BrB_true, BrB_false, Nat.zero_add, List.length_cons, List.length_nil, List.getElem?_cons_zero, List.getElem?_cons_succ, List.set_cons_zero, List.set_cons_succ, List.getD_cons_zero, List.getD_cons_succ, Option.isNone_some, Option.isNone_none, Go.Disk.fsO, Go.Disk.fileO, Bool.false_eq_true, eq_self, Nat.reduceAdd, Nat.reduceSub, Nat.reduceMul, Nat.reduceLT, Nat.reduceLeDiff, Nat.reduceEqDiff, Int.reduceNeg, Int.reduceEq, Int.reduceNe, Int.reduceBEq, Int.reduceBNe, Int.reduceLT, Int.reduceLE, Int.reduceGT, Int.reduceAdd, reduceIte, Bool.not_true, Bool.not_false, decide_true, decide_false, ne_eq, not_false_eq_true, not_true_eq_false]
  refine great_ok (ho.ev hev2 two0) hl2 fun g hg => ?_
  simp only [cellH_mk, cellO_some, add_mk, size_upd, upd_upd, one_int, one_bool, one_string, one_pointer, one_slice, one_map, one_func, st1_some, stN_nil, stN_cons, StV_mk, StO_some, Ld_some, RtI_mk, RtB_mk, RtS_mk, RtP_mk, RtL_mk, RtM_mk, RtA_mk, RtT_mk, NilC_some, New_eq, At_eq, Ck_true, Rt0_mk, BrB_true, BrB_false, Nat.zero_add, List.length_cons, List.length_nil, List.getElem?_cons_zero, List.getElem?_cons_succ, List.set_cons_zero, List.set_cons_succ, List.getD_cons_zero, List.getD_cons_succ, Option.isNone_some, Option.isNone_none, Go.Disk.fsO, Go.Disk.fileO, Bool.false_eq_true, eq_self, Nat.reduceAdd, Nat.reduceSub, Nat.reduceMul, Nat.reduceLT, Nat.reduceLeDiff, Nat.reduceEqDiff, Int.reduceNeg, Int.reduceEq, Int.reduceNe, Int.reduceBEq, Int.reduceBNe, Int.reduceLT, Int.reduceLE, Int.reduceGT, Int.reduceAdd, reduceIte, Bool.not_true, Bool.not_false, decide_true, decide_false, ne_eq, not_false_eq_true, not_true_eq_false]
  refine BrB_i (fun h => fin hev2n) (fun hgf => ?_)
  refine great_ok (hm.ev hev2 two0) hm2 fun g2' hg2 => ?_
  simp only [cellH_mk, cellO_some, add_mk, size_upd, upd_upd, one_int, one_bool, one_string, one_pointer, one_slice, one_map, one_func, st1_some, stN_nil, stN_cons, StV_mk, StO_some, Ld_some, RtI_mk, RtB_mk, RtS_mk, RtP_mk, RtL_mk, RtM_mk, RtA_mk, RtT_mk, NilC_some, New_eq, At_eq, Ck_true, Rt0_mk, BrB_true, BrB_false, Nat.zero_add, List.length_cons, List.length_nil, List.getElem?_cons_zero, List.getElem?_cons_succ, List.set_cons_zero, List.set_cons_succ, List.getD_cons_zero, List.getD_cons_succ, Option.isNone_some, Option.isNone_none, Go.Disk.fsO, Go.Disk.fileO, Bool.false_eq_true, eq_self, Nat.reduceAdd, Nat.reduceSub, Nat.reduceMul, Nat.reduceLT, Nat.reduceLeDiff, Nat.reduceEqDiff, Int.reduceNeg, Int.reduceEq, Int.reduceNe, Int.reduceBEq, Int.reduceBNe, Int.reduceLT, Int.reduceLE, Int.reduceGT, Int.reduceAdd, reduceIte, Bool.not_true, Bool.not_false, decide_true, decide_false, ne_eq, not_false_eq_true, not_true_eq_false]
  refine BrB_i (fun h => fin hev2n) (fun hgf2 => ?_)
  obtain ⟨hlen, hbig⟩ := hg hgf
  obtain ⟨hlen2, hbig2⟩ := hg2 hgf2
  refine ⟨fun i H' => ∃ C' D, ∃ m : Nat, i = (m : Int) ∧ m ≤ ll ∧ Both H' C' k k' p q D ∧ D.acts ≤ m ∧ Ev (two k k') H C H' C', fun i _ => ll - i.toNat, ⟨C2, newDisk R, 0, rfl, by omega, ⟨h2, g2, hok0⟩, by show (0 : Nat) ≤ _; omega, hev2⟩, ?_⟩
  rintro fr i H6 ⟨C6, D, m, rfl, hm', hB, hac, hev6⟩
  simp only [cellH_mk, cellO_some, add_mk, size_upd, upd_upd, one_int, one_bool, one_string, one_pointer, one_slice, one_map, one_func, st1_some, stN_nil, stN_cons, StV_mk, StO_some, Ld_some, RtI_mk, RtB_mk, RtS_mk, RtP_mk, RtL_mk, RtM_mk, RtA_mk, RtT_mk, NilC_some, New_eq, At_eq, Ck_true, Rt0_mk, BrB_true, BrB_false, Nat.zero_add, List.length_cons, List.length_nil, List.getElem?_cons_zero, List.getElem?_cons_succ, List.set_cons_zero, List.set_cons_succ, List.getD_cons_zero, List.getD_cons_succ, Option.isNone_some, Option.isNone_none, Go.Disk.fsO, Go.Disk.fileO, Bool.false_eq_true, eq_self, Nat.reduceAdd, Nat.reduceSub, Nat.reduceMul, Nat.reduceLT, Nat.reduceLeDiff, Nat.reduceEqDiff, Int.reduceNeg, Int.reduceEq, Int.reduceNe, Int.reduceBEq, Int.reduceBNe, Int.reduceLT, Int.reduceLE, Int.reduceGT, Int.reduceAdd, reduceIte, Bool.not_true, Bool.not_false, decide_true, decide_false, ne_eq, not_false_eq_true, not_true_eq_false]
  have ho6 := ho.ev hev6 two0
  refine BrB_i (fun hlt => ?_) (fun hlt => ?_)
  · have hlt := of_decide_eq_true hlt
    have hom : os[m]? = some (os[m]'(by omega)) := List.getElem?_eq_getElem _
    generalize os[m]'(by omega) = o at hom
    refine SlI.opRowK ho6 hom fun e s hs hok he => ?_
    have he0 := he no H6 C6 (Ev.refl _ _ _) fun _ _ h => h
    unfold opCells at he0
    simp only [cellH_mk, cellO_some, add_mk, size_upd, upd_upd, one_int, one_bool, one_string, one_pointer, one_slice, one_map, one_func, st1_some, stN_nil, stN_cons, StV_mk, StO_some, Ld_some, RtI_mk, RtB_mk, RtS_mk, RtP_mk, RtL_mk, RtM_mk, RtA_mk, RtT_mk, NilC_some, New_eq, At_eq, Ck_true, Rt0_mk, BrB_true, BrB_false, Nat.zero_add, List.length_cons, List.length_nil, List.getElem?_cons_zero, List.getElem?_cons_succ, List.set_cons_zero, List.set_cons_succ, List.getD_cons_zero, List.getD_cons_succ, Option.isNone_some, Option.isNone_none, Go.Disk.fsO, Go.Disk.fileO, Bool.false_eq_true, eq_self, Nat.reduceAdd, Nat.reduceSub, Nat.reduceMul, Nat.reduceLT, Nat.reduceLeDiff, Nat.reduceEqDiff, Int.reduceNeg, Int.reduceEq, Int.reduceNe, Int.reduceBEq, Int.reduceBNe, Int.reduceLT, Int.reduceLE, Int.reduceGT, Int.reduceAdd, reduceIte, Bool.not_true, Bool.not_false, decide_true, decide_false, ne_eq, not_false_eq_true, not_true_eq_false, he0]
    have hgd := dDo_good hok hB.ok
    refine do_ok (o := o) (s := s) hk hB.f hB.ok (by omega) hs hok fun H7 C7 h7 hev7 => ?_
    have g7 := hB.g.ev hev7 (own_0 hk) (own_ne hkk.symm)
    have hev7 := hev6.trans (toF hev7)
    simp only [cellH_mk, cellO_some, add_mk, size_upd, upd_upd, one_int, one_bool, one_string, one_pointer, one_slice, one_map, one_func, st1_some, stN_nil, stN_cons, StV_mk, StO_some, Ld_some, RtI_mk, RtB_mk, RtS_mk, RtP_mk, RtL_mk, RtM_mk, RtA_mk, RtT_mk, NilC_some, New_eq, At_eq, Ck_true, Rt0_mk, BrB_true, BrB_false, Nat.zero_add, List.length_cons, List.length_nil, List.getElem?_cons_zero, List.getElem?_cons_succ, List.set_cons_zero, List.set_cons_succ, List.getD_cons_zero, List.getD_cons_succ, Option.isNone_some, Option.isNone_none, Go.Disk.fsO, Go.Disk.fileO, Bool.false_eq_true, eq_self, Nat.reduceAdd, Nat.reduceSub, Nat.reduceMul, Nat.reduceLT, Nat.reduceLeDiff, Nat.reduceEqDiff, Int.reduceNeg, Int.reduceEq, Int.reduceNe, Int.reduceBEq, Int.reduceBNe, Int.reduceLT, Int.reduceLE, Int.reduceGT, Int.reduceAdd, reduceIte, Bool.not_true, Bool.not_false, decide_true, decide_false, ne_eq, not_false_eq_true, not_true_eq_false]
    refine SlI.opRowK (ho.ev hev7 two0) hom fun e2 s2 hs2 hok2 he2 => ?_
    have he20 := he2 no H7 C7 (Ev.refl _ _ _) fun _ _ h => h
    unfold opCells at he20
    simp only [cellH_mk, cellO_some, add_mk, size_upd, upd_upd, one_int, one_bool, one_string, one_pointer, one_slice, one_map, one_func, st1_some, stN_nil, stN_cons, StV_mk, StO_some, Ld_some, RtI_mk, RtB_mk, RtS_mk, RtP_mk, RtL_mk, RtM_mk, RtA_mk, RtT_mk, NilC_some, New_eq, At_eq, Ck_true, Rt0_mk, BrB_true, BrB_false, Nat.zero_add, List.length_cons, List.length_nil, List.getElem?_cons_zero, List.getElem?_cons_succ, List.set_cons_zero, List.set_cons_succ, List.getD_cons_zero, List.getD_cons_succ, Option.isNone_some, Option.isNone_none, Go.Disk.fsO, Go.Disk.fileO, Bool.false_eq_true, eq_self, Nat.reduceAdd, Nat.reduceSub, Nat.reduceMul, Nat.reduceLT, Nat.reduceLeDiff, Nat.reduceEqDiff, Int.reduceNeg, Int.reduceEq, Int.reduceNe, Int.reduceBEq, Int.reduceBNe, Int.reduceLT, Int.reduceLE, Int.reduceGT, Int.reduceAdd, reduceIte, Bool.not_true, Bool.not_false, decide_true, decide_false, ne_eq, not_false_eq_true, not_true_eq_false, he20]
    refine did_ok (o := o) (s := s2) hk' g7 hB.ok (by omega) hs2 hok fun H8 C8 g8 hev8 => ?_
    have h8 := h7.ev hev8 (own_0 hk') fun j _ => own_ne hkk j
    have hev8 := hev7.trans (toG hev8)
    simp only [cellH_mk, cellO_some, add_mk, size_upd, upd_upd, one_int, one_bool, one_string, one_pointer, one_slice, one_map, one_func, st1_some, stN_nil, stN_cons, StV_mk, StO_some, Ld_some, RtI_mk, RtB_mk, RtS_mk, RtP_mk, RtL_mk, RtM_mk, RtA_mk, RtT_mk, NilC_some, New_eq, At_eq, Ck_true, Rt0_mk, BrB_true, BrB_false, Nat.zero_add, List.length_cons, List.length_nil, List.getElem?_cons_zero, List.getElem?_cons_succ, List.set_cons_zero, List.set_cons_succ, List.getD_cons_zero, List.getD_cons_succ, Option.isNone_some, Option.isNone_none, Go.Disk.fsO, Go.Disk.fileO, Bool.false_eq_true, eq_self, Nat.reduceAdd, Nat.reduceSub, Nat.reduceMul, Nat.reduceLT, Nat.reduceLeDiff, Nat.reduceEqDiff, Int.reduceNeg, Int.reduceEq, Int.reduceNe, Int.reduceBEq, Int.reduceBNe, Int.reduceLT, Int.reduceLE, Int.reduceGT, Int.reduceAdd, reduceIte, Bool.not_true, Bool.not_false, decide_true, decide_false, ne_eq, not_false_eq_true, not_true_eq_false]
    rw [w64 (by omega) (by omega)]
    refine ⟨⟨C8, _, m + 1, by omega, by omega, ⟨h8, g8, hgd.1⟩, by have := hgd.2.1; omega, hev8⟩, ?_⟩
    show ll - ((m : Int) + 1).toNat < ll - ((m : Nat) : Int).toNat
    omega
  · have hev6n := out hfr hfr' hev6
    clear ho6 two0 hev6
    obtain ⟨k1, hk1, hfr1⟩ := fresh_own C6 H6.size
    refine Fail_ok hk hk1 hfr1 hB.f hB.ok (by omega) (hcu.ev hev6n fun _ _ h => h) (by omega) fun px H8 C8 hx8 hev8 => ?_
    have hB8 := hB.no hev8
    simp only [cellH_mk, cellO_some, add_mk, size_upd, upd_upd, one_int, one_bool, one_string, one_pointer, one_slice, one_map, one_func, st1_some, stN_nil, stN_cons, StV_mk, StO_some, Ld_some, RtI_mk, RtB_mk, RtS_mk, RtP_mk, RtL_mk, RtM_mk, RtA_mk, RtT_mk, NilC_some, New_eq, At_eq, Ck_true, Rt0_mk, BrB_true, BrB_false, Nat.zero_add, List.length_cons, List.length_nil, List.getElem?_cons_zero, List.getElem?_cons_succ, List.set_cons_zero, List.set_cons_succ, List.getD_cons_zero, List.getD_cons_succ, Option.isNone_some, Option.isNone_none, Go.Disk.fsO, Go.Disk.fileO, Bool.false_eq_true, eq_self, Nat.reduceAdd, Nat.reduceSub, Nat.reduceMul, Nat.reduceLT, Nat.reduceLeDiff, Nat.reduceEqDiff, Int.reduceNeg, Int.reduceEq, Int.reduceNe, Int.reduceBEq, Int.reduceBNe, Int.reduceLT, Int.reduceLE, Int.reduceGT, Int.reduceAdd, reduceIte, Bool.not_true, Bool.not_false, decide_true, decide_false, ne_eq, not_false_eq_true, not_true_eq_false]
    obtain ⟨k2, hk2, hk12, hfr2⟩ := fresh_two C8 H8.size k1
    refine rFail_ok hk' hk2 hfr2 hB8.g hB.ok (by omega) (hcu.ev (hev6n.trans hev8) fun _ _ h => h) (by omega) fun py H9 C9 hy9 hev9 => ?_
    have hcalm := dFail_calm D cuts other
    have hokX := dFail_ok hB.ok cuts
    have hac0 : (dFail D cuts).acts = 0 := rfl
    generalize dFail D cuts = X at *
    have hX9 : Both H9 C9 k1 k2 px py X := ⟨hx8.ev hev9 (fun _ _ h => h) fun _ _ h => h, hy9, hokX⟩
    have hevX := hev8.trans hev9
    have hfr2X := fresh_back hev8 hfr2
    simp only [cellH_mk, cellO_some, add_mk, size_upd, upd_upd, one_int, one_bool, one_string, one_pointer, one_slice, one_map, one_func, st1_some, stN_nil, stN_cons, StV_mk, StO_some, Ld_some, RtI_mk, RtB_mk, RtS_mk, RtP_mk, RtL_mk, RtM_mk, RtA_mk, RtT_mk, NilC_some, New_eq, At_eq, Ck_true, Rt0_mk, BrB_true, BrB_false, Nat.zero_add, List.length_cons, List.length_nil, List.getElem?_cons_zero, List.getElem?_cons_succ, List.set_cons_zero, List.set_cons_succ, List.getD_cons_zero, List.getD_cons_succ, Option.isNone_some, Option.isNone_none, Go.Disk.fsO, Go.Disk.fileO, Bool.false_eq_true, eq_self, Nat.reduceAdd, Nat.reduceSub, Nat.reduceMul, Nat.reduceLT, Nat.reduceLeDiff, Nat.reduceEqDiff, Int.reduceNeg, Int.reduceEq, Int.reduceNe, Int.reduceBEq, Int.reduceBNe, Int.reduceLT, Int.reduceLE, Int.reduceGT, Int.reduceAdd, reduceIte, Bool.not_true, Bool.not_false, decide_true, decide_false, ne_eq, not_false_eq_true, not_true_eq_false]
    obtain ⟨k3, hk3, hfr3⟩ := fresh_own C9 H9.size
    refine Fail_ok hk1 hk3 hfr3 hX9.f hokX (by omega) (hot.ev (hev6n.trans hevX) fun _ _ h => h) (by omega) fun pz HA CA hzA hevA => ?_
    rw [hcalm] at hzA
    have hXA := hX9.no hevA
    have hevX := hevX.trans hevA
    simp only [cellH_mk, cellO_some, add_mk, size_upd, upd_upd, one_int, one_bool, one_string, one_pointer, one_slice, one_map, one_func, st1_some, stN_nil, stN_cons, StV_mk, StO_some, Ld_some, RtI_mk, RtB_mk, RtS_mk, RtP_mk, RtL_mk, RtM_mk, RtA_mk, RtT_mk, NilC_some, New_eq, At_eq, Ck_true, Rt0_mk, BrB_true, BrB_false, Nat.zero_add, List.length_cons, List.length_nil, List.getElem?_cons_zero, List.getElem?_cons_succ, List.set_cons_zero, List.set_cons_succ, List.getD_cons_zero, List.getD_cons_succ, Option.isNone_some, Option.isNone_none, Go.Disk.fsO, Go.Disk.fileO, Bool.false_eq_true, eq_self, Nat.reduceAdd, Nat.reduceSub, Nat.reduceMul, Nat.reduceLT, Nat.reduceLeDiff, Nat.reduceEqDiff, Int.reduceNeg, Int.reduceEq, Int.reduceNe, Int.reduceBEq, Int.reduceBNe, Int.reduceLT, Int.reduceLE, Int.reduceGT, Int.reduceAdd, reduceIte, Bool.not_true, Bool.not_false, decide_true, decide_false, ne_eq, not_false_eq_true, not_true_eq_false]
    obtain ⟨k4, hk4, hfr4⟩ := fresh_own CA HA.size
    refine Copy_ok hk4 hfr4 hXA.f hokX (by omega) fun pc HB CB hcB hevB => ?_
    have hXB := hXA.no hevB
    have hzB := hzA.ev hevB (fun _ _ h => h) fun _ _ h => h
    have hevX := hevX.trans hevB
    have hne4 := hXA.fresh hfr4
    simp only [cellH_mk, cellO_some, add_mk, size_upd, upd_upd, one_int, one_bool, one_string, one_pointer, one_slice, one_map, one_func, st1_some, stN_nil, stN_cons, StV_mk, StO_some, Ld_some, RtI_mk, RtB_mk, RtS_mk, RtP_mk, RtL_mk, RtM_mk, RtA_mk, RtT_mk, NilC_some, New_eq, At_eq, Ck_true, Rt0_mk, BrB_true, BrB_false, Nat.zero_add, List.length_cons, List.length_nil, List.getElem?_cons_zero, List.getElem?_cons_succ, List.set_cons_zero, List.set_cons_succ, List.getD_cons_zero, List.getD_cons_succ, Option.isNone_some, Option.isNone_none, Go.Disk.fsO, Go.Disk.fileO, Bool.false_eq_true, eq_self, Nat.reduceAdd, Nat.reduceSub, Nat.reduceMul, Nat.reduceLT, Nat.reduceLeDiff, Nat.reduceEqDiff, Int.reduceNeg, Int.reduceEq, Int.reduceNe, Int.reduceBEq, Int.reduceBNe, Int.reduceLT, Int.reduceLE, Int.reduceGT, Int.reduceAdd, reduceIte, Bool.not_true, Bool.not_false, decide_true, decide_false, ne_eq, not_false_eq_true, not_true_eq_false, NewN_eq, get_push_self, upd_push_self]
    rw [upd_push_self]
    have hevN := ev_push no HB CB (.cells ⟨[.int .u8 0, .string (str [97]), .string (str []), .int .i64 0, .slice none 0 0]⟩ 50) (0, 0)
    have hnC : (HB.push (.cells ⟨[.int .u8 0, .string (str [97]), .string (str []), .int .i64 0, .slice none 0 0]⟩ 50))[HB.size]? = some (.cells ⟨[.int .u8 0, .string (str [97]), .string (str []), .int .i64 0, .slice none 0 0]⟩ 50 (0, 0)) := get_push_self _ _
    have hcnC : setC CB HB.size (0, 0) HB.size = (0, 0) := setC_self _ _ _
    have hXC := hXB.no hevN
    have hzC := hzB.ev hevN (fun _ _ h => h) fun _ _ h => h
    have hcC := hcB.ev hevN (fun _ _ h => h) fun _ _ h => h
    have hevX := hevX.trans hevN
    generalize HB.push _ = HC at *
    generalize setC CB HB.size (0, 0) = CC at *
    generalize HB.size = na at *
    rw [rowV_mk _ _ 0 5 hnC (by simp)]
    simp only [List.drop_zero, List.take_succ_cons, List.take_zero]
    simp only [cellH_mk, cellO_some, add_mk, size_upd, upd_upd, one_int, one_bool, one_string, one_pointer, one_slice, one_map, one_func, st1_some, stN_nil, stN_cons, StV_mk, StO_some, Ld_some, RtI_mk, RtB_mk, RtS_mk, RtP_mk, RtL_mk, RtM_mk, RtA_mk, RtT_mk, NilC_some, New_eq, At_eq, Ck_true, Rt0_mk, BrB_true, BrB_false, Nat.zero_add, List.length_cons, List.length_nil, List.getElem?_cons_zero, List.getElem?_cons_succ, List.set_cons_zero, List.set_cons_succ, List.getD_cons_zero, List.getD_cons_succ, Option.isNone_some, Option.isNone_none, Go.Disk.fsO, Go.Disk.fileO, Bool.false_eq_true, eq_self, Nat.reduceAdd, Nat.reduceSub, Nat.reduceMul, Nat.reduceLT, Nat.reduceLeDiff, Nat.reduceEqDiff, Int.reduceNeg, Int.reduceEq, Int.reduceNe, Int.reduceBEq, Int.reduceBNe, Int.reduceLT, Int.reduceLE, Int.reduceGT, Int.reduceAdd, reduceIte, Bool.not_true, Bool.not_false, decide_true, decide_false, ne_eq, not_false_eq_true, not_true_eq_false]
    refine alike_ok (o := opLast) (s := (none, 0, 0)) hzC hXC.g hokX (by omega) (by show (-2 ^ 63 : Int) ≤ 0 ∧ (0 : Int) < 2 ^ 63; omega) fun HD CD hevD => ?_
    have hXD := hXC.no hevD
    have hnD := hevD.get hnC fun h => h
    have hcD := hcC.ev hevD (fun _ _ h => h) fun _ _ h => h
    have hevX := hevX.trans hevD
    have hcnD := (hevD.colOf hnC).trans hcnC
    simp only [cellH_mk, cellO_some, add_mk, size_upd, upd_upd, one_int, one_bool, one_string, one_pointer, one_slice, one_map, one_func, st1_some, stN_nil, stN_cons, StV_mk, StO_some, Ld_some, RtI_mk, RtB_mk, RtS_mk, RtP_mk, RtL_mk, RtM_mk, RtA_mk, RtT_mk, NilC_some, New_eq, At_eq, Ck_true, Rt0_mk, BrB_true, BrB_false, Nat.zero_add, List.length_cons, List.length_nil, List.getElem?_cons_zero, List.getElem?_cons_succ, List.set_cons_zero, List.set_cons_succ, List.getD_cons_zero, List.getD_cons_succ, Option.isNone_some, Option.isNone_none, Go.Disk.fsO, Go.Disk.fileO, Bool.false_eq_true, eq_self, Nat.reduceAdd, Nat.reduceSub, Nat.reduceMul, Nat.reduceLT, Nat.reduceLeDiff, Nat.reduceEqDiff, Int.reduceNeg, Int.reduceEq, Int.reduceNe, Int.reduceBEq, Int.reduceBNe, Int.reduceLT, Int.reduceLE, Int.reduceGT, Int.reduceAdd, reduceIte, Bool.not_true, Bool.not_false, decide_true, decide_false, ne_eq, not_false_eq_true, not_true_eq_false]
    obtain ⟨k5, hk5, hfr5⟩ := fresh_own CD HD.size
    refine rCopy_ok hk5 hfr5 hXD.g hokX (by omega) fun pw HE CE hwE hevE => ?_
    have hne5 := hXD.fresh hfr5
    have hXE := hXD.no hevE
    have hWE : Both HE CE k4 k5 pc pw X := ⟨hcD.ev hevE (fun _ _ h => h) fun _ _ h => h, hwE, hokX⟩
    have hnE := hevE.get hnD fun h => h
    have hcnE := (hevE.colOf hnD).trans hcnD
    have hevX := hevX.trans hevE
    simp only [cellH_mk, cellO_some, add_mk, size_upd, upd_upd, one_int, one_bool, one_string, one_pointer, one_slice, one_map, one_func, st1_some, stN_nil, stN_cons, StV_mk, StO_some, Ld_some, RtI_mk, RtB_mk, RtS_mk, RtP_mk, RtL_mk, RtM_mk, RtA_mk, RtT_mk, NilC_some, New_eq, At_eq, Ck_true, Rt0_mk, BrB_true, BrB_false, Nat.zero_add, List.length_cons, List.length_nil, List.getElem?_cons_zero, List.getElem?_cons_succ, List.set_cons_zero, List.set_cons_succ, List.getD_cons_zero, List.getD_cons_succ, Option.isNone_some, Option.isNone_none, Go.Disk.fsO, Go.Disk.fileO, Bool.false_eq_true, eq_self, Nat.reduceAdd, Nat.reduceSub, Nat.reduceMul, Nat.reduceLT, Nat.reduceLeDiff, Nat.reduceEqDiff, Int.reduceNeg, Int.reduceEq, Int.reduceNe, Int.reduceBEq, Int.reduceBNe, Int.reduceLT, Int.reduceLE, Int.reduceGT, Int.reduceAdd, reduceIte, Bool.not_true, Bool.not_false, decide_true, decide_false, ne_eq, not_false_eq_true, not_true_eq_false]
    have two12 := two_no0 hk1 hk2
    have o2 : -2 ^ 63 ≤ opLast.off ∧ opLast.off < 2 ^ 63 := by show (-2 ^ 63 : Int) ≤ 0 ∧ (0 : Int) < 2 ^ 63; omega
    clear hB8 hX9 hXA hXB hXC hXD hzA hzB hzC hcB hcC hcD hwE hx8 hy9
    have hmX : ∀ {H' C'}, Ev (two k1 k2) H6 C6 H' C' → OpsI H' C' am lm cm ms := fun he => hm.ev (hev6n.trans (out hfr1 hfr2X he)) fun _ _ h => h
    refine ⟨fun i H' => ∃ C' Y, ∃ m : Nat, i = (m : Int) ∧ m ≤ lm ∧ Both H' C' k1 k2 px py Y ∧ Y.acts ≤ m ∧ Both H' C' k4 k5 pc pw X ∧ H'[na]? = some (.cells ⟨[.int .u8 0, .string (str [97]), .string (str []), .int .i64 0, .slice none 0 0]⟩ 50 (0, 0)) ∧ C' na = (0, 0) ∧ Ev (two k1 k2) H6 C6 H' C', fun i _ => lm - i.toNat, ⟨CE, X, 0, rfl, by omega, hXE, by omega, hWE, hnE, hcnE, toN hevX⟩, ?_⟩
    clear hXE hWE hnE hcnE hevX
    rintro fr2 i2 HF ⟨CF, Y, m2, rfl, hm2', hXF, hacF, hWF, hnF, hcnF, hevX⟩
    simp only [cellH_mk, cellO_some, add_mk, size_upd, upd_upd, one_int, one_bool, one_string, one_pointer, one_slice, one_map, one_func, st1_some, stN_nil, stN_cons, StV_mk, StO_some, Ld_some, RtI_mk, RtB_mk, RtS_mk, RtP_mk, RtL_mk, RtM_mk, RtA_mk, RtT_mk, NilC_some, New_eq, At_eq, Ck_true, Rt0_mk, BrB_true, BrB_false, Nat.zero_add, List.length_cons, List.length_nil, List.getElem?_cons_zero, List.getElem?_cons_succ, List.set_cons_zero, List.set_cons_succ, List.getD_cons_zero, List.getD_cons_succ, Option.isNone_some, Option.isNone_none, Go.Disk.fsO, Go.Disk.fileO, Bool.false_eq_true, eq_self, Nat.reduceAdd, Nat.reduceSub, Nat.reduceMul, Nat.reduceLT, Nat.reduceLeDiff, Nat.reduceEqDiff, Int.reduceNeg, Int.reduceEq, Int.reduceNe, Int.reduceBEq, Int.reduceBNe, Int.reduceLT, Int.reduceLE, Int.reduceGT, Int.reduceAdd, reduceIte, Bool.not_true, Bool.not_false, decide_true, decide_false, ne_eq, not_false_eq_true, not_true_eq_false]
    have n1 : ∀ j, ¬ own k1 (k2, j) := own_ne hk12.symm
    have n2 : ∀ j, ¬ own k2 (k1, j) := own_ne hk12
    refine BrB_i (fun hlt2 => ?_) (fun hlt2 => ?_)
    · have hlt2 := of_decide_eq_true hlt2
      have hom : ms[m2]? = some (ms[m2]'(by omega)) := List.getElem?_eq_getElem _
      generalize ms[m2]'(by omega) = o at hom
      refine SlI.opRowK (hmX hevX) hom fun e s hs hok he => ?_
      have he0 := he no HF CF (Ev.refl _ _ _) fun _ _ h => h
      unfold opCells at he0
      simp only [cellH_mk, cellO_some, add_mk, size_upd, upd_upd, one_int, one_bool, one_string, one_pointer, one_slice, one_map, one_func, st1_some, stN_nil, stN_cons, StV_mk, StO_some, Ld_some, RtI_mk, RtB_mk, RtS_mk, RtP_mk, RtL_mk, RtM_mk, RtA_mk, RtT_mk, NilC_some, New_eq, At_eq, Ck_true, Rt0_mk, BrB_true, BrB_false, Nat.zero_add, List.length_cons, List.length_nil, List.getElem?_cons_zero, List.getElem?_cons_succ, List.set_cons_zero, List.set_cons_succ, List.getD_cons_zero, List.getD_cons_succ, Option.isNone_some, Option.isNone_none, Go.Disk.fsO, Go.Disk.fileO, Bool.false_eq_true, eq_self, Nat.reduceAdd, Nat.reduceSub, Nat.reduceMul, Nat.reduceLT, Nat.reduceLeDiff, Nat.reduceEqDiff, Int.reduceNeg, Int.reduceEq, Int.reduceNe, Int.reduceBEq, Int.reduceBNe, Int.reduceLT, Int.reduceLE, Int.reduceGT, Int.reduceAdd, reduceIte, Bool.not_true, Bool.not_false, decide_true, decide_false, ne_eq, not_false_eq_true, not_true_eq_false, he0]
      refine SlI.opRowK (hmX hevX) hom fun e2 s2 hs2 hok2 he2 => ?_
      have he20 := he2 no HF CF (Ev.refl _ _ _) fun _ _ h => h
      unfold opCells at he20
      simp only [cellH_mk, cellO_some, add_mk, size_upd, upd_upd, one_int, one_bool, one_string, one_pointer, one_slice, one_map, one_func, st1_some, stN_nil, stN_cons, StV_mk, StO_some, Ld_some, RtI_mk, RtB_mk, RtS_mk, RtP_mk, RtL_mk, RtM_mk, RtA_mk, RtT_mk, NilC_some, New_eq, At_eq, Ck_true, Rt0_mk, BrB_true, BrB_false, Nat.zero_add, List.length_cons, List.length_nil, List.getElem?_cons_zero, List.getElem?_cons_succ, List.set_cons_zero, List.set_cons_succ, List.getD_cons_zero, List.getD_cons_succ, Option.isNone_some, Option.isNone_none, Go.Disk.fsO, Go.Disk.fileO, Bool.false_eq_true, eq_self, Nat.reduceAdd, Nat.reduceSub, Nat.reduceMul, Nat.reduceLT, Nat.reduceLeDiff, Nat.reduceEqDiff, Int.reduceNeg, Int.reduceEq, Int.reduceNe, Int.reduceBEq, Int.reduceBNe, Int.reduceLT, Int.reduceLE, Int.reduceGT, Int.reduceAdd, reduceIte, Bool.not_true, Bool.not_false, decide_true, decide_false, ne_eq, not_false_eq_true, not_true_eq_false, he20]
      have hgd := dDo_good hok hXF.ok
      refine do_ok (o := o) (s := s) hk1 hXF.f hXF.ok (by omega) hs hok fun HG CG hG hevG => ?_
      have gG := hXF.g.ev hevG (own_0 hk1) n1
      have hWG := hWF.ev hevG (own_0 hk1) (own_ne hne4.1) (own_ne hne5.1)
      have hnG := hevG.get hnF (by rw [hcnF]; exact own_0 hk1 _ rfl)
      have hcnG := (hevG.colOf hnF).trans hcnF
      have heG := he2 _ HG CG hevG (own_0 hk1)
      unfold opCells at heG
      have hevX := hevX.trans (toF hevG)
      simp only [cellH_mk, cellO_some, add_mk, size_upd, upd_upd, one_int, one_bool, one_string, one_pointer, one_slice, one_map, one_func, st1_some, stN_nil, stN_cons, StV_mk, StO_some, Ld_some, RtI_mk, RtB_mk, RtS_mk, RtP_mk, RtL_mk, RtM_mk, RtA_mk, RtT_mk, NilC_some, New_eq, At_eq, Ck_true, Rt0_mk, BrB_true, BrB_false, Nat.zero_add, List.length_cons, List.length_nil, List.getElem?_cons_zero, List.getElem?_cons_succ, List.set_cons_zero, List.set_cons_succ, List.getD_cons_zero, List.getD_cons_succ, Option.isNone_some, Option.isNone_none, Go.Disk.fsO, Go.Disk.fileO, Bool.false_eq_true, eq_self, Nat.reduceAdd, Nat.reduceSub, Nat.reduceMul, Nat.reduceLT, Nat.reduceLeDiff, Nat.reduceEqDiff, Int.reduceNeg, Int.reduceEq, Int.reduceNe, Int.reduceBEq, Int.reduceBNe, Int.reduceLT, Int.reduceLE, Int.reduceGT, Int.reduceAdd, reduceIte, Bool.not_true, Bool.not_false, decide_true, decide_false, ne_eq, not_false_eq_true, not_true_eq_false]
      refine Ck_i heG ?_
      refine did_ok (o := o) (s := s2) hk2 gG hXF.ok (by omega) (hs2.ev hevG (own_0 hk1)) hok fun HI CI gI hevI => ?_
      have hI := hG.ev hevI (own_0 hk2) fun j _ => n2 j
      have hWI := hWG.ev hevI (own_0 hk2) (own_ne hne4.2) (own_ne hne5.2)
      have hnI := hevI.get hnG (by rw [hcnG]; exact own_0 hk2 _ rfl)
      have hcnI := (hevI.colOf hnG).trans hcnG
      have hevX := hevX.trans (toG hevI)
      simp only [cellH_mk, cellO_some, add_mk, size_upd, upd_upd, one_int, one_bool, one_string, one_pointer, one_slice, one_map, one_func, st1_some, stN_nil, stN_cons, StV_mk, StO_some, Ld_some, RtI_mk, RtB_mk, RtS_mk, RtP_mk, RtL_mk, RtM_mk, RtA_mk, RtT_mk, NilC_some, New_eq, At_eq, Ck_true, Rt0_mk, BrB_true, BrB_false, Nat.zero_add, List.length_cons, List.length_nil, List.getElem?_cons_zero, List.getElem?_cons_succ, List.set_cons_zero, List.set_cons_succ, List.getD_cons_zero, List.getD_cons_succ, Option.isNone_some, Option.isNone_none, Go.Disk.fsO, Go.Disk.fileO, Bool.false_eq_true, eq_self, Nat.reduceAdd, Nat.reduceSub, Nat.reduceMul, Nat.reduceLT, Nat.reduceLeDiff, Nat.reduceEqDiff, Int.reduceNeg, Int.reduceEq, Int.reduceNe, Int.reduceBEq, Int.reduceBNe, Int.reduceLT, Int.reduceLE, Int.reduceGT, Int.reduceAdd, reduceIte, Bool.not_true, Bool.not_false, decide_true, decide_false, ne_eq, not_false_eq_true, not_true_eq_false, bne_self_eq_false]
      rw [w64 (by omega) (by omega)]
      refine ⟨⟨CI, _, m2 + 1, by omega, by omega, ⟨hI, gI, hgd.1⟩, by have := hgd.2.1; omega, hWI, hnI, hcnI, hevX⟩, ?_⟩
      show lm - ((m2 : Int) + 1).toNat < lm - ((m2 : Nat) : Int).toNat
      omega
    · have hevXn := out hfr1 hfr2X hevX
      obtain ⟨k6, hk6, hfr6⟩ := fresh_own CF HF.size
      refine Fail_ok hk1 hk6 hfr6 hXF.f hXF.ok (by omega) (hot.ev (hev6n.trans hevXn) fun _ _ h => h) (by omega) fun pu HG CG huG hevG => ?_
      have hXG := hXF.no hevG
      have hWG := hWF.no hevG
      have hnG := hevG.get hnF fun h => h
      have hevXn := hevXn.trans hevG
      simp only [cellH_mk, cellO_some, add_mk, size_upd, upd_upd, one_int, one_bool, one_string, one_pointer, one_slice, one_map, one_func, st1_some, stN_nil, stN_cons, StV_mk, StO_some, Ld_some, RtI_mk, RtB_mk, RtS_mk, RtP_mk, RtL_mk, RtM_mk, RtA_mk, RtT_mk, NilC_some, New_eq, At_eq, Ck_true, Rt0_mk, BrB_true, BrB_false, Nat.zero_add, List.length_cons, List.length_nil, List.getElem?_cons_zero, List.getElem?_cons_succ, List.set_cons_zero, List.set_cons_succ, List.getD_cons_zero, List.getD_cons_succ, Option.isNone_some, Option.isNone_none, Go.Disk.fsO, Go.Disk.fileO, Bool.false_eq_true, eq_self, Nat.reduceAdd, Nat.reduceSub, Nat.reduceMul, Nat.reduceLT, Nat.reduceLeDiff, Nat.reduceEqDiff, Int.reduceNeg, Int.reduceEq, Int.reduceNe, Int.reduceBEq, Int.reduceBNe, Int.reduceLT, Int.reduceLE, Int.reduceGT, Int.reduceAdd, reduceIte, Bool.not_true, Bool.not_false, decide_true, decide_false, ne_eq, not_false_eq_true, not_true_eq_false]
      rw [rowV_mk _ _ 0 5 hnG (by simp)]
      simp only [List.drop_zero, List.take_succ_cons, List.take_zero]
      simp only [cellH_mk, cellO_some, add_mk, size_upd, upd_upd, one_int, one_bool, one_string, one_pointer, one_slice, one_map, one_func, st1_some, stN_nil, stN_cons, StV_mk, StO_some, Ld_some, RtI_mk, RtB_mk, RtS_mk, RtP_mk, RtL_mk, RtM_mk, RtA_mk, RtT_mk, NilC_some, New_eq, At_eq, Ck_true, Rt0_mk, BrB_true, BrB_false, Nat.zero_add, List.length_cons, List.length_nil, List.getElem?_cons_zero, List.getElem?_cons_succ, List.set_cons_zero, List.set_cons_succ, List.getD_cons_zero, List.getD_cons_succ, Option.isNone_some, Option.isNone_none, Go.Disk.fsO, Go.Disk.fileO, Bool.false_eq_true, eq_self, Nat.reduceAdd, Nat.reduceSub, Nat.reduceMul, Nat.reduceLT, Nat.reduceLeDiff, Nat.reduceEqDiff, Int.reduceNeg, Int.reduceEq, Int.reduceNe, Int.reduceBEq, Int.reduceBNe, Int.reduceLT, Int.reduceLE, Int.reduceGT, Int.reduceAdd, reduceIte, Bool.not_true, Bool.not_false, decide_true, decide_false, ne_eq, not_false_eq_true, not_true_eq_false]
      refine alike_ok (o := opLast) (s := (none, 0, 0)) hXG.f hXG.g hXG.ok (by omega) o2 fun HI CI hevI => ?_
      have hXI := hXG.no hevI
      have hWI := hWG.no hevI
      have hnI := hevI.get hnG fun h => h
      have huI := huG.ev hevI (fun _ _ h => h) fun _ _ h => h
      have hevXn := hevXn.trans hevI
      simp only [cellH_mk, cellO_some, add_mk, size_upd, upd_upd, one_int, one_bool, one_string, one_pointer, one_slice, one_map, one_func, st1_some, stN_nil, stN_cons, StV_mk, StO_some, Ld_some, RtI_mk, RtB_mk, RtS_mk, RtP_mk, RtL_mk, RtM_mk, RtA_mk, RtT_mk, NilC_some, New_eq, At_eq, Ck_true, Rt0_mk, BrB_true, BrB_false, Nat.zero_add, List.length_cons, List.length_nil, List.getElem?_cons_zero, List.getElem?_cons_succ, List.set_cons_zero, List.set_cons_succ, List.getD_cons_zero, List.getD_cons_succ, Option.isNone_some, Option.isNone_none, Go.Disk.fsO, Go.Disk.fileO, Bool.false_eq_true, eq_self, Nat.reduceAdd, Nat.reduceSub, Nat.reduceMul, Nat.reduceLT, Nat.reduceLeDiff, Nat.reduceEqDiff, Int.reduceNeg, Int.reduceEq, Int.reduceNe, Int.reduceBEq, Int.reduceBNe, Int.reduceLT, Int.reduceLE, Int.reduceGT, Int.reduceAdd, reduceIte, Bool.not_true, Bool.not_false, decide_true, decide_false, ne_eq, not_false_eq_true, not_true_eq_false]
      rw [rowV_mk _ _ 0 5 hnI (by simp)]
      simp only [List.drop_zero, List.take_succ_cons, List.take_zero]
      simp only [cellH_mk, cellO_some, add_mk, size_upd, upd_upd, one_int, one_bool, one_string, one_pointer, one_slice, one_map, one_func, st1_some, stN_nil, stN_cons, StV_mk, StO_some, Ld_some, RtI_mk, RtB_mk, RtS_mk, RtP_mk, RtL_mk, RtM_mk, RtA_mk, RtT_mk, NilC_some, New_eq, At_eq, Ck_true, Rt0_mk, BrB_true, BrB_false, Nat.zero_add, List.length_cons, List.length_nil, List.getElem?_cons_zero, List.getElem?_cons_succ, List.set_cons_zero, List.set_cons_succ, List.getD_cons_zero, List.getD_cons_succ, Option.isNone_some, Option.isNone_none, Go.Disk.fsO, Go.Disk.fileO, Bool.false_eq_true, eq_self, Nat.reduceAdd, Nat.reduceSub, Nat.reduceMul, Nat.reduceLT, Nat.reduceLeDiff, Nat.reduceEqDiff, Int.reduceNeg, Int.reduceEq, Int.reduceNe, Int.reduceBEq, Int.reduceBNe, Int.reduceLT, Int.reduceLE, Int.reduceGT, Int.reduceAdd, reduceIte, Bool.not_true, Bool.not_false, decide_true, decide_false, ne_eq, not_false_eq_true, not_true_eq_false]
      obtain ⟨k7, hk7, hfr7⟩ := fresh_own CI HI.size
      refine rFail_ok hk2 hk7 hfr7 hXI.g hXI.ok (by omega) (hot.ev (hev6n.trans hevXn) fun _ _ h => h) (by omega) fun py2 HJ CJ hyJ hevJ => ?_
      have hWJ := hWI.no hevJ
      have hnJ := hevJ.get hnI fun h => h
      have huJ := huI.ev hevJ (fun _ _ h => h) fun _ _ h => h
      have hevXn := hevXn.trans hevJ
      simp only [cellH_mk, cellO_some, add_mk, size_upd, upd_upd, one_int, one_bool, one_string, one_pointer, one_slice, one_map, one_func, st1_some, stN_nil, stN_cons, StV_mk, StO_some, Ld_some, RtI_mk, RtB_mk, RtS_mk, RtP_mk, RtL_mk, RtM_mk, RtA_mk, RtT_mk, NilC_some, New_eq, At_eq, Ck_true, Rt0_mk, BrB_true, BrB_false, Nat.zero_add, List.length_cons, List.length_nil, List.getElem?_cons_zero, List.getElem?_cons_succ, List.set_cons_zero, List.set_cons_succ, List.getD_cons_zero, List.getD_cons_succ, Option.isNone_some, Option.isNone_none, Go.Disk.fsO, Go.Disk.fileO, Bool.false_eq_true, eq_self, Nat.reduceAdd, Nat.reduceSub, Nat.reduceMul, Nat.reduceLT, Nat.reduceLeDiff, Nat.reduceEqDiff, Int.reduceNeg, Int.reduceEq, Int.reduceNe, Int.reduceBEq, Int.reduceBNe, Int.reduceLT, Int.reduceLE, Int.reduceGT, Int.reduceAdd, reduceIte, Bool.not_true, Bool.not_false, decide_true, decide_false, ne_eq, not_false_eq_true, not_true_eq_false]
      rw [rowV_mk _ _ 0 5 hnJ (by simp)]
      simp only [List.drop_zero, List.take_succ_cons, List.take_zero]
      refine Ck_i (by first | trivial | rfl) ?_
      refine alike_ok (o := opLast) (s := (none, 0, 0)) huJ hyJ (dFail_ok hXI.ok other) (by show (0 : Nat) < _; omega) o2 fun HL CL hevL => ?_
      have hWL := hWJ.no hevL
      have hnL := hevL.get hnJ fun h => h
      have hevXn := hevXn.trans hevL
      simp only [cellH_mk, cellO_some, add_mk, size_upd, upd_upd, one_int, one_bool, one_string, one_pointer, one_slice, one_map, one_func, st1_some, stN_nil, stN_cons, StV_mk, StO_some, Ld_some, RtI_mk, RtB_mk, RtS_mk, RtP_mk, RtL_mk, RtM_mk, RtA_mk, RtT_mk, NilC_some, New_eq, At_eq, Ck_true, Rt0_mk, BrB_true, BrB_false, Nat.zero_add, List.length_cons, List.length_nil, List.getElem?_cons_zero, List.getElem?_cons_succ, List.set_cons_zero, List.set_cons_succ, List.getD_cons_zero, List.getD_cons_succ, Option.isNone_some, Option.isNone_none, Go.Disk.fsO, Go.Disk.fileO, Bool.false_eq_true, eq_self, Nat.reduceAdd, Nat.reduceSub, Nat.reduceMul, Nat.reduceLT, Nat.reduceLeDiff, Nat.reduceEqDiff, Int.reduceNeg, Int.reduceEq, Int.reduceNe, Int.reduceBEq, Int.reduceBNe, Int.reduceLT, Int.reduceLE, Int.reduceGT, Int.reduceAdd, reduceIte, Bool.not_true, Bool.not_false, decide_true, decide_false, ne_eq, not_false_eq_true, not_true_eq_false]
      rw [rowV_mk _ _ 0 5 hnL (by simp)]
      simp only [List.drop_zero, List.take_succ_cons, List.take_zero]
      simp only [cellH_mk, cellO_some, add_mk, size_upd, upd_upd, one_int, one_bool, one_string, one_pointer, one_slice, one_map, one_func, st1_some, stN_nil, stN_cons, StV_mk, StO_some, Ld_some, RtI_mk, RtB_mk, RtS_mk, RtP_mk, RtL_mk, RtM_mk, RtA_mk, RtT_mk, NilC_some, New_eq, At_eq, Ck_true, Rt0_mk, BrB_true, BrB_false, Nat.zero_add, List.length_cons, List.length_nil, List.getElem?_cons_zero, List.getElem?_cons_succ, List.set_cons_zero, List.set_cons_succ, List.getD_cons_zero, List.getD_cons_succ, Option.isNone_some, Option.isNone_none, Go.Disk.fsO, Go.Disk.fileO, Bool.false_eq_true, eq_self, Nat.reduceAdd, Nat.reduceSub, Nat.reduceMul, Nat.reduceLT, Nat.reduceLeDiff, Nat.reduceEqDiff, Int.reduceNeg, Int.reduceEq, Int.reduceNe, Int.reduceBEq, Int.reduceBNe, Int.reduceLT, Int.reduceLE, Int.reduceGT, Int.reduceAdd, reduceIte, Bool.not_true, Bool.not_false, decide_true, decide_false, ne_eq, not_false_eq_true, not_true_eq_false]
      refine alike_ok (o := opLast) (s := (none, 0, 0)) hWL.f hWL.g hokX (by omega) o2 fun HM CM hevM => ?_
      simp only [cellH_mk, cellO_some, add_mk, size_upd, upd_upd, one_int, one_bool, one_string, one_pointer, one_slice, one_map, one_func, st1_some, stN_nil, stN_cons, StV_mk, StO_some, Ld_some, RtI_mk, RtB_mk, RtS_mk, RtP_mk, RtL_mk, RtM_mk, RtA_mk, RtT_mk, NilC_some, New_eq, At_eq, Ck_true, Rt0_mk, BrB_true, BrB_false, Nat.zero_add, List.length_cons, List.length_nil, List.getElem?_cons_zero, List.getElem?_cons_succ, List.set_cons_zero, List.set_cons_succ, List.getD_cons_zero, List.getD_cons_succ, Option.isNone_some, Option.isNone_none, Go.Disk.fsO, Go.Disk.fileO, Bool.false_eq_true, eq_self, Nat.reduceAdd, Nat.reduceSub, Nat.reduceMul, Nat.reduceLT, Nat.reduceLeDiff, Nat.reduceEqDiff, Int.reduceNeg, Int.reduceEq, Int.reduceNe, Int.reduceBEq, Int.reduceBNe, Int.reduceLT, Int.reduceLE, Int.reduceGT, Int.reduceAdd, reduceIte, Bool.not_true, Bool.not_false, decide_true, decide_false, ne_eq, not_false_eq_true, not_true_eq_false]
      exact fin (hev6n.trans (hevXn.trans hevM))
end Go.Proofs
